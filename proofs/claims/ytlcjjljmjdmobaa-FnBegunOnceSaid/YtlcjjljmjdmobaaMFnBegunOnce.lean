/- Plain functions that say what functions of the program compute. Conditions: none. -/
import Derived.Test.YtlcjjljmjdmobaaYi
set_option linter.unusedVariables false
set_option linter.unusedSimpArgs false
set_option maxRecDepth 100000
namespace Go.AW
abbrev zM(x:Int):List D:=[(.int .u8 x)]
structure qo where
 Lo:Int
 Hi:Int
deriving DecidableEq
structure qy where
 Key:Int
 Value:Int
deriving DecidableEq
structure zn where
 Group:Int
 Reads:(List qo)
 Writes:(List qy)
 Vote:Int
deriving DecidableEq
structure zD where
 Tx:Int
 Client:Int
 Req:Int
 State:Int
 Shares:(List zn)
deriving DecidableEq
structure zl where
 Recs:(List zD)
 Order:(List Int)
deriving DecidableEq
abbrev zZ(x:qo):List D:=[(.int .i64 x.Lo),(.int .i64 x.Hi)]
abbrev zT(x:qy):List D:=[(.int .i64 x.Key),(.int .i64 x.Value)]
abbrev zh(x:zn):List D:=[(.int .i64 x.Group),(.sl 2 (List.map zZ x.Reads)),(.sl 2 (List.map zT x.Writes)),(.int .i64 x.Vote)]
abbrev zm(x:zD):List D:=[(.int .i64 x.Tx),(.int .i64 x.Client),(.int .i64 x.Req),(.int .i64 x.State),(.sl 4 (List.map zh x.Shares))]
abbrev zt(x:Int):List D:=[(.int .i64 x)]
abbrev qI(x:zl):List D:=[(.sl 5 (List.map zm x.Recs)),(.sl 1 (List.map zt x.Order))]
abbrev znl(x:(List Int)):List D:=[(.sl 1 (List.map zM x))]
def YQ(a1:(List Int)):Option Bool:=
 (some (decide (1048576 < (a1.length:Int))))
def JG(t2:Int):Option (Int×Int):=
 (some (0,t2))
def JE(cb1:(List Int))(kx3:(Int→Option (Int×Int)))(kb5:((Int×Int)→Option (Int×Int)))(s4:(Int×Int)):Option (Int×Int):=
 (if s4.2 < (cb1.length:Int) then(if s4.2 < 4000 then((idx cb1 s4.2).bind fun v8=>(kb5 ((IntKind.wrap .i64 (BitVec.ofInt (IntKind.bits .i64) (IntKind.wrap .i64 ((IntKind.wrap .i64 ((IntKind.wrap .i64 (s4.1 * 131))+(IntKind.wrap .i64 v8)))+7))&&& BitVec.ofInt (IntKind.bits .i64) 1073741823).toNat),(IntKind.wrap .i64 (s4.2+1))))) else(kx3 s4.1)) else(kx3 s4.1))
def Q0(cb1:(List Int)):Option (Int×Int):=
 (iter (JE cb1 JG) FU ((IntKind.wrap .i64 (97097+(cb1.length:Int))),0))
def QA(cb1:(List Int))(a2:Int):Option Int:=
 (if a2 < (IntKind.wrap .i64 (2+(IntKind.wrap .i64 (Int.tdiv (cb1.length:Int) 20)))) then(some a2) else(some (IntKind.wrap .i64 (2+(IntKind.wrap .i64 (Int.tdiv (cb1.length:Int) 20))))))
def jX(cb1:(List Int))(a2:(Int×Int)):Option (Int×(Int×Int)):=
 (if a2.1 < (cb1.length:Int) then((idx cb1 a2.1).bind fun v4=>(some ((IntKind.wrap .i64 (BitVec.ofInt (IntKind.bits .i64) (IntKind.wrap .i64 ((IntKind.wrap .i64 (BitVec.ofInt (IntKind.bits .i64) (IntKind.wrap .i64 (BitVec.ofInt (IntKind.bits .i64) (Int.fdiv (IntKind.wrap .i64 ((IntKind.wrap .i64 (a2.2 * 6364136223846793005))+1442695040888963407)) (2 ^ (min (Int.toNat 33) (IntKind.bits .i64)))) ^^^ BitVec.ofInt (IntKind.bits .i64) (Int.fdiv (IntKind.wrap .i64 ((IntKind.wrap .i64 (a2.2 * 6364136223846793005))+1442695040888963407)) (2 ^ (min (Int.toNat 45) (IntKind.bits .i64))))).toNat)&&& BitVec.ofInt (IntKind.bits .i64) 255).toNat)+(IntKind.wrap .i64 v4)))&&& BitVec.ofInt (IntKind.bits .i64) 255).toNat),((IntKind.wrap .i64 (a2.1+1)),(IntKind.wrap .i64 ((IntKind.wrap .i64 (a2.2 * 6364136223846793005))+1442695040888963407)))))) else(some ((IntKind.wrap .i64 (BitVec.ofInt (IntKind.bits .i64) (IntKind.wrap .i64 (BitVec.ofInt (IntKind.bits .i64) (Int.fdiv (IntKind.wrap .i64 ((IntKind.wrap .i64 (a2.2 * 6364136223846793005))+1442695040888963407)) (2 ^ (min (Int.toNat 33) (IntKind.bits .i64)))) ^^^ BitVec.ofInt (IntKind.bits .i64) (Int.fdiv (IntKind.wrap .i64 ((IntKind.wrap .i64 (a2.2 * 6364136223846793005))+1442695040888963407)) (2 ^ (min (Int.toNat 45) (IntKind.bits .i64))))).toNat)&&& BitVec.ofInt (IntKind.bits .i64) 255).toNat),(a2.1,(IntKind.wrap .i64 ((IntKind.wrap .i64 (a2.2 * 6364136223846793005))+1442695040888963407))))))
def zv(cb1:(List Int))(a2:(Int×Int))(a3:Int):Option (Int×(Int×Int)):=
 (if a3≤0 then(some (0,a2)) else(if a3≤256 then((jX cb1 a2).bind fun v6=>(if ¬a3=0 then(some ((Int.tmod v6.1 a3),v6.2)) else none)) else((jX cb1 a2).bind fun v9=>((jX cb1 v9.2).bind fun v11=>((jX cb1 v11.2).bind fun v13=>((jX cb1 v13.2).bind fun v15=>(if ¬a3=0 then(some ((Int.tmod (IntKind.wrap .i64 ((IntKind.wrap .i64 ((IntKind.wrap .i64 ((IntKind.wrap .i64 (v9.1 * 16777216))+(IntKind.wrap .i64 (v11.1 * 65536))))+(IntKind.wrap .i64 (v13.1 * 256))))+v15.1)) a3),v15.2)) else none)))))))
def qb(cb1:(List Int))(a2:(Int×Int))(a3:Int):Option (Bool×(Int×Int)):=
 ((zv cb1 a2 a3).bind fun v4=>(some ((decide (v4.1=0)),v4.2)))
def qM(a1:Int)(a2:Int)(a3:Int):Option Bool:=
 (if a2≤a1 then(some (decide (a1≤a3))) else(some false))
def Zm(a1:Int):Option Bool:=
 ((qM a1 0 1000000000).bind fun v2=>(some v2))
def Qv(a1:Int):Option Bool:=
 ((qM a1 0 999).bind fun v2=>(some v2))
def Jn(t3:Unit):Option Bool:=
 (some true)
def jO(kb6:(Int→Option Bool))(s5:Int)(t8:Bool):Option Bool:=
 (if t8=true then(some false) else(kb6 (IntKind.wrap .i64 (s5+1))))
def Qb(a1:(List qy))(kx4:(Unit→Option Bool))(kb6:(Int→Option Bool))(s5:Int):Option Bool:=
 (if s5 < (a1.length:Int) then((idx a1 s5).bind fun v11=>((Qv v11.Key).bind fun v13=>(if v13=true then((idx a1 s5).bind fun v16=>((qM v16.Value (-1) 1000000000).bind fun v18=>(if v18=true then(if 0 < s5 then((idx a1 (IntKind.wrap .i64 (s5 - 1))).bind fun v22=>((idx a1 s5).bind fun v24=>((jO kb6 s5) (decide (v24.Key≤v22.Key))))) else((jO kb6 s5) false)) else((jO kb6 s5) true)))) else((jO kb6 s5) true)))) else(kx4 ()))
def yY(a1:(List qy)):Option Bool:=
 (if 60 < (a1.length:Int) then(some false) else(iter (Qb a1 Jn) FU 0))
def Z2(a1:qo):Option Bool:=
 (if 0≤a1.Lo then(if a1.Lo < a1.Hi then(some (decide (a1.Hi≤1000))) else(some false)) else(some false))
def Jx(t3:Unit):Option Bool:=
 (some true)
def qt(kb6:(Int→Option Bool))(s5:Int)(t8:Unit):Option Bool:=
 (kb6 (IntKind.wrap .i64 (s5+1)))
def y2(v10:zn)(kx9:(Unit→Option Bool))(kb16:(Int→Option Bool))(s15:Int):Option Bool:=
 (if s15 < (v10.Reads.length:Int) then((idx v10.Reads s15).bind fun v18=>((Z2 v18).bind fun v20=>(if v20=true then(kb16 (IntKind.wrap .i64 (s15+1))) else(some false)))) else(kx9 ()))
def qw(v10:zn)(kx9:(Unit→Option Bool))(t12:Bool):Option Bool:=
 (if t12=true then(some false) else(iter (y2 v10 kx9) FU 0))
def Qd(a1:(List zn))(kx4:(Unit→Option Bool))(kb6:(Int→Option Bool))(s5:Int):Option Bool:=
 (if s5 < (a1.length:Int) then((idx a1 s5).bind fun v10=>((qM v10.Group 0 3).bind fun v23=>(if v23=true then(if 0 < s5 then((idx a1 (IntKind.wrap .i64 (s5 - 1))).bind fun v27=>(if v10.Group≤v27.Group then((qw v10 (qt kb6 s5)) true) else(if 16 < (v10.Reads.length:Int) then((qw v10 (qt kb6 s5)) true) else((yY v10.Writes).bind fun v31=>(if v31=true then((qM v10.Vote 0 2).bind fun v34=>((qw v10 (qt kb6 s5)) (!v34))) else((qw v10 (qt kb6 s5)) true)))))) else(if 16 < (v10.Reads.length:Int) then((qw v10 (qt kb6 s5)) true) else((yY v10.Writes).bind fun v37=>(if v37=true then((qM v10.Vote 0 2).bind fun v40=>((qw v10 (qt kb6 s5)) (!v40))) else((qw v10 (qt kb6 s5)) true))))) else((qw v10 (qt kb6 s5)) true)))) else(kx4 ()))
def yX(a1:(List zn)):Option Bool:=
 (if 4 < (a1.length:Int) then(some false) else(iter (Qd a1 Jx) FU 0))
def Qe(t3:Int):Option Int:=
 (some t3)
def Qm(a1:(List zn))(a2:Int)(kx4:(Int→Option Int))(kb6:((Int×Int)→Option Int))(s5:(Int×Int)):Option Int:=
 (if s5.2 < (a1.length:Int) then((idx a1 s5.2).bind fun v8=>(if v8.Vote=a2 then(kb6 ((IntKind.wrap .i64 (s5.1+1)),(IntKind.wrap .i64 (s5.2+1)))) else(kb6 (s5.1,(IntKind.wrap .i64 (s5.2+1)))))) else(kx4 s5.1))
def jv(a1:(List zn))(a2:Int):Option Int:=
 (iter (Qm a1 a2 Qe) FU (0,0))
def yr(a1:zD)(t2:Bool):Option Bool:=
 (if t2=true then(some false) else(if a1.State=1 then(some (decide ((a1.Shares.length:Int)=0))) else(if a1.State=2 then((jv a1.Shares 0).bind fun v7=>(if 0 < v7 then((jv a1.Shares 2).bind fun v10=>(some (decide (v10=0)))) else(some false))) else(if a1.State=3 then((jv a1.Shares 1).bind fun v13=>(some (decide (v13=(a1.Shares.length:Int))))) else(some (decide (a1.State=4)))))))
def ZM(a1:zD):Option Bool:=
 ((Zm a1.Client).bind fun v15=>(if v15=true then((qM a1.Req 1 1000000000).bind fun v18=>(if v18=true then((yX a1.Shares).bind fun v21=>((yr a1) (!v21))) else((yr a1) true))) else((yr a1) true)))
def J3(t3:Unit):Option Bool:=
 (some false)
def Ja(a1:(List Int))(a2:Int)(kx4:(Unit→Option Bool))(kb6:(Int→Option Bool))(s5:Int):Option Bool:=
 (if s5 < (a1.length:Int) then((idx a1 s5).bind fun v8=>(if v8=a2 then(some true) else(kb6 (IntKind.wrap .i64 (s5+1))))) else(kx4 ()))
def Qz(a1:(List Int))(a2:Int):Option Bool:=
 (iter (Ja a1 a2 J3) FU 0)
def QJ(t5:Int)(a1:zl)(t7:Unit):Option Bool:=
 (some (decide (t5=(a1.Order.length:Int))))
def yx(kb10:(Int→Option Bool))(s9:Int)(t14:Bool):Option Bool:=
 (if t14=true then(some false) else(kb10 (IntKind.wrap .i64 (s9+1))))
def QG(a1:zl)(kx8:(Unit→Option Bool))(kb10:(Int→Option Bool))(s9:Int):Option Bool:=
 (if s9 < (a1.Order.length:Int) then((idx a1.Order s9).bind fun v12=>((qM v12 1 (a1.Recs.length:Int)).bind fun v17=>(if v17=true then((idx a1.Recs (IntKind.wrap .i64 (v12 - 1))).bind fun v20=>(if ¬v20.State=3 then((yx kb10 s9) true) else((cut a1.Order 0 s9).bind fun v23=>((Qz v23 v12).bind fun v25=>((yx kb10 s9) v25))))) else((yx kb10 s9) true)))) else(kx8 ()))
def QE(a1:zl)(t5:Int):Option Bool:=
 (iter (QG a1 (QJ t5 a1)) FU 0)
def jV(kb28:((Int×Int)→Option Bool))(s27:(Int×Int))(t30:Int):Option Bool:=
 (kb28 (t30,(IntKind.wrap .i64 (s27.2+1))))
def Qc(v32:zD)(kx31:(Int→Option Bool))(s27:(Int×Int))(t37:Unit):Option Bool:=
 (if v32.State=3 then(kx31 (IntKind.wrap .i64 (s27.1+1))) else(kx31 s27.1))
def Zn(kb41:(Int→Option Bool))(s40:Int)(t43:Bool):Option Bool:=
 (if t43=true then(some false) else(kb41 (IntKind.wrap .i64 (s40+1))))
def Zq(s27:(Int×Int))(a1:zl)(v32:zD)(kx38:(Unit→Option Bool))(kb41:(Int→Option Bool))(s40:Int):Option Bool:=
 (if s40 < s27.2 then((idx a1.Recs s40).bind fun v46=>(if v46.Client=v32.Client then((idx a1.Recs s40).bind fun v49=>((Zn kb41 s40) (decide (v49.Req=v32.Req)))) else((Zn kb41 s40) false))) else(kx38 ()))
def Zs(s27:(Int×Int))(a1:zl)(v32:zD)(kx31:(Int→Option Bool))(t34:Bool):Option Bool:=
 (if t34=true then(some false) else(iter (Zq s27 a1 v32 (Qc v32 kx31 s27)) FU 0))
def Ql(a1:zl)(kx6:(Int→Option Bool))(kb28:((Int×Int)→Option Bool))(s27:(Int×Int)):Option Bool:=
 (if s27.2 < (a1.Recs.length:Int) then((idx a1.Recs s27.2).bind fun v32=>(if ¬v32.Tx=(IntKind.wrap .i64 (s27.2+1)) then((Zs s27 a1 v32 (jV kb28 s27)) true) else((ZM v32).bind fun v52=>((Zs s27 a1 v32 (jV kb28 s27)) (!v52))))) else(kx6 s27.1))
def ZN(a1:zl)(t2:Bool):Option Bool:=
 (if t2=true then(some false) else(iter (Ql a1 (QE a1)) FU (0,0)))
def jr(a1:zl):Option Bool:=
 (if 60 < (a1.Recs.length:Int) then((ZN a1) true) else((ZN a1) (decide (60 < (a1.Order.length:Int)))))
def ZW(t2:(List zn)):Option (List zn):=
 (some t2)
def ZU(a1:(List zn))(kx3:((List zn)→Option (List zn)))(kb5:(((List zn)×Int)→Option (List zn)))(s4:((List zn)×Int)):Option (List zn):=
 (if s4.2 < (a1.length:Int) then((idx a1 s4.2).bind fun v7=>(if v7.Reads.length≤2147483648 then(if v7.Writes.length≤2147483648 then(if (s4.1++[v7]).length≤2147483648 then(kb5 ((s4.1++[v7]),(IntKind.wrap .i64 (s4.2+1)))) else none) else none) else none)) else(kx3 s4.1))
def yq(a1:(List zn)):Option (List zn):=
 (iter (ZU a1 ZW) FU (([]:List zn),0))
def QC(a1:zl)(t3:(List zD)):Option zl:=
 (some (zl.mk t3 a1.Order))
def QI(a1:zl)(kx4:((List zD)→Option zl))(kb6:((Int×(List zD))→Option zl))(s5:(Int×(List zD))):Option zl:=
 (if s5.1 < (a1.Recs.length:Int) then((idx a1.Recs s5.1).bind fun v8=>((yq v8.Shares).bind fun v10=>(if (s5.2++[(zD.mk v8.Tx v8.Client v8.Req v8.State v10)]).length≤2147483648 then(kb6 ((IntKind.wrap .i64 (s5.1+1)),(s5.2++[(zD.mk v8.Tx v8.Client v8.Req v8.State v10)]))) else none))) else(kx4 s5.2))
def j7(a1:zl):Option zl:=
 (if a1.Order.length≤2147483648 then(iter (QI a1 (QC a1)) FU (0,([]:List zD))) else none)
def Jb(t4:Unit):Option Int:=
 (some 0)
def yC(a1:zl)(s6:Int)(kb7:(Int→Option Int))(t12:Bool):Option Int:=
 (if t12=true then((idx a1.Recs s6).bind fun v15=>(some v15.Tx)) else(kb7 (IntKind.wrap .i64 (s6+1))))
def y6(a1:zl)(a2:Int)(a3:Int)(kx5:(Unit→Option Int))(kb7:(Int→Option Int))(s6:Int):Option Int:=
 (if s6 < (a1.Recs.length:Int) then((jr a1).bind fun v9=>(if v9=true then((idx a1.Recs s6).bind fun v17=>(if v17.Client=a2 then((idx a1.Recs s6).bind fun v20=>((yC a1 s6 kb7) (decide (v20.Req=a3)))) else((yC a1 s6 kb7) false))) else(kx5 ()))) else(kx5 ()))
def Zx(a1:zl)(a2:Int)(a3:Int):Option Int:=
 (iter (y6 a1 a2 a3 Jb) FU 0)
def z3(a1:zl)(a2:Int)(a3:Int)(t4:Bool):Option (zl×Int×Int):=
 (if t4=true then(some ((zl.mk ([]:(List zD)) ([]:(List Int))),0,1)) else((j7 a1).bind fun v7=>((Zx a1 a2 a3).bind fun v9=>(if 0 < v9 then(some (v7,v9,0)) else(if (a1.Recs.length:Int)=60 then(some (v7,0,4)) else(if (v7.Recs++[(zD.mk (IntKind.wrap .i64 ((a1.Recs.length:Int)+1)) a2 a3 1 ([]:List zn))]).length≤2147483648 then(some ((zl.mk (v7.Recs++[(zD.mk (IntKind.wrap .i64 ((a1.Recs.length:Int)+1)) a2 a3 1 ([]:List zn))]) v7.Order),(IntKind.wrap .i64 ((a1.Recs.length:Int)+1)),0)) else none))))))
def zY(a1:zl)(a2:Int)(a3:Int):Option (zl×Int×Int):=
 ((jr a1).bind fun v14=>(if v14=true then((Zm a2).bind fun v17=>(if v17=true then((qM a3 1 1000000000).bind fun v20=>((z3 a1 a2 a3) (!v20))) else((z3 a1 a2 a3) true))) else((z3 a1 a2 a3) true)))
def yQ(t5:((List qy)×Int×Int)):Option ((List qy)×(Int×Int)):=
 (some (t5.1,t5.2))
def jH(s7:((List qy)×Int×Int×Int×Int))(cb1:(List Int))(kb8:(((List qy)×Int×Int×Int×Int)→Option ((List qy)×(Int×Int))))(t14:(Int×Int×Int)):Option ((List qy)×(Int×Int)):=
 (if (s7.1++([(qy.mk s7.2.1 t14.2.2)])).length≤2147483648 then((zv cb1 (t14.1,t14.2.1) 8).bind fun v17=>(kb8 ((s7.1++([(qy.mk s7.2.1 t14.2.2)])),(IntKind.wrap .i64 ((IntKind.wrap .i64 (s7.2.1+1))+v17.1)),(IntKind.wrap .i64 (s7.2.2.1+1)),v17.2.1,v17.2.2))) else none)
def ZS(cb1:(List Int))(kx6:(((List qy)×Int×Int)→Option ((List qy)×(Int×Int))))(kb8:(((List qy)×Int×Int×Int×Int)→Option ((List qy)×(Int×Int))))(s7:((List qy)×Int×Int×Int×Int)):Option ((List qy)×(Int×Int)):=
 ((zv cb1 s7.2.2.2 4).bind fun v9=>(if s7.2.2.1 < v9.1 then((zv cb1 v9.2 99).bind fun v12=>((qb cb1 v12.2 5).bind fun v19=>(if v19.1=true then((jH s7 cb1 kb8) (v19.2.1,v19.2.2,(-1))) else((jH s7 cb1 kb8) (v19.2.1,v19.2.2,v12.1))))) else(kx6 (s7.1,v9.2.1,v9.2.2))))
def j3(cb1:(List Int))(a2:(Int×Int)):Option ((List qy)×(Int×Int)):=
 ((zv cb1 a2 20).bind fun v3=>(iter (ZS cb1 yQ) FU (([]:List qy),v3.1,0,v3.2.1,v3.2.2)))
def yN(cb1:(List Int))(a2:(Int×Int)):Option (qo×(Int×Int)):=
 ((zv cb1 a2 40).bind fun v3=>((zv cb1 v3.2 6).bind fun v5=>(some ((qo.mk v3.1 (IntKind.wrap .i64 ((IntKind.wrap .i64 (v3.1+1))+v5.1))),v5.2))))
def yP(cb1:(List Int))(t3:((List zn)×Int×Int)):Option ((List zn)×(Int×Int)):=
 ((zv cb1 t3.2 30).bind fun v5=>(if v5.1=0 then((zv cb1 v5.2 6).bind fun v8=>(if (t3.1++[(zn.mk (IntKind.wrap .i64 (v8.1 - 1)) ([]:List qo) ([]:List qy) 0)]).length≤2147483648 then(some ((t3.1++[(zn.mk (IntKind.wrap .i64 (v8.1 - 1)) ([]:List qo) ([]:List qy) 0)]),v8.2)) else none)) else(if v5.1=1 then(if 0 < ((t3.1.length:Nat):Int) then((zv cb1 v5.2 4).bind fun v13=>((idx t3.1 0).bind fun v15=>(some (t3.1.set (Int.toNat 0) (zn.mk v15.Group v15.Reads v15.Writes v13.1),v13.2)))) else(some (t3.1,v5.2))) else(some (t3.1,v5.2)))))
def qN(kb18:(((List zn)×Int×Int×Int)→Option ((List zn)×(Int×Int))))(s17:((List zn)×Int×Int×Int))(t20:((List zn)×Int×Int)):Option ((List zn)×(Int×Int)):=
 (kb18 (t20.1,(IntKind.wrap .i64 (s17.2.1+1)),t20.2.1,t20.2.2))
def yj(s17:((List zn)×Int×Int×Int))(v25:((List qy)×(Int×Int)))(kx21:(((List zn)×Int×Int)→Option ((List zn)×(Int×Int))))(t27:(Int×Int×(List qo))):Option ((List zn)×(Int×Int)):=
 (if (s17.1++[(zn.mk s17.2.1 t27.2.2 v25.1 0)]).length≤2147483648 then(kx21 ((s17.1++[(zn.mk s17.2.1 t27.2.2 v25.1 0)]),t27.1,t27.2.1)) else none)
def ZH(cb1:(List Int))(kx28:((Int×Int×(List qo))→Option ((List zn)×(Int×Int))))(kb31:((Int×Int×Int×(List qo))→Option ((List zn)×(Int×Int))))(s30:(Int×Int×Int×(List qo))):Option ((List zn)×(Int×Int)):=
 ((zv cb1 (s30.2.1,s30.2.2.1) 3).bind fun v32=>(if s30.1 < v32.1 then((yN cb1 v32.2).bind fun v35=>(if (s30.2.2.2++([v35.1])).length≤2147483648 then(kb31 ((IntKind.wrap .i64 (s30.1+1)),v35.2.1,v35.2.2,(s30.2.2.2++([v35.1])))) else none)) else(kx28 (v32.2.1,v32.2.2,s30.2.2.2))))
def yk(cb1:(List Int))(kx4:(((List zn)×Int×Int)→Option ((List zn)×(Int×Int))))(kb18:(((List zn)×Int×Int×Int)→Option ((List zn)×(Int×Int))))(s17:((List zn)×Int×Int×Int)):Option ((List zn)×(Int×Int)):=
 (if s17.2.1 < 4 then((qb cb1 s17.2.2 2).bind fun v22=>(if v22.1=true then((qN kb18 s17) (s17.1,v22.2.1,v22.2.2)) else((j3 cb1 v22.2).bind fun v25=>(iter (ZH cb1 (yj s17 v25 (qN kb18 s17))) FU (0,v25.2.1,v25.2.2,([]:List qo)))))) else(kx4 (s17.1,s17.2.2.1,s17.2.2.2)))
def jc(cb1:(List Int))(a2:(Int×Int)):Option ((List zn)×(Int×Int)):=
 (iter (yk cb1 (yP cb1)) FU (([]:List zn),0,a2.1,a2.2))
def j2(t21:((List zD)×(List Int))):Option (zl×Int):=
 (some ((zl.mk t21.1 t21.2),0))
def ji(a1:zl)(a2:Int)(a3:(List zn))(t4:Bool):Option (zl×Int):=
 (if t4=true then(some ((zl.mk ([]:(List zD)) ([]:(List Int))),1)) else((j7 a1).bind fun v7=>((qM a2 1 (a1.Recs.length:Int)).bind fun v9=>(if v9=true then((idx a1.Recs (IntKind.wrap .i64 (a2 - 1))).bind fun v12=>(if ¬v12.State=1 then(some (v7,3)) else((yq a3).bind fun v15=>((idx v7.Recs (IntKind.wrap .i64 (a2 - 1))).bind fun v17=>((idx (v7.Recs.set (Int.toNat (IntKind.wrap .i64 (a2 - 1))) (zD.mk v17.Tx v17.Client v17.Req v17.State v15)) (IntKind.wrap .i64 (a2 - 1))).bind fun v19=>(if (a3.length:Int)=0 then((idx ((v7.Recs.set (Int.toNat (IntKind.wrap .i64 (a2 - 1))) (zD.mk v17.Tx v17.Client v17.Req v17.State v15)).set (Int.toNat (IntKind.wrap .i64 (a2 - 1))) (zD.mk v19.Tx v19.Client v19.Req 2 v19.Shares)) (IntKind.wrap .i64 (a2 - 1))).bind fun v24=>(if (v7.Order++([a2])).length≤2147483648 then(j2 (((v7.Recs.set (Int.toNat (IntKind.wrap .i64 (a2 - 1))) (zD.mk v17.Tx v17.Client v17.Req v17.State v15)).set (Int.toNat (IntKind.wrap .i64 (a2 - 1))) (zD.mk v19.Tx v19.Client v19.Req 2 v19.Shares)).set (Int.toNat (IntKind.wrap .i64 (a2 - 1))) (zD.mk v24.Tx v24.Client v24.Req 3 v24.Shares),(v7.Order++([a2])))) else none)) else(j2 ((v7.Recs.set (Int.toNat (IntKind.wrap .i64 (a2 - 1))) (zD.mk v17.Tx v17.Client v17.Req v17.State v15)).set (Int.toNat (IntKind.wrap .i64 (a2 - 1))) (zD.mk v19.Tx v19.Client v19.Req 2 v19.Shares),v7.Order)))))))) else(some (v7,2))))))
def jy(a1:zl)(a2:Int)(a3:(List zn)):Option (zl×Int):=
 ((jr a1).bind fun v27=>(if v27=true then((yX a3).bind fun v30=>(if v30=true then((jv a3 0).bind fun v33=>((ji a1 a2 a3) (decide (¬v33=(a3.length:Int))))) else((ji a1 a2 a3) true))) else((ji a1 a2 a3) true)))
def yF(a1:zl)(a2:Int)(t3:Bool):Option Int:=
 (if t3=true then(some 0) else((idx a1.Recs (IntKind.wrap .i64 (a2 - 1))).bind fun v6=>(some v6.State)))
def y8(a1:zl)(a2:Int):Option Int:=
 ((jr a1).bind fun v8=>(if v8=true then((qM a2 1 (a1.Recs.length:Int)).bind fun v11=>((yF a1 a2) (!v11))) else((yF a1 a2) true)))
def yI(t8:(List Int)):Option (List Int):=
 (some t8)
def yi(v6:zD)(kx9:((List Int)→Option (List Int)))(kb11:(((List Int)×Int)→Option (List Int)))(s10:((List Int)×Int)):Option (List Int):=
 (if s10.2 < (v6.Shares.length:Int) then((idx v6.Shares s10.2).bind fun v13=>(if v13.Vote=0 then((idx v6.Shares s10.2).bind fun v16=>(if (s10.1++([v16.Group])).length≤2147483648 then(kb11 ((s10.1++([v16.Group])),(IntKind.wrap .i64 (s10.2+1)))) else none)) else(kb11 (s10.1,(IntKind.wrap .i64 (s10.2+1)))))) else(kx9 s10.1))
def z9(a1:zl)(a2:Int):Option (List Int):=
 ((y8 a1 a2).bind fun v3=>(if ¬v3=2 then(some ([]:(List Int))) else((idx a1.Recs (IntKind.wrap .i64 (a2 - 1))).bind fun v6=>(iter (yi v6 yI) FU (([]:List Int),0)))))
def yB(t24:((List zD)×(List Int))):Option (zl×Int):=
 (some ((zl.mk t24.1 t24.2),0))
def jR(v8:zl)(a4:Bool)(v13:zD)(t16:Int)(a2:Int)(t18:Bool):Option (zl×Int):=
 (if t18=true then(some (v8,3)) else(if a4=true then((idx v13.Shares t16).bind fun v22=>((jv (v13.Shares.set (Int.toNat t16) (zn.mk v22.Group v22.Reads v22.Writes 1)) 0).bind fun v26=>(if v26=0 then((idx (v8.Recs.set (Int.toNat (IntKind.wrap .i64 (a2 - 1))) (zD.mk v13.Tx v13.Client v13.Req v13.State (v13.Shares.set (Int.toNat t16) (zn.mk v22.Group v22.Reads v22.Writes 1)))) (IntKind.wrap .i64 (a2 - 1))).bind fun v29=>(if (v8.Order++([a2])).length≤2147483648 then(yB ((v8.Recs.set (Int.toNat (IntKind.wrap .i64 (a2 - 1))) (zD.mk v13.Tx v13.Client v13.Req v13.State (v13.Shares.set (Int.toNat t16) (zn.mk v22.Group v22.Reads v22.Writes 1)))).set (Int.toNat (IntKind.wrap .i64 (a2 - 1))) (zD.mk v29.Tx v29.Client v29.Req 3 v29.Shares),(v8.Order++([a2])))) else none)) else(yB (v8.Recs.set (Int.toNat (IntKind.wrap .i64 (a2 - 1))) (zD.mk v13.Tx v13.Client v13.Req v13.State (v13.Shares.set (Int.toNat t16) (zn.mk v22.Group v22.Reads v22.Writes 1))),v8.Order))))) else((idx v13.Shares t16).bind fun v32=>((idx (v8.Recs.set (Int.toNat (IntKind.wrap .i64 (a2 - 1))) (zD.mk v13.Tx v13.Client v13.Req v13.State (v13.Shares.set (Int.toNat t16) (zn.mk v32.Group v32.Reads v32.Writes 2)))) (IntKind.wrap .i64 (a2 - 1))).bind fun v34=>(some ((zl.mk ((v8.Recs.set (Int.toNat (IntKind.wrap .i64 (a2 - 1))) (zD.mk v13.Tx v13.Client v13.Req v13.State (v13.Shares.set (Int.toNat t16) (zn.mk v32.Group v32.Reads v32.Writes 2)))).set (Int.toNat (IntKind.wrap .i64 (a2 - 1))) (zD.mk v34.Tx v34.Client v34.Req 4 v34.Shares)) v8.Order),0))))))
def ZD(v13:zD)(v8:zl)(a4:Bool)(a2:Int)(t16:Int):Option (zl×Int):=
 (if ¬v13.State=2 then((jR v8 a4 v13 t16 a2) true) else((jR v8 a4 v13 t16 a2) (decide (t16 < 0))))
def yE(kb38:((Int×Int)→Option (zl×Int)))(s37:(Int×Int))(t40:Bool):Option (zl×Int):=
 (if t40=true then(kb38 (s37.2,(IntKind.wrap .i64 (s37.2+1)))) else(kb38 (s37.1,(IntKind.wrap .i64 (s37.2+1)))))
def yM(v13:zD)(a3:Int)(kx17:(Int→Option (zl×Int)))(kb38:((Int×Int)→Option (zl×Int)))(s37:(Int×Int)):Option (zl×Int):=
 (if s37.2 < (v13.Shares.length:Int) then((idx v13.Shares s37.2).bind fun v43=>(if v43.Group=a3 then((idx v13.Shares s37.2).bind fun v46=>((yE kb38 s37) (decide (v46.Vote=0)))) else((yE kb38 s37) false))) else(kx17 s37.1))
def qG(a1:zl)(a2:Int)(a3:Int)(a4:Bool):Option (zl×Int):=
 ((jr a1).bind fun v5=>(if v5=true then((j7 a1).bind fun v8=>((qM a2 1 (a1.Recs.length:Int)).bind fun v10=>(if v10=true then((idx v8.Recs (IntKind.wrap .i64 (a2 - 1))).bind fun v13=>(iter (yM v13 a3 (ZD v13 v8 a4 a2)) FU ((-1),0))) else(some (v8,2))))) else(some ((zl.mk ([]:(List zD)) ([]:(List Int))),1))))
def jN(a1:zl)(a2:Int):Option (zl×Int):=
 ((jr a1).bind fun v3=>(if v3=true then((j7 a1).bind fun v6=>((qM a2 1 (a1.Recs.length:Int)).bind fun v8=>(if v8=true then((idx a1.Recs (IntKind.wrap .i64 (a2 - 1))).bind fun v11=>(if 2 < v11.State then(some (v6,3)) else((idx v6.Recs (IntKind.wrap .i64 (a2 - 1))).bind fun v14=>(some ((zl.mk (v6.Recs.set (Int.toNat (IntKind.wrap .i64 (a2 - 1))) (zD.mk v14.Tx v14.Client v14.Req 4 v14.Shares)) v6.Order),0))))) else(some (v6,2))))) else(some ((zl.mk ([]:(List zD)) ([]:(List Int))),1))))
def y0(t9:(Int×Int×(List zD)×(List Int))):Option (zl×(Int×Int)):=
 (some ((zl.mk t9.2.2.1 t9.2.2.2),(t9.1,t9.2.1)))
def yT(cb1:(List Int))(kx10:((Int×Int×(List zD)×(List Int))→Option (zl×(Int×Int))))(kb12:((Int×Int×Int×(List zD)×(List Int))→Option (zl×(Int×Int))))(s11:(Int×Int×Int×(List zD)×(List Int))):Option (zl×(Int×Int)):=
 (if s11.1 < 90 then((zv cb1 (s11.2.1,s11.2.2.1) (IntKind.wrap .i64 (((s11.2.2.2.1.length:Nat):Int)+1))).bind fun v14=>((zv cb1 v14.2 6).bind fun v16=>(if v16.1=0 then((zv cb1 v16.2 4).bind fun v19=>((zv cb1 v19.2 20).bind fun v21=>((zY (zl.mk s11.2.2.2.1 s11.2.2.2.2) v19.1 (IntKind.wrap .i64 (1+v21.1))).bind fun v23=>(if ¬v23.2.2=1 then(kb12 ((IntKind.wrap .i64 (s11.1+1)),v21.2.1,v21.2.2,v23.1.Recs,v23.1.Order)) else(kb12 ((IntKind.wrap .i64 (s11.1+1)),v21.2.1,v21.2.2,s11.2.2.2.1,s11.2.2.2.2)))))) else(if v16.1=1 then((zv cb1 v16.2 4).bind fun v27=>((zv cb1 v27.2 20).bind fun v29=>((zY (zl.mk s11.2.2.2.1 s11.2.2.2.2) v27.1 (IntKind.wrap .i64 (1+v29.1))).bind fun v31=>(if ¬v31.2.2=1 then(kb12 ((IntKind.wrap .i64 (s11.1+1)),v29.2.1,v29.2.2,v31.1.Recs,v31.1.Order)) else(kb12 ((IntKind.wrap .i64 (s11.1+1)),v29.2.1,v29.2.2,s11.2.2.2.1,s11.2.2.2.2)))))) else(if v16.1=2 then((jc cb1 v16.2).bind fun v35=>((jy (zl.mk s11.2.2.2.1 s11.2.2.2.2) (IntKind.wrap .i64 (1+v14.1)) v35.1).bind fun v37=>(if ¬v37.2=1 then(kb12 ((IntKind.wrap .i64 (s11.1+1)),v35.2.1,v35.2.2,v37.1.Recs,v37.1.Order)) else(kb12 ((IntKind.wrap .i64 (s11.1+1)),v35.2.1,v35.2.2,s11.2.2.2.1,s11.2.2.2.2))))) else(if v16.1=3 then((z9 (zl.mk s11.2.2.2.1 s11.2.2.2.2) (IntKind.wrap .i64 (1+v14.1))).bind fun v41=>(if 0 < ((v41.length:Nat):Int) then((idx v41 0).bind fun v44=>((qb cb1 v16.2 5).bind fun v46=>((qG (zl.mk s11.2.2.2.1 s11.2.2.2.2) (IntKind.wrap .i64 (1+v14.1)) v44 (!v46.1)).bind fun v48=>(if ¬v48.2=1 then(kb12 ((IntKind.wrap .i64 (s11.1+1)),v46.2.1,v46.2.2,v48.1.Recs,v48.1.Order)) else(kb12 ((IntKind.wrap .i64 (s11.1+1)),v46.2.1,v46.2.2,s11.2.2.2.1,s11.2.2.2.2)))))) else(if ¬(1:Int)=1 then(kb12 ((IntKind.wrap .i64 (s11.1+1)),v16.2.1,v16.2.2,s11.2.2.2.1,s11.2.2.2.2)) else(kb12 ((IntKind.wrap .i64 (s11.1+1)),v16.2.1,v16.2.2,s11.2.2.2.1,s11.2.2.2.2))))) else(if v16.1=4 then((z9 (zl.mk s11.2.2.2.1 s11.2.2.2.2) (IntKind.wrap .i64 (1+v14.1))).bind fun v53=>(if 0 < ((v53.length:Nat):Int) then((idx v53 0).bind fun v56=>((qb cb1 v16.2 5).bind fun v58=>((qG (zl.mk s11.2.2.2.1 s11.2.2.2.2) (IntKind.wrap .i64 (1+v14.1)) v56 (!v58.1)).bind fun v60=>(if ¬v60.2=1 then(kb12 ((IntKind.wrap .i64 (s11.1+1)),v58.2.1,v58.2.2,v60.1.Recs,v60.1.Order)) else(kb12 ((IntKind.wrap .i64 (s11.1+1)),v58.2.1,v58.2.2,s11.2.2.2.1,s11.2.2.2.2)))))) else(if ¬(1:Int)=1 then(kb12 ((IntKind.wrap .i64 (s11.1+1)),v16.2.1,v16.2.2,s11.2.2.2.1,s11.2.2.2.2)) else(kb12 ((IntKind.wrap .i64 (s11.1+1)),v16.2.1,v16.2.2,s11.2.2.2.1,s11.2.2.2.2))))) else((qb cb1 v16.2 3).bind fun v64=>(if v64.1=true then((jN (zl.mk s11.2.2.2.1 s11.2.2.2.2) (IntKind.wrap .i64 (1+v14.1))).bind fun v67=>(if ¬v67.2=1 then(kb12 ((IntKind.wrap .i64 (s11.1+1)),v64.2.1,v64.2.2,v67.1.Recs,v67.1.Order)) else(kb12 ((IntKind.wrap .i64 (s11.1+1)),v64.2.1,v64.2.2,s11.2.2.2.1,s11.2.2.2.2)))) else(if ¬(1:Int)=1 then(kb12 ((IntKind.wrap .i64 (s11.1+1)),v64.2.1,v64.2.2,s11.2.2.2.1,s11.2.2.2.2)) else(kb12 ((IntKind.wrap .i64 (s11.1+1)),v64.2.1,v64.2.2,s11.2.2.2.1,s11.2.2.2.2)))))))))))) else(kx10 (s11.2.1,s11.2.2.1,s11.2.2.2.1,s11.2.2.2.2)))
def yR(t71:(Int×Int×(List zD)×(List Int))):Option (zl×(Int×Int)):=
 (some ((zl.mk t71.2.2.1 t71.2.2.2),(t71.1,t71.2.1)))
def yS(v4:(Int×(Int×Int)))(cb1:(List Int))(kx72:((Int×Int×(List zD)×(List Int))→Option (zl×(Int×Int))))(kb74:((Int×Int×Int×(List zD)×(List Int))→Option (zl×(Int×Int))))(s73:(Int×Int×Int×(List zD)×(List Int))):Option (zl×(Int×Int)):=
 (if s73.1 < v4.1 then((zv cb1 (s73.2.1,s73.2.2.1) (IntKind.wrap .i64 (((s73.2.2.2.1.length:Nat):Int)+1))).bind fun v76=>((zv cb1 v76.2 6).bind fun v78=>(if v78.1=0 then((zv cb1 v78.2 4).bind fun v81=>((zv cb1 v81.2 20).bind fun v83=>((zY (zl.mk s73.2.2.2.1 s73.2.2.2.2) v81.1 (IntKind.wrap .i64 (1+v83.1))).bind fun v85=>(if ¬v85.2.2=1 then(kb74 ((IntKind.wrap .i64 (s73.1+1)),v83.2.1,v83.2.2,v85.1.Recs,v85.1.Order)) else(kb74 ((IntKind.wrap .i64 (s73.1+1)),v83.2.1,v83.2.2,s73.2.2.2.1,s73.2.2.2.2)))))) else(if v78.1=1 then((zv cb1 v78.2 4).bind fun v89=>((zv cb1 v89.2 20).bind fun v91=>((zY (zl.mk s73.2.2.2.1 s73.2.2.2.2) v89.1 (IntKind.wrap .i64 (1+v91.1))).bind fun v93=>(if ¬v93.2.2=1 then(kb74 ((IntKind.wrap .i64 (s73.1+1)),v91.2.1,v91.2.2,v93.1.Recs,v93.1.Order)) else(kb74 ((IntKind.wrap .i64 (s73.1+1)),v91.2.1,v91.2.2,s73.2.2.2.1,s73.2.2.2.2)))))) else(if v78.1=2 then((jc cb1 v78.2).bind fun v97=>((jy (zl.mk s73.2.2.2.1 s73.2.2.2.2) (IntKind.wrap .i64 (1+v76.1)) v97.1).bind fun v99=>(if ¬v99.2=1 then(kb74 ((IntKind.wrap .i64 (s73.1+1)),v97.2.1,v97.2.2,v99.1.Recs,v99.1.Order)) else(kb74 ((IntKind.wrap .i64 (s73.1+1)),v97.2.1,v97.2.2,s73.2.2.2.1,s73.2.2.2.2))))) else(if v78.1=3 then((z9 (zl.mk s73.2.2.2.1 s73.2.2.2.2) (IntKind.wrap .i64 (1+v76.1))).bind fun v103=>(if 0 < ((v103.length:Nat):Int) then((idx v103 0).bind fun v106=>((qb cb1 v78.2 5).bind fun v108=>((qG (zl.mk s73.2.2.2.1 s73.2.2.2.2) (IntKind.wrap .i64 (1+v76.1)) v106 (!v108.1)).bind fun v110=>(if ¬v110.2=1 then(kb74 ((IntKind.wrap .i64 (s73.1+1)),v108.2.1,v108.2.2,v110.1.Recs,v110.1.Order)) else(kb74 ((IntKind.wrap .i64 (s73.1+1)),v108.2.1,v108.2.2,s73.2.2.2.1,s73.2.2.2.2)))))) else(if ¬(1:Int)=1 then(kb74 ((IntKind.wrap .i64 (s73.1+1)),v78.2.1,v78.2.2,s73.2.2.2.1,s73.2.2.2.2)) else(kb74 ((IntKind.wrap .i64 (s73.1+1)),v78.2.1,v78.2.2,s73.2.2.2.1,s73.2.2.2.2))))) else(if v78.1=4 then((z9 (zl.mk s73.2.2.2.1 s73.2.2.2.2) (IntKind.wrap .i64 (1+v76.1))).bind fun v115=>(if 0 < ((v115.length:Nat):Int) then((idx v115 0).bind fun v118=>((qb cb1 v78.2 5).bind fun v120=>((qG (zl.mk s73.2.2.2.1 s73.2.2.2.2) (IntKind.wrap .i64 (1+v76.1)) v118 (!v120.1)).bind fun v122=>(if ¬v122.2=1 then(kb74 ((IntKind.wrap .i64 (s73.1+1)),v120.2.1,v120.2.2,v122.1.Recs,v122.1.Order)) else(kb74 ((IntKind.wrap .i64 (s73.1+1)),v120.2.1,v120.2.2,s73.2.2.2.1,s73.2.2.2.2)))))) else(if ¬(1:Int)=1 then(kb74 ((IntKind.wrap .i64 (s73.1+1)),v78.2.1,v78.2.2,s73.2.2.2.1,s73.2.2.2.2)) else(kb74 ((IntKind.wrap .i64 (s73.1+1)),v78.2.1,v78.2.2,s73.2.2.2.1,s73.2.2.2.2))))) else((qb cb1 v78.2 3).bind fun v126=>(if v126.1=true then((jN (zl.mk s73.2.2.2.1 s73.2.2.2.2) (IntKind.wrap .i64 (1+v76.1))).bind fun v129=>(if ¬v129.2=1 then(kb74 ((IntKind.wrap .i64 (s73.1+1)),v126.2.1,v126.2.2,v129.1.Recs,v129.1.Order)) else(kb74 ((IntKind.wrap .i64 (s73.1+1)),v126.2.1,v126.2.2,s73.2.2.2.1,s73.2.2.2.2)))) else(if ¬(1:Int)=1 then(kb74 ((IntKind.wrap .i64 (s73.1+1)),v126.2.1,v126.2.2,s73.2.2.2.1,s73.2.2.2.2)) else(kb74 ((IntKind.wrap .i64 (s73.1+1)),v126.2.1,v126.2.2,s73.2.2.2.1,s73.2.2.2.2)))))))))))) else(kx72 (s73.2.1,s73.2.2.1,s73.2.2.2.1,s73.2.2.2.2)))
def yg(cb1:(List Int))(a2:(Int×Int))(a3:Int):Option (zl×(Int×Int)):=
 ((zv cb1 a2 (IntKind.wrap .i64 (a3+1))).bind fun v4=>((qb cb1 v4.2 20).bind fun v6=>(if v6.1=true then(iter (yT cb1 y0) FU (0,v6.2.1,v6.2.2,([]:List zD),([]:List Int))) else(iter (yS v4 cb1 yR) FU (0,v6.2.1,v6.2.2,([]:List zD),([]:List Int))))))
def y9(cb1:(List Int))(a2:(Int×Int))(a3:Int):Option (zl×(Int×Int)):=
 ((yg cb1 a2 a3).bind fun v4=>((zv cb1 v4.2 30).bind fun v6=>(if v6.1=0 then((zv cb1 v6.2 5).bind fun v9=>(if (v4.1.Order++([v9.1])).length≤2147483648 then(some ((zl.mk v4.1.Recs (v4.1.Order++([v9.1]))),v9.2)) else none)) else(if v6.1=1 then(if 0 < ((v4.1.Recs.length:Nat):Int) then((zv cb1 v6.2 ((v4.1.Recs.length:Nat):Int)).bind fun v14=>((zv cb1 v14.2 6).bind fun v16=>((idx v4.1.Recs v14.1).bind fun v18=>(some ((zl.mk (v4.1.Recs.set (Int.toNat v14.1) (zD.mk v18.Tx v18.Client v18.Req v16.1 v18.Shares)) v4.1.Order),v16.2))))) else(some (v4.1,v6.2))) else(if v6.1=2 then((zv cb1 v6.2 9).bind fun v21=>(if (v4.1.Recs++[(zD.mk v21.1 0 1 1 ([]:List zn))]).length≤2147483648 then(some ((zl.mk (v4.1.Recs++[(zD.mk v21.1 0 1 1 ([]:List zn))]) v4.1.Order),v21.2)) else none)) else(some (v4.1,v6.2)))))))
def yy(cb1:(List Int))(a2:(Int×Int))(a3:(List Int)):Option (Int×(Int×Int)):=
 ((zv cb1 a2 (a3.length:Int)).bind fun v4=>((idx a3 v4.1).bind fun v6=>(some (v6,v4.2))))
def ZV(cb1:(List Int))(a2:(Int×Int)):Option (Int×Int×(Int×Int)):=
 ((qb cb1 a2 20).bind fun v3=>(if v3.1=true then((yy cb1 v3.2 ([(-1),1000000000,1000000001])).bind fun v6=>((yy cb1 v6.2 ([0,1000000000,1000000001])).bind fun v8=>(some (v6.1,v8.1,v8.2)))) else((zv cb1 v3.2 4).bind fun v10=>((zv cb1 v10.2 20).bind fun v12=>(some (v10.1,(IntKind.wrap .i64 (1+v12.1)),v12.2))))))
def jp(cb1:(List Int)):Option (zl×Int×Int):=
 ((Q0 cb1).bind fun v2=>((QA cb1 30).bind fun v4=>((y9 cb1 v2 v4).bind fun v6=>((ZV cb1 v6.2).bind fun v8=>(some (v6.1,v8.1,v8.2.1))))))
def jz(a1:Int)(a2:Int)(a3:Int):Option Bool:=
 (if a2≤a1 then(some (decide (a1≤a3))) else(some false))
def Zw(a1:Int):Option Bool:=
 ((jz a1 0 1000000000).bind fun v2=>(some v2))
def Qh(a1:Int):Option Bool:=
 ((jz a1 1 1000000000).bind fun v2=>(some v2))
def Z7(a1:Int):Option Bool:=
 ((jz a1 0 3).bind fun v2=>(some v2))
def Z1(a1:qo):Option Bool:=
 (if 0≤a1.Lo then(if a1.Lo < a1.Hi then(some (decide (a1.Hi≤1000))) else(some false)) else(some false))
def Zt(a1:qo):Option Bool:=
 ((Z1 a1).bind fun v2=>(some (!v2)))
def jh(t2:Unit):Option Int:=
 (some (-1))
def qD(a1:(List qo))(kx3:(Unit→Option Int))(kb5:(Int→Option Int))(s4:Int):Option Int:=
 (if s4 < (a1.length:Int) then((idx a1 s4).bind fun v7=>((Zt v7).bind fun v9=>(if v9=true then(some s4) else(kb5 (IntKind.wrap .i64 (s4+1)))))) else(kx3 ()))
def qK(a1:(List qo)):Option Int:=
 (iter (qD a1 jh) FU 0)
def z7(a1:(List qo)):Option Bool:=
 ((qK a1).bind fun v2=>(some (decide (0≤v2))))
def Zu(a1:(List qo)):Option Bool:=
 (if (a1.length:Int)≤16 then((z7 a1).bind fun v3=>(some (!v3))) else(some false))
def QV(a1:Int):Option Bool:=
 ((jz a1 0 999).bind fun v2=>(some v2))
def ZL(a1:Int):Option Bool:=
 ((jz a1 (-1) 1000000000).bind fun v2=>(some v2))
def Qi(a1:(List qy))(t2:Unit):Option Bool:=
 (some (decide ((a1.length:Int)≤60)))
def jT(kb5:(Int→Option Bool))(s4:Int)(t9:Bool):Option Bool:=
 (if t9=true then(some false) else(kb5 (IntKind.wrap .i64 (s4+1))))
def Qn(a1:(List qy))(kx3:(Unit→Option Bool))(kb5:(Int→Option Bool))(s4:Int):Option Bool:=
 (if s4 < (a1.length:Int) then((idx a1 s4).bind fun v7=>((QV v7.Key).bind fun v12=>(if v12=true then((ZL v7.Value).bind fun v15=>(if v15=true then(if 0 < s4 then((idx a1 (IntKind.wrap .i64 (s4 - 1))).bind fun v19=>((jT kb5 s4) (decide (v7.Key≤v19.Key)))) else((jT kb5 s4) false)) else((jT kb5 s4) true))) else((jT kb5 s4) true)))) else(kx3 ()))
def yZ(a1:(List qy)):Option Bool:=
 (iter (Qn a1 (Qi a1)) FU 0)
def Qj(a1:(List zn))(t2:Unit):Option Bool:=
 (some (decide ((a1.length:Int)≤4)))
def qJ(kb5:(Int→Option Bool))(s4:Int)(t9:Bool):Option Bool:=
 (if t9=true then(some false) else(kb5 (IntKind.wrap .i64 (s4+1))))
def Qa(a1:(List zn))(kx3:(Unit→Option Bool))(kb5:(Int→Option Bool))(s4:Int):Option Bool:=
 (if s4 < (a1.length:Int) then((idx a1 s4).bind fun v7=>((Z7 v7.Group).bind fun v12=>(if v12=true then(if 0 < s4 then((idx a1 (IntKind.wrap .i64 (s4 - 1))).bind fun v16=>(if v7.Group≤v16.Group then((qJ kb5 s4) true) else((Zu v7.Reads).bind fun v19=>(if v19=true then((yZ v7.Writes).bind fun v22=>(if v22=true then((jz v7.Vote 0 2).bind fun v25=>((qJ kb5 s4) (!v25))) else((qJ kb5 s4) true))) else((qJ kb5 s4) true))))) else((Zu v7.Reads).bind fun v27=>(if v27=true then((yZ v7.Writes).bind fun v30=>(if v30=true then((jz v7.Vote 0 2).bind fun v33=>((qJ kb5 s4) (!v33))) else((qJ kb5 s4) true))) else((qJ kb5 s4) true)))) else((qJ kb5 s4) true)))) else(kx3 ()))
def ZK(a1:(List zn)):Option Bool:=
 (iter (Qa a1 (Qj a1)) FU 0)
def QX(a1:zn)(a2:Int):Option Bool:=
 (some (decide (a1.Vote=a2)))
def jx(t3:Unit):Option Int:=
 (some (-1))
def qO(a1:(List zn))(a2:Int)(kx4:(Unit→Option Int))(kb6:(Int→Option Int))(s5:Int):Option Int:=
 (if s5 < (a1.length:Int) then((idx a1 s5).bind fun v8=>((QX v8 a2).bind fun v10=>(if v10=true then(some s5) else(kb6 (IntKind.wrap .i64 (s5+1)))))) else(kx4 ()))
def qT(a1:(List zn))(a2:Int):Option Int:=
 (iter (qO a1 a2 jx) FU 0)
def qE(a1:(List zn))(a2:Int):Option Bool:=
 ((qT a1 a2).bind fun v3=>(some (decide (0≤v3))))
def y4(a1:(List zn))(a2:Int):Option Bool:=
 ((qE a1 a2).bind fun v3=>(some v3))
def ZQ(a1:zD)(t2:Bool):Option Bool:=
 (if t2=true then(some false) else(if a1.State=1 then(some (decide ((a1.Shares.length:Int)=0))) else(if a1.State=2 then((y4 a1.Shares 0).bind fun v7=>(if v7=true then((y4 a1.Shares 2).bind fun v10=>(some (!v10))) else(some false))) else(if a1.State=3 then((y4 a1.Shares 0).bind fun v13=>(if v13=true then(some false) else((y4 a1.Shares 2).bind fun v16=>(some (!v16))))) else(some (decide (a1.State=4)))))))
def Jc(a1:zD):Option Bool:=
 ((Zw a1.Client).bind fun v18=>(if v18=true then((Qh a1.Req).bind fun v21=>(if v21=true then((ZK a1.Shares).bind fun v24=>((ZQ a1) (!v24))) else((ZQ a1) true))) else((ZQ a1) true)))
def Z9(a1:zD)(a2:zD):Option Bool:=
 (if a1.Client=a2.Client then(some (decide (a1.Req=a2.Req))) else(some false))
def jw(t3:Unit):Option Int:=
 (some (-1))
def qP(a1:(List zD))(a2:zD)(kx4:(Unit→Option Int))(kb6:(Int→Option Int))(s5:Int):Option Int:=
 (if s5 < (a1.length:Int) then((idx a1 s5).bind fun v8=>((Z9 v8 a2).bind fun v10=>(if v10=true then(some s5) else(kb6 (IntKind.wrap .i64 (s5+1)))))) else(kx4 ()))
def qS(a1:(List zD))(a2:zD):Option Int:=
 (iter (qP a1 a2 jw) FU 0)
def qg(a1:(List zD))(a2:zD):Option Bool:=
 ((qS a1 a2).bind fun v3=>(some (decide (0≤v3))))
def Qr(t3:Unit):Option Int:=
 (some (-1))
def Zl(a1:(List Int))(a2:Int)(kx4:(Unit→Option Int))(kb6:(Int→Option Int))(s5:Int):Option Int:=
 (if s5 < (a1.length:Int) then((idx a1 s5).bind fun v8=>(if a2=v8 then(some s5) else(kb6 (IntKind.wrap .i64 (s5+1))))) else(kx4 ()))
def yJ(a1:(List Int))(a2:Int):Option Int:=
 (iter (Zl a1 a2 Qr) FU 0)
def jL(a1:(List Int))(a2:Int):Option Bool:=
 ((yJ a1 a2).bind fun v3=>(some (decide (0≤v3))))
def QK(t3:Int)(a1:zl)(t5:Unit):Option Bool:=
 (some (decide (t3=(a1.Order.length:Int))))
def yw(kb8:(Int→Option Bool))(s7:Int)(t12:Bool):Option Bool:=
 (if t12=true then(some false) else(kb8 (IntKind.wrap .i64 (s7+1))))
def QM(a1:zl)(kx6:(Unit→Option Bool))(kb8:(Int→Option Bool))(s7:Int):Option Bool:=
 (if s7 < (a1.Order.length:Int) then((idx a1.Order s7).bind fun v10=>((jz v10 1 (a1.Recs.length:Int)).bind fun v15=>(if v15=true then((idx a1.Recs (IntKind.wrap .i64 (v10 - 1))).bind fun v18=>(if ¬v18.State=3 then((yw kb8 s7) true) else((cut a1.Order 0 s7).bind fun v21=>((jL v21 v10).bind fun v23=>((yw kb8 s7) v23))))) else((yw kb8 s7) true)))) else(kx6 ()))
def QF(a1:zl)(t3:Int):Option Bool:=
 (iter (QM a1 (QK t3 a1)) FU 0)
def yu(v28:zD)(kb26:((Int×Int)→Option Bool))(s25:(Int×Int))(t30:Bool):Option Bool:=
 (if t30=true then(some false) else(if v28.State=3 then(kb26 ((IntKind.wrap .i64 (s25.1+1)),(IntKind.wrap .i64 (s25.2+1)))) else(kb26 (s25.1,(IntKind.wrap .i64 (s25.2+1))))))
def Qf(a1:zl)(kx4:(Int→Option Bool))(kb26:((Int×Int)→Option Bool))(s25:(Int×Int)):Option Bool:=
 (if s25.2 < (a1.Recs.length:Int) then((idx a1.Recs s25.2).bind fun v28=>(if ¬v28.Tx=(IntKind.wrap .i64 (s25.2+1)) then((yu v28 kb26 s25) true) else((Jc v28).bind fun v35=>(if v35=true then((cut a1.Recs 0 s25.2).bind fun v38=>((qg v38 v28).bind fun v40=>((yu v28 kb26 s25) v40))) else((yu v28 kb26 s25) true))))) else(kx4 s25.1))
def yH(a1:zl):Option Bool:=
 (if 60 < (a1.Recs.length:Int) then(some false) else(iter (Qf a1 (QF a1)) FU (0,0)))
def jK(a1:(List Int))(t2:Unit):Option (List Int):=
 (if a1.length≤2147483648 then(some a1) else none)
def yL(a1:(List Int)):Option (List Int):=
 (if a1.length=0 then((jK a1) ()) else((jK a1) ()))
def jo(a1:(List qo))(t2:Unit):Option (List qo):=
 (if a1.length≤2147483648 then(some a1) else none)
def j5(a1:(List qo)):Option (List qo):=
 (if a1.length=0 then((jo a1) ()) else((jo a1) ()))
def jq(a1:(List qy))(t2:Unit):Option (List qy):=
 (if a1.length≤2147483648 then(some a1) else none)
def j8(a1:(List qy)):Option (List qy):=
 (if a1.length=0 then((jq a1) ()) else((jq a1) ()))
def ZB(t2:(List zn)):Option (List zn):=
 (some t2)
def ZC(a1:(List zn))(kx3:((List zn)→Option (List zn)))(kb5:(((List zn)×Int)→Option (List zn)))(s4:((List zn)×Int)):Option (List zn):=
 (if s4.2 < (a1.length:Int) then((idx a1 s4.2).bind fun v7=>((j5 v7.Reads).bind fun v9=>((j8 v7.Writes).bind fun v11=>(if (s4.1++[(zn.mk v7.Group v9 v11 v7.Vote)]).length≤2147483648 then(kb5 ((s4.1++[(zn.mk v7.Group v9 v11 v7.Vote)]),(IntKind.wrap .i64 (s4.2+1)))) else none)))) else(kx3 s4.1))
def y3(a1:(List zn)):Option (List zn):=
 (iter (ZC a1 ZB) FU (([]:List zn),0))
def ZY(v2:(List Int))(t4:(List zD)):Option zl:=
 (some (zl.mk t4 v2))
def ZX(a1:zl)(kx5:((List zD)→Option zl))(kb7:((Int×(List zD))→Option zl))(s6:(Int×(List zD))):Option zl:=
 (if s6.1 < (a1.Recs.length:Int) then((idx a1.Recs s6.1).bind fun v9=>((y3 v9.Shares).bind fun v11=>(if (s6.2++[(zD.mk v9.Tx v9.Client v9.Req v9.State v11)]).length≤2147483648 then(kb7 ((IntKind.wrap .i64 (s6.1+1)),(s6.2++[(zD.mk v9.Tx v9.Client v9.Req v9.State v11)]))) else none))) else(kx5 s6.2))
def Zv(a1:zl):Option zl:=
 ((yL a1.Order).bind fun v2=>(iter (ZX a1 (ZY v2)) FU (0,([]:List zD))))
def Zz(a1:zD)(a2:Int)(a3:Int):Option Bool:=
 (if a1.Client=a2 then(some (decide (a1.Req=a3))) else(some false))
def jg(t4:Unit):Option Int:=
 (some (-1))
def qF(a1:(List zD))(a2:Int)(a3:Int)(kx5:(Unit→Option Int))(kb7:(Int→Option Int))(s6:Int):Option Int:=
 (if s6 < (a1.length:Int) then((idx a1 s6).bind fun v9=>((Zz v9 a2 a3).bind fun v11=>(if v11=true then(some s6) else(kb7 (IntKind.wrap .i64 (s6+1)))))) else(kx5 ()))
def qi(a1:(List zD))(a2:Int)(a3:Int):Option Int:=
 (iter (qF a1 a2 a3 jg) FU 0)
def yp(a1:zl)(a2:Int)(a3:Int):Option Int:=
 ((yH a1).bind fun v4=>(if v4=true then((qi a1.Recs a2 a3).bind fun v7=>(some (IntKind.wrap .i64 (1+v7)))) else(some 0)))
def qq(a1:zl)(a2:Int)(a3:Int)(t4:Bool):Option (zl×Int×Int):=
 (if t4=true then(some ((zl.mk ([]:(List zD)) ([]:(List Int))),0,1)) else((Zv a1).bind fun v7=>((yp a1 a2 a3).bind fun v9=>(if 0 < v9 then(some (v7,v9,0)) else(if (a1.Recs.length:Int)=60 then(some (v7,0,4)) else(if (v7.Recs++[(zD.mk (IntKind.wrap .i64 ((a1.Recs.length:Int)+1)) a2 a3 1 ([]:List zn))]).length≤2147483648 then(some ((zl.mk (v7.Recs++[(zD.mk (IntKind.wrap .i64 ((a1.Recs.length:Int)+1)) a2 a3 1 ([]:List zn))]) v7.Order),(IntKind.wrap .i64 ((a1.Recs.length:Int)+1)),0)) else none))))))
def jl(a1:zl)(a2:Int)(a3:Int):Option (zl×Int×Int):=
 ((yH a1).bind fun v14=>(if v14=true then((Zw a2).bind fun v17=>(if v17=true then((Qh a3).bind fun v20=>((qq a1 a2 a3) (!v20))) else((qq a1 a2 a3) true))) else((qq a1 a2 a3) true)))
def Q6(a1:zl)(a2:Int):Option Bool:=
 ((jz a2 1 (a1.Recs.length:Int)).bind fun v3=>(some v3))
def jM(a1:zl)(a2:Int)(t3:Bool):Option Int:=
 (if t3=true then(some 0) else((idx a1.Recs (IntKind.wrap .i64 (a2 - 1))).bind fun v6=>(some v6.State)))
def jm(a1:zl)(a2:Int):Option Int:=
 ((yH a1).bind fun v8=>(if v8=true then((Q6 a1 a2).bind fun v11=>((jM a1 a2) (!v11))) else((jM a1 a2) true)))
def yG(t6:(List Int)):Option (List Int):=
 (some t6)
def yf(v8:zD)(kx7:((List Int)→Option (List Int)))(kb11:(((List Int)×Int)→Option (List Int)))(s10:((List Int)×Int)):Option (List Int):=
 (if s10.2 < (v8.Shares.length:Int) then((idx v8.Shares s10.2).bind fun v13=>(if v13.Vote=0 then(if (s10.1++([v13.Group])).length≤2147483648 then(kb11 ((s10.1++([v13.Group])),(IntKind.wrap .i64 (s10.2+1)))) else none) else(kb11 (s10.1,(IntKind.wrap .i64 (s10.2+1)))))) else(kx7 s10.1))
def y7(a1:zl)(a2:Int):Option (List Int):=
 ((jm a1 a2).bind fun v3=>(if ¬v3=2 then(some ([]:(List Int))) else((idx a1.Recs (IntKind.wrap .i64 (a2 - 1))).bind fun v8=>(iter (yf v8 yG) FU (([]:List Int),0)))))
def qX(v7:(zl×Int×Int))(v5:(zl×Int×Int))(t11:Bool):Option Bool:=
 (if t11=true then(some false) else(if ¬v7.2.2=0 then(if v7.2.1=0 then(if v7.2.2=1 then(some true) else(some (decide ((v7.1.Recs.length:Int)=(v5.1.Recs.length:Int))))) else(some false)) else((jl v7.1 v5.2.1 v5.2.2).bind fun v17=>(if v17.2.2=0 then(if v17.2.1=v7.2.1 then(if (v17.1.Recs.length:Int)=(v7.1.Recs.length:Int) then((yp v17.1 v5.2.1 v5.2.2).bind fun v22=>(if v22=v7.2.1 then((jm v17.1 v7.2.1).bind fun v25=>(if 0 < v25 then((y7 v17.1 v7.2.1).bind fun v28=>((z9 v7.1 v7.2.1).bind fun v30=>(some (decide ((v28.length:Int)=(v30.length:Int)))))) else(some false))) else(some false))) else(some false)) else(some false)) else(some false)))))
def ZG(a1:(List Int)):Option Bool:=
 ((YQ a1).bind fun v2=>(if v2=true then(some true) else((jp a1).bind fun v5=>((jl v5.1 v5.2.1 v5.2.2).bind fun v7=>((zY v5.1 v5.2.1 v5.2.2).bind fun v9=>(if ¬v7.2.2=v9.2.2 then((qX v7 v5) true) else((qX v7 v5) (decide (¬v7.2.1=v9.2.1)))))))))
abbrev jZ(x:zn):List C:=[(dI x.Group),(.d (.sl 2 (List.map zZ x.Reads))),(.d (.sl 2 (List.map zT x.Writes))),(dI x.Vote)]
abbrev yA(x:zD):List C:=[(dI x.Tx),(dI x.Client),(dI x.Req),(dI x.State),(.d (.sl 4 (List.map zh x.Shares)))]
abbrev zy(x:zl):List C:=[(.d (.sl 5 (List.map zm x.Recs))),(.d (.sl 1 (List.map zt x.Order)))]
end Go.AW
