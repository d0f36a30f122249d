/- Plain functions that say what functions of the program compute. Conditions: none. -/
import Derived.Test.YtnpbflgkgjnljaaYi
set_option linter.unusedVariables false
set_option linter.unusedSimpArgs false
set_option maxRecDepth 100000
namespace Go.AW
abbrev d_u8(x:Int):List D:=[(.int .u8 x)]
structure TPart where
 Lo:Int
 Hi:Int
 Owner:Int
deriving DecidableEq
structure TCell where
 Key:Int
 Value:Int
deriving DecidableEq
structure TMove where
 No:Int
 Stage:Int
 Lo:Int
 Hi:Int
 From:Int
 To:Int
 Cells:(List TCell)
deriving DecidableEq
structure TAtlas where
 Epoch:Int
 Parts:(List TPart)
 Move:TMove
deriving DecidableEq
abbrev d_TPart(x:TPart):List D:=[(.int .i64 x.Lo),(.int .i64 x.Hi),(.int .i64 x.Owner)]
abbrev d_TCell(x:TCell):List D:=[(.int .i64 x.Key),(.int .i64 x.Value)]
abbrev d_TAtlas(x:TAtlas):List D:=[(.int .i64 x.Epoch),(.sl 3 (List.map d_TPart x.Parts)),(.int .i64 x.Move.No),(.int .i64 x.Move.Stage),(.int .i64 x.Move.Lo),(.int .i64 x.Move.Hi),(.int .i64 x.Move.From),(.int .i64 x.Move.To),(.sl 2 (List.map d_TCell x.Move.Cells))]
structure TRange where
 Lo:Int
 Hi:Int
deriving DecidableEq
abbrev d_TRange(x:TRange):List D:=[(.int .i64 x.Lo),(.int .i64 x.Hi)]
abbrev d_TMove(x:TMove):List D:=[(.int .i64 x.No),(.int .i64 x.Stage),(.int .i64 x.Lo),(.int .i64 x.Hi),(.int .i64 x.From),(.int .i64 x.To),(.sl 2 (List.map d_TCell x.Cells))]
abbrev d_i64(x:Int):List D:=[(.int .i64 x)]
abbrev dS_u8(x:(List Int)):List D:=[(.sl 1 (List.map d_u8 x))]
def m_laws_big(a1:(List Int)):Option Bool:=
 (some (decide (1048576 < (a1.length:Int))))
def spec_l1New_j2(t2:Int):Option (Int×Int):=
 (some (0,t2))
def spec_l1New_b4(cb1:(List Int))(kx3:(Int→Option (Int×Int)))(kb5:((Int×Int)→Option (Int×Int)))(s4:(Int×Int)):Option (Int×Int):=
 (if s4.2 < (cb1.length:Int) then(if s4.2 < 4000 then((idx cb1 s4.2).bind fun v8=>(kb5 ((IntKind.wrap .i64 (BitVec.ofInt (IntKind.bits .i64) (IntKind.wrap .i64 ((IntKind.wrap .i64 ((IntKind.wrap .i64 (s4.1 * 131))+(IntKind.wrap .i64 v8)))+7))&&& BitVec.ofInt (IntKind.bits .i64) 1073741823).toNat),(IntKind.wrap .i64 (s4.2+1))))) else(kx3 s4.1)) else(kx3 s4.1))
def m_spec_l1New(cb1:(List Int)):Option (Int×Int):=
 (iter (spec_l1New_b4 cb1 spec_l1New_j2) FU ((IntKind.wrap .i64 (97097+(cb1.length:Int))),0))
def m_spec_l1Size(cb1:(List Int))(a2:Int):Option Int:=
 (if a2 < (IntKind.wrap .i64 (2+(IntKind.wrap .i64 (Int.tdiv (cb1.length:Int) 20)))) then(some a2) else(some (IntKind.wrap .i64 (2+(IntKind.wrap .i64 (Int.tdiv (cb1.length:Int) 20))))))
def m_spec_l1Byte(cb1:(List Int))(a2:(Int×Int)):Option (Int×(Int×Int)):=
 (if a2.1 < (cb1.length:Int) then((idx cb1 a2.1).bind fun v4=>(some ((IntKind.wrap .i64 (BitVec.ofInt (IntKind.bits .i64) (IntKind.wrap .i64 ((IntKind.wrap .i64 (BitVec.ofInt (IntKind.bits .i64) (IntKind.wrap .i64 (BitVec.ofInt (IntKind.bits .i64) (Int.fdiv (IntKind.wrap .i64 ((IntKind.wrap .i64 (a2.2 * 6364136223846793005))+1442695040888963407)) (2 ^ (min (Int.toNat 33) (IntKind.bits .i64)))) ^^^ BitVec.ofInt (IntKind.bits .i64) (Int.fdiv (IntKind.wrap .i64 ((IntKind.wrap .i64 (a2.2 * 6364136223846793005))+1442695040888963407)) (2 ^ (min (Int.toNat 45) (IntKind.bits .i64))))).toNat)&&& BitVec.ofInt (IntKind.bits .i64) 255).toNat)+(IntKind.wrap .i64 v4)))&&& BitVec.ofInt (IntKind.bits .i64) 255).toNat),((IntKind.wrap .i64 (a2.1+1)),(IntKind.wrap .i64 ((IntKind.wrap .i64 (a2.2 * 6364136223846793005))+1442695040888963407)))))) else(some ((IntKind.wrap .i64 (BitVec.ofInt (IntKind.bits .i64) (IntKind.wrap .i64 (BitVec.ofInt (IntKind.bits .i64) (Int.fdiv (IntKind.wrap .i64 ((IntKind.wrap .i64 (a2.2 * 6364136223846793005))+1442695040888963407)) (2 ^ (min (Int.toNat 33) (IntKind.bits .i64)))) ^^^ BitVec.ofInt (IntKind.bits .i64) (Int.fdiv (IntKind.wrap .i64 ((IntKind.wrap .i64 (a2.2 * 6364136223846793005))+1442695040888963407)) (2 ^ (min (Int.toNat 45) (IntKind.bits .i64))))).toNat)&&& BitVec.ofInt (IntKind.bits .i64) 255).toNat),(a2.1,(IntKind.wrap .i64 ((IntKind.wrap .i64 (a2.2 * 6364136223846793005))+1442695040888963407))))))
def m_spec_l1Below(cb1:(List Int))(a2:(Int×Int))(a3:Int):Option (Int×(Int×Int)):=
 (if a3≤0 then(some (0,a2)) else(if a3≤256 then((m_spec_l1Byte cb1 a2).bind fun v6=>(if ¬a3=0 then(some ((Int.tmod v6.1 a3),v6.2)) else none)) else((m_spec_l1Byte cb1 a2).bind fun v9=>((m_spec_l1Byte cb1 v9.2).bind fun v11=>((m_spec_l1Byte cb1 v11.2).bind fun v13=>((m_spec_l1Byte cb1 v13.2).bind fun v15=>(if ¬a3=0 then(some ((Int.tmod (IntKind.wrap .i64 ((IntKind.wrap .i64 ((IntKind.wrap .i64 ((IntKind.wrap .i64 (v9.1 * 16777216))+(IntKind.wrap .i64 (v11.1 * 65536))))+(IntKind.wrap .i64 (v13.1 * 256))))+v15.1)) a3),v15.2)) else none)))))))
def m_spec_l1Once(cb1:(List Int))(a2:(Int×Int))(a3:Int):Option (Bool×(Int×Int)):=
 ((m_spec_l1Below cb1 a2 a3).bind fun v4=>(some ((decide (v4.1=0)),v4.2)))
def m_spec_l1In(a1:Int)(a2:Int)(a3:Int):Option Bool:=
 (if a2≤a1 then(some (decide (a1≤a3))) else(some false))
def spec_PartsOk_j5(t5:Unit):Option Bool:=
 (some true)
def spec_PartsOk_j12(kb8:(Int→Option Bool))(s7:Int)(t12:Bool):Option Bool:=
 (if t12=true then(some false) else(kb8 (IntKind.wrap .i64 (s7+1))))
def spec_PartsOk_b7(a1:(List TPart))(kx6:(Unit→Option Bool))(kb8:(Int→Option Bool))(s7:Int):Option Bool:=
 (if s7 < (a1.length:Int) then((idx a1 s7).bind fun v10=>(if v10.Hi≤v10.Lo then((spec_PartsOk_j12 kb8 s7) true) else(if v10.Lo < 0 then((spec_PartsOk_j12 kb8 s7) true) else(if 1000 < v10.Hi then((spec_PartsOk_j12 kb8 s7) true) else((m_spec_l1In v10.Owner 0 3).bind fun v18=>(if v18=true then(if 0 < s7 then((idx a1 (IntKind.wrap .i64 (s7 - 1))).bind fun v22=>((spec_PartsOk_j12 kb8 s7) (decide (¬v22.Hi=v10.Lo)))) else((spec_PartsOk_j12 kb8 s7) false)) else((spec_PartsOk_j12 kb8 s7) true))))))) else(kx6 ()))
def spec_PartsOk_j2(a1:(List TPart))(t2:Bool):Option Bool:=
 (if t2=true then(some false) else(iter (spec_PartsOk_b7 a1 spec_PartsOk_j5) FU 0))
def m_spec_PartsOk(a1:(List TPart)):Option Bool:=
 ((m_spec_l1In (a1.length:Int) 1 16).bind fun v24=>(if v24=true then((idx a1 0).bind fun v27=>(if ¬v27.Lo=0 then((spec_PartsOk_j2 a1) true) else((idx a1 (IntKind.wrap .i64 ((a1.length:Int) - 1))).bind fun v30=>((spec_PartsOk_j2 a1) (decide (¬v30.Hi=1000)))))) else((spec_PartsOk_j2 a1) true)))
def spec_PartAt_j3(t3:Unit):Option Int:=
 (some (-1))
def spec_PartAt_j11(s5:Int)(kb6:(Int→Option Int))(t11:Bool):Option Int:=
 (if t11=true then(some s5) else(kb6 (IntKind.wrap .i64 (s5+1))))
def spec_PartAt_b5(a1:(List TPart))(a2:Int)(kx4:(Unit→Option Int))(kb6:(Int→Option Int))(s5:Int):Option Int:=
 (if s5 < (a1.length:Int) then((m_spec_PartsOk a1).bind fun v8=>(if v8=true then((idx a1 s5).bind fun v14=>(if v14.Lo≤a2 then((idx a1 s5).bind fun v17=>((spec_PartAt_j11 s5 kb6) (decide (a2 < v17.Hi)))) else((spec_PartAt_j11 s5 kb6) false))) else(kx4 ()))) else(kx4 ()))
def m_spec_PartAt(a1:(List TPart))(a2:Int):Option Int:=
 (iter (spec_PartAt_b5 a1 a2 spec_PartAt_j3) FU 0)
def spec_SplitAt_j8(t8:(List TPart)):Option ((List TPart)×Bool):=
 (some (t8,true))
def spec_SplitAt_j15(v13:TPart)(kb11:(((List TPart)×Int)→Option ((List TPart)×Bool)))(s10:((List TPart)×Int))(t15:((List TPart)×Int)):Option ((List TPart)×Bool):=
 (if (t15.1++([(TPart.mk t15.2 v13.Hi v13.Owner)])).length≤2147483648 then(kb11 ((t15.1++([(TPart.mk t15.2 v13.Hi v13.Owner)])),(IntKind.wrap .i64 (s10.2+1)))) else none)
def spec_SplitAt_b10(a1:(List TPart))(v3:Int)(a2:Int)(kx9:((List TPart)→Option ((List TPart)×Bool)))(kb11:(((List TPart)×Int)→Option ((List TPart)×Bool)))(s10:((List TPart)×Int)):Option ((List TPart)×Bool):=
 (if s10.2 < (a1.length:Int) then((idx a1 s10.2).bind fun v13=>(if s10.2=v3 then(if (s10.1++([(TPart.mk v13.Lo a2 v13.Owner)])).length≤2147483648 then((spec_SplitAt_j15 v13 kb11 s10) ((s10.1++([(TPart.mk v13.Lo a2 v13.Owner)])),a2)) else none) else((spec_SplitAt_j15 v13 kb11 s10) (s10.1,v13.Lo)))) else(kx9 s10.1))
def spec_SplitAt_j5(a1:(List TPart))(v3:Int)(a2:Int)(t5:Bool):Option ((List TPart)×Bool):=
 (if t5=true then(some (([]:(List TPart)),false)) else(iter (spec_SplitAt_b10 a1 v3 a2 spec_SplitAt_j8) FU (([]:List TPart),0)))
def m_spec_SplitAt(a1:(List TPart))(a2:Int):Option ((List TPart)×Bool):=
 ((m_spec_PartAt a1 a2).bind fun v3=>(if v3 < 0 then((spec_SplitAt_j5 a1 v3 a2) true) else((idx a1 v3).bind fun v21=>(if v21.Lo=a2 then((spec_SplitAt_j5 a1 v3 a2) true) else((spec_SplitAt_j5 a1 v3 a2) (decide ((a1.length:Int)=16)))))))
def spec_GiveTo_j6(a1:(List TPart))(v4:Int)(a3:Int)(t6:Bool):Option ((List TPart)×Bool):=
 (if t6=true then(some (([]:(List TPart)),false)) else(if a1.length≤2147483648 then((idx a1 v4).bind fun v10=>(some (a1.set (Int.toNat v4) (TPart.mk v10.Lo v10.Hi a3),true))) else none))
def m_spec_GiveTo(a1:(List TPart))(a2:Int)(a3:Int):Option ((List TPart)×Bool):=
 ((m_spec_PartAt a1 a2).bind fun v4=>(if v4 < 0 then((spec_GiveTo_j6 a1 v4 a3) true) else((m_spec_l1In a3 0 3).bind fun v13=>((spec_GiveTo_j6 a1 v4 a3) (!v13)))))
def spec_l10DrawParts_j9(t9:((List TPart)×Int×Int)):Option ((List TPart)×(Int×Int)):=
 (some (t9.1,t9.2))
def spec_l10DrawParts_j18(cb1:(List Int))(v14:(Int×(Int×Int)))(kb12:(((List TPart)×Int×Int×Int)→Option ((List TPart)×(Int×Int))))(s11:((List TPart)×Int×Int×Int))(t18:(List TPart)):Option ((List TPart)×(Int×Int)):=
 ((m_spec_l1Below cb1 v14.2 4).bind fun v20=>((m_spec_GiveTo t18 v14.1 v20.1).bind fun v22=>(kb12 (v22.1,(IntKind.wrap .i64 (s11.2.1+1)),v20.2.1,v20.2.2))))
def spec_l10DrawParts_b11(t7:(Int×Int×Int))(cb1:(List Int))(kx10:(((List TPart)×Int×Int)→Option ((List TPart)×(Int×Int))))(kb12:(((List TPart)×Int×Int×Int)→Option ((List TPart)×(Int×Int))))(s11:((List TPart)×Int×Int×Int)):Option ((List TPart)×(Int×Int)):=
 (if s11.2.1 < t7.1 then((m_spec_l1Below cb1 s11.2.2 40).bind fun v14=>((m_spec_SplitAt s11.1 v14.1).bind fun v16=>(if v16.2=true then((spec_l10DrawParts_j18 cb1 v14 kb12 s11) v16.1) else((spec_l10DrawParts_j18 cb1 v14 kb12 s11) s11.1)))) else(kx10 (s11.1,s11.2.2.1,s11.2.2.2)))
def spec_l10DrawParts_j7(cb1:(List Int))(v3:(Int×(Int×Int)))(t7:(Int×Int×Int)):Option ((List TPart)×(Int×Int)):=
 (iter (spec_l10DrawParts_b11 t7 cb1 spec_l10DrawParts_j9) FU ([(TPart.mk 0 1000 v3.1)],0,t7.2.1,t7.2.2))
def m_spec_l10DrawParts(cb1:(List Int))(a2:(Int×Int)):Option ((List TPart)×(Int×Int)):=
 ((m_spec_l1Below cb1 a2 4).bind fun v3=>((m_spec_l1Below cb1 v3.2 6).bind fun v5=>((m_spec_l1Once cb1 v5.2 20).bind fun v25=>(if v25.1=true then((spec_l10DrawParts_j7 cb1 v3) (40,v25.2.1,v25.2.2)) else((spec_l10DrawParts_j7 cb1 v3) (v5.1,v25.2.1,v25.2.2))))))
def m_spec_l10Key(a1:Int):Option Bool:=
 ((m_spec_l1In a1 0 999).bind fun v2=>(some v2))
def m_spec_l1Whole(a1:Int):Option Bool:=
 ((m_spec_l1In a1 0 1000000000).bind fun v2=>(some v2))
def spec_StoreOk_j3(t3:Unit):Option Bool:=
 (some true)
def spec_StoreOk_j8(kb6:(Int→Option Bool))(s5:Int)(t8:Bool):Option Bool:=
 (if t8=true then(some false) else(kb6 (IntKind.wrap .i64 (s5+1))))
def spec_StoreOk_b5(a1:(List TCell))(kx4:(Unit→Option Bool))(kb6:(Int→Option Bool))(s5:Int):Option Bool:=
 (if s5 < (a1.length:Int) then((idx a1 s5).bind fun v11=>((m_spec_l10Key v11.Key).bind fun v13=>(if v13=true then((idx a1 s5).bind fun v16=>((m_spec_l1Whole v16.Value).bind fun v18=>(if v18=true then(if 0 < s5 then((idx a1 (IntKind.wrap .i64 (s5 - 1))).bind fun v22=>((idx a1 s5).bind fun v24=>((spec_StoreOk_j8 kb6 s5) (decide (v24.Key≤v22.Key))))) else((spec_StoreOk_j8 kb6 s5) false)) else((spec_StoreOk_j8 kb6 s5) true)))) else((spec_StoreOk_j8 kb6 s5) true)))) else(kx4 ()))
def m_spec_StoreOk(a1:(List TCell)):Option Bool:=
 (if 60 < (a1.length:Int) then(some false) else(iter (spec_StoreOk_b5 a1 spec_StoreOk_j3) FU 0))
def m_spec_RangeOk(a1:TRange):Option Bool:=
 (if 0≤a1.Lo then(if a1.Lo < a1.Hi then(some (decide (a1.Hi≤1000))) else(some false)) else(some false))
def m_spec_l15Group(a1:Int):Option Bool:=
 ((m_spec_l1In a1 0 3).bind fun v2=>(some v2))
def spec_l15In_j3(t3:Unit):Option Bool:=
 (some true)
def spec_l15In_b5(a1:(List TCell))(a2:TMove)(kx4:(Unit→Option Bool))(kb6:(Int→Option Bool))(s5:Int):Option Bool:=
 (if s5 < (a1.length:Int) then((idx a1 s5).bind fun v8=>((m_spec_l1In v8.Key a2.Lo (IntKind.wrap .i64 (a2.Hi - 1))).bind fun v10=>(if v10=true then(kb6 (IntKind.wrap .i64 (s5+1))) else(some false)))) else(kx4 ()))
def m_spec_l15In(a1:(List TCell))(a2:TMove):Option Bool:=
 (iter (spec_l15In_b5 a1 a2 spec_l15In_j3) FU 0)
def spec_AtlasOk_j10(a1:TAtlas)(t10:Bool):Option Bool:=
 (if t10=true then(some false) else((m_spec_l15In a1.Move.Cells a1.Move).bind fun v13=>(if v13=true then(if a1.Move.Stage=2 then(some true) else(some (decide ((a1.Move.Cells.length:Int)=0)))) else(some false))))
def spec_AtlasOk_j2(a1:TAtlas)(t2:Bool):Option Bool:=
 (if t2=true then(some false) else(if a1.Move.Stage=0 then(if a1.Move.Lo=0 then(if a1.Move.Hi=0 then(if a1.Move.From=0 then(if a1.Move.To=0 then(some (decide ((a1.Move.Cells.length:Int)=0))) else(some false)) else(some false)) else(some false)) else(some false)) else(if a1.Move.No < 1 then((spec_AtlasOk_j10 a1) true) else((m_spec_RangeOk (TRange.mk a1.Move.Lo a1.Move.Hi)).bind fun v18=>(if v18=true then((m_spec_l15Group a1.Move.From).bind fun v21=>(if v21=true then((m_spec_l15Group a1.Move.To).bind fun v24=>(if v24=true then((spec_AtlasOk_j10 a1) (decide (a1.Move.From=a1.Move.To))) else((spec_AtlasOk_j10 a1) true))) else((spec_AtlasOk_j10 a1) true))) else((spec_AtlasOk_j10 a1) true))))))
def m_spec_AtlasOk(a1:TAtlas):Option Bool:=
 ((m_spec_l1In a1.Epoch 0 1000000).bind fun v27=>(if v27=true then((m_spec_PartsOk a1.Parts).bind fun v30=>(if v30=true then((m_spec_l1In a1.Move.No 0 300000).bind fun v33=>(if v33=true then((m_spec_l1In a1.Move.Stage 0 4).bind fun v36=>(if v36=true then((m_spec_StoreOk a1.Move.Cells).bind fun v39=>((spec_AtlasOk_j2 a1) (!v39))) else((spec_AtlasOk_j2 a1) true))) else((spec_AtlasOk_j2 a1) true))) else((spec_AtlasOk_j2 a1) true))) else((spec_AtlasOk_j2 a1) true)))
def m_spec_NewAtlas(a1:(List TPart)):Option TAtlas:=
 (if a1.length≤2147483648 then((m_spec_AtlasOk (TAtlas.mk 0 a1 (TMove.mk 0 0 0 0 0 0 ([]:(List TCell))))).bind fun v3=>(if v3=true then(some (TAtlas.mk 0 a1 (TMove.mk 0 0 0 0 0 0 ([]:(List TCell))))) else(some (TAtlas.mk 0 ([]:(List TPart)) (TMove.mk 0 0 0 0 0 0 ([]:(List TCell))))))) else none)
def m_spec_l1Min(a1:Int)(a2:Int):Option Int:=
 (if a1 < a2 then(some a1) else(some a2))
def spec_MoveRank_j2(a1:TMove)(t2:Bool):Option Int:=
 (if t2=true then(some 0) else((m_spec_l1Min a1.Stage 3).bind fun v5=>(some (IntKind.wrap .i64 ((IntKind.wrap .i64 (3 * (IntKind.wrap .i64 (a1.No - 1))))+v5)))))
def m_spec_MoveRank(a1:TMove):Option Int:=
 ((m_spec_l1In a1.No 1 300000).bind fun v7=>(if v7=true then((m_spec_l1In a1.Stage 1 4).bind fun v10=>((spec_MoveRank_j2 a1) (!v10))) else((spec_MoveRank_j2 a1) true)))
def m_spec_l15Copy(a1:TAtlas):Option TAtlas:=
 (if a1.Parts.length≤2147483648 then(if a1.Move.Cells.length≤2147483648 then(some a1) else none) else none)
def spec_AtlasSplit_j10(v6:TAtlas)(v8:((List TPart)×Bool))(t10:Bool):Option (TAtlas×Int):=
 (if t10=true then(some (v6,3)) else(some ((TAtlas.mk (IntKind.wrap .i64 (v6.Epoch+1)) v8.1 v6.Move),0)))
def m_spec_AtlasSplit(a1:TAtlas)(a2:Int):Option (TAtlas×Int):=
 ((m_spec_AtlasOk a1).bind fun v3=>(if v3=true then((m_spec_l15Copy a1).bind fun v6=>((m_spec_SplitAt a1.Parts a2).bind fun v8=>(if v8.2=true then((spec_AtlasSplit_j10 v6 v8) (decide (a1.Epoch=1000000))) else((spec_AtlasSplit_j10 v6 v8) true)))) else(some ((TAtlas.mk 0 ([]:(List TPart)) (TMove.mk 0 0 0 0 0 0 ([]:(List TCell)))),1))))
def spec_AtlasMove_j12(v7:TAtlas)(a1:TAtlas)(v10:Int)(a3:Int)(t12:Bool):Option (TAtlas×Int):=
 (if t12=true then(some (v7,3)) else((idx a1.Parts v10).bind fun v15=>(some ((TAtlas.mk v7.Epoch v7.Parts (TMove.mk (IntKind.wrap .i64 (a1.Move.No+1)) 1 v15.Lo v15.Hi v15.Owner a3 ([]:(List TCell)))),0))))
def m_spec_AtlasMove(a1:TAtlas)(a2:Int)(a3:Int):Option (TAtlas×Int):=
 ((m_spec_AtlasOk a1).bind fun v4=>(if v4=true then((m_spec_l15Copy a1).bind fun v7=>(if ¬a1.Move.Stage=0 then(some (v7,2)) else((m_spec_PartAt a1.Parts a2).bind fun v10=>(if v10 < 0 then((spec_AtlasMove_j12 v7 a1 v10 a3) true) else((m_spec_l15Group a3).bind fun v18=>(if v18=true then((idx a1.Parts v10).bind fun v21=>(if v21.Owner=a3 then((spec_AtlasMove_j12 v7 a1 v10 a3) true) else((spec_AtlasMove_j12 v7 a1 v10 a3) (decide (a1.Move.No=300000))))) else((spec_AtlasMove_j12 v7 a1 v10 a3) true))))))) else(some ((TAtlas.mk 0 ([]:(List TPart)) (TMove.mk 0 0 0 0 0 0 ([]:(List TCell)))),1))))
def spec_l11DrawStore_j10(t10:((List TCell)×Int×Int)):Option ((List TCell)×(Int×Int)):=
 (some (t10.1,t10.2))
def spec_l11DrawStore_b12(t6:(Int×Int×Int))(cb1:(List Int))(kx11:(((List TCell)×Int×Int)→Option ((List TCell)×(Int×Int))))(kb13:(((List TCell)×Int×Int×Int×Int)→Option ((List TCell)×(Int×Int))))(s12:((List TCell)×Int×Int×Int×Int)):Option ((List TCell)×(Int×Int)):=
 (if s12.2.2.1 < t6.1 then((m_spec_l1Below cb1 s12.2.2.2 99).bind fun v15=>(if (s12.1++([(TCell.mk s12.2.1 v15.1)])).length≤2147483648 then((m_spec_l1Below cb1 v15.2 3).bind fun v18=>(kb13 ((s12.1++([(TCell.mk s12.2.1 v15.1)])),(IntKind.wrap .i64 ((IntKind.wrap .i64 (s12.2.1+1))+v18.1)),(IntKind.wrap .i64 (s12.2.2.1+1)),v18.2.1,v18.2.2))) else none)) else(kx11 (s12.1,s12.2.2.2.1,s12.2.2.2.2)))
def spec_l11DrawStore_j6(cb1:(List Int))(t6:(Int×Int×Int)):Option ((List TCell)×(Int×Int)):=
 ((m_spec_l1Below cb1 t6.2 4).bind fun v8=>(iter (spec_l11DrawStore_b12 t6 cb1 spec_l11DrawStore_j10) FU (([]:List TCell),v8.1,0,v8.2.1,v8.2.2)))
def m_spec_l11DrawStore(cb1:(List Int))(a2:(Int×Int))(a3:Int):Option ((List TCell)×(Int×Int)):=
 ((m_spec_l1Below cb1 a2 (IntKind.wrap .i64 (a3+1))).bind fun v4=>((m_spec_l1Once cb1 v4.2 20).bind fun v20=>(if v20.1=true then((spec_l11DrawStore_j6 cb1) (60,v20.2.1,v20.2.2)) else((spec_l11DrawStore_j6 cb1) (v4.1,v20.2.1,v20.2.2)))))
def spec_l11Scan_j4(t4:(List TCell)):Option (List TCell):=
 (some t4)
def spec_l11Scan_b6(a1:(List TCell))(a2:TRange)(a3:Bool)(kx5:((List TCell)→Option (List TCell)))(kb7:(((List TCell)×Int)→Option (List TCell)))(s6:((List TCell)×Int)):Option (List TCell):=
 (if s6.2 < (a1.length:Int) then((m_spec_StoreOk a1).bind fun v9=>(if v9=true then((m_spec_RangeOk a2).bind fun v12=>(if v12=true then((idx a1 s6.2).bind fun v15=>((m_spec_l1In v15.Key a2.Lo (IntKind.wrap .i64 (a2.Hi - 1))).bind fun v17=>(if (v17 == a3)=true then((idx a1 s6.2).bind fun v20=>(if (s6.1++([v20])).length≤2147483648 then(kb7 ((s6.1++([v20])),(IntKind.wrap .i64 (s6.2+1)))) else none)) else(kb7 (s6.1,(IntKind.wrap .i64 (s6.2+1))))))) else(kx5 s6.1))) else(kx5 s6.1))) else(kx5 s6.1))
def m_spec_l11Scan(a1:(List TCell))(a2:TRange)(a3:Bool):Option (List TCell):=
 (iter (spec_l11Scan_b6 a1 a2 a3 spec_l11Scan_j4) FU (([]:List TCell),0))
def m_spec_StoreScan(a1:(List TCell))(a2:TRange):Option (List TCell):=
 ((m_spec_l11Scan a1 a2 true).bind fun v3=>(some v3))
def spec_AtlasFrozen_j9(v7:TAtlas)(a3:(List TCell))(t9:Bool):Option (TAtlas×Int):=
 (if t9=true then(some (v7,3)) else(if a3.length≤2147483648 then(some ((TAtlas.mk v7.Epoch v7.Parts (TMove.mk v7.Move.No 2 v7.Move.Lo v7.Move.Hi v7.Move.From v7.Move.To a3)),0)) else none))
def m_spec_AtlasFrozen(a1:TAtlas)(a2:Int)(a3:(List TCell)):Option (TAtlas×Int):=
 ((m_spec_AtlasOk a1).bind fun v4=>(if v4=true then((m_spec_l15Copy a1).bind fun v7=>(if ¬a1.Move.Stage=1 then((spec_AtlasFrozen_j9 v7 a3) true) else((m_spec_MoveRank a1.Move).bind fun v14=>(if ¬v14=a2 then((spec_AtlasFrozen_j9 v7 a3) true) else((m_spec_StoreOk a3).bind fun v17=>(if v17=true then((m_spec_l15In a3 a1.Move).bind fun v20=>((spec_AtlasFrozen_j9 v7 a3) (!v20))) else((spec_AtlasFrozen_j9 v7 a3) true))))))) else(some ((TAtlas.mk 0 ([]:(List TPart)) (TMove.mk 0 0 0 0 0 0 ([]:(List TCell)))),1))))
def spec_AtlasInstalled_j13(v7:TAtlas)(t13:(List TPart)):Option (TAtlas×Int):=
 (some ((TAtlas.mk (IntKind.wrap .i64 (v7.Epoch+1)) t13 (TMove.mk v7.Move.No 3 v7.Move.Lo v7.Move.Hi v7.Move.From v7.Move.To ([]:(List TCell)))),0))
def spec_AtlasInstalled_j18(s15:(Int×(List TPart)))(kb16:((Int×(List TPart))→Option (TAtlas×Int)))(a1:TAtlas)(t18:Bool):Option (TAtlas×Int):=
 (if t18=true then((idx s15.2 s15.1).bind fun v21=>(kb16 ((IntKind.wrap .i64 (s15.1+1)),s15.2.set (Int.toNat s15.1) (TPart.mk v21.Lo v21.Hi a1.Move.To)))) else(kb16 ((IntKind.wrap .i64 (s15.1+1)),s15.2)))
def spec_AtlasInstalled_b15(a1:TAtlas)(kx14:((List TPart)→Option (TAtlas×Int)))(kb16:((Int×(List TPart))→Option (TAtlas×Int)))(s15:(Int×(List TPart))):Option (TAtlas×Int):=
 (if s15.1 < ((s15.2.length:Nat):Int) then((idx s15.2 s15.1).bind fun v23=>(if a1.Move.Lo≤v23.Lo then((idx s15.2 s15.1).bind fun v26=>((spec_AtlasInstalled_j18 s15 kb16 a1) (decide (v26.Hi≤a1.Move.Hi)))) else((spec_AtlasInstalled_j18 s15 kb16 a1) false))) else(kx14 s15.2))
def spec_AtlasInstalled_j9(v7:TAtlas)(a3:Bool)(a1:TAtlas)(t9:Bool):Option (TAtlas×Int):=
 (if t9=true then(some (v7,3)) else(if a3=true then(iter (spec_AtlasInstalled_b15 a1 (spec_AtlasInstalled_j13 v7)) FU (0,v7.Parts)) else(some ((TAtlas.mk v7.Epoch v7.Parts (TMove.mk v7.Move.No 4 v7.Move.Lo v7.Move.Hi v7.Move.From v7.Move.To ([]:(List TCell)))),0))))
def m_spec_AtlasInstalled(a1:TAtlas)(a2:Int)(a3:Bool):Option (TAtlas×Int):=
 ((m_spec_AtlasOk a1).bind fun v4=>(if v4=true then((m_spec_l15Copy a1).bind fun v7=>(if ¬a1.Move.Stage=2 then((spec_AtlasInstalled_j9 v7 a3 a1) true) else((m_spec_MoveRank a1.Move).bind fun v29=>(if ¬v29=a2 then((spec_AtlasInstalled_j9 v7 a3 a1) true) else(if a3=true then((spec_AtlasInstalled_j9 v7 a3 a1) (decide (a1.Epoch=1000000))) else((spec_AtlasInstalled_j9 v7 a3 a1) false)))))) else(some ((TAtlas.mk 0 ([]:(List TPart)) (TMove.mk 0 0 0 0 0 0 ([]:(List TCell)))),1))))
def spec_AtlasGone_j8(v6:TAtlas)(a1:TAtlas)(t8:Bool):Option (TAtlas×Int):=
 (if t8=true then(some (v6,3)) else(some ((TAtlas.mk v6.Epoch v6.Parts (TMove.mk a1.Move.No 0 0 0 0 0 ([]:(List TCell)))),0)))
def m_spec_AtlasGone(a1:TAtlas)(a2:Int):Option (TAtlas×Int):=
 ((m_spec_AtlasOk a1).bind fun v3=>(if v3=true then((m_spec_l15Copy a1).bind fun v6=>(if a1.Move.Stage < 3 then((spec_AtlasGone_j8 v6 a1) true) else((m_spec_MoveRank a1.Move).bind fun v12=>((spec_AtlasGone_j8 v6 a1) (decide (¬v12=a2)))))) else(some ((TAtlas.mk 0 ([]:(List TPart)) (TMove.mk 0 0 0 0 0 0 ([]:(List TCell)))),1))))
def spec_l15DrawAtlas_j10(t10:(Int×Int×Int×(List TPart)×Int×Int×Int×Int×Int×Int×(List TCell))):Option (TAtlas×(Int×Int)):=
 (some ((TAtlas.mk t10.2.2.1 t10.2.2.2.1 (TMove.mk t10.2.2.2.2.1 t10.2.2.2.2.2.1 t10.2.2.2.2.2.2.1 t10.2.2.2.2.2.2.2.1 t10.2.2.2.2.2.2.2.2.1 t10.2.2.2.2.2.2.2.2.2.1 t10.2.2.2.2.2.2.2.2.2.2)),(t10.1,t10.2.1)))
def spec_l15DrawAtlas_j17(kb13:((Int×Int×Int×Int×(List TPart)×Int×Int×Int×Int×Int×Int×(List TCell))→Option (TAtlas×(Int×Int))))(s12:(Int×Int×Int×Int×(List TPart)×Int×Int×Int×Int×Int×Int×(List TCell)))(t17:(Int×Int×Int×Int×(List TPart)×Int×Int×Int×Int×Int×Int×(List TCell))):Option (TAtlas×(Int×Int)):=
 (if ¬t17.1=1 then(kb13 ((IntKind.wrap .i64 (s12.1+1)),t17.2.1,t17.2.2.1,t17.2.2.2.1,t17.2.2.2.2.1,t17.2.2.2.2.2.1,t17.2.2.2.2.2.2.1,t17.2.2.2.2.2.2.2.1,t17.2.2.2.2.2.2.2.2.1,t17.2.2.2.2.2.2.2.2.2.1,t17.2.2.2.2.2.2.2.2.2.2.1,t17.2.2.2.2.2.2.2.2.2.2.2)) else(kb13 ((IntKind.wrap .i64 (s12.1+1)),t17.2.1,t17.2.2.1,s12.2.2.2.1,s12.2.2.2.2.1,s12.2.2.2.2.2.1,s12.2.2.2.2.2.2.1,s12.2.2.2.2.2.2.2.1,s12.2.2.2.2.2.2.2.2.1,s12.2.2.2.2.2.2.2.2.2.1,s12.2.2.2.2.2.2.2.2.2.2.1,s12.2.2.2.2.2.2.2.2.2.2.2)))
def spec_l15DrawAtlas_j27(cb1:(List Int))(v20:(Int×(Int×Int)))(s12:(Int×Int×Int×Int×(List TPart)×Int×Int×Int×Int×Int×Int×(List TCell)))(kx18:((Int×Int×Int×Int×(List TPart)×Int×Int×Int×Int×Int×Int×(List TCell))→Option (TAtlas×(Int×Int))))(v15:Int)(t27:Bool):Option (TAtlas×(Int×Int)):=
 (if t27=true then((m_spec_l1Below cb1 v20.2 60).bind fun v30=>((m_spec_l1Below cb1 v30.2 4).bind fun v32=>((m_spec_AtlasMove (TAtlas.mk s12.2.2.2.1 s12.2.2.2.2.1 (TMove.mk s12.2.2.2.2.2.1 s12.2.2.2.2.2.2.1 s12.2.2.2.2.2.2.2.1 s12.2.2.2.2.2.2.2.2.1 s12.2.2.2.2.2.2.2.2.2.1 s12.2.2.2.2.2.2.2.2.2.2.1 s12.2.2.2.2.2.2.2.2.2.2.2)) v30.1 v32.1).bind fun v34=>(kx18 (v34.2,v32.2.1,v32.2.2,v34.1.Epoch,v34.1.Parts,v34.1.Move.No,v34.1.Move.Stage,v34.1.Move.Lo,v34.1.Move.Hi,v34.1.Move.From,v34.1.Move.To,v34.1.Move.Cells))))) else(if v20.1=3 then((m_spec_l11DrawStore cb1 v20.2 20).bind fun v37=>((m_spec_StoreScan v37.1 (TRange.mk s12.2.2.2.2.2.2.2.1 s12.2.2.2.2.2.2.2.2.1)).bind fun v39=>((m_spec_AtlasFrozen (TAtlas.mk s12.2.2.2.1 s12.2.2.2.2.1 (TMove.mk s12.2.2.2.2.2.1 s12.2.2.2.2.2.2.1 s12.2.2.2.2.2.2.2.1 s12.2.2.2.2.2.2.2.2.1 s12.2.2.2.2.2.2.2.2.2.1 s12.2.2.2.2.2.2.2.2.2.2.1 s12.2.2.2.2.2.2.2.2.2.2.2)) v15 v39).bind fun v41=>(kx18 (v41.2,v37.2.1,v37.2.2,v41.1.Epoch,v41.1.Parts,v41.1.Move.No,v41.1.Move.Stage,v41.1.Move.Lo,v41.1.Move.Hi,v41.1.Move.From,v41.1.Move.To,v41.1.Move.Cells))))) else(if v20.1=4 then((m_spec_l1Once cb1 v20.2 3).bind fun v44=>((m_spec_AtlasInstalled (TAtlas.mk s12.2.2.2.1 s12.2.2.2.2.1 (TMove.mk s12.2.2.2.2.2.1 s12.2.2.2.2.2.2.1 s12.2.2.2.2.2.2.2.1 s12.2.2.2.2.2.2.2.2.1 s12.2.2.2.2.2.2.2.2.2.1 s12.2.2.2.2.2.2.2.2.2.2.1 s12.2.2.2.2.2.2.2.2.2.2.2)) v15 (!v44.1)).bind fun v46=>(kx18 (v46.2,v44.2.1,v44.2.2,v46.1.Epoch,v46.1.Parts,v46.1.Move.No,v46.1.Move.Stage,v46.1.Move.Lo,v46.1.Move.Hi,v46.1.Move.From,v46.1.Move.To,v46.1.Move.Cells)))) else((m_spec_AtlasGone (TAtlas.mk s12.2.2.2.1 s12.2.2.2.2.1 (TMove.mk s12.2.2.2.2.2.1 s12.2.2.2.2.2.2.1 s12.2.2.2.2.2.2.2.1 s12.2.2.2.2.2.2.2.2.1 s12.2.2.2.2.2.2.2.2.2.1 s12.2.2.2.2.2.2.2.2.2.2.1 s12.2.2.2.2.2.2.2.2.2.2.2)) v15).bind fun v48=>(kx18 (v48.2,v20.2.1,v20.2.2,v48.1.Epoch,v48.1.Parts,v48.1.Move.No,v48.1.Move.Stage,v48.1.Move.Lo,v48.1.Move.Hi,v48.1.Move.From,v48.1.Move.To,v48.1.Move.Cells))))))
def spec_l15DrawAtlas_b12(v8:(Int×(Int×Int)))(cb1:(List Int))(kx11:((Int×Int×Int×(List TPart)×Int×Int×Int×Int×Int×Int×(List TCell))→Option (TAtlas×(Int×Int))))(kb13:((Int×Int×Int×Int×(List TPart)×Int×Int×Int×Int×Int×Int×(List TCell))→Option (TAtlas×(Int×Int))))(s12:(Int×Int×Int×Int×(List TPart)×Int×Int×Int×Int×Int×Int×(List TCell))):Option (TAtlas×(Int×Int)):=
 (if s12.1 < v8.1 then((m_spec_MoveRank (TMove.mk s12.2.2.2.2.2.1 s12.2.2.2.2.2.2.1 s12.2.2.2.2.2.2.2.1 s12.2.2.2.2.2.2.2.2.1 s12.2.2.2.2.2.2.2.2.2.1 s12.2.2.2.2.2.2.2.2.2.2.1 s12.2.2.2.2.2.2.2.2.2.2.2)).bind fun v15=>((m_spec_l1Below cb1 (s12.2.1,s12.2.2.1) 6).bind fun v20=>(if v20.1=0 then((m_spec_l1Below cb1 v20.2 60).bind fun v23=>((m_spec_AtlasSplit (TAtlas.mk s12.2.2.2.1 s12.2.2.2.2.1 (TMove.mk s12.2.2.2.2.2.1 s12.2.2.2.2.2.2.1 s12.2.2.2.2.2.2.2.1 s12.2.2.2.2.2.2.2.2.1 s12.2.2.2.2.2.2.2.2.2.1 s12.2.2.2.2.2.2.2.2.2.2.1 s12.2.2.2.2.2.2.2.2.2.2.2)) v23.1).bind fun v25=>((spec_l15DrawAtlas_j17 kb13 s12) (v25.2,v23.2.1,v23.2.2,v25.1.Epoch,v25.1.Parts,v25.1.Move.No,v25.1.Move.Stage,v25.1.Move.Lo,v25.1.Move.Hi,v25.1.Move.From,v25.1.Move.To,v25.1.Move.Cells)))) else(if v20.1=1 then((spec_l15DrawAtlas_j27 cb1 v20 s12 (spec_l15DrawAtlas_j17 kb13 s12) v15) (decide (v20.1=1))) else((spec_l15DrawAtlas_j27 cb1 v20 s12 (spec_l15DrawAtlas_j17 kb13 s12) v15) (decide (v20.1=2))))))) else(kx11 (s12.2.1,s12.2.2.1,s12.2.2.2.1,s12.2.2.2.2.1,s12.2.2.2.2.2.1,s12.2.2.2.2.2.2.1,s12.2.2.2.2.2.2.2.1,s12.2.2.2.2.2.2.2.2.1,s12.2.2.2.2.2.2.2.2.2.1,s12.2.2.2.2.2.2.2.2.2.2.1,s12.2.2.2.2.2.2.2.2.2.2.2)))
def m_spec_l15DrawAtlas(cb1:(List Int))(a2:(Int×Int))(a3:Int):Option (TAtlas×(Int×Int)):=
 ((m_spec_l10DrawParts cb1 a2).bind fun v4=>((m_spec_NewAtlas v4.1).bind fun v6=>((m_spec_l1Below cb1 v4.2 (IntKind.wrap .i64 (a3+1))).bind fun v8=>(iter (spec_l15DrawAtlas_b12 v8 cb1 spec_l15DrawAtlas_j10) FU (0,v8.2.1,v8.2.2,v6.Epoch,v6.Parts,v6.Move.No,v6.Move.Stage,v6.Move.Lo,v6.Move.Hi,v6.Move.From,v6.Move.To,v6.Move.Cells)))))
def m_spec_l1PickInt(cb1:(List Int))(a2:(Int×Int))(a3:(List Int)):Option (Int×(Int×Int)):=
 ((m_spec_l1Below cb1 a2 (a3.length:Int)).bind fun v4=>((idx a3 v4.1).bind fun v6=>(some (v6,v4.2))))
def m_spec_l10DrawAny(cb1:(List Int))(a2:(Int×Int)):Option ((List TPart)×(Int×Int)):=
 ((m_spec_l10DrawParts cb1 a2).bind fun v3=>((m_spec_l1Below cb1 v3.2 ((v3.1.length:Nat):Int)).bind fun v5=>((m_spec_l1Below cb1 v5.2 25).bind fun v7=>(if v7.1=0 then((idx v3.1 v5.1).bind fun v10=>((idx v3.1 v5.1).bind fun v12=>(some (v3.1.set (Int.toNat v5.1) (TPart.mk (IntKind.wrap .i64 (v10.Lo+1)) v12.Hi v12.Owner),v7.2)))) else(if v7.1=1 then((m_spec_l1PickInt cb1 v7.2 ([(-1),4])).bind fun v15=>((idx v3.1 v5.1).bind fun v17=>(some (v3.1.set (Int.toNat v5.1) (TPart.mk v17.Lo v17.Hi v15.1),v15.2)))) else(if v7.1=2 then(if (0:Int)≤0∧0≤v5.1∧v5.1≤((v3.1.length:Nat):Int) then(some ((List.take (Int.toNat v5.1) v3.1),v7.2)) else none) else(if v7.1=3 then((idx v3.1 v5.1).bind fun v22=>((idx v3.1 v5.1).bind fun v24=>(some (v3.1.set (Int.toNat v5.1) (TPart.mk v24.Lo v22.Lo v24.Owner),v7.2)))) else(some (v3.1,v7.2)))))))))
def m_spec_l11DrawAny(cb1:(List Int))(a2:(Int×Int))(a3:Int):Option ((List TCell)×(Int×Int)):=
 ((m_spec_l11DrawStore cb1 a2 a3).bind fun v4=>((m_spec_l1Below cb1 v4.2 25).bind fun v6=>(if v6.1=0 then((m_spec_l1PickInt cb1 v6.2 ([(-1),0,999,1000])).bind fun v9=>(if (v4.1++([(TCell.mk v9.1 0)])).length≤2147483648 then(some ((v4.1++([(TCell.mk v9.1 0)])),v9.2)) else none)) else(if v6.1=1 then((m_spec_l1PickInt cb1 v6.2 ([(-1),1000000000,1000000001])).bind fun v13=>(if (v4.1++([(TCell.mk 900 v13.1)])).length≤2147483648 then(some ((v4.1++([(TCell.mk 900 v13.1)])),v13.2)) else none)) else(some (v4.1,v6.2))))))
def m_spec_l15DrawAny(cb1:(List Int))(a2:(Int×Int))(a3:Int):Option (TAtlas×(Int×Int)):=
 ((m_spec_l15DrawAtlas cb1 a2 a3).bind fun v4=>((m_spec_l1Below cb1 v4.2 30).bind fun v6=>(if v6.1=0 then((m_spec_l1PickInt cb1 v6.2 ([(-1),1000000,1000001])).bind fun v9=>(some ((TAtlas.mk v9.1 v4.1.Parts v4.1.Move),v9.2))) else(if v6.1=1 then((m_spec_l10DrawAny cb1 v6.2).bind fun v12=>(some ((TAtlas.mk v4.1.Epoch v12.1 v4.1.Move),v12.2))) else(if v6.1=2 then((m_spec_l1PickInt cb1 v6.2 ([(-1),0,300000,300001])).bind fun v15=>(some ((TAtlas.mk v4.1.Epoch v4.1.Parts (TMove.mk v15.1 v4.1.Move.Stage v4.1.Move.Lo v4.1.Move.Hi v4.1.Move.From v4.1.Move.To v4.1.Move.Cells)),v15.2))) else(if v6.1=3 then((m_spec_l1Below cb1 v6.2 7).bind fun v18=>(some ((TAtlas.mk v4.1.Epoch v4.1.Parts (TMove.mk v4.1.Move.No (IntKind.wrap .i64 (v18.1 - 1)) v4.1.Move.Lo v4.1.Move.Hi v4.1.Move.From v4.1.Move.To v4.1.Move.Cells)),v18.2))) else(if v6.1=4 then((m_spec_l11DrawAny cb1 v6.2 4).bind fun v21=>(some ((TAtlas.mk v4.1.Epoch v4.1.Parts (TMove.mk v4.1.Move.No v4.1.Move.Stage v4.1.Move.Lo v4.1.Move.Hi v4.1.Move.From v4.1.Move.To v21.1)),v21.2))) else(if v6.1=5 then((m_spec_l1Below cb1 v6.2 6).bind fun v24=>(some ((TAtlas.mk v4.1.Epoch v4.1.Parts (TMove.mk v4.1.Move.No v4.1.Move.Stage v4.1.Move.Lo v4.1.Move.Hi v4.1.Move.From (IntKind.wrap .i64 (v24.1 - 1)) v4.1.Move.Cells)),v24.2))) else(some (v4.1,v6.2))))))))))
def m_spec_l10DrawKey(cb1:(List Int))(a2:(Int×Int)):Option (Int×(Int×Int)):=
 ((m_spec_l1Once cb1 a2 12).bind fun v3=>(if v3.1=true then((m_spec_l1PickInt cb1 v3.2 ([(-1),0,999,1000])).bind fun v6=>(some (v6.1,v6.2))) else((m_spec_l1Below cb1 v3.2 45).bind fun v8=>(some (v8.1,v8.2)))))
def m_spec_DrawAtlasMove(cb1:(List Int)):Option (TAtlas×Int×Int):=
 ((m_spec_l1New cb1).bind fun v2=>((m_spec_l1Size cb1 20).bind fun v4=>((m_spec_l15DrawAny cb1 v2 v4).bind fun v6=>((m_spec_l10DrawKey cb1 v6.2).bind fun v8=>((m_spec_l1Below cb1 v8.2 6).bind fun v10=>(some (v6.1,v8.1,(IntKind.wrap .i64 (v10.1 - 1)))))))))
def m_impl_from(a1:Int)(a2:Int)(a3:Int):Option Bool:=
 (if a2≤a1 then(some (decide (a1≤a3))) else(some false))
def m_impl_isGroup(a1:Int):Option Bool:=
 ((m_impl_from a1 0 3).bind fun v2=>(some v2))
def impl_PartsOk_j2(a1:(List TPart))(t2:Int):Option Bool:=
 ((m_impl_from (a1.length:Int) 1 16).bind fun v4=>(if v4=true then(some (decide (t2=1000))) else(some false)))
def impl_PartsOk_j12(kb8:((Int×Int)→Option Bool))(v10:TPart)(s7:(Int×Int))(t12:Bool):Option Bool:=
 (if t12=true then(some false) else(kb8 (v10.Hi,(IntKind.wrap .i64 (s7.2+1)))))
def impl_PartsOk_b7(a1:(List TPart))(kx3:(Int→Option Bool))(kb8:((Int×Int)→Option Bool))(s7:(Int×Int)):Option Bool:=
 (if s7.2 < (a1.length:Int) then((idx a1 s7.2).bind fun v10=>(if ¬v10.Lo=s7.1 then((impl_PartsOk_j12 kb8 v10 s7) true) else(if v10.Hi≤v10.Lo then((impl_PartsOk_j12 kb8 v10 s7) true) else((m_impl_isGroup v10.Owner).bind fun v17=>((impl_PartsOk_j12 kb8 v10 s7) (!v17)))))) else(kx3 s7.1))
def m_impl_PartsOk(a1:(List TPart)):Option Bool:=
 (iter (impl_PartsOk_b7 a1 (impl_PartsOk_j2 a1)) FU (0,0))
def m_impl_Move_keys(a1:TMove):Option TRange:=
 (some (TRange.mk a1.Lo a1.Hi))
def m_impl_RangeOk(a1:TRange):Option Bool:=
 (if 0≤a1.Lo then(if a1.Lo < a1.Hi then(some (decide (a1.Hi≤1000))) else(some false)) else(some false))
def m_impl_isKey(a1:Int):Option Bool:=
 ((m_impl_from a1 0 999).bind fun v2=>(some v2))
def m_impl_isWhole(a1:Int):Option Bool:=
 ((m_impl_from a1 0 1000000000).bind fun v2=>(some v2))
def impl_StoreOk_j2(a1:(List TCell))(t2:Unit):Option Bool:=
 (some (decide ((a1.length:Int)≤60)))
def impl_StoreOk_j9(kb5:(Int→Option Bool))(s4:Int)(t9:Bool):Option Bool:=
 (if t9=true then(some false) else(kb5 (IntKind.wrap .i64 (s4+1))))
def impl_StoreOk_b4(a1:(List TCell))(kx3:(Unit→Option Bool))(kb5:(Int→Option Bool))(s4:Int):Option Bool:=
 (if s4 < (a1.length:Int) then((idx a1 s4).bind fun v7=>((m_impl_isKey v7.Key).bind fun v12=>(if v12=true then((m_impl_isWhole v7.Value).bind fun v15=>(if v15=true then(if 0 < s4 then((idx a1 (IntKind.wrap .i64 (s4 - 1))).bind fun v19=>((impl_StoreOk_j9 kb5 s4) (decide (v7.Key≤v19.Key)))) else((impl_StoreOk_j9 kb5 s4) false)) else((impl_StoreOk_j9 kb5 s4) true))) else((impl_StoreOk_j9 kb5 s4) true)))) else(kx3 ()))
def m_impl_StoreOk(a1:(List TCell)):Option Bool:=
 (iter (impl_StoreOk_b4 a1 (impl_StoreOk_j2 a1)) FU 0)
def m_impl_Range_has(a1:TRange)(a2:Int):Option Bool:=
 ((m_impl_from a2 a1.Lo (IntKind.wrap .i64 (a1.Hi - 1))).bind fun v3=>(some v3))
def m_impl_cellsIn_1(a1:TCell)(a2:TRange):Option Bool:=
 ((m_impl_Range_has a2 a1.Key).bind fun v3=>(some (!v3)))
def slices_IndexFunc_Cell__cellsIn_1_j3(t3:Unit):Option Int:=
 (some (-1))
def slices_IndexFunc_Cell__cellsIn_1_b5(a1:(List TCell))(a2:TRange)(kx4:(Unit→Option Int))(kb6:(Int→Option Int))(s5:Int):Option Int:=
 (if s5 < (a1.length:Int) then((idx a1 s5).bind fun v8=>((m_impl_cellsIn_1 v8 a2).bind fun v10=>(if v10=true then(some s5) else(kb6 (IntKind.wrap .i64 (s5+1)))))) else(kx4 ()))
def m_slices_IndexFunc_Cell__cellsIn_1(a1:(List TCell))(a2:TRange):Option Int:=
 (iter (slices_IndexFunc_Cell__cellsIn_1_b5 a1 a2 slices_IndexFunc_Cell__cellsIn_1_j3) FU 0)
def m_slices_ContainsFunc_Cell__cellsIn_1(a1:(List TCell))(a2:TRange):Option Bool:=
 ((m_slices_IndexFunc_Cell__cellsIn_1 a1 a2).bind fun v3=>(some (decide (0≤v3))))
def m_impl_cellsIn(a1:(List TCell))(a2:TRange):Option Bool:=
 ((m_impl_StoreOk a1).bind fun v3=>(if v3=true then((m_slices_ContainsFunc_Cell__cellsIn_1 a1 a2).bind fun v6=>(some (!v6))) else(some false)))
def impl_moveOk_j2(a1:TMove)(t2:Bool):Option Bool:=
 (if t2=true then(some false) else(if a1.Stage=0 then(if a1.Lo=0 then(if a1.Hi=0 then(if a1.From=0 then(if a1.To=0 then(some (decide ((a1.Cells.length:Int)=0))) else(some false)) else(some false)) else(some false)) else(some false)) else(if 1≤a1.No then((m_impl_Move_keys a1).bind fun v11=>((m_impl_RangeOk v11).bind fun v13=>(if v13=true then((m_impl_isGroup a1.From).bind fun v16=>(if v16=true then((m_impl_isGroup a1.To).bind fun v19=>(if v19=true then(if ¬a1.From=a1.To then((m_impl_Move_keys a1).bind fun v23=>((m_impl_cellsIn a1.Cells v23).bind fun v25=>(if v25=true then(if a1.Stage=2 then(some true) else(some (decide ((a1.Cells.length:Int)=0)))) else(some false)))) else(some false)) else(some false))) else(some false))) else(some false)))) else(some false))))
def m_impl_moveOk(a1:TMove):Option Bool:=
 ((m_impl_from a1.No 0 300000).bind fun v29=>(if v29=true then((m_impl_from a1.Stage 0 4).bind fun v32=>((impl_moveOk_j2 a1) (!v32))) else((impl_moveOk_j2 a1) true)))
def m_impl_AtlasOk(a1:TAtlas):Option Bool:=
 ((m_impl_from a1.Epoch 0 1000000).bind fun v2=>(if v2=true then((m_impl_PartsOk a1.Parts).bind fun v5=>(if v5=true then((m_impl_moveOk a1.Move).bind fun v8=>(some v8)) else(some false))) else(some false)))
def slices_Clone_Part_j2(a1:(List TPart))(t2:Unit):Option (List TPart):=
 (if a1.length≤2147483648 then(some a1) else none)
def m_slices_Clone_Part(a1:(List TPart)):Option (List TPart):=
 (if a1.length=0 then((slices_Clone_Part_j2 a1) ()) else((slices_Clone_Part_j2 a1) ()))
def slices_Clone_Cell_j2(a1:(List TCell))(t2:Unit):Option (List TCell):=
 (if a1.length≤2147483648 then(some a1) else none)
def m_slices_Clone_Cell(a1:(List TCell)):Option (List TCell):=
 (if a1.length=0 then((slices_Clone_Cell_j2 a1) ()) else((slices_Clone_Cell_j2 a1) ()))
def m_impl_copyAtlas(a1:TAtlas):Option TAtlas:=
 ((m_slices_Clone_Part a1.Parts).bind fun v2=>((m_slices_Clone_Cell a1.Move.Cells).bind fun v4=>(some (TAtlas.mk a1.Epoch v2 (TMove.mk a1.Move.No a1.Move.Stage a1.Move.Lo a1.Move.Hi a1.Move.From a1.Move.To v4)))))
def m_impl_partAt_1(a1:TPart)(a2:Int):Option Bool:=
 ((m_impl_from a2 a1.Lo (IntKind.wrap .i64 (a1.Hi - 1))).bind fun v3=>(some v3))
def slices_IndexFunc_Part__partAt_1_j3(t3:Unit):Option Int:=
 (some (-1))
def slices_IndexFunc_Part__partAt_1_b5(a1:(List TPart))(a2:Int)(kx4:(Unit→Option Int))(kb6:(Int→Option Int))(s5:Int):Option Int:=
 (if s5 < (a1.length:Int) then((idx a1 s5).bind fun v8=>((m_impl_partAt_1 v8 a2).bind fun v10=>(if v10=true then(some s5) else(kb6 (IntKind.wrap .i64 (s5+1)))))) else(kx4 ()))
def m_slices_IndexFunc_Part__partAt_1(a1:(List TPart))(a2:Int):Option Int:=
 (iter (slices_IndexFunc_Part__partAt_1_b5 a1 a2 slices_IndexFunc_Part__partAt_1_j3) FU 0)
def m_impl_partAt(a1:(List TPart))(a2:Int):Option Int:=
 ((m_slices_IndexFunc_Part__partAt_1 a1 a2).bind fun v3=>(some v3))
def impl_AtlasMove_j12(v7:TAtlas)(a1:TAtlas)(v9:Int)(a3:Int)(t12:Bool):Option (TAtlas×Int):=
 (if t12=true then(some (v7,3)) else((idx a1.Parts v9).bind fun v15=>(some ((TAtlas.mk v7.Epoch v7.Parts (TMove.mk (IntKind.wrap .i64 (a1.Move.No+1)) 1 v15.Lo v15.Hi v15.Owner a3 ([]:(List TCell)))),0))))
def m_impl_AtlasMove(a1:TAtlas)(a2:Int)(a3:Int):Option (TAtlas×Int):=
 ((m_impl_AtlasOk a1).bind fun v4=>(if v4=true then((m_impl_copyAtlas a1).bind fun v7=>((m_impl_partAt a1.Parts a2).bind fun v9=>(if ¬a1.Move.Stage=0 then(some (v7,2)) else(if v9 < 0 then((impl_AtlasMove_j12 v7 a1 v9 a3) true) else((m_impl_isGroup a3).bind fun v18=>(if v18=true then((idx a1.Parts v9).bind fun v21=>(if a3=v21.Owner then((impl_AtlasMove_j12 v7 a1 v9 a3) true) else((impl_AtlasMove_j12 v7 a1 v9 a3) (decide (a1.Move.No=300000))))) else((impl_AtlasMove_j12 v7 a1 v9 a3) true))))))) else(some ((TAtlas.mk 0 ([]:(List TPart)) (TMove.mk 0 0 0 0 0 0 ([]:(List TCell)))),1))))
def impl_MoveRank_j2(a1:TMove)(t2:Bool):Option Int:=
 (if t2=true then(some 0) else(some (IntKind.wrap .i64 ((IntKind.wrap .i64 (3 * (IntKind.wrap .i64 (a1.No - 1))))+(if 3 < a1.Stage then 3 else a1.Stage)))))
def m_impl_MoveRank(a1:TMove):Option Int:=
 ((m_impl_from a1.No 1 300000).bind fun v5=>(if v5=true then((m_impl_from a1.Stage 1 4).bind fun v8=>((impl_MoveRank_j2 a1) (!v8))) else((impl_MoveRank_j2 a1) true)))
def m_impl_RangeIn(a1:TRange)(a2:TRange):Option Bool:=
 ((m_impl_RangeOk a1).bind fun v3=>(if v3=true then((m_impl_RangeOk a2).bind fun v6=>(if v6=true then(if a2.Lo≤a1.Lo then(some (decide (a1.Hi≤a2.Hi))) else(some false)) else(some false))) else(some false)))
def impl_AtlasInstalled_j13(v7:TAtlas)(t13:(List TPart)):Option (TAtlas×Int):=
 (some ((TAtlas.mk (IntKind.wrap .i64 (v7.Epoch+1)) t13 (TMove.mk v7.Move.No 3 v7.Move.Lo v7.Move.Hi v7.Move.From v7.Move.To ([]:(List TCell)))),0))
def impl_AtlasInstalled_b15(v7:TAtlas)(a1:TAtlas)(kx14:((List TPart)→Option (TAtlas×Int)))(kb16:(((List TPart)×Int)→Option (TAtlas×Int)))(s15:((List TPart)×Int)):Option (TAtlas×Int):=
 (if s15.2 < ((v7.Parts.length:Nat):Int) then((idx s15.1 s15.2).bind fun v18=>((m_impl_Move_keys a1.Move).bind fun v20=>((m_impl_RangeIn (TRange.mk v18.Lo v18.Hi) v20).bind fun v22=>(if v22=true then((idx s15.1 s15.2).bind fun v25=>(kb16 (s15.1.set (Int.toNat s15.2) (TPart.mk v25.Lo v25.Hi a1.Move.To),(IntKind.wrap .i64 (s15.2+1))))) else(kb16 (s15.1,(IntKind.wrap .i64 (s15.2+1)))))))) else(kx14 s15.1))
def impl_AtlasInstalled_j9(v7:TAtlas)(a3:Bool)(a1:TAtlas)(t9:Bool):Option (TAtlas×Int):=
 (if t9=true then(some (v7,3)) else(if a3=true then(iter (impl_AtlasInstalled_b15 v7 a1 (impl_AtlasInstalled_j13 v7)) FU (v7.Parts,0)) else(some ((TAtlas.mk v7.Epoch v7.Parts (TMove.mk v7.Move.No 4 v7.Move.Lo v7.Move.Hi v7.Move.From v7.Move.To ([]:(List TCell)))),0))))
def m_impl_AtlasInstalled(a1:TAtlas)(a2:Int)(a3:Bool):Option (TAtlas×Int):=
 ((m_impl_AtlasOk a1).bind fun v4=>(if v4=true then((m_impl_copyAtlas a1).bind fun v7=>(if ¬a1.Move.Stage=2 then((impl_AtlasInstalled_j9 v7 a3 a1) true) else((m_impl_MoveRank a1.Move).bind fun v28=>(if ¬v28=a2 then((impl_AtlasInstalled_j9 v7 a3 a1) true) else(if a3=true then((impl_AtlasInstalled_j9 v7 a3 a1) (decide (a1.Epoch=1000000))) else((impl_AtlasInstalled_j9 v7 a3 a1) false)))))) else(some ((TAtlas.mk 0 ([]:(List TPart)) (TMove.mk 0 0 0 0 0 0 ([]:(List TCell)))),1))))
def impl_AtlasFrozen_j9(v7:TAtlas)(a3:(List TCell))(t9:Bool):Option (TAtlas×Int):=
 (if t9=true then(some (v7,3)) else((m_slices_Clone_Cell a3).bind fun v12=>(some ((TAtlas.mk v7.Epoch v7.Parts (TMove.mk v7.Move.No 2 v7.Move.Lo v7.Move.Hi v7.Move.From v7.Move.To v12)),0))))
def m_impl_AtlasFrozen(a1:TAtlas)(a2:Int)(a3:(List TCell)):Option (TAtlas×Int):=
 ((m_impl_AtlasOk a1).bind fun v4=>(if v4=true then((m_impl_copyAtlas a1).bind fun v7=>(if ¬a1.Move.Stage=1 then((impl_AtlasFrozen_j9 v7 a3) true) else((m_impl_MoveRank a1.Move).bind fun v15=>(if ¬v15=a2 then((impl_AtlasFrozen_j9 v7 a3) true) else((m_impl_Move_keys a1.Move).bind fun v18=>((m_impl_cellsIn a3 v18).bind fun v20=>((impl_AtlasFrozen_j9 v7 a3) (!v20)))))))) else(some ((TAtlas.mk 0 ([]:(List TPart)) (TMove.mk 0 0 0 0 0 0 ([]:(List TCell)))),1))))
def m_laws_at(a1:(List Int))(a2:Int):Option Int:=
 (if a2 < (a1.length:Int) then((idx a1 a2).bind fun v4=>(some (IntKind.wrap .i64 v4))) else(some (Int.tmod (IntKind.wrap .i64 ((IntKind.wrap .i64 (a2 * 7))+(a1.length:Int))) 256)))
def impl_AtlasGone_j8(v6:TAtlas)(a1:TAtlas)(t8:Bool):Option (TAtlas×Int):=
 (if t8=true then(some (v6,3)) else(some ((TAtlas.mk v6.Epoch v6.Parts (TMove.mk a1.Move.No 0 0 0 0 0 ([]:(List TCell)))),0)))
def m_impl_AtlasGone(a1:TAtlas)(a2:Int):Option (TAtlas×Int):=
 ((m_impl_AtlasOk a1).bind fun v3=>(if v3=true then((m_impl_copyAtlas a1).bind fun v6=>(if ¬a1.Move.Stage=3 then(if ¬a1.Move.Stage=4 then((impl_AtlasGone_j8 v6 a1) true) else((m_impl_MoveRank a1.Move).bind fun v13=>((impl_AtlasGone_j8 v6 a1) (decide (¬v13=a2))))) else((m_impl_MoveRank a1.Move).bind fun v15=>((impl_AtlasGone_j8 v6 a1) (decide (¬v15=a2)))))) else(some ((TAtlas.mk 0 ([]:(List TPart)) (TMove.mk 0 0 0 0 0 0 ([]:(List TCell)))),1))))
def m_impl_AtlasOwner(a1:TAtlas)(a2:Int):Option Int:=
 ((m_impl_AtlasOk a1).bind fun v3=>(if v3=true then((m_impl_partAt a1.Parts a2).bind fun v6=>(if v6 < 0 then(some (-1)) else((idx a1.Parts v6).bind fun v9=>(some v9.Owner)))) else(some (-1))))
def spec_AtlasOwner_j5(a1:TAtlas)(v3:Int)(t5:Bool):Option Int:=
 (if t5=true then(some (-1)) else((idx a1.Parts v3).bind fun v8=>(some v8.Owner)))
def m_spec_AtlasOwner(a1:TAtlas)(a2:Int):Option Int:=
 ((m_spec_PartAt a1.Parts a2).bind fun v3=>((m_spec_AtlasOk a1).bind fun v10=>(if v10=true then((spec_AtlasOwner_j5 a1 v3) (decide (v3 < 0))) else((spec_AtlasOwner_j5 a1 v3) true))))
def laws_FnMoves15_j37(v23:Int)(v33:(TAtlas×Int))(v5:(TAtlas×Int×Int))(t37:Bool):Option Bool:=
 (if t37=true then(some false) else(if (Int.tmod v23 2)=0 then((m_impl_AtlasOwner v33.1 v5.2.1).bind fun v41=>(if v41=v5.2.2 then(some (decide (v33.1.Epoch=(IntKind.wrap .i64 (v5.1.Epoch+1))))) else(some false))) else((m_impl_AtlasOwner v33.1 v5.2.1).bind fun v44=>((m_spec_AtlasOwner v5.1 v5.2.1).bind fun v46=>(if v44=v46 then(some (decide (v33.1.Epoch=v5.1.Epoch))) else(some false))))))
def laws_FnMoves15_j29(v25:(TAtlas×Int))(v5:(TAtlas×Int×Int))(v15:Int)(v23:Int)(t29:Bool):Option Bool:=
 (if t29=true then(some false) else(if ¬v25.2=0 then(some (decide (v5.1.Epoch=1000000))) else((m_impl_AtlasGone v25.1 (IntKind.wrap .i64 (v15+2))).bind fun v33=>((m_impl_AtlasGone v33.1 (IntKind.wrap .i64 (v15+2))).bind fun v35=>((m_impl_MoveRank v25.1.Move).bind fun v49=>(if ¬v49=(IntKind.wrap .i64 (v15+2)) then((laws_FnMoves15_j37 v23 v33 v5) true) else(if ¬v33.2=0 then((laws_FnMoves15_j37 v23 v33 v5) true) else(if ¬v35.2=3 then((laws_FnMoves15_j37 v23 v33 v5) true) else(if ¬v33.1.Move.Stage=0 then((laws_FnMoves15_j37 v23 v33 v5) true) else((m_impl_AtlasOk v33.1).bind fun v55=>((laws_FnMoves15_j37 v23 v33 v5) (!v55))))))))))))
def m_laws_FnMoves15(a1:(List Int)):Option Bool:=
 ((m_laws_big a1).bind fun v2=>(if v2=true then(some true) else((m_spec_DrawAtlasMove a1).bind fun v5=>((m_impl_AtlasMove v5.1 v5.2.1 v5.2.2).bind fun v7=>((m_spec_AtlasMove v5.1 v5.2.1 v5.2.2).bind fun v9=>(if ¬v7.2=v9.2 then(some false) else(if ¬v7.2=0 then(if v7.2=1 then(some true) else(if v7.1.Move.No=v5.1.Move.No then(some (decide (v7.1.Move.Stage=v5.1.Move.Stage))) else(some false))) else((m_impl_MoveRank v7.1.Move).bind fun v15=>((m_impl_AtlasInstalled v7.1 v15 true).bind fun v17=>((m_impl_AtlasFrozen v7.1 (IntKind.wrap .i64 (v15+1)) ([]:(List TCell))).bind fun v19=>((m_impl_AtlasFrozen v7.1 v15 ([]:(List TCell))).bind fun v21=>((m_laws_at a1 1).bind fun v23=>((m_impl_AtlasInstalled v21.1 (IntKind.wrap .i64 (v15+1)) (decide ((Int.tmod v23 2)=0))).bind fun v25=>((m_spec_AtlasInstalled v21.1 (IntKind.wrap .i64 (v15+1)) (decide ((Int.tmod v23 2)=0))).bind fun v27=>(if v15 < 1 then((laws_FnMoves15_j29 v25 v5 v15 v23) true) else(if ¬v17.2=3 then((laws_FnMoves15_j29 v25 v5 v15 v23) true) else(if ¬v19.2=3 then((laws_FnMoves15_j29 v25 v5 v15 v23) true) else(if ¬v21.2=0 then((laws_FnMoves15_j29 v25 v5 v15 v23) true) else((m_impl_MoveRank v21.1.Move).bind fun v61=>(if ¬v61=(IntKind.wrap .i64 (v15+1)) then((laws_FnMoves15_j29 v25 v5 v15 v23) true) else((laws_FnMoves15_j29 v25 v5 v15 v23) (decide (¬v25.2=v27.2)))))))))))))))))))))))
def m_impl_PartAt(a1:(List TPart))(a2:Int):Option Int:=
 ((m_impl_PartsOk a1).bind fun v3=>(if v3=true then((m_impl_partAt a1 a2).bind fun v6=>(some v6)) else(some (-1))))
def m_slices_Insert_Part(a1:List TPart)(a2:Int)(a3:List TPart):Option (List TPart):=
 if 0≤a2∧a2≤(a1.length:Int)∧a3.length=1∧a1.length≤1000000000 then some (List.take (Int.toNat a2) a1++(a3++List.drop (Int.toNat a2) a1)) else none
def impl_SplitAt_j5(a1:(List TPart))(v3:Int)(a2:Int)(t5:Bool):Option ((List TPart)×Bool):=
 (if t5=true then(some (([]:(List TPart)),false)) else((m_slices_Clone_Part a1).bind fun v8=>((idx a1 v3).bind fun v10=>((idx a1 v3).bind fun v12=>((m_slices_Insert_Part v8 (IntKind.wrap .i64 (v3+1)) ([(TPart.mk a2 v10.Hi v12.Owner)])).bind fun v14=>((idx v14 v3).bind fun v16=>(some (v14.set (Int.toNat v3) (TPart.mk v16.Lo a2 v16.Owner),true))))))))
def m_impl_SplitAt(a1:(List TPart))(a2:Int):Option ((List TPart)×Bool):=
 ((m_impl_PartAt a1 a2).bind fun v3=>(if v3 < 0 then((impl_SplitAt_j5 a1 v3 a2) true) else((idx a1 v3).bind fun v19=>(if v19.Lo=a2 then((impl_SplitAt_j5 a1 v3 a2) true) else((impl_SplitAt_j5 a1 v3 a2) (decide ((a1.length:Int)=16)))))))
def impl_AtlasSplit_j10(v6:TAtlas)(v8:((List TPart)×Bool))(t10:Bool):Option (TAtlas×Int):=
 (if t10=true then(some (v6,3)) else(some ((TAtlas.mk (IntKind.wrap .i64 (v6.Epoch+1)) v8.1 v6.Move),0)))
def m_impl_AtlasSplit(a1:TAtlas)(a2:Int):Option (TAtlas×Int):=
 ((m_impl_AtlasOk a1).bind fun v3=>(if v3=true then((m_impl_copyAtlas a1).bind fun v6=>((m_impl_SplitAt a1.Parts a2).bind fun v8=>(if v8.2=true then((impl_AtlasSplit_j10 v6 v8) (decide (a1.Epoch=1000000))) else((impl_AtlasSplit_j10 v6 v8) true)))) else(some ((TAtlas.mk 0 ([]:(List TPart)) (TMove.mk 0 0 0 0 0 0 ([]:(List TCell)))),1))))
end Go.AW
