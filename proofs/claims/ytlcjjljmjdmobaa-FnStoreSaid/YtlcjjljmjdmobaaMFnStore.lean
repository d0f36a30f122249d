/- Plain functions that say what functions of the program compute. Conditions: none. -/
import Derived.Test.YtlcjjljmjdmobaaYu
import Derived.Test.YtlcjjljmjdmobaaYi
set_option linter.unusedVariables false
set_option linter.unusedSimpArgs false
set_option maxRecDepth 100000
namespace Go.AW
abbrev d_u8(x:Int):List D:=[(.int .u8 x)]
structure TCell where
 Key:Int
 Value:Int
deriving DecidableEq
abbrev d_TCell(x:TCell):List D:=[(.int .i64 x.Key),(.int .i64 x.Value)]
abbrev d_i64(x:Int):List D:=[(.int .i64 x)]
structure TRange where
 Lo:Int
 Hi:Int
deriving DecidableEq
abbrev d_TRange(x:TRange):List D:=[(.int .i64 x.Lo),(.int .i64 x.Hi)]
abbrev d_bool(x:Bool):List D:=[(.bool x)]
abbrev dS_TCell(x:(List TCell)):List D:=[(.sl 2 (List.map d_TCell x))]
abbrev dS_u8(x:(List Int)):List D:=[(.sl 1 (List.map d_u8 x))]
def m_laws_big(a1:(List Int)):Option Bool:=
 (some (decide (1048576 < (a1.length:Int))))
def spec_l1New_j2(t2:Int):Option (Int×Int):=
 (some (0,t2))
def spec_l1New_b4(cb1:(List Int))(kx3:(Int→Option (Int×Int)))(kb5:((Int×Int)→Option (Int×Int)))(s4:(Int×Int)):Option (Int×Int):=
 (if s4.2 < (cb1.length:Int) then(if s4.2 < 4000 then((idx cb1 s4.2).bind fun v8=>(kb5 ((IntKind.wrap .i64 (BitVec.ofInt (IntKind.bits .i64) (IntKind.wrap .i64 ((IntKind.wrap .i64 ((IntKind.wrap .i64 (s4.1 * 131))+(IntKind.wrap .i64 v8)))+7))&&& BitVec.ofInt (IntKind.bits .i64) 1073741823).toNat),(IntKind.wrap .i64 (s4.2+1))))) else(kx3 s4.1)) else(kx3 s4.1))
def m_spec_l1New(cb1:(List Int)):Option (Int×Int):=
 (iter (spec_l1New_b4 cb1 spec_l1New_j2) FU ((IntKind.wrap .i64 (97097+(cb1.length:Int))),0))
def m_spec_l1Size(cb1:(List Int))(a2:Int):Option Int:=
 (if a2 < (IntKind.wrap .i64 (2+(IntKind.wrap .i64 (Int.tdiv (cb1.length:Int) 20)))) then(some a2) else(some (IntKind.wrap .i64 (2+(IntKind.wrap .i64 (Int.tdiv (cb1.length:Int) 20))))))
def m_spec_l1Byte(cb1:(List Int))(a2:(Int×Int)):Option (Int×(Int×Int)):=
 (if a2.1 < (cb1.length:Int) then((idx cb1 a2.1).bind fun v4=>(some ((IntKind.wrap .i64 (BitVec.ofInt (IntKind.bits .i64) (IntKind.wrap .i64 ((IntKind.wrap .i64 (BitVec.ofInt (IntKind.bits .i64) (IntKind.wrap .i64 (BitVec.ofInt (IntKind.bits .i64) (Int.fdiv (IntKind.wrap .i64 ((IntKind.wrap .i64 (a2.2 * 6364136223846793005))+1442695040888963407)) (2 ^ (min (Int.toNat 33) (IntKind.bits .i64)))) ^^^ BitVec.ofInt (IntKind.bits .i64) (Int.fdiv (IntKind.wrap .i64 ((IntKind.wrap .i64 (a2.2 * 6364136223846793005))+1442695040888963407)) (2 ^ (min (Int.toNat 45) (IntKind.bits .i64))))).toNat)&&& BitVec.ofInt (IntKind.bits .i64) 255).toNat)+(IntKind.wrap .i64 v4)))&&& BitVec.ofInt (IntKind.bits .i64) 255).toNat),((IntKind.wrap .i64 (a2.1+1)),(IntKind.wrap .i64 ((IntKind.wrap .i64 (a2.2 * 6364136223846793005))+1442695040888963407)))))) else(some ((IntKind.wrap .i64 (BitVec.ofInt (IntKind.bits .i64) (IntKind.wrap .i64 (BitVec.ofInt (IntKind.bits .i64) (Int.fdiv (IntKind.wrap .i64 ((IntKind.wrap .i64 (a2.2 * 6364136223846793005))+1442695040888963407)) (2 ^ (min (Int.toNat 33) (IntKind.bits .i64)))) ^^^ BitVec.ofInt (IntKind.bits .i64) (Int.fdiv (IntKind.wrap .i64 ((IntKind.wrap .i64 (a2.2 * 6364136223846793005))+1442695040888963407)) (2 ^ (min (Int.toNat 45) (IntKind.bits .i64))))).toNat)&&& BitVec.ofInt (IntKind.bits .i64) 255).toNat),(a2.1,(IntKind.wrap .i64 ((IntKind.wrap .i64 (a2.2 * 6364136223846793005))+1442695040888963407))))))
def m_spec_l1Below(cb1:(List Int))(a2:(Int×Int))(a3:Int):Option (Int×(Int×Int)):=
 (if a3≤0 then(some (0,a2)) else(if a3≤256 then((m_spec_l1Byte cb1 a2).bind fun v6=>(if ¬a3=0 then(some ((Int.tmod v6.1 a3),v6.2)) else none)) else((m_spec_l1Byte cb1 a2).bind fun v9=>((m_spec_l1Byte cb1 v9.2).bind fun v11=>((m_spec_l1Byte cb1 v11.2).bind fun v13=>((m_spec_l1Byte cb1 v13.2).bind fun v15=>(if ¬a3=0 then(some ((Int.tmod (IntKind.wrap .i64 ((IntKind.wrap .i64 ((IntKind.wrap .i64 ((IntKind.wrap .i64 (v9.1 * 16777216))+(IntKind.wrap .i64 (v11.1 * 65536))))+(IntKind.wrap .i64 (v13.1 * 256))))+v15.1)) a3),v15.2)) else none)))))))
def m_spec_l1Once(cb1:(List Int))(a2:(Int×Int))(a3:Int):Option (Bool×(Int×Int)):=
 ((m_spec_l1Below cb1 a2 a3).bind fun v4=>(some ((decide (v4.1=0)),v4.2)))
def spec_l11DrawStore_j10(t10:((List TCell)×Int×Int)):Option ((List TCell)×(Int×Int)):=
 (some (t10.1,t10.2))
def spec_l11DrawStore_b12(t6:(Int×Int×Int))(cb1:(List Int))(kx11:(((List TCell)×Int×Int)→Option ((List TCell)×(Int×Int))))(kb13:(((List TCell)×Int×Int×Int×Int)→Option ((List TCell)×(Int×Int))))(s12:((List TCell)×Int×Int×Int×Int)):Option ((List TCell)×(Int×Int)):=
 (if s12.2.2.1 < t6.1 then((m_spec_l1Below cb1 s12.2.2.2 99).bind fun v15=>(if (s12.1++([(TCell.mk s12.2.1 v15.1)])).length≤2147483648 then((m_spec_l1Below cb1 v15.2 3).bind fun v18=>(kb13 ((s12.1++([(TCell.mk s12.2.1 v15.1)])),(IntKind.wrap .i64 ((IntKind.wrap .i64 (s12.2.1+1))+v18.1)),(IntKind.wrap .i64 (s12.2.2.1+1)),v18.2.1,v18.2.2))) else none)) else(kx11 (s12.1,s12.2.2.2.1,s12.2.2.2.2)))
def spec_l11DrawStore_j6(cb1:(List Int))(t6:(Int×Int×Int)):Option ((List TCell)×(Int×Int)):=
 ((m_spec_l1Below cb1 t6.2 4).bind fun v8=>(iter (spec_l11DrawStore_b12 t6 cb1 spec_l11DrawStore_j10) FU (([]:List TCell),v8.1,0,v8.2.1,v8.2.2)))
def m_spec_l11DrawStore(cb1:(List Int))(a2:(Int×Int))(a3:Int):Option ((List TCell)×(Int×Int)):=
 ((m_spec_l1Below cb1 a2 (IntKind.wrap .i64 (a3+1))).bind fun v4=>((m_spec_l1Once cb1 v4.2 20).bind fun v20=>(if v20.1=true then((spec_l11DrawStore_j6 cb1) (60,v20.2.1,v20.2.2)) else((spec_l11DrawStore_j6 cb1) (v4.1,v20.2.1,v20.2.2)))))
def m_spec_l1PickInt(cb1:(List Int))(a2:(Int×Int))(a3:(List Int)):Option (Int×(Int×Int)):=
 ((m_spec_l1Below cb1 a2 (a3.length:Int)).bind fun v4=>((idx a3 v4.1).bind fun v6=>(some (v6,v4.2))))
def m_spec_l11DrawAny(cb1:(List Int))(a2:(Int×Int))(a3:Int):Option ((List TCell)×(Int×Int)):=
 ((m_spec_l11DrawStore cb1 a2 a3).bind fun v4=>((m_spec_l1Below cb1 v4.2 25).bind fun v6=>(if v6.1=0 then((m_spec_l1PickInt cb1 v6.2 ([(-1),0,999,1000])).bind fun v9=>(if (v4.1++([(TCell.mk v9.1 0)])).length≤2147483648 then(some ((v4.1++([(TCell.mk v9.1 0)])),v9.2)) else none)) else(if v6.1=1 then((m_spec_l1PickInt cb1 v6.2 ([(-1),1000000000,1000000001])).bind fun v13=>(if (v4.1++([(TCell.mk 900 v13.1)])).length≤2147483648 then(some ((v4.1++([(TCell.mk 900 v13.1)])),v13.2)) else none)) else(some (v4.1,v6.2))))))
def spec_l11DrawWrites_j8(cb1:(List Int))(t8:((List TCell)×Int×Int)):Option ((List TCell)×(Int×Int)):=
 ((m_spec_l1Below cb1 t8.2 30).bind fun v10=>(if v10.1=0 then((m_spec_l1PickInt cb1 v10.2 ([(-1),0,1000])).bind fun v13=>(if (t8.1++([(TCell.mk v13.1 0)])).length≤2147483648 then(some ((t8.1++([(TCell.mk v13.1 0)])),v13.2)) else none)) else(if v10.1=1 then((m_spec_l1PickInt cb1 v10.2 ([(-2),1000000000,1000000001])).bind fun v17=>(if (t8.1++([(TCell.mk 900 v17.1)])).length≤2147483648 then(some ((t8.1++([(TCell.mk 900 v17.1)])),v17.2)) else none)) else(some (t8.1,v10.2)))))
def spec_l11DrawWrites_j25(s20:((List TCell)×Int×Int×Int×Int))(cb1:(List Int))(kb21:(((List TCell)×Int×Int×Int×Int)→Option ((List TCell)×(Int×Int))))(t25:(Int×Int×Int)):Option ((List TCell)×(Int×Int)):=
 (if (s20.1++([(TCell.mk s20.2.1 t25.2.2)])).length≤2147483648 then((m_spec_l1Below cb1 (t25.1,t25.2.1) 5).bind fun v28=>(kb21 ((s20.1++([(TCell.mk s20.2.1 t25.2.2)])),(IntKind.wrap .i64 ((IntKind.wrap .i64 (s20.2.1+1))+v28.1)),(IntKind.wrap .i64 (s20.2.2.1+1)),v28.2.1,v28.2.2))) else none)
def spec_l11DrawWrites_b20(v4:(Int×(Int×Int)))(cb1:(List Int))(kx9:(((List TCell)×Int×Int)→Option ((List TCell)×(Int×Int))))(kb21:(((List TCell)×Int×Int×Int×Int)→Option ((List TCell)×(Int×Int))))(s20:((List TCell)×Int×Int×Int×Int)):Option ((List TCell)×(Int×Int)):=
 (if s20.2.2.1 < v4.1 then((m_spec_l1Below cb1 s20.2.2.2 99).bind fun v23=>((m_spec_l1Once cb1 v23.2 4).bind fun v30=>(if v30.1=true then((spec_l11DrawWrites_j25 s20 cb1 kb21) (v30.2.1,v30.2.2,(-1))) else((spec_l11DrawWrites_j25 s20 cb1 kb21) (v30.2.1,v30.2.2,v23.1))))) else(kx9 (s20.1,s20.2.2.2.1,s20.2.2.2.2)))
def m_spec_l11DrawWrites(cb1:(List Int))(a2:(Int×Int))(a3:Int):Option ((List TCell)×(Int×Int)):=
 ((m_spec_l1Below cb1 a2 (IntKind.wrap .i64 (a3+1))).bind fun v4=>((m_spec_l1Below cb1 v4.2 6).bind fun v6=>(iter (spec_l11DrawWrites_b20 v4 cb1 (spec_l11DrawWrites_j8 cb1)) FU (([]:List TCell),v6.1,0,v6.2.1,v6.2.2))))
def m_spec_l11DrawBoth(cb1:(List Int)):Option ((List TCell)×(List TCell)):=
 ((m_spec_l1New cb1).bind fun v2=>((m_spec_l1Size cb1 20).bind fun v4=>((m_spec_l11DrawAny cb1 v2 v4).bind fun v6=>((m_spec_l1Size cb1 9).bind fun v8=>((m_spec_l11DrawWrites cb1 v6.2 v8).bind fun v10=>(some (v6.1,v10.1)))))))
def m_spec_DrawStoreApply(cb1:(List Int)):Option ((List TCell)×(List TCell)):=
 ((m_spec_l11DrawBoth cb1).bind fun v2=>(some (v2.1,v2.2)))
def m_laws_at(a1:(List Int))(a2:Int):Option Int:=
 (if a2 < (a1.length:Int) then((idx a1 a2).bind fun v4=>(some (IntKind.wrap .i64 v4))) else(some (Int.tmod (IntKind.wrap .i64 ((IntKind.wrap .i64 (a2 * 7))+(a1.length:Int))) 256)))
def m_impl_from(a1:Int)(a2:Int)(a3:Int):Option Bool:=
 (if a2≤a1 then(some (decide (a1≤a3))) else(some false))
def m_impl_isKey(a1:Int):Option Bool:=
 ((m_impl_from a1 0 999).bind fun v2=>(some v2))
def m_impl_isWhole(a1:Int):Option Bool:=
 ((m_impl_from a1 0 1000000000).bind fun v2=>(some v2))
def impl_StoreOk_j2(a1:(List TCell))(t2:Unit):Option Bool:=
 (some (decide ((a1.length:Int)≤60)))
def impl_StoreOk_j9(kb5:(Int→Option Bool))(s4:Int)(t9:Bool):Option Bool:=
 (if t9=true then(some false) else(kb5 (IntKind.wrap .i64 (s4+1))))
def impl_StoreOk_b4(a1:(List TCell))(kx3:(Unit→Option Bool))(kb5:(Int→Option Bool))(s4:Int):Option Bool:=
 (if s4 < (a1.length:Int) then((idx a1 s4).bind fun v7=>((m_impl_isKey v7.Key).bind fun v12=>(if v12=true then((m_impl_isWhole v7.Value).bind fun v15=>(if v15=true then(if 0 < s4 then((idx a1 (IntKind.wrap .i64 (s4 - 1))).bind fun v19=>((impl_StoreOk_j9 kb5 s4) (decide (v7.Key≤v19.Key)))) else((impl_StoreOk_j9 kb5 s4) false)) else((impl_StoreOk_j9 kb5 s4) true))) else((impl_StoreOk_j9 kb5 s4) true)))) else(kx3 ()))
def m_impl_StoreOk(a1:(List TCell)):Option Bool:=
 (iter (impl_StoreOk_b4 a1 (impl_StoreOk_j2 a1)) FU 0)
def m_impl_RangeOk(a1:TRange):Option Bool:=
 (if 0≤a1.Lo then(if a1.Lo < a1.Hi then(some (decide (a1.Hi≤1000))) else(some false)) else(some false))
def slices_Clone_Cell_j2(a1:(List TCell))(t2:Unit):Option (List TCell):=
 (if a1.length≤2147483648 then(some a1) else none)
def m_slices_Clone_Cell(a1:(List TCell)):Option (List TCell):=
 (if a1.length=0 then((slices_Clone_Cell_j2 a1) ()) else((slices_Clone_Cell_j2 a1) ()))
def m_impl_Range_has(a1:TRange)(a2:Int):Option Bool:=
 ((m_impl_from a2 a1.Lo (IntKind.wrap .i64 (a1.Hi - 1))).bind fun v3=>(some v3))
def m_impl_within_1(a1:TCell)(a2:TRange)(a3:Bool):Option Bool:=
 ((m_impl_Range_has a2 a1.Key).bind fun v4=>(some (v4 != a3)))
def slices_IndexFunc_Cell__within_1_j4(t4:Unit):Option Int:=
 (some (-1))
def slices_IndexFunc_Cell__within_1_b6(a1:(List TCell))(a2:TRange)(a3:Bool)(kx5:(Unit→Option Int))(kb7:(Int→Option Int))(s6:Int):Option Int:=
 (if s6 < (a1.length:Int) then((idx a1 s6).bind fun v9=>((m_impl_within_1 v9 a2 a3).bind fun v11=>(if v11=true then(some s6) else(kb7 (IntKind.wrap .i64 (s6+1)))))) else(kx5 ()))
def m_slices_IndexFunc_Cell__within_1(a1:(List TCell))(a2:TRange)(a3:Bool):Option Int:=
 (iter (slices_IndexFunc_Cell__within_1_b6 a1 a2 a3 slices_IndexFunc_Cell__within_1_j4) FU 0)
def slices_DeleteFunc_Cell__within_1_j7(t7:((List TCell)×Int)):Option (List TCell):=
 (if (0:Int)≤t7.2∧t7.2≤((t7.1.length:Nat):Int)∧((t7.1.length:Nat):Int)≤((t7.1.length:Nat):Int) then(if (Int.toNat t7.2)+(Int.toNat ((t7.1.length:Nat):Int) - Int.toNat t7.2)≤t7.1.length then(if (0:Int)≤0∧0≤t7.2∧t7.2≤((t7.1.length:Nat):Int) then(some (List.take (Int.toNat t7.2) (List.take (Int.toNat t7.2) t7.1++List.replicate (Int.toNat ((t7.1.length:Nat):Int) - Int.toNat t7.2) (TCell.mk 0 0)++List.drop ((Int.toNat t7.2)+(Int.toNat ((t7.1.length:Nat):Int) - Int.toNat t7.2)) t7.1))) else none) else none) else none)
def slices_DeleteFunc_Cell__within_1_b12(a2:TRange)(a3:Bool)(kx8:(((List TCell)×Int)→Option (List TCell)))(kb13:(((List TCell)×Int×Int)→Option (List TCell)))(s12:((List TCell)×Int×Int)):Option (List TCell):=
 (if s12.2.2 < ((s12.1.length:Nat):Int) then((idx s12.1 s12.2.2).bind fun v15=>((m_impl_within_1 v15 a2 a3).bind fun v17=>(if v17=true then(kb13 (s12.1,s12.2.1,(IntKind.wrap .i64 (s12.2.2+1)))) else((idx s12.1 s12.2.1).bind fun v20=>(kb13 (s12.1.set (Int.toNat s12.2.1) v15,(IntKind.wrap .i64 (s12.2.1+1)),(IntKind.wrap .i64 (s12.2.2+1)))))))) else(kx8 (s12.1,s12.2.1)))
def m_slices_DeleteFunc_Cell__within_1(a1:(List TCell))(a2:TRange)(a3:Bool):Option (List TCell):=
 ((m_slices_IndexFunc_Cell__within_1 a1 a2 a3).bind fun v4=>(if v4=(-1) then(some a1) else(iter (slices_DeleteFunc_Cell__within_1_b12 a2 a3 slices_DeleteFunc_Cell__within_1_j7) FU (a1,v4,(IntKind.wrap .i64 (v4+1))))))
def impl_within_j4(a1:(List TCell))(a2:TRange)(a3:Bool)(t4:Bool):Option (List TCell):=
 (if t4=true then(some ([]:(List TCell))) else((m_slices_Clone_Cell a1).bind fun v7=>((m_slices_DeleteFunc_Cell__within_1 v7 a2 a3).bind fun v9=>(some v9))))
def m_impl_within(a1:(List TCell))(a2:TRange)(a3:Bool):Option (List TCell):=
 ((m_impl_StoreOk a1).bind fun v11=>(if v11=true then((m_impl_RangeOk a2).bind fun v14=>((impl_within_j4 a1 a2 a3) (!v14))) else((impl_within_j4 a1 a2 a3) true)))
def m_impl_StoreCut(a1:(List TCell))(a2:TRange):Option (List TCell):=
 ((m_impl_within a1 a2 false).bind fun v3=>(some v3))
def m_impl_StoreScan(a1:(List TCell))(a2:TRange):Option (List TCell):=
 ((m_impl_within a1 a2 true).bind fun v3=>(some v3))
def m_slices_Grow_Cell(a1:List TCell)(a2:Int):Option (List TCell):=
 if 0≤a2∧a2≤1000000000 then some [] else none
def slices_Concat_Cell_j6(t6:(List TCell)):Option (List TCell):=
 (some t6)
def slices_Concat_Cell_b8(a1:(List (List TCell)))(kx7:((List TCell)→Option (List TCell)))(kb9:(((List TCell)×Int)→Option (List TCell)))(s8:((List TCell)×Int)):Option (List TCell):=
 (if s8.2 < (a1.length:Int) then((idx a1 s8.2).bind fun v11=>(if (s8.1++v11).length≤2147483648 then(kb9 ((s8.1++v11),(IntKind.wrap .i64 (s8.2+1)))) else none)) else(kx7 s8.1))
def slices_Concat_Cell_j2(a1:(List (List TCell)))(t2:Int):Option (List TCell):=
 ((m_slices_Grow_Cell ([]:(List TCell)) t2).bind fun v4=>(iter (slices_Concat_Cell_b8 a1 slices_Concat_Cell_j6) FU (v4,0)))
def slices_Concat_Cell_b14(a1:(List (List TCell)))(kx3:(Int→Option (List TCell)))(kb15:((Int×Int)→Option (List TCell)))(s14:(Int×Int)):Option (List TCell):=
 (if s14.2 < (a1.length:Int) then((idx a1 s14.2).bind fun v17=>(if (IntKind.wrap .i64 (s14.1+(v17.length:Int))) < 0 then none else(kb15 ((IntKind.wrap .i64 (s14.1+(v17.length:Int))),(IntKind.wrap .i64 (s14.2+1)))))) else(kx3 s14.1))
def m_slices_Concat_Cell(a1:(List (List TCell))):Option (List TCell):=
 (iter (slices_Concat_Cell_b14 a1 (slices_Concat_Cell_j2 a1)) FU (0,0))
def m_slices_SortFunc_Cell__StoreJoin_1(a1:List TCell):Option (List TCell):=
 if h:(∀c∈a1,0≤c.Key∧c.Key≤1000000)∧a1.length≤1000000000 then some ((sortK (a1.pmap (fun c hc=>(⟨(c.Key,c.Value),hc⟩:KC)) h.1)).map fun p=>⟨p.1.1,p.1.2⟩) else none
def impl_StoreJoin_j3(a1:(List TCell))(a2:(List TCell))(t3:Bool):Option ((List TCell)×Bool):=
 (if t3=true then(some (([]:(List TCell)),false)) else((m_slices_Concat_Cell ([a1,a2])).bind fun v6=>((m_slices_SortFunc_Cell__StoreJoin_1 v6).bind fun v8=>(if v8.length=v6.length then((m_impl_StoreOk v8).bind fun v11=>(if v11=true then(some (v8,true)) else(some (([]:(List TCell)),false)))) else none))))
def m_impl_StoreJoin(a1:(List TCell))(a2:(List TCell)):Option ((List TCell)×Bool):=
 ((m_impl_StoreOk a1).bind fun v14=>(if v14=true then((m_impl_StoreOk a2).bind fun v17=>(if v17=true then((impl_StoreJoin_j3 a1 a2) (decide (60 < (IntKind.wrap .i64 ((a1.length:Int)+(a2.length:Int)))))) else((impl_StoreJoin_j3 a1 a2) true))) else((impl_StoreJoin_j3 a1 a2) true)))
def m_spec_l1In(a1:Int)(a2:Int)(a3:Int):Option Bool:=
 (if a2≤a1 then(some (decide (a1≤a3))) else(some false))
def m_spec_l10Key(a1:Int):Option Bool:=
 ((m_spec_l1In a1 0 999).bind fun v2=>(some v2))
def m_spec_l1Whole(a1:Int):Option Bool:=
 ((m_spec_l1In a1 0 1000000000).bind fun v2=>(some v2))
def spec_StoreOk_j3(t3:Unit):Option Bool:=
 (some true)
def spec_StoreOk_j8(kb6:(Int→Option Bool))(s5:Int)(t8:Bool):Option Bool:=
 (if t8=true then(some false) else(kb6 (IntKind.wrap .i64 (s5+1))))
def spec_StoreOk_b5(a1:(List TCell))(kx4:(Unit→Option Bool))(kb6:(Int→Option Bool))(s5:Int):Option Bool:=
 (if s5 < (a1.length:Int) then((idx a1 s5).bind fun v11=>((m_spec_l10Key v11.Key).bind fun v13=>(if v13=true then((idx a1 s5).bind fun v16=>((m_spec_l1Whole v16.Value).bind fun v18=>(if v18=true then(if 0 < s5 then((idx a1 (IntKind.wrap .i64 (s5 - 1))).bind fun v22=>((idx a1 s5).bind fun v24=>((spec_StoreOk_j8 kb6 s5) (decide (v24.Key≤v22.Key))))) else((spec_StoreOk_j8 kb6 s5) false)) else((spec_StoreOk_j8 kb6 s5) true)))) else((spec_StoreOk_j8 kb6 s5) true)))) else(kx4 ()))
def m_spec_StoreOk(a1:(List TCell)):Option Bool:=
 (if 60 < (a1.length:Int) then(some false) else(iter (spec_StoreOk_b5 a1 spec_StoreOk_j3) FU 0))
def m_impl_cellFor_1(a1:TCell)(a2:Int):Option Int:=
 (some (IntKind.wrap .i64 (a1.Key - a2)))
def slices_BinarySearchFunc_Cell_int__cellFor_1_j3(a1:(List TCell))(a2:Int)(t3:Int):Option (Int×Bool):=
 (if t3 < (a1.length:Int) then((idx a1 t3).bind fun v6=>((m_impl_cellFor_1 v6 a2).bind fun v8=>(some (t3,(decide (v8=0)))))) else(some (t3,false)))
def slices_BinarySearchFunc_Cell_int__cellFor_1_b10(a1:(List TCell))(a2:Int)(kx4:(Int→Option (Int×Bool)))(kb11:((Int×Int)→Option (Int×Bool)))(s10:(Int×Int)):Option (Int×Bool):=
 (if s10.1 < s10.2 then((idx a1 (IntKind.wrap .i64 (Int.fdiv (IntKind.wrap .u64 (IntKind.wrap .i64 (s10.1+s10.2))) (2 ^ (min (Int.toNat 1) (IntKind.bits .u64)))))).bind fun v13=>((m_impl_cellFor_1 v13 a2).bind fun v15=>(if v15 < 0 then(kb11 ((IntKind.wrap .i64 ((IntKind.wrap .i64 (Int.fdiv (IntKind.wrap .u64 (IntKind.wrap .i64 (s10.1+s10.2))) (2 ^ (min (Int.toNat 1) (IntKind.bits .u64)))))+1)),s10.2)) else(kb11 (s10.1,(IntKind.wrap .i64 (Int.fdiv (IntKind.wrap .u64 (IntKind.wrap .i64 (s10.1+s10.2))) (2 ^ (min (Int.toNat 1) (IntKind.bits .u64)))))))))) else(kx4 s10.1))
def m_slices_BinarySearchFunc_Cell_int__cellFor_1(a1:(List TCell))(a2:Int):Option (Int×Bool):=
 (iter (slices_BinarySearchFunc_Cell_int__cellFor_1_b10 a1 a2 (slices_BinarySearchFunc_Cell_int__cellFor_1_j3 a1 a2)) FU (0,(a1.length:Int)))
def m_impl_cellFor(a1:(List TCell))(a2:Int):Option (Int×Bool):=
 ((m_slices_BinarySearchFunc_Cell_int__cellFor_1 a1 a2).bind fun v3=>(some (v3.1,v3.2)))
def m_impl_valueOf(a1:(List TCell))(a2:Int):Option Int:=
 ((m_impl_cellFor a1 a2).bind fun v3=>(if v3.2=true then((idx a1 v3.1).bind fun v6=>(some v6.Value)) else(some (-1))))
def m_impl_StoreGet(a1:(List TCell))(a2:Int):Option Int:=
 ((m_impl_StoreOk a1).bind fun v3=>(if v3=true then((m_impl_valueOf a1 a2).bind fun v6=>(some v6)) else(some (-1))))
def laws_sameCells_j4(t4:Unit):Option Bool:=
 (some true)
def laws_sameCells_b6(a1:(List TCell))(a2:(List TCell))(kx5:(Unit→Option Bool))(kb7:(Int→Option Bool))(s6:Int):Option Bool:=
 (if s6 < (a1.length:Int) then((idx a1 s6).bind fun v9=>((idx a2 s6).bind fun v11=>(if (decide (v9.Key=v11.Key)&&(decide (v9.Value=v11.Value)&&true))=true then(kb7 (IntKind.wrap .i64 (s6+1))) else(some false)))) else(kx5 ()))
def m_laws_sameCells(a1:(List TCell))(a2:(List TCell)):Option Bool:=
 (if ¬(a1.length:Int)=(a2.length:Int) then(some false) else(iter (laws_sameCells_b6 a1 a2 laws_sameCells_j4) FU 0))
def m_impl_isAnswer(a1:Int):Option Bool:=
 ((m_impl_from a1 (-1) 1000000000).bind fun v2=>(some v2))
def impl_WritesOk_j2(a1:(List TCell))(t2:Unit):Option Bool:=
 (some (decide ((a1.length:Int)≤60)))
def impl_WritesOk_j9(kb5:(Int→Option Bool))(s4:Int)(t9:Bool):Option Bool:=
 (if t9=true then(some false) else(kb5 (IntKind.wrap .i64 (s4+1))))
def impl_WritesOk_b4(a1:(List TCell))(kx3:(Unit→Option Bool))(kb5:(Int→Option Bool))(s4:Int):Option Bool:=
 (if s4 < (a1.length:Int) then((idx a1 s4).bind fun v7=>((m_impl_isKey v7.Key).bind fun v12=>(if v12=true then((m_impl_isAnswer v7.Value).bind fun v15=>(if v15=true then(if 0 < s4 then((idx a1 (IntKind.wrap .i64 (s4 - 1))).bind fun v19=>((impl_WritesOk_j9 kb5 s4) (decide (v7.Key≤v19.Key)))) else((impl_WritesOk_j9 kb5 s4) false)) else((impl_WritesOk_j9 kb5 s4) true))) else((impl_WritesOk_j9 kb5 s4) true)))) else(kx3 ()))
def m_impl_WritesOk(a1:(List TCell)):Option Bool:=
 (iter (impl_WritesOk_b4 a1 (impl_WritesOk_j2 a1)) FU 0)
def m_slices_Delete_Cell(a1:List TCell)(a2 a3:Int):Option (List TCell):=
 if 0≤a2∧a2 < a3∧a3≤(a1.length:Int)∧a1.length≤1000000000 then some (List.take (Int.toNat a2) a1++List.drop (Int.toNat a3) a1) else none
def m_slices_Insert_Cell(a1:List TCell)(a2:Int)(a3:List TCell):Option (List TCell):=
 if 0≤a2∧a2≤(a1.length:Int)∧a3.length=1∧a1.length≤1000000000 then some (List.take (Int.toNat a2) a1++(a3++List.drop (Int.toNat a2) a1)) else none
def impl_put_j6(a1:(List TCell))(v4:(Int×Bool))(a3:Int)(a2:Int)(t6:Bool):Option (List TCell):=
 (if t6=true then((m_slices_Clone_Cell a1).bind fun v9=>((m_slices_Delete_Cell v9 v4.1 (IntKind.wrap .i64 (v4.1+1))).bind fun v11=>(some v11))) else(if a3=(-1) then((m_slices_Clone_Cell a1).bind fun v14=>(some v14)) else(if v4.2=true then((m_slices_Clone_Cell a1).bind fun v17=>((idx v17 v4.1).bind fun v19=>(some (v17.set (Int.toNat v4.1) (TCell.mk v19.Key a3))))) else((m_slices_Clone_Cell a1).bind fun v21=>((m_slices_Insert_Cell v21 v4.1 ([(TCell.mk a2 a3)])).bind fun v23=>(some v23))))))
def m_impl_put(a1:(List TCell))(a2:Int)(a3:Int):Option (List TCell):=
 ((m_impl_cellFor a1 a2).bind fun v4=>(if a3=(-1) then((impl_put_j6 a1 v4 a3 a2) v4.2) else((impl_put_j6 a1 v4 a3 a2) false)))
def impl_written_j3(t3:(List TCell)):Option (List TCell):=
 (some t3)
def impl_written_b5(a2:(List TCell))(kx4:((List TCell)→Option (List TCell)))(kb6:(((List TCell)×Int)→Option (List TCell)))(s5:((List TCell)×Int)):Option (List TCell):=
 (if s5.2 < (a2.length:Int) then((idx a2 s5.2).bind fun v8=>((m_impl_put s5.1 v8.Key v8.Value).bind fun v10=>(kb6 (v10,(IntKind.wrap .i64 (s5.2+1)))))) else(kx4 s5.1))
def m_impl_written(a1:(List TCell))(a2:(List TCell)):Option (List TCell):=
 (iter (impl_written_b5 a2 impl_written_j3) FU (a1,0))
def impl_StoreApply_j3(a1:(List TCell))(a2:(List TCell))(t3:Bool):Option ((List TCell)×Bool):=
 (if t3=true then(some (([]:(List TCell)),false)) else((m_slices_Clone_Cell a1).bind fun v6=>((m_impl_written v6 a2).bind fun v8=>(if 60 < ((v8.length:Nat):Int) then(some (([]:(List TCell)),false)) else(some (v8,true))))))
def m_impl_StoreApply(a1:(List TCell))(a2:(List TCell)):Option ((List TCell)×Bool):=
 ((m_impl_StoreOk a1).bind fun v11=>(if v11=true then((m_impl_WritesOk a2).bind fun v14=>((impl_StoreApply_j3 a1 a2) (!v14))) else((impl_StoreApply_j3 a1 a2) true)))
def spec_WritesOk_j3(t3:Unit):Option Bool:=
 (some true)
def spec_WritesOk_j8(kb6:(Int→Option Bool))(s5:Int)(t8:Bool):Option Bool:=
 (if t8=true then(some false) else(kb6 (IntKind.wrap .i64 (s5+1))))
def spec_WritesOk_b5(a1:(List TCell))(kx4:(Unit→Option Bool))(kb6:(Int→Option Bool))(s5:Int):Option Bool:=
 (if s5 < (a1.length:Int) then((idx a1 s5).bind fun v11=>((m_spec_l10Key v11.Key).bind fun v13=>(if v13=true then((idx a1 s5).bind fun v16=>((m_spec_l1In v16.Value (-1) 1000000000).bind fun v18=>(if v18=true then(if 0 < s5 then((idx a1 (IntKind.wrap .i64 (s5 - 1))).bind fun v22=>((idx a1 s5).bind fun v24=>((spec_WritesOk_j8 kb6 s5) (decide (v24.Key≤v22.Key))))) else((spec_WritesOk_j8 kb6 s5) false)) else((spec_WritesOk_j8 kb6 s5) true)))) else((spec_WritesOk_j8 kb6 s5) true)))) else(kx4 ()))
def m_spec_WritesOk(a1:(List TCell)):Option Bool:=
 (if 60 < (a1.length:Int) then(some false) else(iter (spec_WritesOk_b5 a1 spec_WritesOk_j3) FU 0))
def spec_l2Cells_j5(a2:Int)(a3:Int)(t5:((List TCell)×Bool)):Option (List TCell):=
 (if t5.2=true then(some t5.1) else(if (t5.1++([(TCell.mk a2 a3)])).length≤2147483648 then(some (t5.1++([(TCell.mk a2 a3)]))) else none))
def spec_l2Cells_j12(a1:(List TCell))(s9:((List TCell)×Bool×Int))(a2:Int)(kb10:(((List TCell)×Bool×Int)→Option (List TCell)))(t12:((List TCell)×Bool)):Option (List TCell):=
 ((idx a1 s9.2.2).bind fun v14=>(if ¬v14.Key=a2 then((idx a1 s9.2.2).bind fun v17=>(if (t12.1++([v17])).length≤2147483648 then(kb10 ((t12.1++([v17])),t12.2,(IntKind.wrap .i64 (s9.2.2+1)))) else none)) else(kb10 (t12.1,t12.2,(IntKind.wrap .i64 (s9.2.2+1))))))
def spec_l2Cells_j20(s9:((List TCell)×Bool×Int))(a2:Int)(a3:Int)(kx13:(((List TCell)×Bool)→Option (List TCell)))(t20:Bool):Option (List TCell):=
 (if t20=true then(if (s9.1++([(TCell.mk a2 a3)])).length≤2147483648 then(kx13 ((s9.1++([(TCell.mk a2 a3)])),true)) else none) else(kx13 (s9.1,s9.2.1)))
def spec_l2Cells_b9(a1:(List TCell))(a2:Int)(a3:Int)(kx6:(((List TCell)×Bool)→Option (List TCell)))(kb10:(((List TCell)×Bool×Int)→Option (List TCell)))(s9:((List TCell)×Bool×Int)):Option (List TCell):=
 (if s9.2.2 < (a1.length:Int) then(if s9.2.1=true then((spec_l2Cells_j20 s9 a2 a3 (spec_l2Cells_j12 a1 s9 a2 kb10)) false) else((idx a1 s9.2.2).bind fun v25=>((spec_l2Cells_j20 s9 a2 a3 (spec_l2Cells_j12 a1 s9 a2 kb10)) (decide (a2≤v25.Key))))) else(kx6 (s9.1,s9.2.1)))
def m_spec_l2Cells(a1:(List TCell))(a2:Int)(a3:Int)(a4:Bool):Option (List TCell):=
 (iter (spec_l2Cells_b9 a1 a2 a3 (spec_l2Cells_j5 a2 a3)) FU (([]:List TCell),(!a4),0))
def spec_StoreApply_j7(t7:(List TCell)):Option ((List TCell)×Bool):=
 (if 60 < ((t7.length:Nat):Int) then(some (([]:(List TCell)),false)) else(some (t7,true)))
def spec_StoreApply_b10(a2:(List TCell))(kx8:((List TCell)→Option ((List TCell)×Bool)))(kb11:(((List TCell)×Int)→Option ((List TCell)×Bool)))(s10:((List TCell)×Int)):Option ((List TCell)×Bool):=
 (if s10.2 < (a2.length:Int) then((idx a2 s10.2).bind fun v13=>((idx a2 s10.2).bind fun v15=>((idx a2 s10.2).bind fun v17=>((m_spec_l2Cells s10.1 v13.Key v15.Value (decide (0≤v17.Value))).bind fun v19=>(kb11 (v19,(IntKind.wrap .i64 (s10.2+1)))))))) else(kx8 s10.1))
def spec_StoreApply_j3(a1:(List TCell))(a2:(List TCell))(t3:Bool):Option ((List TCell)×Bool):=
 (if t3=true then(some (([]:(List TCell)),false)) else(if a1.length≤2147483648 then(iter (spec_StoreApply_b10 a2 spec_StoreApply_j7) FU (a1,0)) else none))
def m_spec_StoreApply(a1:(List TCell))(a2:(List TCell)):Option ((List TCell)×Bool):=
 ((m_spec_StoreOk a1).bind fun v21=>(if v21=true then((m_spec_WritesOk a2).bind fun v24=>((spec_StoreApply_j3 a1 a2) (!v24))) else((spec_StoreApply_j3 a1 a2) true)))
def spec_l11Get_j3(t3:Unit):Option Int:=
 (some (-1))
def spec_l11Get_b5(a1:(List TCell))(a2:Int)(kx4:(Unit→Option Int))(kb6:(Int→Option Int))(s5:Int):Option Int:=
 (if s5 < (a1.length:Int) then((idx a1 s5).bind fun v8=>(if v8.Key=a2 then((idx a1 s5).bind fun v11=>(some v11.Value)) else(kb6 (IntKind.wrap .i64 (s5+1))))) else(kx4 ()))
def m_spec_l11Get(a1:(List TCell))(a2:Int):Option Int:=
 (iter (spec_l11Get_b5 a1 a2 spec_l11Get_j3) FU 0)
def m_spec_StoreGet(a1:(List TCell))(a2:Int):Option Int:=
 ((m_spec_StoreOk a1).bind fun v3=>(if v3=true then((m_spec_l11Get a1 a2).bind fun v6=>(some v6)) else(some (-1))))
def impl_StoreNew_j6(t6:Int):Option Int:=
 (some t6)
def impl_StoreNew_j13(kb9:((Int×Int)→Option Int))(s8:(Int×Int))(t13:Bool):Option Int:=
 (if t13=true then(kb9 ((IntKind.wrap .i64 (s8.1+1)),(IntKind.wrap .i64 (s8.2+1)))) else(kb9 (s8.1,(IntKind.wrap .i64 (s8.2+1)))))
def impl_StoreNew_b8(a2:(List TCell))(a1:(List TCell))(kx7:(Int→Option Int))(kb9:((Int×Int)→Option Int))(s8:(Int×Int)):Option Int:=
 (if s8.2 < (a2.length:Int) then((idx a2 s8.2).bind fun v11=>(if ¬v11.Value=(-1) then((m_impl_valueOf a1 v11.Key).bind fun v17=>((impl_StoreNew_j13 kb9 s8) (decide (v17 < 0)))) else((impl_StoreNew_j13 kb9 s8) false))) else(kx7 s8.1))
def impl_StoreNew_j3(a2:(List TCell))(a1:(List TCell))(t3:Bool):Option Int:=
 (if t3=true then(some (-1)) else(iter (impl_StoreNew_b8 a2 a1 impl_StoreNew_j6) FU (0,0)))
def m_impl_StoreNew(a1:(List TCell))(a2:(List TCell)):Option Int:=
 ((m_impl_StoreOk a1).bind fun v19=>(if v19=true then((m_impl_WritesOk a2).bind fun v22=>((impl_StoreNew_j3 a2 a1) (!v22))) else((impl_StoreNew_j3 a2 a1) true)))
def laws_FnStore_j29(v23:((List TCell)×Bool))(v5:((List TCell)×(List TCell)))(t29:Unit):Option Bool:=
 ((m_impl_StoreOk v23.1).bind fun v31=>(if v31=true then((m_impl_StoreNew v23.1 v5.2).bind fun v34=>(if 0≤v34 then((m_impl_StoreNew v5.1 v5.2).bind fun v37=>(some (decide ((v23.1.length:Int)≤(IntKind.wrap .i64 ((v5.1.length:Int)+v37)))))) else(some false))) else(some false)))
def laws_FnStore_j42(kb40:(Int→Option Bool))(s39:Int)(t42:Unit):Option Bool:=
 (kb40 (IntKind.wrap .i64 (s39+1)))
def laws_FnStore_j46(v23:((List TCell)×Bool))(s39:Int)(kx43:(Unit→Option Bool))(t46:Int):Option Bool:=
 ((m_impl_StoreGet v23.1 s39).bind fun v48=>(if ¬v48=t46 then(some false) else(kx43 ())))
def laws_FnStore_b51(v5:((List TCell)×(List TCell)))(s39:Int)(kx47:(Int→Option Bool))(kb52:((Int×Int)→Option Bool))(s51:(Int×Int)):Option Bool:=
 (if s51.2 < (v5.2.length:Int) then((idx v5.2 s51.2).bind fun v54=>(if v54.Key=s39 then((idx v5.2 s51.2).bind fun v57=>(kb52 (v57.Value,(IntKind.wrap .i64 (s51.2+1))))) else(kb52 (s51.1,(IntKind.wrap .i64 (s51.2+1)))))) else(kx47 s51.1))
def laws_FnStore_b39(v5:((List TCell)×(List TCell)))(v23:((List TCell)×Bool))(kx30:(Unit→Option Bool))(kb40:(Int→Option Bool))(s39:Int):Option Bool:=
 (if s39 < 80 then((m_spec_StoreGet v5.1 s39).bind fun v44=>(iter (laws_FnStore_b51 v5 s39 (laws_FnStore_j46 v23 s39 (laws_FnStore_j42 kb40 s39))) FU (v44,0))) else(kx30 ()))
def laws_FnStore_j20(v5:((List TCell)×(List TCell)))(t20:Bool):Option Bool:=
 (if t20=true then(some false) else((m_impl_StoreApply v5.1 v5.2).bind fun v23=>((m_spec_StoreApply v5.1 v5.2).bind fun v25=>(if (v23.2 != v25.2)=true then(some false) else(if v23.2=true then(iter (laws_FnStore_b39 v5 v23 (laws_FnStore_j29 v23 v5)) FU 0) else(some (decide ((v23.1.length:Int)=0))))))))
def m_laws_FnStore(a1:(List Int)):Option Bool:=
 ((m_laws_big a1).bind fun v2=>(if v2=true then(some true) else((m_spec_DrawStoreApply a1).bind fun v5=>((m_laws_at a1 1).bind fun v7=>((m_laws_at a1 2).bind fun v9=>((m_impl_StoreCut v5.1 (TRange.mk (Int.tmod v7 30) (IntKind.wrap .i64 (31+v9)))).bind fun v11=>((m_impl_StoreScan v5.1 (TRange.mk (Int.tmod v7 30) (IntKind.wrap .i64 (31+v9)))).bind fun v13=>((m_impl_StoreJoin v11 v13).bind fun v15=>((m_spec_StoreOk v5.1).bind fun v17=>(if v17=true then(if v15.2=true then((m_laws_sameCells v15.1 v5.1).bind fun v60=>((laws_FnStore_j20 v5) (!v60))) else((laws_FnStore_j20 v5) true)) else(if v15.2=true then(if (v15.1.length:Int)=0 then((m_impl_StoreOk v5.1).bind fun v64=>(if v64=true then(some false) else((m_impl_StoreGet v5.1 1).bind fun v67=>(some (decide (v67=(-1))))))) else(some false)) else(some false))))))))))))
end Go.AW
