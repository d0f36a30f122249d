/- Plain functions that say what functions of the program compute. Conditions: none. -/
import Derived.Test.YtlcjjljmjdmobaaYu
import Derived.Test.YtlcjjljmjdmobaaYi
set_option linter.unusedVariables false
set_option linter.unusedSimpArgs false
set_option maxRecDepth 100000
namespace Go.AW
structure TCell where
 Key:Int
 Value:Int
deriving DecidableEq
def ok_TCell(x:TCell):Prop:=inK .i64 x.Key∧inK .i64 x.Value
abbrev d_TCell(x:TCell):List D:=[(.int .i64 x.Key),(.int .i64 x.Value)]
abbrev dS_TCell(x:(List TCell)):List D:=[(.sl 2 (List.map d_TCell x))]
abbrev d_i64(x:Int):List D:=[(.int .i64 x)]
def m_laws_szCellS(a1:(List TCell))(a2:Int):Option Int:=
 (if (IntKind.wrap .i64 (a2 - (a1.length:Int))) < 0 then(some (-1)) else(some (IntKind.wrap .i64 (a2 - (a1.length:Int)))))
def m_laws_toCell(a1:TCell):Option TCell:=
 (some a1)
def laws_toCellS_j3(t3:(List TCell)):Option (List TCell):=
 (some t3)
def laws_toCellS_b5(a1:(List TCell))(kx4:((List TCell)→Option (List TCell)))(kb6:(((List TCell)×Int)→Option (List TCell)))(s5:((List TCell)×Int)):Option (List TCell):=
 (if s5.2 < (a1.length:Int) then((idx a1 s5.2).bind fun v8=>((m_laws_toCell v8).bind fun v10=>((idx s5.1 s5.2).bind fun v12=>(kb6 (s5.1.set (Int.toNat s5.2) v10,(IntKind.wrap .i64 (s5.2+1))))))) else(kx4 s5.1))
def m_laws_toCellS(a1:(List TCell)):Option (List TCell):=
 (if 0≤(a1.length:Int)∧(a1.length:Int)≤2147483648 then(iter (laws_toCellS_b5 a1 laws_toCellS_j3) FU ((List.replicate (Int.toNat (a1.length:Int)) (TCell.mk 0 0)),0)) else none)
def m_spec_l1In(a1:Int)(a2:Int)(a3:Int):Option Bool:=
 (if a2≤a1 then(some (decide (a1≤a3))) else(some false))
def m_spec_l10Key(a1:Int):Option Bool:=
 ((m_spec_l1In a1 0 999).bind fun v2=>(some v2))
def m_spec_l1Whole(a1:Int):Option Bool:=
 ((m_spec_l1In a1 0 1000000000).bind fun v2=>(some v2))
def spec_StoreOk_j3(t3:Unit):Option Bool:=
 (some true)
def spec_StoreOk_j8(kb6:(Int→Option Bool))(s5:Int)(t8:Bool):Option Bool:=
 (if t8=true then(some false) else(kb6 (IntKind.wrap .i64 (s5+1))))
def spec_StoreOk_b5(a1:(List TCell))(kx4:(Unit→Option Bool))(kb6:(Int→Option Bool))(s5:Int):Option Bool:=
 (if s5 < (a1.length:Int) then((idx a1 s5).bind fun v11=>((m_spec_l10Key v11.Key).bind fun v13=>(if v13=true then((idx a1 s5).bind fun v16=>((m_spec_l1Whole v16.Value).bind fun v18=>(if v18=true then(if 0 < s5 then((idx a1 (IntKind.wrap .i64 (s5 - 1))).bind fun v22=>((idx a1 s5).bind fun v24=>((spec_StoreOk_j8 kb6 s5) (decide (v24.Key≤v22.Key))))) else((spec_StoreOk_j8 kb6 s5) false)) else((spec_StoreOk_j8 kb6 s5) true)))) else((spec_StoreOk_j8 kb6 s5) true)))) else(kx4 ()))
def m_spec_StoreOk(a1:(List TCell)):Option Bool:=
 (if 60 < (a1.length:Int) then(some false) else(iter (spec_StoreOk_b5 a1 spec_StoreOk_j3) FU 0))
def spec_l11Get_j3(t3:Unit):Option Int:=
 (some (-1))
def spec_l11Get_b5(a1:(List TCell))(a2:Int)(kx4:(Unit→Option Int))(kb6:(Int→Option Int))(s5:Int):Option Int:=
 (if s5 < (a1.length:Int) then((idx a1 s5).bind fun v8=>(if v8.Key=a2 then((idx a1 s5).bind fun v11=>(some v11.Value)) else(kb6 (IntKind.wrap .i64 (s5+1))))) else(kx4 ()))
def m_spec_l11Get(a1:(List TCell))(a2:Int):Option Int:=
 (iter (spec_l11Get_b5 a1 a2 spec_l11Get_j3) FU 0)
def spec_l2Cells_j5(a2:Int)(a3:Int)(t5:((List TCell)×Bool)):Option (List TCell):=
 (if t5.2=true then(some t5.1) else(if (t5.1++([(TCell.mk a2 a3)])).length≤2147483648 then(some (t5.1++([(TCell.mk a2 a3)]))) else none))
def spec_l2Cells_j12(a1:(List TCell))(s9:((List TCell)×Bool×Int))(a2:Int)(kb10:(((List TCell)×Bool×Int)→Option (List TCell)))(t12:((List TCell)×Bool)):Option (List TCell):=
 ((idx a1 s9.2.2).bind fun v14=>(if ¬v14.Key=a2 then((idx a1 s9.2.2).bind fun v17=>(if (t12.1++([v17])).length≤2147483648 then(kb10 ((t12.1++([v17])),t12.2,(IntKind.wrap .i64 (s9.2.2+1)))) else none)) else(kb10 (t12.1,t12.2,(IntKind.wrap .i64 (s9.2.2+1))))))
def spec_l2Cells_j20(s9:((List TCell)×Bool×Int))(a2:Int)(a3:Int)(kx13:(((List TCell)×Bool)→Option (List TCell)))(t20:Bool):Option (List TCell):=
 (if t20=true then(if (s9.1++([(TCell.mk a2 a3)])).length≤2147483648 then(kx13 ((s9.1++([(TCell.mk a2 a3)])),true)) else none) else(kx13 (s9.1,s9.2.1)))
def spec_l2Cells_b9(a1:(List TCell))(a2:Int)(a3:Int)(kx6:(((List TCell)×Bool)→Option (List TCell)))(kb10:(((List TCell)×Bool×Int)→Option (List TCell)))(s9:((List TCell)×Bool×Int)):Option (List TCell):=
 (if s9.2.2 < (a1.length:Int) then(if s9.2.1=true then((spec_l2Cells_j20 s9 a2 a3 (spec_l2Cells_j12 a1 s9 a2 kb10)) false) else((idx a1 s9.2.2).bind fun v25=>((spec_l2Cells_j20 s9 a2 a3 (spec_l2Cells_j12 a1 s9 a2 kb10)) (decide (a2≤v25.Key))))) else(kx6 (s9.1,s9.2.1)))
def m_spec_l2Cells(a1:(List TCell))(a2:Int)(a3:Int)(a4:Bool):Option (List TCell):=
 (iter (spec_l2Cells_b9 a1 a2 a3 (spec_l2Cells_j5 a2 a3)) FU (([]:List TCell),(!a4),0))
def spec_StoreJoin_j7(t7:(List TCell)):Option ((List TCell)×Bool):=
 (some (t7,true))
def spec_StoreJoin_b9(a2:(List TCell))(a1:(List TCell))(kx8:((List TCell)→Option ((List TCell)×Bool)))(kb10:(((List TCell)×Int)→Option ((List TCell)×Bool)))(s9:((List TCell)×Int)):Option ((List TCell)×Bool):=
 (if s9.2 < (a2.length:Int) then((idx a2 s9.2).bind fun v12=>((m_spec_l11Get a1 v12.Key).bind fun v14=>(if 0≤v14 then(some (([]:(List TCell)),false)) else((idx a2 s9.2).bind fun v17=>((idx a2 s9.2).bind fun v19=>((m_spec_l2Cells s9.1 v17.Key v19.Value true).bind fun v21=>(kb10 (v21,(IntKind.wrap .i64 (s9.2+1)))))))))) else(kx8 s9.1))
def spec_StoreJoin_j3(a1:(List TCell))(a2:(List TCell))(t3:Bool):Option ((List TCell)×Bool):=
 (if t3=true then(some (([]:(List TCell)),false)) else(if a1.length≤2147483648 then(iter (spec_StoreJoin_b9 a2 a1 spec_StoreJoin_j7) FU (a1,0)) else none))
def m_spec_StoreJoin(a1:(List TCell))(a2:(List TCell)):Option ((List TCell)×Bool):=
 ((m_spec_StoreOk a1).bind fun v23=>(if v23=true then((m_spec_StoreOk a2).bind fun v26=>(if v26=true then((spec_StoreJoin_j3 a1 a2) (decide (60 < (IntKind.wrap .i64 ((a1.length:Int)+(a2.length:Int)))))) else((spec_StoreJoin_j3 a1 a2) true))) else((spec_StoreJoin_j3 a1 a2) true)))
def m_impl_from(a1:Int)(a2:Int)(a3:Int):Option Bool:=
 (if a2≤a1 then(some (decide (a1≤a3))) else(some false))
def m_impl_isKey(a1:Int):Option Bool:=
 ((m_impl_from a1 0 999).bind fun v2=>(some v2))
def m_impl_isWhole(a1:Int):Option Bool:=
 ((m_impl_from a1 0 1000000000).bind fun v2=>(some v2))
def impl_StoreOk_j2(a1:(List TCell))(t2:Unit):Option Bool:=
 (some (decide ((a1.length:Int)≤60)))
def impl_StoreOk_j9(kb5:(Int→Option Bool))(s4:Int)(t9:Bool):Option Bool:=
 (if t9=true then(some false) else(kb5 (IntKind.wrap .i64 (s4+1))))
def impl_StoreOk_b4(a1:(List TCell))(kx3:(Unit→Option Bool))(kb5:(Int→Option Bool))(s4:Int):Option Bool:=
 (if s4 < (a1.length:Int) then((idx a1 s4).bind fun v7=>((m_impl_isKey v7.Key).bind fun v12=>(if v12=true then((m_impl_isWhole v7.Value).bind fun v15=>(if v15=true then(if 0 < s4 then((idx a1 (IntKind.wrap .i64 (s4 - 1))).bind fun v19=>((impl_StoreOk_j9 kb5 s4) (decide (v7.Key≤v19.Key)))) else((impl_StoreOk_j9 kb5 s4) false)) else((impl_StoreOk_j9 kb5 s4) true))) else((impl_StoreOk_j9 kb5 s4) true)))) else(kx3 ()))
def m_impl_StoreOk(a1:(List TCell)):Option Bool:=
 (iter (impl_StoreOk_b4 a1 (impl_StoreOk_j2 a1)) FU 0)
def m_slices_Grow_Cell(a1:List TCell)(a2:Int):Option (List TCell):=
 if 0≤a2∧a2≤1000000000 then some [] else none
def slices_Concat_Cell_j6(t6:(List TCell)):Option (List TCell):=
 (some t6)
def slices_Concat_Cell_b8(a1:(List (List TCell)))(kx7:((List TCell)→Option (List TCell)))(kb9:(((List TCell)×Int)→Option (List TCell)))(s8:((List TCell)×Int)):Option (List TCell):=
 (if s8.2 < (a1.length:Int) then((idx a1 s8.2).bind fun v11=>(if (s8.1++v11).length≤2147483648 then(kb9 ((s8.1++v11),(IntKind.wrap .i64 (s8.2+1)))) else none)) else(kx7 s8.1))
def slices_Concat_Cell_j2(a1:(List (List TCell)))(t2:Int):Option (List TCell):=
 ((m_slices_Grow_Cell ([]:(List TCell)) t2).bind fun v4=>(iter (slices_Concat_Cell_b8 a1 slices_Concat_Cell_j6) FU (v4,0)))
def slices_Concat_Cell_b14(a1:(List (List TCell)))(kx3:(Int→Option (List TCell)))(kb15:((Int×Int)→Option (List TCell)))(s14:(Int×Int)):Option (List TCell):=
 (if s14.2 < (a1.length:Int) then((idx a1 s14.2).bind fun v17=>(if (IntKind.wrap .i64 (s14.1+(v17.length:Int))) < 0 then none else(kb15 ((IntKind.wrap .i64 (s14.1+(v17.length:Int))),(IntKind.wrap .i64 (s14.2+1)))))) else(kx3 s14.1))
def m_slices_Concat_Cell(a1:(List (List TCell))):Option (List TCell):=
 (iter (slices_Concat_Cell_b14 a1 (slices_Concat_Cell_j2 a1)) FU (0,0))
def m_slices_SortFunc_Cell__StoreJoin_1(a1:List TCell):Option (List TCell):=
 if h:(∀c∈a1,0≤c.Key∧c.Key≤1000000)∧a1.length≤1000000000 then some ((sortK (a1.pmap (fun c hc=>(⟨(c.Key,c.Value),hc⟩:KC)) h.1)).map fun p=>⟨p.1.1,p.1.2⟩) else none
def impl_StoreJoin_j3(a1:(List TCell))(a2:(List TCell))(t3:Bool):Option ((List TCell)×Bool):=
 (if t3=true then(some (([]:(List TCell)),false)) else((m_slices_Concat_Cell ([a1,a2])).bind fun v6=>((m_slices_SortFunc_Cell__StoreJoin_1 v6).bind fun v8=>(if v8.length=v6.length then((m_impl_StoreOk v8).bind fun v11=>(if v11=true then(some (v8,true)) else(some (([]:(List TCell)),false)))) else none))))
def m_impl_StoreJoin(a1:(List TCell))(a2:(List TCell)):Option ((List TCell)×Bool):=
 ((m_impl_StoreOk a1).bind fun v14=>(if v14=true then((m_impl_StoreOk a2).bind fun v17=>(if v17=true then((impl_StoreJoin_j3 a1 a2) (decide (60 < (IntKind.wrap .i64 ((a1.length:Int)+(a2.length:Int)))))) else((impl_StoreJoin_j3 a1 a2) true))) else((impl_StoreJoin_j3 a1 a2) true)))
def m_laws_eqCell(a1:TCell)(a2:TCell):Option Bool:=
 (if ¬a1.Key=a2.Key then(some false) else(if ¬a1.Value=a2.Value then(some false) else(some true)))
def laws_eqCellS_j4(t4:Unit):Option Bool:=
 (some true)
def laws_eqCellS_b6(a1:(List TCell))(a2:(List TCell))(kx5:(Unit→Option Bool))(kb7:(Int→Option Bool))(s6:Int):Option Bool:=
 (if s6 < (a1.length:Int) then((idx a1 s6).bind fun v9=>((idx a2 s6).bind fun v11=>((m_laws_eqCell v9 v11).bind fun v13=>(if v13=true then(kb7 (IntKind.wrap .i64 (s6+1))) else(some false))))) else(kx5 ()))
def m_laws_eqCellS(a1:(List TCell))(a2:(List TCell)):Option Bool:=
 (if ¬(a1.length:Int)=(a2.length:Int) then(some false) else(iter (laws_eqCellS_b6 a1 a2 laws_eqCellS_j4) FU 0))
def laws_markCellS_j3(a1:(List TCell))(t3:((List TCell)×Int)):Option (Int×(List TCell)):=
 (if t3.1.length=a1.length then(some (t3.2,t3.1)) else none)
def laws_markCellS_b6(kx4:(((List TCell)×Int)→Option (Int×(List TCell))))(kb7:(((List TCell)×Int×Int)→Option (Int×(List TCell))))(s6:((List TCell)×Int×Int)):Option (Int×(List TCell)):=
 (if s6.2.2 < ((s6.1.length:Nat):Int) then((idx s6.1 s6.2.2).bind fun v9=>((idx (s6.1.set (Int.toNat s6.2.2) (TCell.mk s6.2.1 v9.Value)) s6.2.2).bind fun v11=>(kb7 ((s6.1.set (Int.toNat s6.2.2) (TCell.mk s6.2.1 v9.Value)).set (Int.toNat s6.2.2) (TCell.mk v11.Key (IntKind.wrap .i64 (s6.2.1+1))),(IntKind.wrap .i64 ((IntKind.wrap .i64 (s6.2.1+1))+1)),(IntKind.wrap .i64 (s6.2.2+1)))))) else(kx4 (s6.1,s6.2.1)))
def m_laws_markCellS(a1:(List TCell))(a2:Int):Option (Int×(List TCell)):=
 (iter (laws_markCellS_b6 (laws_markCellS_j3 a1)) FU (a1,a2,0))
def laws_heldCellS_j3(t3:Int):Option Int:=
 (some t3)
def laws_heldCellS_b5(a1:(List TCell))(kx4:(Int→Option Int))(kb6:((Int×Int)→Option Int))(s5:(Int×Int)):Option Int:=
 (if s5.2 < (a1.length:Int) then((idx a1 s5.2).bind fun v8=>(if ¬v8.Key=s5.1 then(some (-1)) else((idx a1 s5.2).bind fun v11=>(if ¬v11.Value=(IntKind.wrap .i64 (s5.1+1)) then(some (-1)) else(kb6 ((IntKind.wrap .i64 ((IntKind.wrap .i64 (s5.1+1))+1)),(IntKind.wrap .i64 (s5.2+1)))))))) else(kx4 s5.1))
def m_laws_heldCellS(a1:(List TCell))(a2:Int):Option Int:=
 (iter (laws_heldCellS_b5 a1 laws_heldCellS_j3) FU (a2,0))
def laws_FnExactStoreJoin_j56(v43:(Int×(List TCell)))(t56:Bool):Option Bool:=
 (if t56=true then(some false) else((m_laws_heldCellS v43.2 1).bind fun v59=>(if v59 < 0 then(some false) else(if ¬v59=v43.1 then(some false) else(some true)))))
def laws_FnExactStoreJoin_j40(v19:((List TCell)×Bool))(a1:(List TCell))(a2:(List TCell))(v13:((List TCell)×Bool))(t40:Bool):Option Bool:=
 (if t40=true then(some false) else((m_laws_markCellS v19.1 1).bind fun v43=>(if v43.2.length=v19.1.length then((m_laws_heldCellS v43.2 1).bind fun v46=>(if v46 < 0 then(some false) else(if ¬v46=v43.1 then(some false) else((m_laws_toCellS a1).bind fun v50=>((m_laws_toCellS a2).bind fun v52=>((m_impl_StoreJoin v50 v52).bind fun v54=>((m_laws_eqCellS v54.1 v13.1).bind fun v63=>(if v63=true then((laws_FnExactStoreJoin_j56 v43) (v54.2 != v13.2)) else((laws_FnExactStoreJoin_j56 v43) true))))))))) else none)))
def laws_FnExactStoreJoin_j21(a1:(List TCell))(v15:(List TCell))(a2:(List TCell))(v17:(List TCell))(v19:((List TCell)×Bool))(v13:((List TCell)×Bool))(t21:Bool):Option Bool:=
 (if t21=true then(some false) else((m_laws_toCellS a1).bind fun v24=>((m_laws_eqCellS v15 v24).bind fun v26=>(if v26=true then((m_laws_toCellS a2).bind fun v29=>((m_laws_eqCellS v17 v29).bind fun v31=>(if v31=true then((m_laws_markCellS v15 1).bind fun v34=>(if v34.2.length=v15.length then((m_laws_markCellS v17 v34.1).bind fun v37=>(if v37.2.length=v17.length then(if v37.1 < 0 then((laws_FnExactStoreJoin_j40 v19 a1 a2 v13) true) else((m_laws_eqCellS v19.1 v13.1).bind fun v67=>(if v67=true then((laws_FnExactStoreJoin_j40 v19 a1 a2 v13) (v19.2 != v13.2)) else((laws_FnExactStoreJoin_j40 v19 a1 a2 v13) true)))) else none)) else none)) else(some false)))) else(some false)))))
def m_laws_FnExactStoreJoin(a1:(List TCell))(a2:(List TCell)):Option Bool:=
 ((m_laws_szCellS a1 1048576).bind fun v3=>(if v3 < 0 then(some true) else((m_laws_szCellS a2 v3).bind fun v6=>(if v6 < 0 then(some true) else((m_laws_toCellS a1).bind fun v9=>((m_laws_toCellS a2).bind fun v11=>((m_spec_StoreJoin v9 v11).bind fun v13=>((m_laws_toCellS a1).bind fun v15=>((m_laws_toCellS a2).bind fun v17=>((m_impl_StoreJoin v15 v17).bind fun v19=>((m_laws_eqCellS v19.1 v13.1).bind fun v70=>(if v70=true then((laws_FnExactStoreJoin_j21 a1 v15 a2 v17 v19 v13) (v19.2 != v13.2)) else((laws_FnExactStoreJoin_j21 a1 v15 a2 v17 v19 v13) true)))))))))))))
def m_impl_cellFor_1(a1:TCell)(a2:Int):Option Int:=
 (some (IntKind.wrap .i64 (a1.Key - a2)))
def slices_BinarySearchFunc_Cell_int__cellFor_1_j3(a1:(List TCell))(a2:Int)(t3:Int):Option (Int×Bool):=
 (if t3 < (a1.length:Int) then((idx a1 t3).bind fun v6=>((m_impl_cellFor_1 v6 a2).bind fun v8=>(some (t3,(decide (v8=0)))))) else(some (t3,false)))
def slices_BinarySearchFunc_Cell_int__cellFor_1_b10(a1:(List TCell))(a2:Int)(kx4:(Int→Option (Int×Bool)))(kb11:((Int×Int)→Option (Int×Bool)))(s10:(Int×Int)):Option (Int×Bool):=
 (if s10.1 < s10.2 then((idx a1 (IntKind.wrap .i64 (Int.fdiv (IntKind.wrap .u64 (IntKind.wrap .i64 (s10.1+s10.2))) (2 ^ (min (Int.toNat 1) (IntKind.bits .u64)))))).bind fun v13=>((m_impl_cellFor_1 v13 a2).bind fun v15=>(if v15 < 0 then(kb11 ((IntKind.wrap .i64 ((IntKind.wrap .i64 (Int.fdiv (IntKind.wrap .u64 (IntKind.wrap .i64 (s10.1+s10.2))) (2 ^ (min (Int.toNat 1) (IntKind.bits .u64)))))+1)),s10.2)) else(kb11 (s10.1,(IntKind.wrap .i64 (Int.fdiv (IntKind.wrap .u64 (IntKind.wrap .i64 (s10.1+s10.2))) (2 ^ (min (Int.toNat 1) (IntKind.bits .u64)))))))))) else(kx4 s10.1))
def m_slices_BinarySearchFunc_Cell_int__cellFor_1(a1:(List TCell))(a2:Int):Option (Int×Bool):=
 (iter (slices_BinarySearchFunc_Cell_int__cellFor_1_b10 a1 a2 (slices_BinarySearchFunc_Cell_int__cellFor_1_j3 a1 a2)) FU (0,(a1.length:Int)))
def m_impl_cellFor(a1:(List TCell))(a2:Int):Option (Int×Bool):=
 ((m_slices_BinarySearchFunc_Cell_int__cellFor_1 a1 a2).bind fun v3=>(some (v3.1,v3.2)))
def slices_Clone_Cell_j2(a1:(List TCell))(t2:Unit):Option (List TCell):=
 (if a1.length≤2147483648 then(some a1) else none)
def m_slices_Clone_Cell(a1:(List TCell)):Option (List TCell):=
 (if a1.length=0 then((slices_Clone_Cell_j2 a1) ()) else((slices_Clone_Cell_j2 a1) ()))
def m_slices_Delete_Cell(a1:List TCell)(a2 a3:Int):Option (List TCell):=
 if 0≤a2∧a2 < a3∧a3≤(a1.length:Int)∧a1.length≤1000000000 then some (List.take (Int.toNat a2) a1++List.drop (Int.toNat a3) a1) else none
def m_slices_Insert_Cell(a1:List TCell)(a2:Int)(a3:List TCell):Option (List TCell):=
 if 0≤a2∧a2≤(a1.length:Int)∧a3.length=1∧a1.length≤1000000000 then some (List.take (Int.toNat a2) a1++(a3++List.drop (Int.toNat a2) a1)) else none
def impl_put_j6(a1:(List TCell))(v4:(Int×Bool))(a3:Int)(a2:Int)(t6:Bool):Option (List TCell):=
 (if t6=true then((m_slices_Clone_Cell a1).bind fun v9=>((m_slices_Delete_Cell v9 v4.1 (IntKind.wrap .i64 (v4.1+1))).bind fun v11=>(some v11))) else(if a3=(-1) then((m_slices_Clone_Cell a1).bind fun v14=>(some v14)) else(if v4.2=true then((m_slices_Clone_Cell a1).bind fun v17=>((idx v17 v4.1).bind fun v19=>(some (v17.set (Int.toNat v4.1) (TCell.mk v19.Key a3))))) else((m_slices_Clone_Cell a1).bind fun v21=>((m_slices_Insert_Cell v21 v4.1 ([(TCell.mk a2 a3)])).bind fun v23=>(some v23))))))
def m_impl_put(a1:(List TCell))(a2:Int)(a3:Int):Option (List TCell):=
 ((m_impl_cellFor a1 a2).bind fun v4=>(if a3=(-1) then((impl_put_j6 a1 v4 a3 a2) v4.2) else((impl_put_j6 a1 v4 a3 a2) false)))
end Go.AW
