/- Plain functions that say what functions of the program compute: printed by a program of the prover's own (tool/dec.py). Conditions: none. -/
import Derived.Test.YtkdaohfkphodeaaYb
set_option linter.unusedVariables false
set_option maxRecDepth 100000
namespace Go.AW

structure TCell where
  Key : Int
  Value : Int
deriving DecidableEq

def ok_TCell (x : TCell) : Prop := inK .i64 x.Key ∧ inK .i64 x.Value

abbrev d_TCell (x : TCell) : List D := [(.int .i64 x.Key), (.int .i64 x.Value)]

abbrev d_i64 (x : Int) : List D := [(.int .i64 x)]

abbrev dS_TCell (x : (List TCell)) : List D := [(.sl 2 (List.map d_TCell x))]

def m_laws_szCellS (a1 : (List TCell)) (a2 : Int) : Option Int :=
  (if (IntKind.wrap .i64 (a2 - (a1.length : Int))) < 0 then (some (-1)) else (some (IntKind.wrap .i64 (a2 - (a1.length : Int)))))

def m_laws_szWriteS (a1 : (List TCell)) (a2 : Int) : Option Int :=
  (if (IntKind.wrap .i64 (a2 - (a1.length : Int))) < 0 then (some (-1)) else (some (IntKind.wrap .i64 (a2 - (a1.length : Int)))))

def m_laws_toCell (a1 : TCell) : Option TCell :=
  (some a1)

def laws_toCellS_j3  (t3 : (List TCell)) : Option (List TCell) :=
  (some t3)

def laws_toCellS_b5 (a1 : (List TCell)) (kx4 : ((List TCell) → Option (List TCell))) (kb6 : (((List TCell) × Int) → Option (List TCell))) (s5 : ((List TCell) × Int)) : Option (List TCell) :=
  (if s5.2 < (a1.length : Int) then ((idx a1 s5.2).bind fun v8 => ((m_laws_toCell v8).bind fun v10 => ((idx s5.1 s5.2).bind fun v12 => (kb6 (s5.1.set (Int.toNat s5.2) v10, (IntKind.wrap .i64 (s5.2 + 1))))))) else (kx4 s5.1))

def m_laws_toCellS (a1 : (List TCell)) : Option (List TCell) :=
  (if 0 ≤ (a1.length : Int) ∧ (a1.length : Int) ≤ 2147483648 then (iter (laws_toCellS_b5 a1 laws_toCellS_j3) FU ((List.replicate (Int.toNat (a1.length : Int)) (TCell.mk 0 0)), 0)) else none)

def m_laws_toWrite (a1 : TCell) : Option TCell :=
  (some a1)

def laws_toWriteS_j3  (t3 : (List TCell)) : Option (List TCell) :=
  (some t3)

def laws_toWriteS_b5 (a1 : (List TCell)) (kx4 : ((List TCell) → Option (List TCell))) (kb6 : (((List TCell) × Int) → Option (List TCell))) (s5 : ((List TCell) × Int)) : Option (List TCell) :=
  (if s5.2 < (a1.length : Int) then ((idx a1 s5.2).bind fun v8 => ((m_laws_toWrite v8).bind fun v10 => ((idx s5.1 s5.2).bind fun v12 => (kb6 (s5.1.set (Int.toNat s5.2) v10, (IntKind.wrap .i64 (s5.2 + 1))))))) else (kx4 s5.1))

def m_laws_toWriteS (a1 : (List TCell)) : Option (List TCell) :=
  (if 0 ≤ (a1.length : Int) ∧ (a1.length : Int) ≤ 2147483648 then (iter (laws_toWriteS_b5 a1 laws_toWriteS_j3) FU ((List.replicate (Int.toNat (a1.length : Int)) (TCell.mk 0 0)), 0)) else none)

def m_spec_l1In (a1 : Int) (a2 : Int) (a3 : Int) : Option Bool :=
  (if a2 ≤ a1 then (some (decide (a1 ≤ a3))) else (some false))

def m_spec_l10Key (a1 : Int) : Option Bool :=
  ((m_spec_l1In a1 0 999).bind fun v2 => (some v2))

def m_spec_l1Whole (a1 : Int) : Option Bool :=
  ((m_spec_l1In a1 0 1000000000).bind fun v2 => (some v2))

def spec_StoreOk_j3  (t3 : Unit) : Option Bool :=
  (some true)

def spec_StoreOk_j8 (kb6 : (Int → Option Bool)) (s5 : Int) (t8 : Bool) : Option Bool :=
  (if t8 = true then (some false) else (kb6 (IntKind.wrap .i64 (s5 + 1))))

def spec_StoreOk_b5 (a1 : (List TCell)) (kx4 : (Unit → Option Bool)) (kb6 : (Int → Option Bool)) (s5 : Int) : Option Bool :=
  (if s5 < (a1.length : Int) then ((idx a1 s5).bind fun v11 => ((m_spec_l10Key v11.Key).bind fun v13 => (if v13 = true then ((idx a1 s5).bind fun v16 => ((m_spec_l1Whole v16.Value).bind fun v18 => (if v18 = true then (if 0 < s5 then ((idx a1 (IntKind.wrap .i64 (s5 - 1))).bind fun v22 => ((idx a1 s5).bind fun v24 => ((spec_StoreOk_j8 kb6 s5) (decide (v24.Key ≤ v22.Key))))) else ((spec_StoreOk_j8 kb6 s5) false)) else ((spec_StoreOk_j8 kb6 s5) true)))) else ((spec_StoreOk_j8 kb6 s5) true)))) else (kx4 ()))

def m_spec_StoreOk (a1 : (List TCell)) : Option Bool :=
  (if 60 < (a1.length : Int) then (some false) else (iter (spec_StoreOk_b5 a1 spec_StoreOk_j3) FU 0))

def spec_WritesOk_j3  (t3 : Unit) : Option Bool :=
  (some true)

def spec_WritesOk_j8 (kb6 : (Int → Option Bool)) (s5 : Int) (t8 : Bool) : Option Bool :=
  (if t8 = true then (some false) else (kb6 (IntKind.wrap .i64 (s5 + 1))))

def spec_WritesOk_b5 (a1 : (List TCell)) (kx4 : (Unit → Option Bool)) (kb6 : (Int → Option Bool)) (s5 : Int) : Option Bool :=
  (if s5 < (a1.length : Int) then ((idx a1 s5).bind fun v11 => ((m_spec_l10Key v11.Key).bind fun v13 => (if v13 = true then ((idx a1 s5).bind fun v16 => ((m_spec_l1In v16.Value (-1) 1000000000).bind fun v18 => (if v18 = true then (if 0 < s5 then ((idx a1 (IntKind.wrap .i64 (s5 - 1))).bind fun v22 => ((idx a1 s5).bind fun v24 => ((spec_WritesOk_j8 kb6 s5) (decide (v24.Key ≤ v22.Key))))) else ((spec_WritesOk_j8 kb6 s5) false)) else ((spec_WritesOk_j8 kb6 s5) true)))) else ((spec_WritesOk_j8 kb6 s5) true)))) else (kx4 ()))

def m_spec_WritesOk (a1 : (List TCell)) : Option Bool :=
  (if 60 < (a1.length : Int) then (some false) else (iter (spec_WritesOk_b5 a1 spec_WritesOk_j3) FU 0))

def spec_l11Get_j3  (t3 : Unit) : Option Int :=
  (some (-1))

def spec_l11Get_b5 (a1 : (List TCell)) (a2 : Int) (kx4 : (Unit → Option Int)) (kb6 : (Int → Option Int)) (s5 : Int) : Option Int :=
  (if s5 < (a1.length : Int) then ((idx a1 s5).bind fun v8 => (if v8.Key = a2 then ((idx a1 s5).bind fun v11 => (some v11.Value)) else (kb6 (IntKind.wrap .i64 (s5 + 1))))) else (kx4 ()))

def m_spec_l11Get (a1 : (List TCell)) (a2 : Int) : Option Int :=
  (iter (spec_l11Get_b5 a1 a2 spec_l11Get_j3) FU 0)

def spec_StoreNew_j6  (t6 : Int) : Option Int :=
  (some t6)

def spec_StoreNew_j11 (kb9 : ((Int × Int) → Option Int)) (s8 : (Int × Int)) (t11 : Bool) : Option Int :=
  (if t11 = true then (kb9 ((IntKind.wrap .i64 (s8.1 + 1)), (IntKind.wrap .i64 (s8.2 + 1)))) else (kb9 (s8.1, (IntKind.wrap .i64 (s8.2 + 1)))))

def spec_StoreNew_b8 (a2 : (List TCell)) (a1 : (List TCell)) (kx7 : (Int → Option Int)) (kb9 : ((Int × Int) → Option Int)) (s8 : (Int × Int)) : Option Int :=
  (if s8.2 < (a2.length : Int) then ((idx a2 s8.2).bind fun v14 => (if 0 ≤ v14.Value then ((idx a2 s8.2).bind fun v17 => ((m_spec_l11Get a1 v17.Key).bind fun v19 => ((spec_StoreNew_j11 kb9 s8) (decide (v19 < 0))))) else ((spec_StoreNew_j11 kb9 s8) false))) else (kx7 s8.1))

def spec_StoreNew_j3 (a2 : (List TCell)) (a1 : (List TCell)) (t3 : Bool) : Option Int :=
  (if t3 = true then (some (-1)) else (iter (spec_StoreNew_b8 a2 a1 spec_StoreNew_j6) FU (0, 0)))

def m_spec_StoreNew (a1 : (List TCell)) (a2 : (List TCell)) : Option Int :=
  ((m_spec_StoreOk a1).bind fun v21 => (if v21 = true then ((m_spec_WritesOk a2).bind fun v24 => ((spec_StoreNew_j3 a2 a1) (!v24))) else ((spec_StoreNew_j3 a2 a1) true)))

def m_impl_from (a1 : Int) (a2 : Int) (a3 : Int) : Option Bool :=
  (if a2 ≤ a1 then (some (decide (a1 ≤ a3))) else (some false))

def m_impl_isKey (a1 : Int) : Option Bool :=
  ((m_impl_from a1 0 999).bind fun v2 => (some v2))

def m_impl_isWhole (a1 : Int) : Option Bool :=
  ((m_impl_from a1 0 1000000000).bind fun v2 => (some v2))

def impl_StoreOk_j2 (a1 : (List TCell)) (t2 : Unit) : Option Bool :=
  (some (decide ((a1.length : Int) ≤ 60)))

def impl_StoreOk_j9 (kb5 : (Int → Option Bool)) (s4 : Int) (t9 : Bool) : Option Bool :=
  (if t9 = true then (some false) else (kb5 (IntKind.wrap .i64 (s4 + 1))))

def impl_StoreOk_b4 (a1 : (List TCell)) (kx3 : (Unit → Option Bool)) (kb5 : (Int → Option Bool)) (s4 : Int) : Option Bool :=
  (if s4 < (a1.length : Int) then ((idx a1 s4).bind fun v7 => ((m_impl_isKey v7.Key).bind fun v12 => (if v12 = true then ((m_impl_isWhole v7.Value).bind fun v15 => (if v15 = true then (if 0 < s4 then ((idx a1 (IntKind.wrap .i64 (s4 - 1))).bind fun v19 => ((impl_StoreOk_j9 kb5 s4) (decide (v7.Key ≤ v19.Key)))) else ((impl_StoreOk_j9 kb5 s4) false)) else ((impl_StoreOk_j9 kb5 s4) true))) else ((impl_StoreOk_j9 kb5 s4) true)))) else (kx3 ()))

def m_impl_StoreOk (a1 : (List TCell)) : Option Bool :=
  (iter (impl_StoreOk_b4 a1 (impl_StoreOk_j2 a1)) FU 0)

def m_impl_isAnswer (a1 : Int) : Option Bool :=
  ((m_impl_from a1 (-1) 1000000000).bind fun v2 => (some v2))

def impl_WritesOk_j2 (a1 : (List TCell)) (t2 : Unit) : Option Bool :=
  (some (decide ((a1.length : Int) ≤ 60)))

def impl_WritesOk_j9 (kb5 : (Int → Option Bool)) (s4 : Int) (t9 : Bool) : Option Bool :=
  (if t9 = true then (some false) else (kb5 (IntKind.wrap .i64 (s4 + 1))))

def impl_WritesOk_b4 (a1 : (List TCell)) (kx3 : (Unit → Option Bool)) (kb5 : (Int → Option Bool)) (s4 : Int) : Option Bool :=
  (if s4 < (a1.length : Int) then ((idx a1 s4).bind fun v7 => ((m_impl_isKey v7.Key).bind fun v12 => (if v12 = true then ((m_impl_isAnswer v7.Value).bind fun v15 => (if v15 = true then (if 0 < s4 then ((idx a1 (IntKind.wrap .i64 (s4 - 1))).bind fun v19 => ((impl_WritesOk_j9 kb5 s4) (decide (v7.Key ≤ v19.Key)))) else ((impl_WritesOk_j9 kb5 s4) false)) else ((impl_WritesOk_j9 kb5 s4) true))) else ((impl_WritesOk_j9 kb5 s4) true)))) else (kx3 ()))

def m_impl_WritesOk (a1 : (List TCell)) : Option Bool :=
  (iter (impl_WritesOk_b4 a1 (impl_WritesOk_j2 a1)) FU 0)

def m_impl_cellFor_1 (a1 : TCell) (a2 : Int) : Option Int :=
  (some (IntKind.wrap .i64 (a1.Key - a2)))

def slices_BinarySearchFunc_Cell_int__cellFor_1_j3 (a1 : (List TCell)) (a2 : Int) (t3 : Int) : Option (Int × Bool) :=
  (if t3 < (a1.length : Int) then ((idx a1 t3).bind fun v6 => ((m_impl_cellFor_1 v6 a2).bind fun v8 => (some (t3, (decide (v8 = 0)))))) else (some (t3, false)))

def slices_BinarySearchFunc_Cell_int__cellFor_1_b10 (a1 : (List TCell)) (a2 : Int) (kx4 : (Int → Option (Int × Bool))) (kb11 : ((Int × Int) → Option (Int × Bool))) (s10 : (Int × Int)) : Option (Int × Bool) :=
  (if s10.1 < s10.2 then ((idx a1 (IntKind.wrap .i64 (Int.fdiv (IntKind.wrap .u64 (IntKind.wrap .i64 (s10.1 + s10.2))) (2 ^ (min (Int.toNat 1) (IntKind.bits .u64)))))).bind fun v13 => ((m_impl_cellFor_1 v13 a2).bind fun v15 => (if v15 < 0 then (kb11 ((IntKind.wrap .i64 ((IntKind.wrap .i64 (Int.fdiv (IntKind.wrap .u64 (IntKind.wrap .i64 (s10.1 + s10.2))) (2 ^ (min (Int.toNat 1) (IntKind.bits .u64))))) + 1)), s10.2)) else (kb11 (s10.1, (IntKind.wrap .i64 (Int.fdiv (IntKind.wrap .u64 (IntKind.wrap .i64 (s10.1 + s10.2))) (2 ^ (min (Int.toNat 1) (IntKind.bits .u64)))))))))) else (kx4 s10.1))

def m_slices_BinarySearchFunc_Cell_int__cellFor_1 (a1 : (List TCell)) (a2 : Int) : Option (Int × Bool) :=
  (iter (slices_BinarySearchFunc_Cell_int__cellFor_1_b10 a1 a2 (slices_BinarySearchFunc_Cell_int__cellFor_1_j3 a1 a2)) FU (0, (a1.length : Int)))

def m_impl_cellFor (a1 : (List TCell)) (a2 : Int) : Option (Int × Bool) :=
  ((m_slices_BinarySearchFunc_Cell_int__cellFor_1 a1 a2).bind fun v3 => (some (v3.1, v3.2)))

def m_impl_valueOf (a1 : (List TCell)) (a2 : Int) : Option Int :=
  ((m_impl_cellFor a1 a2).bind fun v3 => (if v3.2 = true then ((idx a1 v3.1).bind fun v6 => (some v6.Value)) else (some (-1))))

def impl_StoreNew_j6  (t6 : Int) : Option Int :=
  (some t6)

def impl_StoreNew_j13 (kb9 : ((Int × Int) → Option Int)) (s8 : (Int × Int)) (t13 : Bool) : Option Int :=
  (if t13 = true then (kb9 ((IntKind.wrap .i64 (s8.1 + 1)), (IntKind.wrap .i64 (s8.2 + 1)))) else (kb9 (s8.1, (IntKind.wrap .i64 (s8.2 + 1)))))

def impl_StoreNew_b8 (a2 : (List TCell)) (a1 : (List TCell)) (kx7 : (Int → Option Int)) (kb9 : ((Int × Int) → Option Int)) (s8 : (Int × Int)) : Option Int :=
  (if s8.2 < (a2.length : Int) then ((idx a2 s8.2).bind fun v11 => (if ¬ v11.Value = (-1) then ((m_impl_valueOf a1 v11.Key).bind fun v17 => ((impl_StoreNew_j13 kb9 s8) (decide (v17 < 0)))) else ((impl_StoreNew_j13 kb9 s8) false))) else (kx7 s8.1))

def impl_StoreNew_j3 (a2 : (List TCell)) (a1 : (List TCell)) (t3 : Bool) : Option Int :=
  (if t3 = true then (some (-1)) else (iter (impl_StoreNew_b8 a2 a1 impl_StoreNew_j6) FU (0, 0)))

def m_impl_StoreNew (a1 : (List TCell)) (a2 : (List TCell)) : Option Int :=
  ((m_impl_StoreOk a1).bind fun v19 => (if v19 = true then ((m_impl_WritesOk a2).bind fun v22 => ((impl_StoreNew_j3 a2 a1) (!v22))) else ((impl_StoreNew_j3 a2 a1) true)))

def m_laws_eqCell (a1 : TCell) (a2 : TCell) : Option Bool :=
  (if ¬ a1.Key = a2.Key then (some false) else (if ¬ a1.Value = a2.Value then (some false) else (some true)))

def laws_eqCellS_j4  (t4 : Unit) : Option Bool :=
  (some true)

def laws_eqCellS_b6 (a1 : (List TCell)) (a2 : (List TCell)) (kx5 : (Unit → Option Bool)) (kb7 : (Int → Option Bool)) (s6 : Int) : Option Bool :=
  (if s6 < (a1.length : Int) then ((idx a1 s6).bind fun v9 => ((idx a2 s6).bind fun v11 => ((m_laws_eqCell v9 v11).bind fun v13 => (if v13 = true then (kb7 (IntKind.wrap .i64 (s6 + 1))) else (some false))))) else (kx5 ()))

def m_laws_eqCellS (a1 : (List TCell)) (a2 : (List TCell)) : Option Bool :=
  (if ¬ (a1.length : Int) = (a2.length : Int) then (some false) else (iter (laws_eqCellS_b6 a1 a2 laws_eqCellS_j4) FU 0))

def m_laws_eqWrite (a1 : TCell) (a2 : TCell) : Option Bool :=
  (if ¬ a1.Key = a2.Key then (some false) else (if ¬ a1.Value = a2.Value then (some false) else (some true)))

def laws_eqWriteS_j4  (t4 : Unit) : Option Bool :=
  (some true)

def laws_eqWriteS_b6 (a1 : (List TCell)) (a2 : (List TCell)) (kx5 : (Unit → Option Bool)) (kb7 : (Int → Option Bool)) (s6 : Int) : Option Bool :=
  (if s6 < (a1.length : Int) then ((idx a1 s6).bind fun v9 => ((idx a2 s6).bind fun v11 => ((m_laws_eqWrite v9 v11).bind fun v13 => (if v13 = true then (kb7 (IntKind.wrap .i64 (s6 + 1))) else (some false))))) else (kx5 ()))

def m_laws_eqWriteS (a1 : (List TCell)) (a2 : (List TCell)) : Option Bool :=
  (if ¬ (a1.length : Int) = (a2.length : Int) then (some false) else (iter (laws_eqWriteS_b6 a1 a2 laws_eqWriteS_j4) FU 0))

def m_laws_FnExactStoreNew (a1 : (List TCell)) (a2 : (List TCell)) : Option Bool :=
  ((m_laws_szCellS a1 1048576).bind fun v3 => (if v3 < 0 then (some true) else ((m_laws_szWriteS a2 v3).bind fun v6 => (if v6 < 0 then (some true) else ((m_laws_toCellS a1).bind fun v9 => ((m_laws_toWriteS a2).bind fun v11 => ((m_spec_StoreNew v9 v11).bind fun v13 => ((m_laws_toCellS a1).bind fun v15 => ((m_laws_toWriteS a2).bind fun v17 => ((m_impl_StoreNew v15 v17).bind fun v19 => (if ¬ v19 = v13 then (some false) else ((m_laws_toCellS a1).bind fun v22 => ((m_laws_eqCellS v15 v22).bind fun v24 => (if v24 = true then ((m_laws_toWriteS a2).bind fun v27 => ((m_laws_eqWriteS v17 v27).bind fun v29 => (if v29 = true then (some true) else (some false)))) else (some false)))))))))))))))

end Go.AW
