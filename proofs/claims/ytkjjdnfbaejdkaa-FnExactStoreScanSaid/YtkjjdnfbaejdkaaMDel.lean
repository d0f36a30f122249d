/- Plain functions that say what functions of the program compute: printed by a program of the prover's own (tool/dec.py). Conditions: none. -/
import Derived.Test.YtkjjdnfbaejdkaaYc
set_option linter.unusedVariables false
set_option maxRecDepth 100000
namespace Go.AW

structure TCell where
  Key : Int
  Value : Int
deriving DecidableEq

def ok_TCell (x : TCell) : Prop := inK .i64 x.Key ∧ inK .i64 x.Value

abbrev d_TCell (x : TCell) : List D := [(.int .i64 x.Key), (.int .i64 x.Value)]

structure TRange where
  Lo : Int
  Hi : Int
deriving DecidableEq

def ok_TRange (x : TRange) : Prop := inK .i64 x.Lo ∧ inK .i64 x.Hi

abbrev d_TRange (x : TRange) : List D := [(.int .i64 x.Lo), (.int .i64 x.Hi)]

abbrev d_bool (x : Bool) : List D := [(.bool x)]

structure TLock where
  Tx : Int
  Lo : Int
  Hi : Int
  Mode : Int
deriving DecidableEq

def ok_TLock (x : TLock) : Prop := inK .i64 x.Tx ∧ inK .i64 x.Lo ∧ inK .i64 x.Hi ∧ inK .i64 x.Mode

abbrev d_TLock (x : TLock) : List D := [(.int .i64 x.Tx), (.int .i64 x.Lo), (.int .i64 x.Hi), (.int .i64 x.Mode)]

abbrev d_i64 (x : Int) : List D := [(.int .i64 x)]

abbrev dS_TCell (x : (List TCell)) : List D := [(.sl 2 (List.map d_TCell x))]

abbrev dS_TLock (x : (List TLock)) : List D := [(.sl 4 (List.map d_TLock x))]

def m_laws_szCellS (a1 : (List TCell)) (a2 : Int) : Option Int :=
  (if (IntKind.wrap .i64 (a2 - (a1.length : Int))) < 0 then (some (-1)) else (some (IntKind.wrap .i64 (a2 - (a1.length : Int)))))

def m_laws_toCell (a1 : TCell) : Option TCell :=
  (some a1)

def laws_toCellS_j3  (t3 : (List TCell)) : Option (List TCell) :=
  (some t3)

def laws_toCellS_b5 (a1 : (List TCell)) (kx4 : ((List TCell) → Option (List TCell))) (kb6 : (((List TCell) × Int) → Option (List TCell))) (s5 : ((List TCell) × Int)) : Option (List TCell) :=
  (if s5.2 < (a1.length : Int) then ((idx a1 s5.2).bind fun v8 => ((m_laws_toCell v8).bind fun v10 => ((idx s5.1 s5.2).bind fun v12 => (kb6 (s5.1.set (Int.toNat s5.2) v10, (IntKind.wrap .i64 (s5.2 + 1))))))) else (kx4 s5.1))

def m_laws_toCellS (a1 : (List TCell)) : Option (List TCell) :=
  (if 0 ≤ (a1.length : Int) ∧ (a1.length : Int) ≤ 2147483648 then (iter (laws_toCellS_b5 a1 laws_toCellS_j3) FU ((List.replicate (Int.toNat (a1.length : Int)) (TCell.mk 0 0)), 0)) else none)

def m_laws_toRange (a1 : TRange) : Option TRange :=
  (some a1)

def m_spec_l1In (a1 : Int) (a2 : Int) (a3 : Int) : Option Bool :=
  (if a2 ≤ a1 then (some (decide (a1 ≤ a3))) else (some false))

def m_spec_l10Key (a1 : Int) : Option Bool :=
  ((m_spec_l1In a1 0 999).bind fun v2 => (some v2))

def m_spec_l1Whole (a1 : Int) : Option Bool :=
  ((m_spec_l1In a1 0 1000000000).bind fun v2 => (some v2))

def spec_StoreOk_j3  (t3 : Unit) : Option Bool :=
  (some true)

def spec_StoreOk_j8 (kb6 : (Int → Option Bool)) (s5 : Int) (t8 : Bool) : Option Bool :=
  (if t8 = true then (some false) else (kb6 (IntKind.wrap .i64 (s5 + 1))))

def spec_StoreOk_b5 (a1 : (List TCell)) (kx4 : (Unit → Option Bool)) (kb6 : (Int → Option Bool)) (s5 : Int) : Option Bool :=
  (if s5 < (a1.length : Int) then ((idx a1 s5).bind fun v11 => ((m_spec_l10Key v11.Key).bind fun v13 => (if v13 = true then ((idx a1 s5).bind fun v16 => ((m_spec_l1Whole v16.Value).bind fun v18 => (if v18 = true then (if 0 < s5 then ((idx a1 (IntKind.wrap .i64 (s5 - 1))).bind fun v22 => ((idx a1 s5).bind fun v24 => ((spec_StoreOk_j8 kb6 s5) (decide (v24.Key ≤ v22.Key))))) else ((spec_StoreOk_j8 kb6 s5) false)) else ((spec_StoreOk_j8 kb6 s5) true)))) else ((spec_StoreOk_j8 kb6 s5) true)))) else (kx4 ()))

def m_spec_StoreOk (a1 : (List TCell)) : Option Bool :=
  (if 60 < (a1.length : Int) then (some false) else (iter (spec_StoreOk_b5 a1 spec_StoreOk_j3) FU 0))

def m_spec_RangeOk (a1 : TRange) : Option Bool :=
  (if 0 ≤ a1.Lo then (if a1.Lo < a1.Hi then (some (decide (a1.Hi ≤ 1000))) else (some false)) else (some false))

def spec_l11Scan_j4  (t4 : (List TCell)) : Option (List TCell) :=
  (some t4)

def spec_l11Scan_b6 (a1 : (List TCell)) (a2 : TRange) (a3 : Bool) (kx5 : ((List TCell) → Option (List TCell))) (kb7 : (((List TCell) × Int) → Option (List TCell))) (s6 : ((List TCell) × Int)) : Option (List TCell) :=
  (if s6.2 < (a1.length : Int) then ((m_spec_StoreOk a1).bind fun v9 => (if v9 = true then ((m_spec_RangeOk a2).bind fun v12 => (if v12 = true then ((idx a1 s6.2).bind fun v15 => ((m_spec_l1In v15.Key a2.Lo (IntKind.wrap .i64 (a2.Hi - 1))).bind fun v17 => (if (v17 == a3) = true then ((idx a1 s6.2).bind fun v20 => (if (s6.1 ++ ([v20])).length ≤ 2147483648 then (kb7 ((s6.1 ++ ([v20])), (IntKind.wrap .i64 (s6.2 + 1)))) else none)) else (kb7 (s6.1, (IntKind.wrap .i64 (s6.2 + 1))))))) else (kx5 s6.1))) else (kx5 s6.1))) else (kx5 s6.1))

def m_spec_l11Scan (a1 : (List TCell)) (a2 : TRange) (a3 : Bool) : Option (List TCell) :=
  (iter (spec_l11Scan_b6 a1 a2 a3 spec_l11Scan_j4) FU (([] : List TCell), 0))

def m_spec_StoreCut (a1 : (List TCell)) (a2 : TRange) : Option (List TCell) :=
  ((m_spec_l11Scan a1 a2 false).bind fun v3 => (some v3))

def m_impl_from (a1 : Int) (a2 : Int) (a3 : Int) : Option Bool :=
  (if a2 ≤ a1 then (some (decide (a1 ≤ a3))) else (some false))

def m_impl_isKey (a1 : Int) : Option Bool :=
  ((m_impl_from a1 0 999).bind fun v2 => (some v2))

def m_impl_isWhole (a1 : Int) : Option Bool :=
  ((m_impl_from a1 0 1000000000).bind fun v2 => (some v2))

def impl_StoreOk_j2 (a1 : (List TCell)) (t2 : Unit) : Option Bool :=
  (some (decide ((a1.length : Int) ≤ 60)))

def impl_StoreOk_j9 (kb5 : (Int → Option Bool)) (s4 : Int) (t9 : Bool) : Option Bool :=
  (if t9 = true then (some false) else (kb5 (IntKind.wrap .i64 (s4 + 1))))

def impl_StoreOk_b4 (a1 : (List TCell)) (kx3 : (Unit → Option Bool)) (kb5 : (Int → Option Bool)) (s4 : Int) : Option Bool :=
  (if s4 < (a1.length : Int) then ((idx a1 s4).bind fun v7 => ((m_impl_isKey v7.Key).bind fun v12 => (if v12 = true then ((m_impl_isWhole v7.Value).bind fun v15 => (if v15 = true then (if 0 < s4 then ((idx a1 (IntKind.wrap .i64 (s4 - 1))).bind fun v19 => ((impl_StoreOk_j9 kb5 s4) (decide (v7.Key ≤ v19.Key)))) else ((impl_StoreOk_j9 kb5 s4) false)) else ((impl_StoreOk_j9 kb5 s4) true))) else ((impl_StoreOk_j9 kb5 s4) true)))) else (kx3 ()))

def m_impl_StoreOk (a1 : (List TCell)) : Option Bool :=
  (iter (impl_StoreOk_b4 a1 (impl_StoreOk_j2 a1)) FU 0)

def m_impl_RangeOk (a1 : TRange) : Option Bool :=
  (if 0 ≤ a1.Lo then (if a1.Lo < a1.Hi then (some (decide (a1.Hi ≤ 1000))) else (some false)) else (some false))

def slices_Clone_Cell_j2 (a1 : (List TCell)) (t2 : Unit) : Option (List TCell) :=
  (if a1.length ≤ 2147483648 then (some a1) else none)

def m_slices_Clone_Cell (a1 : (List TCell)) : Option (List TCell) :=
  (if a1.length = 0 then ((slices_Clone_Cell_j2 a1) ()) else ((slices_Clone_Cell_j2 a1) ()))

def m_impl_Range_has (a1 : TRange) (a2 : Int) : Option Bool :=
  ((m_impl_from a2 a1.Lo (IntKind.wrap .i64 (a1.Hi - 1))).bind fun v3 => (some v3))

def m_impl_within_1 (a1 : TCell) (a2 : TRange) (a3 : Bool) : Option Bool :=
  ((m_impl_Range_has a2 a1.Key).bind fun v4 => (some (v4 != a3)))

def slices_IndexFunc_Cell__within_1_j4  (t4 : Unit) : Option Int :=
  (some (-1))

def slices_IndexFunc_Cell__within_1_b6 (a1 : (List TCell)) (a2 : TRange) (a3 : Bool) (kx5 : (Unit → Option Int)) (kb7 : (Int → Option Int)) (s6 : Int) : Option Int :=
  (if s6 < (a1.length : Int) then ((idx a1 s6).bind fun v9 => ((m_impl_within_1 v9 a2 a3).bind fun v11 => (if v11 = true then (some s6) else (kb7 (IntKind.wrap .i64 (s6 + 1)))))) else (kx5 ()))

def m_slices_IndexFunc_Cell__within_1 (a1 : (List TCell)) (a2 : TRange) (a3 : Bool) : Option Int :=
  (iter (slices_IndexFunc_Cell__within_1_b6 a1 a2 a3 slices_IndexFunc_Cell__within_1_j4) FU 0)

def slices_DeleteFunc_Cell__within_1_j7  (t7 : ((List TCell) × Int)) : Option (List TCell) :=
  (if (0 : Int) ≤ t7.2 ∧ t7.2 ≤ ((t7.1.length : Nat) : Int) ∧ ((t7.1.length : Nat) : Int) ≤ ((t7.1.length : Nat) : Int) then (if (Int.toNat t7.2) + (Int.toNat ((t7.1.length : Nat) : Int) - Int.toNat t7.2) ≤ t7.1.length then (if (0 : Int) ≤ 0 ∧ 0 ≤ t7.2 ∧ t7.2 ≤ ((t7.1.length : Nat) : Int) then (some (List.take (Int.toNat t7.2) (List.take (Int.toNat t7.2) t7.1 ++ List.replicate (Int.toNat ((t7.1.length : Nat) : Int) - Int.toNat t7.2) (TCell.mk 0 0) ++ List.drop ((Int.toNat t7.2) + (Int.toNat ((t7.1.length : Nat) : Int) - Int.toNat t7.2)) t7.1))) else none) else none) else none)

def slices_DeleteFunc_Cell__within_1_b12 (a2 : TRange) (a3 : Bool) (kx8 : (((List TCell) × Int) → Option (List TCell))) (kb13 : (((List TCell) × Int × Int) → Option (List TCell))) (s12 : ((List TCell) × Int × Int)) : Option (List TCell) :=
  (if s12.2.2 < ((s12.1.length : Nat) : Int) then ((idx s12.1 s12.2.2).bind fun v15 => ((m_impl_within_1 v15 a2 a3).bind fun v17 => (if v17 = true then (kb13 (s12.1, s12.2.1, (IntKind.wrap .i64 (s12.2.2 + 1)))) else ((idx s12.1 s12.2.1).bind fun v20 => (kb13 (s12.1.set (Int.toNat s12.2.1) v15, (IntKind.wrap .i64 (s12.2.1 + 1)), (IntKind.wrap .i64 (s12.2.2 + 1)))))))) else (kx8 (s12.1, s12.2.1)))

def m_slices_DeleteFunc_Cell__within_1 (a1 : (List TCell)) (a2 : TRange) (a3 : Bool) : Option (List TCell) :=
  ((m_slices_IndexFunc_Cell__within_1 a1 a2 a3).bind fun v4 => (if v4 = (-1) then (some a1) else (iter (slices_DeleteFunc_Cell__within_1_b12 a2 a3 slices_DeleteFunc_Cell__within_1_j7) FU (a1, v4, (IntKind.wrap .i64 (v4 + 1))))))

def impl_within_j4 (a1 : (List TCell)) (a2 : TRange) (a3 : Bool) (t4 : Bool) : Option (List TCell) :=
  (if t4 = true then (some ([] : (List TCell))) else ((m_slices_Clone_Cell a1).bind fun v7 => ((m_slices_DeleteFunc_Cell__within_1 v7 a2 a3).bind fun v9 => (some v9))))

def m_impl_within (a1 : (List TCell)) (a2 : TRange) (a3 : Bool) : Option (List TCell) :=
  ((m_impl_StoreOk a1).bind fun v11 => (if v11 = true then ((m_impl_RangeOk a2).bind fun v14 => ((impl_within_j4 a1 a2 a3) (!v14))) else ((impl_within_j4 a1 a2 a3) true)))

def m_impl_StoreCut (a1 : (List TCell)) (a2 : TRange) : Option (List TCell) :=
  ((m_impl_within a1 a2 false).bind fun v3 => (some v3))

def m_laws_eqCell (a1 : TCell) (a2 : TCell) : Option Bool :=
  (if ¬ a1.Key = a2.Key then (some false) else (if ¬ a1.Value = a2.Value then (some false) else (some true)))

def laws_eqCellS_j4  (t4 : Unit) : Option Bool :=
  (some true)

def laws_eqCellS_b6 (a1 : (List TCell)) (a2 : (List TCell)) (kx5 : (Unit → Option Bool)) (kb7 : (Int → Option Bool)) (s6 : Int) : Option Bool :=
  (if s6 < (a1.length : Int) then ((idx a1 s6).bind fun v9 => ((idx a2 s6).bind fun v11 => ((m_laws_eqCell v9 v11).bind fun v13 => (if v13 = true then (kb7 (IntKind.wrap .i64 (s6 + 1))) else (some false))))) else (kx5 ()))

def m_laws_eqCellS (a1 : (List TCell)) (a2 : (List TCell)) : Option Bool :=
  (if ¬ (a1.length : Int) = (a2.length : Int) then (some false) else (iter (laws_eqCellS_b6 a1 a2 laws_eqCellS_j4) FU 0))

def laws_markCellS_j3 (a1 : (List TCell)) (t3 : ((List TCell) × Int)) : Option (Int × (List TCell)) :=
  (if t3.1.length = a1.length then (some (t3.2, t3.1)) else none)

def laws_markCellS_b6 (kx4 : (((List TCell) × Int) → Option (Int × (List TCell)))) (kb7 : (((List TCell) × Int × Int) → Option (Int × (List TCell)))) (s6 : ((List TCell) × Int × Int)) : Option (Int × (List TCell)) :=
  (if s6.2.2 < ((s6.1.length : Nat) : Int) then ((idx s6.1 s6.2.2).bind fun v9 => ((idx (s6.1.set (Int.toNat s6.2.2) (TCell.mk s6.2.1 v9.Value)) s6.2.2).bind fun v11 => (kb7 ((s6.1.set (Int.toNat s6.2.2) (TCell.mk s6.2.1 v9.Value)).set (Int.toNat s6.2.2) (TCell.mk v11.Key (IntKind.wrap .i64 (s6.2.1 + 1))), (IntKind.wrap .i64 ((IntKind.wrap .i64 (s6.2.1 + 1)) + 1)), (IntKind.wrap .i64 (s6.2.2 + 1)))))) else (kx4 (s6.1, s6.2.1)))

def m_laws_markCellS (a1 : (List TCell)) (a2 : Int) : Option (Int × (List TCell)) :=
  (iter (laws_markCellS_b6 (laws_markCellS_j3 a1)) FU (a1, a2, 0))

def laws_heldCellS_j3  (t3 : Int) : Option Int :=
  (some t3)

def laws_heldCellS_b5 (a1 : (List TCell)) (kx4 : (Int → Option Int)) (kb6 : ((Int × Int) → Option Int)) (s5 : (Int × Int)) : Option Int :=
  (if s5.2 < (a1.length : Int) then ((idx a1 s5.2).bind fun v8 => (if ¬ v8.Key = s5.1 then (some (-1)) else ((idx a1 s5.2).bind fun v11 => (if ¬ v11.Value = (IntKind.wrap .i64 (s5.1 + 1)) then (some (-1)) else (kb6 ((IntKind.wrap .i64 ((IntKind.wrap .i64 (s5.1 + 1)) + 1)), (IntKind.wrap .i64 (s5.2 + 1)))))))) else (kx4 s5.1))

def m_laws_heldCellS (a1 : (List TCell)) (a2 : Int) : Option Int :=
  (iter (laws_heldCellS_b5 a1 laws_heldCellS_j3) FU (a2, 0))

def laws_FnExactStoreCut_j29 (v16 : (List TCell)) (a1 : (List TCell)) (a2 : TRange) (v10 : (List TCell)) (t29 : Bool) : Option Bool :=
  (if t29 = true then (some false) else ((m_laws_markCellS v16 1).bind fun v32 => (if v32.2.length = v16.length then ((m_laws_heldCellS v32.2 1).bind fun v35 => (if v35 < 0 then (some false) else (if ¬ v35 = v32.1 then (some false) else ((m_laws_toCellS a1).bind fun v39 => ((m_laws_toRange a2).bind fun v41 => ((m_impl_StoreCut v39 v41).bind fun v43 => ((m_laws_eqCellS v43 v10).bind fun v45 => (if v45 = true then ((m_laws_heldCellS v32.2 1).bind fun v48 => (if v48 < 0 then (some false) else (if ¬ v48 = v32.1 then (some false) else (some true)))) else (some false))))))))) else none)))

def m_laws_FnExactStoreCut (a1 : (List TCell)) (a2 : TRange) : Option Bool :=
  ((m_laws_szCellS a1 1048576).bind fun v3 => (if v3 < 0 then (some true) else ((m_laws_toCellS a1).bind fun v6 => ((m_laws_toRange a2).bind fun v8 => ((m_spec_StoreCut v6 v8).bind fun v10 => ((m_laws_toCellS a1).bind fun v12 => ((m_laws_toRange a2).bind fun v14 => ((m_impl_StoreCut v12 v14).bind fun v16 => ((m_laws_eqCellS v16 v10).bind fun v18 => (if v18 = true then ((m_laws_toCellS a1).bind fun v21 => ((m_laws_eqCellS v12 v21).bind fun v23 => (if v23 = true then ((m_laws_markCellS v12 1).bind fun v26 => (if v26.2.length = v12.length then (if v26.1 < 0 then ((laws_FnExactStoreCut_j29 v16 a1 a2 v10) true) else ((m_laws_eqCellS v16 v10).bind fun v53 => ((laws_FnExactStoreCut_j29 v16 a1 a2 v10) (!v53)))) else none)) else (some false)))) else (some false)))))))))))

def m_spec_StoreScan (a1 : (List TCell)) (a2 : TRange) : Option (List TCell) :=
  ((m_spec_l11Scan a1 a2 true).bind fun v3 => (some v3))

def m_impl_StoreScan (a1 : (List TCell)) (a2 : TRange) : Option (List TCell) :=
  ((m_impl_within a1 a2 true).bind fun v3 => (some v3))

def laws_FnExactStoreScan_j29 (v16 : (List TCell)) (a1 : (List TCell)) (a2 : TRange) (v10 : (List TCell)) (t29 : Bool) : Option Bool :=
  (if t29 = true then (some false) else ((m_laws_markCellS v16 1).bind fun v32 => (if v32.2.length = v16.length then ((m_laws_heldCellS v32.2 1).bind fun v35 => (if v35 < 0 then (some false) else (if ¬ v35 = v32.1 then (some false) else ((m_laws_toCellS a1).bind fun v39 => ((m_laws_toRange a2).bind fun v41 => ((m_impl_StoreScan v39 v41).bind fun v43 => ((m_laws_eqCellS v43 v10).bind fun v45 => (if v45 = true then ((m_laws_heldCellS v32.2 1).bind fun v48 => (if v48 < 0 then (some false) else (if ¬ v48 = v32.1 then (some false) else (some true)))) else (some false))))))))) else none)))

def m_laws_FnExactStoreScan (a1 : (List TCell)) (a2 : TRange) : Option Bool :=
  ((m_laws_szCellS a1 1048576).bind fun v3 => (if v3 < 0 then (some true) else ((m_laws_toCellS a1).bind fun v6 => ((m_laws_toRange a2).bind fun v8 => ((m_spec_StoreScan v6 v8).bind fun v10 => ((m_laws_toCellS a1).bind fun v12 => ((m_laws_toRange a2).bind fun v14 => ((m_impl_StoreScan v12 v14).bind fun v16 => ((m_laws_eqCellS v16 v10).bind fun v18 => (if v18 = true then ((m_laws_toCellS a1).bind fun v21 => ((m_laws_eqCellS v12 v21).bind fun v23 => (if v23 = true then ((m_laws_markCellS v12 1).bind fun v26 => (if v26.2.length = v12.length then (if v26.1 < 0 then ((laws_FnExactStoreScan_j29 v16 a1 a2 v10) true) else ((m_laws_eqCellS v16 v10).bind fun v53 => ((laws_FnExactStoreScan_j29 v16 a1 a2 v10) (!v53)))) else none)) else (some false)))) else (some false)))))))))))

def m_laws_szLockS (a1 : (List TLock)) (a2 : Int) : Option Int :=
  (if (IntKind.wrap .i64 (a2 - (a1.length : Int))) < 0 then (some (-1)) else (some (IntKind.wrap .i64 (a2 - (a1.length : Int)))))

def m_laws_toLock (a1 : TLock) : Option TLock :=
  (some a1)

def laws_toLockS_j3  (t3 : (List TLock)) : Option (List TLock) :=
  (some t3)

def laws_toLockS_b5 (a1 : (List TLock)) (kx4 : ((List TLock) → Option (List TLock))) (kb6 : (((List TLock) × Int) → Option (List TLock))) (s5 : ((List TLock) × Int)) : Option (List TLock) :=
  (if s5.2 < (a1.length : Int) then ((idx a1 s5.2).bind fun v8 => ((m_laws_toLock v8).bind fun v10 => ((idx s5.1 s5.2).bind fun v12 => (kb6 (s5.1.set (Int.toNat s5.2) v10, (IntKind.wrap .i64 (s5.2 + 1))))))) else (kx4 s5.1))

def m_laws_toLockS (a1 : (List TLock)) : Option (List TLock) :=
  (if 0 ≤ (a1.length : Int) ∧ (a1.length : Int) ≤ 2147483648 then (iter (laws_toLockS_b5 a1 laws_toLockS_j3) FU ((List.replicate (Int.toNat (a1.length : Int)) (TLock.mk 0 0 0 0)), 0)) else none)

def m_spec_l12Tx (a1 : Int) : Option Bool :=
  ((m_spec_l1In a1 1 60).bind fun v2 => (some v2))

def m_spec_l12Range (a1 : TLock) : Option TRange :=
  (some (TRange.mk a1.Lo a1.Hi))

def m_spec_l12Mode (a1 : Int) : Option Bool :=
  (if a1 = 1 then (some true) else (some (decide (a1 = 2))))

def m_spec_l1Max (a1 : Int) (a2 : Int) : Option Int :=
  (if a2 < a1 then (some a1) else (some a2))

def m_spec_l1Min (a1 : Int) (a2 : Int) : Option Int :=
  (if a1 < a2 then (some a1) else (some a2))

def spec_RangeMeet_j7 (v3 : Int) (v5 : Int) (t7 : Bool) : Option (TRange × Bool) :=
  (if t7 = true then (some ((TRange.mk 0 0), false)) else (some ((TRange.mk v3 v5), true)))

def m_spec_RangeMeet (a1 : TRange) (a2 : TRange) : Option (TRange × Bool) :=
  ((m_spec_l1Max a1.Lo a2.Lo).bind fun v3 => ((m_spec_l1Min a1.Hi a2.Hi).bind fun v5 => ((m_spec_RangeOk a1).bind fun v10 => (if v10 = true then ((m_spec_RangeOk a2).bind fun v13 => (if v13 = true then ((m_spec_RangeOk (TRange.mk v3 v5)).bind fun v16 => ((spec_RangeMeet_j7 v3 v5) (!v16))) else ((spec_RangeMeet_j7 v3 v5) true))) else ((spec_RangeMeet_j7 v3 v5) true)))))

def m_spec_l12Clash (a1 : TLock) (a2 : TLock) : Option Bool :=
  ((m_spec_l12Range a1).bind fun v3 => ((m_spec_l12Range a2).bind fun v5 => ((m_spec_RangeMeet v3 v5).bind fun v7 => (if v7.2 = true then (if ¬ a1.Tx = a2.Tx then (if a1.Mode = 2 then (some true) else (some (decide (a2.Mode = 2)))) else (some false)) else (some false)))))

def spec_LocksOk_j3  (t3 : Unit) : Option Bool :=
  (some true)

def spec_LocksOk_j8 (kb6 : (Int → Option Bool)) (s5 : Int) (t8 : Unit) : Option Bool :=
  (kb6 (IntKind.wrap .i64 (s5 + 1)))

def spec_LocksOk_b13 (s5 : Int) (a1 : (List TLock)) (kx9 : (Unit → Option Bool)) (kb14 : (Int → Option Bool)) (s13 : Int) : Option Bool :=
  (if s13 < s5 then ((idx a1 s5).bind fun v16 => ((idx a1 s13).bind fun v18 => ((m_spec_l12Clash v16 v18).bind fun v20 => (if v20 = true then (some false) else (kb14 (IntKind.wrap .i64 (s13 + 1))))))) else (kx9 ()))

def spec_LocksOk_j10 (s5 : Int) (a1 : (List TLock)) (kx9 : (Unit → Option Bool)) (t10 : Bool) : Option Bool :=
  (if t10 = true then (some false) else (iter (spec_LocksOk_b13 s5 a1 kx9) FU 0))

def spec_LocksOk_b5 (a1 : (List TLock)) (kx4 : (Unit → Option Bool)) (kb6 : (Int → Option Bool)) (s5 : Int) : Option Bool :=
  (if s5 < (a1.length : Int) then ((idx a1 s5).bind fun v23 => ((m_spec_l12Tx v23.Tx).bind fun v25 => (if v25 = true then ((idx a1 s5).bind fun v28 => ((m_spec_l12Range v28).bind fun v30 => ((m_spec_RangeOk v30).bind fun v32 => (if v32 = true then ((idx a1 s5).bind fun v35 => ((m_spec_l12Mode v35.Mode).bind fun v37 => ((spec_LocksOk_j10 s5 a1 (spec_LocksOk_j8 kb6 s5)) (!v37)))) else ((spec_LocksOk_j10 s5 a1 (spec_LocksOk_j8 kb6 s5)) true))))) else ((spec_LocksOk_j10 s5 a1 (spec_LocksOk_j8 kb6 s5)) true)))) else (kx4 ()))

def m_spec_LocksOk (a1 : (List TLock)) : Option Bool :=
  (if 40 < (a1.length : Int) then (some false) else (iter (spec_LocksOk_b5 a1 spec_LocksOk_j3) FU 0))

def spec_l12Keep_j4  (t4 : (List TLock)) : Option (List TLock) :=
  (some t4)

def spec_l12Keep_b6 (a1 : (List TLock)) (a2 : Int) (a3 : Bool) (kx5 : ((List TLock) → Option (List TLock))) (kb7 : (((List TLock) × Int) → Option (List TLock))) (s6 : ((List TLock) × Int)) : Option (List TLock) :=
  (if s6.2 < (a1.length : Int) then ((idx a1 s6.2).bind fun v9 => (if ((decide (v9.Tx = a2)) == a3) = true then ((idx a1 s6.2).bind fun v12 => (if (s6.1 ++ ([v12])).length ≤ 2147483648 then (kb7 ((s6.1 ++ ([v12])), (IntKind.wrap .i64 (s6.2 + 1)))) else none)) else (kb7 (s6.1, (IntKind.wrap .i64 (s6.2 + 1)))))) else (kx5 s6.1))

def m_spec_l12Keep (a1 : (List TLock)) (a2 : Int) (a3 : Bool) : Option (List TLock) :=
  (iter (spec_l12Keep_b6 a1 a2 a3 spec_l12Keep_j4) FU (([] : List TLock), 0))

def m_spec_LocksDrop (a1 : (List TLock)) (a2 : Int) : Option (List TLock) :=
  ((m_spec_LocksOk a1).bind fun v3 => (if v3 = true then ((m_spec_l12Keep a1 a2 false).bind fun v6 => (some v6)) else (some ([] : (List TLock)))))

def m_impl_isTx (a1 : Int) : Option Bool :=
  ((m_impl_from a1 1 60).bind fun v2 => (some v2))

def m_impl_Lock_keys (a1 : TLock) : Option TRange :=
  (some (TRange.mk a1.Lo a1.Hi))

def m_impl_isMode (a1 : Int) : Option Bool :=
  (if a1 = 1 then (some true) else (some (decide (a1 = 2))))

def m_impl_meets (a1 : TRange) (a2 : TRange) : Option Bool :=
  (if a1.Lo < a2.Hi then (some (decide (a2.Lo < a1.Hi))) else (some false))

def m_impl_clash (a1 : TLock) (a2 : TLock) : Option Bool :=
  (if ¬ a1.Tx = a2.Tx then (if a1.Mode = 2 then ((m_impl_Lock_keys a1).bind fun v5 => ((m_impl_Lock_keys a2).bind fun v7 => ((m_impl_meets v5 v7).bind fun v9 => (some v9)))) else (if a2.Mode = 2 then ((m_impl_Lock_keys a1).bind fun v12 => ((m_impl_Lock_keys a2).bind fun v14 => ((m_impl_meets v12 v14).bind fun v16 => (some v16)))) else (some false))) else (some false))

def m_impl_LocksOk_1 (a1 : TLock) (a2 : TLock) : Option Bool :=
  ((m_impl_clash a2 a1).bind fun v3 => (some v3))

def slices_IndexFunc_Lock__LocksOk_1_j3  (t3 : Unit) : Option Int :=
  (some (-1))

def slices_IndexFunc_Lock__LocksOk_1_b5 (a1 : (List TLock)) (a2 : TLock) (kx4 : (Unit → Option Int)) (kb6 : (Int → Option Int)) (s5 : Int) : Option Int :=
  (if s5 < (a1.length : Int) then ((idx a1 s5).bind fun v8 => ((m_impl_LocksOk_1 v8 a2).bind fun v10 => (if v10 = true then (some s5) else (kb6 (IntKind.wrap .i64 (s5 + 1)))))) else (kx4 ()))

def m_slices_IndexFunc_Lock__LocksOk_1 (a1 : (List TLock)) (a2 : TLock) : Option Int :=
  (iter (slices_IndexFunc_Lock__LocksOk_1_b5 a1 a2 slices_IndexFunc_Lock__LocksOk_1_j3) FU 0)

def m_slices_ContainsFunc_Lock__LocksOk_1 (a1 : (List TLock)) (a2 : TLock) : Option Bool :=
  ((m_slices_IndexFunc_Lock__LocksOk_1 a1 a2).bind fun v3 => (some (decide (0 ≤ v3))))

def impl_LocksOk_j2 (a1 : (List TLock)) (t2 : Unit) : Option Bool :=
  (some (decide ((a1.length : Int) ≤ 40)))

def impl_LocksOk_j9 (kb5 : (Int → Option Bool)) (s4 : Int) (t9 : Bool) : Option Bool :=
  (if t9 = true then (some false) else (kb5 (IntKind.wrap .i64 (s4 + 1))))

def impl_LocksOk_b4 (a1 : (List TLock)) (kx3 : (Unit → Option Bool)) (kb5 : (Int → Option Bool)) (s4 : Int) : Option Bool :=
  (if s4 < (a1.length : Int) then ((idx a1 s4).bind fun v7 => ((m_impl_isTx v7.Tx).bind fun v12 => (if v12 = true then ((m_impl_Lock_keys v7).bind fun v15 => ((m_impl_RangeOk v15).bind fun v17 => (if v17 = true then ((m_impl_isMode v7.Mode).bind fun v20 => (if v20 = true then ((cut a1 0 s4).bind fun v23 => ((m_slices_ContainsFunc_Lock__LocksOk_1 v23 v7).bind fun v25 => ((impl_LocksOk_j9 kb5 s4) v25))) else ((impl_LocksOk_j9 kb5 s4) true))) else ((impl_LocksOk_j9 kb5 s4) true)))) else ((impl_LocksOk_j9 kb5 s4) true)))) else (kx3 ()))

def m_impl_LocksOk (a1 : (List TLock)) : Option Bool :=
  (iter (impl_LocksOk_b4 a1 (impl_LocksOk_j2 a1)) FU 0)

def slices_Clone_Lock_j2 (a1 : (List TLock)) (t2 : Unit) : Option (List TLock) :=
  (if a1.length ≤ 2147483648 then (some a1) else none)

def m_slices_Clone_Lock (a1 : (List TLock)) : Option (List TLock) :=
  (if a1.length = 0 then ((slices_Clone_Lock_j2 a1) ()) else ((slices_Clone_Lock_j2 a1) ()))

def m_impl_LocksDrop_1 (a1 : TLock) (a2 : Int) : Option Bool :=
  (some (decide (a1.Tx = a2)))

def slices_IndexFunc_Lock__LocksDrop_1_j3  (t3 : Unit) : Option Int :=
  (some (-1))

def slices_IndexFunc_Lock__LocksDrop_1_b5 (a1 : (List TLock)) (a2 : Int) (kx4 : (Unit → Option Int)) (kb6 : (Int → Option Int)) (s5 : Int) : Option Int :=
  (if s5 < (a1.length : Int) then ((idx a1 s5).bind fun v8 => ((m_impl_LocksDrop_1 v8 a2).bind fun v10 => (if v10 = true then (some s5) else (kb6 (IntKind.wrap .i64 (s5 + 1)))))) else (kx4 ()))

def m_slices_IndexFunc_Lock__LocksDrop_1 (a1 : (List TLock)) (a2 : Int) : Option Int :=
  (iter (slices_IndexFunc_Lock__LocksDrop_1_b5 a1 a2 slices_IndexFunc_Lock__LocksDrop_1_j3) FU 0)

def slices_DeleteFunc_Lock__LocksDrop_1_j6  (t6 : ((List TLock) × Int)) : Option (List TLock) :=
  (if (0 : Int) ≤ t6.2 ∧ t6.2 ≤ ((t6.1.length : Nat) : Int) ∧ ((t6.1.length : Nat) : Int) ≤ ((t6.1.length : Nat) : Int) then (if (Int.toNat t6.2) + (Int.toNat ((t6.1.length : Nat) : Int) - Int.toNat t6.2) ≤ t6.1.length then (if (0 : Int) ≤ 0 ∧ 0 ≤ t6.2 ∧ t6.2 ≤ ((t6.1.length : Nat) : Int) then (some (List.take (Int.toNat t6.2) (List.take (Int.toNat t6.2) t6.1 ++ List.replicate (Int.toNat ((t6.1.length : Nat) : Int) - Int.toNat t6.2) (TLock.mk 0 0 0 0) ++ List.drop ((Int.toNat t6.2) + (Int.toNat ((t6.1.length : Nat) : Int) - Int.toNat t6.2)) t6.1))) else none) else none) else none)

def slices_DeleteFunc_Lock__LocksDrop_1_b11 (a2 : Int) (kx7 : (((List TLock) × Int) → Option (List TLock))) (kb12 : (((List TLock) × Int × Int) → Option (List TLock))) (s11 : ((List TLock) × Int × Int)) : Option (List TLock) :=
  (if s11.2.2 < ((s11.1.length : Nat) : Int) then ((idx s11.1 s11.2.2).bind fun v14 => ((m_impl_LocksDrop_1 v14 a2).bind fun v16 => (if v16 = true then (kb12 (s11.1, s11.2.1, (IntKind.wrap .i64 (s11.2.2 + 1)))) else ((idx s11.1 s11.2.1).bind fun v19 => (kb12 (s11.1.set (Int.toNat s11.2.1) v14, (IntKind.wrap .i64 (s11.2.1 + 1)), (IntKind.wrap .i64 (s11.2.2 + 1)))))))) else (kx7 (s11.1, s11.2.1)))

def m_slices_DeleteFunc_Lock__LocksDrop_1 (a1 : (List TLock)) (a2 : Int) : Option (List TLock) :=
  ((m_slices_IndexFunc_Lock__LocksDrop_1 a1 a2).bind fun v3 => (if v3 = (-1) then (some a1) else (iter (slices_DeleteFunc_Lock__LocksDrop_1_b11 a2 slices_DeleteFunc_Lock__LocksDrop_1_j6) FU (a1, v3, (IntKind.wrap .i64 (v3 + 1))))))

def m_impl_LocksDrop (a1 : (List TLock)) (a2 : Int) : Option (List TLock) :=
  ((m_impl_LocksOk a1).bind fun v3 => (if v3 = true then ((m_slices_Clone_Lock a1).bind fun v6 => ((m_slices_DeleteFunc_Lock__LocksDrop_1 v6 a2).bind fun v8 => (some v8))) else (some ([] : (List TLock)))))

def m_laws_eqLock (a1 : TLock) (a2 : TLock) : Option Bool :=
  (if ¬ a1.Tx = a2.Tx then (some false) else (if ¬ a1.Lo = a2.Lo then (some false) else (if ¬ a1.Hi = a2.Hi then (some false) else (if ¬ a1.Mode = a2.Mode then (some false) else (some true)))))

def laws_eqLockS_j4  (t4 : Unit) : Option Bool :=
  (some true)

def laws_eqLockS_b6 (a1 : (List TLock)) (a2 : (List TLock)) (kx5 : (Unit → Option Bool)) (kb7 : (Int → Option Bool)) (s6 : Int) : Option Bool :=
  (if s6 < (a1.length : Int) then ((idx a1 s6).bind fun v9 => ((idx a2 s6).bind fun v11 => ((m_laws_eqLock v9 v11).bind fun v13 => (if v13 = true then (kb7 (IntKind.wrap .i64 (s6 + 1))) else (some false))))) else (kx5 ()))

def m_laws_eqLockS (a1 : (List TLock)) (a2 : (List TLock)) : Option Bool :=
  (if ¬ (a1.length : Int) = (a2.length : Int) then (some false) else (iter (laws_eqLockS_b6 a1 a2 laws_eqLockS_j4) FU 0))

def laws_markLockS_j3 (a1 : (List TLock)) (t3 : ((List TLock) × Int)) : Option (Int × (List TLock)) :=
  (if t3.1.length = a1.length then (some (t3.2, t3.1)) else none)

def laws_markLockS_b6 (kx4 : (((List TLock) × Int) → Option (Int × (List TLock)))) (kb7 : (((List TLock) × Int × Int) → Option (Int × (List TLock)))) (s6 : ((List TLock) × Int × Int)) : Option (Int × (List TLock)) :=
  (if s6.2.2 < ((s6.1.length : Nat) : Int) then ((idx s6.1 s6.2.2).bind fun v9 => ((idx (s6.1.set (Int.toNat s6.2.2) (TLock.mk s6.2.1 v9.Lo v9.Hi v9.Mode)) s6.2.2).bind fun v11 => ((idx ((s6.1.set (Int.toNat s6.2.2) (TLock.mk s6.2.1 v9.Lo v9.Hi v9.Mode)).set (Int.toNat s6.2.2) (TLock.mk v11.Tx (IntKind.wrap .i64 (s6.2.1 + 1)) v11.Hi v11.Mode)) s6.2.2).bind fun v13 => ((idx (((s6.1.set (Int.toNat s6.2.2) (TLock.mk s6.2.1 v9.Lo v9.Hi v9.Mode)).set (Int.toNat s6.2.2) (TLock.mk v11.Tx (IntKind.wrap .i64 (s6.2.1 + 1)) v11.Hi v11.Mode)).set (Int.toNat s6.2.2) (TLock.mk v13.Tx v13.Lo (IntKind.wrap .i64 ((IntKind.wrap .i64 (s6.2.1 + 1)) + 1)) v13.Mode)) s6.2.2).bind fun v15 => (kb7 ((((s6.1.set (Int.toNat s6.2.2) (TLock.mk s6.2.1 v9.Lo v9.Hi v9.Mode)).set (Int.toNat s6.2.2) (TLock.mk v11.Tx (IntKind.wrap .i64 (s6.2.1 + 1)) v11.Hi v11.Mode)).set (Int.toNat s6.2.2) (TLock.mk v13.Tx v13.Lo (IntKind.wrap .i64 ((IntKind.wrap .i64 (s6.2.1 + 1)) + 1)) v13.Mode)).set (Int.toNat s6.2.2) (TLock.mk v15.Tx v15.Lo v15.Hi (IntKind.wrap .i64 ((IntKind.wrap .i64 ((IntKind.wrap .i64 (s6.2.1 + 1)) + 1)) + 1))), (IntKind.wrap .i64 ((IntKind.wrap .i64 ((IntKind.wrap .i64 ((IntKind.wrap .i64 (s6.2.1 + 1)) + 1)) + 1)) + 1)), (IntKind.wrap .i64 (s6.2.2 + 1)))))))) else (kx4 (s6.1, s6.2.1)))

def m_laws_markLockS (a1 : (List TLock)) (a2 : Int) : Option (Int × (List TLock)) :=
  (iter (laws_markLockS_b6 (laws_markLockS_j3 a1)) FU (a1, a2, 0))

def laws_heldLockS_j3  (t3 : Int) : Option Int :=
  (some t3)

def laws_heldLockS_b5 (a1 : (List TLock)) (kx4 : (Int → Option Int)) (kb6 : ((Int × Int) → Option Int)) (s5 : (Int × Int)) : Option Int :=
  (if s5.2 < (a1.length : Int) then ((idx a1 s5.2).bind fun v8 => (if ¬ v8.Tx = s5.1 then (some (-1)) else ((idx a1 s5.2).bind fun v11 => (if ¬ v11.Lo = (IntKind.wrap .i64 (s5.1 + 1)) then (some (-1)) else ((idx a1 s5.2).bind fun v14 => (if ¬ v14.Hi = (IntKind.wrap .i64 ((IntKind.wrap .i64 (s5.1 + 1)) + 1)) then (some (-1)) else ((idx a1 s5.2).bind fun v17 => (if ¬ v17.Mode = (IntKind.wrap .i64 ((IntKind.wrap .i64 ((IntKind.wrap .i64 (s5.1 + 1)) + 1)) + 1)) then (some (-1)) else (kb6 ((IntKind.wrap .i64 ((IntKind.wrap .i64 ((IntKind.wrap .i64 ((IntKind.wrap .i64 (s5.1 + 1)) + 1)) + 1)) + 1)), (IntKind.wrap .i64 (s5.2 + 1)))))))))))) else (kx4 s5.1))

def m_laws_heldLockS (a1 : (List TLock)) (a2 : Int) : Option Int :=
  (iter (laws_heldLockS_b5 a1 laws_heldLockS_j3) FU (a2, 0))

def laws_FnExactLocksDrop_j25 (v12 : (List TLock)) (a1 : (List TLock)) (a2 : Int) (v8 : (List TLock)) (t25 : Bool) : Option Bool :=
  (if t25 = true then (some false) else ((m_laws_markLockS v12 1).bind fun v28 => (if v28.2.length = v12.length then ((m_laws_heldLockS v28.2 1).bind fun v31 => (if v31 < 0 then (some false) else (if ¬ v31 = v28.1 then (some false) else ((m_laws_toLockS a1).bind fun v35 => ((m_impl_LocksDrop v35 a2).bind fun v37 => ((m_laws_eqLockS v37 v8).bind fun v39 => (if v39 = true then ((m_laws_heldLockS v28.2 1).bind fun v42 => (if v42 < 0 then (some false) else (if ¬ v42 = v28.1 then (some false) else (some true)))) else (some false)))))))) else none)))

def m_laws_FnExactLocksDrop (a1 : (List TLock)) (a2 : Int) : Option Bool :=
  ((m_laws_szLockS a1 1048576).bind fun v3 => (if v3 < 0 then (some true) else ((m_laws_toLockS a1).bind fun v6 => ((m_spec_LocksDrop v6 a2).bind fun v8 => ((m_laws_toLockS a1).bind fun v10 => ((m_impl_LocksDrop v10 a2).bind fun v12 => ((m_laws_eqLockS v12 v8).bind fun v14 => (if v14 = true then ((m_laws_toLockS a1).bind fun v17 => ((m_laws_eqLockS v10 v17).bind fun v19 => (if v19 = true then ((m_laws_markLockS v10 1).bind fun v22 => (if v22.2.length = v10.length then (if v22.1 < 0 then ((laws_FnExactLocksDrop_j25 v12 a1 a2 v8) true) else ((m_laws_eqLockS v12 v8).bind fun v47 => ((laws_FnExactLocksDrop_j25 v12 a1 a2 v8) (!v47)))) else none)) else (some false)))) else (some false)))))))))

def m_spec_LocksOf (a1 : (List TLock)) (a2 : Int) : Option (List TLock) :=
  ((m_spec_LocksOk a1).bind fun v3 => (if v3 = true then ((m_spec_l12Keep a1 a2 true).bind fun v6 => (some v6)) else (some ([] : (List TLock)))))

def m_impl_LocksOf_1 (a1 : TLock) (a2 : Int) : Option Bool :=
  (some (decide (¬ a1.Tx = a2)))

def slices_IndexFunc_Lock__LocksOf_1_j3  (t3 : Unit) : Option Int :=
  (some (-1))

def slices_IndexFunc_Lock__LocksOf_1_b5 (a1 : (List TLock)) (a2 : Int) (kx4 : (Unit → Option Int)) (kb6 : (Int → Option Int)) (s5 : Int) : Option Int :=
  (if s5 < (a1.length : Int) then ((idx a1 s5).bind fun v8 => ((m_impl_LocksOf_1 v8 a2).bind fun v10 => (if v10 = true then (some s5) else (kb6 (IntKind.wrap .i64 (s5 + 1)))))) else (kx4 ()))

def m_slices_IndexFunc_Lock__LocksOf_1 (a1 : (List TLock)) (a2 : Int) : Option Int :=
  (iter (slices_IndexFunc_Lock__LocksOf_1_b5 a1 a2 slices_IndexFunc_Lock__LocksOf_1_j3) FU 0)

def slices_DeleteFunc_Lock__LocksOf_1_j6  (t6 : ((List TLock) × Int)) : Option (List TLock) :=
  (if (0 : Int) ≤ t6.2 ∧ t6.2 ≤ ((t6.1.length : Nat) : Int) ∧ ((t6.1.length : Nat) : Int) ≤ ((t6.1.length : Nat) : Int) then (if (Int.toNat t6.2) + (Int.toNat ((t6.1.length : Nat) : Int) - Int.toNat t6.2) ≤ t6.1.length then (if (0 : Int) ≤ 0 ∧ 0 ≤ t6.2 ∧ t6.2 ≤ ((t6.1.length : Nat) : Int) then (some (List.take (Int.toNat t6.2) (List.take (Int.toNat t6.2) t6.1 ++ List.replicate (Int.toNat ((t6.1.length : Nat) : Int) - Int.toNat t6.2) (TLock.mk 0 0 0 0) ++ List.drop ((Int.toNat t6.2) + (Int.toNat ((t6.1.length : Nat) : Int) - Int.toNat t6.2)) t6.1))) else none) else none) else none)

def slices_DeleteFunc_Lock__LocksOf_1_b11 (a2 : Int) (kx7 : (((List TLock) × Int) → Option (List TLock))) (kb12 : (((List TLock) × Int × Int) → Option (List TLock))) (s11 : ((List TLock) × Int × Int)) : Option (List TLock) :=
  (if s11.2.2 < ((s11.1.length : Nat) : Int) then ((idx s11.1 s11.2.2).bind fun v14 => ((m_impl_LocksOf_1 v14 a2).bind fun v16 => (if v16 = true then (kb12 (s11.1, s11.2.1, (IntKind.wrap .i64 (s11.2.2 + 1)))) else ((idx s11.1 s11.2.1).bind fun v19 => (kb12 (s11.1.set (Int.toNat s11.2.1) v14, (IntKind.wrap .i64 (s11.2.1 + 1)), (IntKind.wrap .i64 (s11.2.2 + 1)))))))) else (kx7 (s11.1, s11.2.1)))

def m_slices_DeleteFunc_Lock__LocksOf_1 (a1 : (List TLock)) (a2 : Int) : Option (List TLock) :=
  ((m_slices_IndexFunc_Lock__LocksOf_1 a1 a2).bind fun v3 => (if v3 = (-1) then (some a1) else (iter (slices_DeleteFunc_Lock__LocksOf_1_b11 a2 slices_DeleteFunc_Lock__LocksOf_1_j6) FU (a1, v3, (IntKind.wrap .i64 (v3 + 1))))))

def m_impl_LocksOf (a1 : (List TLock)) (a2 : Int) : Option (List TLock) :=
  ((m_impl_LocksOk a1).bind fun v3 => (if v3 = true then ((m_slices_Clone_Lock a1).bind fun v6 => ((m_slices_DeleteFunc_Lock__LocksOf_1 v6 a2).bind fun v8 => (some v8))) else (some ([] : (List TLock)))))

def laws_FnExactLocksOf_j25 (v12 : (List TLock)) (a1 : (List TLock)) (a2 : Int) (v8 : (List TLock)) (t25 : Bool) : Option Bool :=
  (if t25 = true then (some false) else ((m_laws_markLockS v12 1).bind fun v28 => (if v28.2.length = v12.length then ((m_laws_heldLockS v28.2 1).bind fun v31 => (if v31 < 0 then (some false) else (if ¬ v31 = v28.1 then (some false) else ((m_laws_toLockS a1).bind fun v35 => ((m_impl_LocksOf v35 a2).bind fun v37 => ((m_laws_eqLockS v37 v8).bind fun v39 => (if v39 = true then ((m_laws_heldLockS v28.2 1).bind fun v42 => (if v42 < 0 then (some false) else (if ¬ v42 = v28.1 then (some false) else (some true)))) else (some false)))))))) else none)))

def m_laws_FnExactLocksOf (a1 : (List TLock)) (a2 : Int) : Option Bool :=
  ((m_laws_szLockS a1 1048576).bind fun v3 => (if v3 < 0 then (some true) else ((m_laws_toLockS a1).bind fun v6 => ((m_spec_LocksOf v6 a2).bind fun v8 => ((m_laws_toLockS a1).bind fun v10 => ((m_impl_LocksOf v10 a2).bind fun v12 => ((m_laws_eqLockS v12 v8).bind fun v14 => (if v14 = true then ((m_laws_toLockS a1).bind fun v17 => ((m_laws_eqLockS v10 v17).bind fun v19 => (if v19 = true then ((m_laws_markLockS v10 1).bind fun v22 => (if v22.2.length = v10.length then (if v22.1 < 0 then ((laws_FnExactLocksOf_j25 v12 a1 a2 v8) true) else ((m_laws_eqLockS v12 v8).bind fun v47 => ((laws_FnExactLocksOf_j25 v12 a1 a2 v8) (!v47)))) else none)) else (some false)))) else (some false)))))))))

end Go.AW
