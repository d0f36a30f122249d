/- Plain functions that say what functions of the program compute: printed by a program of the prover's own (tool/dec.py). Conditions: none. -/
import Derived.Test.YtkdaohfkphodeaaYb
set_option linter.unusedVariables false
set_option maxRecDepth 100000
namespace Go.AW

structure TLock where
  Tx : Int
  Lo : Int
  Hi : Int
  Mode : Int
deriving DecidableEq

def ok_TLock (x : TLock) : Prop := inK .i64 x.Tx ∧ inK .i64 x.Lo ∧ inK .i64 x.Hi ∧ inK .i64 x.Mode

abbrev d_TLock (x : TLock) : List D := [(.int .i64 x.Tx), (.int .i64 x.Lo), (.int .i64 x.Hi), (.int .i64 x.Mode)]

structure TRange where
  Lo : Int
  Hi : Int
deriving DecidableEq

def ok_TRange (x : TRange) : Prop := inK .i64 x.Lo ∧ inK .i64 x.Hi

abbrev d_TRange (x : TRange) : List D := [(.int .i64 x.Lo), (.int .i64 x.Hi)]

abbrev d_i64 (x : Int) : List D := [(.int .i64 x)]

abbrev dS_TLock (x : (List TLock)) : List D := [(.sl 4 (List.map d_TLock x))]

def m_laws_szLockS (a1 : (List TLock)) (a2 : Int) : Option Int :=
  (if (IntKind.wrap .i64 (a2 - (a1.length : Int))) < 0 then (some (-1)) else (some (IntKind.wrap .i64 (a2 - (a1.length : Int)))))

def m_laws_toLock (a1 : TLock) : Option TLock :=
  (some a1)

def laws_toLockS_j3  (t3 : (List TLock)) : Option (List TLock) :=
  (some t3)

def laws_toLockS_b5 (a1 : (List TLock)) (kx4 : ((List TLock) → Option (List TLock))) (kb6 : (((List TLock) × Int) → Option (List TLock))) (s5 : ((List TLock) × Int)) : Option (List TLock) :=
  (if s5.2 < (a1.length : Int) then ((idx a1 s5.2).bind fun v8 => ((m_laws_toLock v8).bind fun v10 => ((idx s5.1 s5.2).bind fun v12 => (kb6 (s5.1.set (Int.toNat s5.2) v10, (IntKind.wrap .i64 (s5.2 + 1))))))) else (kx4 s5.1))

def m_laws_toLockS (a1 : (List TLock)) : Option (List TLock) :=
  (if 0 ≤ (a1.length : Int) ∧ (a1.length : Int) ≤ 2147483648 then (iter (laws_toLockS_b5 a1 laws_toLockS_j3) FU ((List.replicate (Int.toNat (a1.length : Int)) (TLock.mk 0 0 0 0)), 0)) else none)

def m_laws_toRange (a1 : TRange) : Option TRange :=
  (some a1)

def m_spec_l1In (a1 : Int) (a2 : Int) (a3 : Int) : Option Bool :=
  (if a2 ≤ a1 then (some (decide (a1 ≤ a3))) else (some false))

def m_spec_l12Tx (a1 : Int) : Option Bool :=
  ((m_spec_l1In a1 1 60).bind fun v2 => (some v2))

def m_spec_l12Range (a1 : TLock) : Option TRange :=
  (some (TRange.mk a1.Lo a1.Hi))

def m_spec_RangeOk (a1 : TRange) : Option Bool :=
  (if 0 ≤ a1.Lo then (if a1.Lo < a1.Hi then (some (decide (a1.Hi ≤ 1000))) else (some false)) else (some false))

def m_spec_l12Mode (a1 : Int) : Option Bool :=
  (if a1 = 1 then (some true) else (some (decide (a1 = 2))))

def m_spec_l1Max (a1 : Int) (a2 : Int) : Option Int :=
  (if a2 < a1 then (some a1) else (some a2))

def m_spec_l1Min (a1 : Int) (a2 : Int) : Option Int :=
  (if a1 < a2 then (some a1) else (some a2))

def spec_RangeMeet_j7 (v3 : Int) (v5 : Int) (t7 : Bool) : Option (TRange × Bool) :=
  (if t7 = true then (some ((TRange.mk 0 0), false)) else (some ((TRange.mk v3 v5), true)))

def m_spec_RangeMeet (a1 : TRange) (a2 : TRange) : Option (TRange × Bool) :=
  ((m_spec_l1Max a1.Lo a2.Lo).bind fun v3 => ((m_spec_l1Min a1.Hi a2.Hi).bind fun v5 => ((m_spec_RangeOk a1).bind fun v10 => (if v10 = true then ((m_spec_RangeOk a2).bind fun v13 => (if v13 = true then ((m_spec_RangeOk (TRange.mk v3 v5)).bind fun v16 => ((spec_RangeMeet_j7 v3 v5) (!v16))) else ((spec_RangeMeet_j7 v3 v5) true))) else ((spec_RangeMeet_j7 v3 v5) true)))))

def m_spec_l12Clash (a1 : TLock) (a2 : TLock) : Option Bool :=
  ((m_spec_l12Range a1).bind fun v3 => ((m_spec_l12Range a2).bind fun v5 => ((m_spec_RangeMeet v3 v5).bind fun v7 => (if v7.2 = true then (if ¬ a1.Tx = a2.Tx then (if a1.Mode = 2 then (some true) else (some (decide (a2.Mode = 2)))) else (some false)) else (some false)))))

def spec_LocksOk_j3  (t3 : Unit) : Option Bool :=
  (some true)

def spec_LocksOk_j8 (kb6 : (Int → Option Bool)) (s5 : Int) (t8 : Unit) : Option Bool :=
  (kb6 (IntKind.wrap .i64 (s5 + 1)))

def spec_LocksOk_b13 (s5 : Int) (a1 : (List TLock)) (kx9 : (Unit → Option Bool)) (kb14 : (Int → Option Bool)) (s13 : Int) : Option Bool :=
  (if s13 < s5 then ((idx a1 s5).bind fun v16 => ((idx a1 s13).bind fun v18 => ((m_spec_l12Clash v16 v18).bind fun v20 => (if v20 = true then (some false) else (kb14 (IntKind.wrap .i64 (s13 + 1))))))) else (kx9 ()))

def spec_LocksOk_j10 (s5 : Int) (a1 : (List TLock)) (kx9 : (Unit → Option Bool)) (t10 : Bool) : Option Bool :=
  (if t10 = true then (some false) else (iter (spec_LocksOk_b13 s5 a1 kx9) FU 0))

def spec_LocksOk_b5 (a1 : (List TLock)) (kx4 : (Unit → Option Bool)) (kb6 : (Int → Option Bool)) (s5 : Int) : Option Bool :=
  (if s5 < (a1.length : Int) then ((idx a1 s5).bind fun v23 => ((m_spec_l12Tx v23.Tx).bind fun v25 => (if v25 = true then ((idx a1 s5).bind fun v28 => ((m_spec_l12Range v28).bind fun v30 => ((m_spec_RangeOk v30).bind fun v32 => (if v32 = true then ((idx a1 s5).bind fun v35 => ((m_spec_l12Mode v35.Mode).bind fun v37 => ((spec_LocksOk_j10 s5 a1 (spec_LocksOk_j8 kb6 s5)) (!v37)))) else ((spec_LocksOk_j10 s5 a1 (spec_LocksOk_j8 kb6 s5)) true))))) else ((spec_LocksOk_j10 s5 a1 (spec_LocksOk_j8 kb6 s5)) true)))) else (kx4 ()))

def m_spec_LocksOk (a1 : (List TLock)) : Option Bool :=
  (if 40 < (a1.length : Int) then (some false) else (iter (spec_LocksOk_b5 a1 spec_LocksOk_j3) FU 0))

def m_spec_RangeIn (a1 : TRange) (a2 : TRange) : Option Bool :=
  ((m_spec_RangeOk a1).bind fun v3 => (if v3 = true then ((m_spec_RangeOk a2).bind fun v6 => (if v6 = true then (if a2.Lo ≤ a1.Lo then (some (decide (a1.Hi ≤ a2.Hi))) else (some false)) else (some false))) else (some false)))

def spec_l12Holds_j5  (t5 : Unit) : Option Bool :=
  (some false)

def spec_l12Holds_j10 (kb8 : (Int → Option Bool)) (s7 : Int) (t10 : Bool) : Option Bool :=
  (if t10 = true then (some true) else (kb8 (IntKind.wrap .i64 (s7 + 1))))

def spec_l12Holds_b7 (a1 : (List TLock)) (a2 : Int) (a3 : TRange) (a4 : Int) (kx6 : (Unit → Option Bool)) (kb8 : (Int → Option Bool)) (s7 : Int) : Option Bool :=
  (if s7 < (a1.length : Int) then ((idx a1 s7).bind fun v13 => (if v13.Tx = a2 then ((idx a1 s7).bind fun v16 => ((m_spec_l12Range v16).bind fun v18 => ((m_spec_RangeIn a3 v18).bind fun v20 => (if v20 = true then ((idx a1 s7).bind fun v23 => ((spec_l12Holds_j10 kb8 s7) (decide (a4 ≤ v23.Mode)))) else ((spec_l12Holds_j10 kb8 s7) false))))) else ((spec_l12Holds_j10 kb8 s7) false))) else (kx6 ()))

def m_spec_l12Holds (a1 : (List TLock)) (a2 : Int) (a3 : TRange) (a4 : Int) : Option Bool :=
  (iter (spec_l12Holds_b7 a1 a2 a3 a4 spec_l12Holds_j5) FU 0)

def m_spec_LocksHold (a1 : (List TLock)) (a2 : Int) (a3 : TRange) (a4 : Int) : Option Bool :=
  ((m_spec_LocksOk a1).bind fun v5 => (if v5 = true then ((m_spec_RangeOk a3).bind fun v8 => (if v8 = true then ((m_spec_l12Mode a4).bind fun v11 => (if v11 = true then ((m_spec_l12Holds a1 a2 a3 a4).bind fun v14 => (some v14)) else (some false))) else (some false))) else (some false)))

def m_impl_from (a1 : Int) (a2 : Int) (a3 : Int) : Option Bool :=
  (if a2 ≤ a1 then (some (decide (a1 ≤ a3))) else (some false))

def m_impl_isTx (a1 : Int) : Option Bool :=
  ((m_impl_from a1 1 60).bind fun v2 => (some v2))

def m_impl_Lock_keys (a1 : TLock) : Option TRange :=
  (some (TRange.mk a1.Lo a1.Hi))

def m_impl_RangeOk (a1 : TRange) : Option Bool :=
  (if 0 ≤ a1.Lo then (if a1.Lo < a1.Hi then (some (decide (a1.Hi ≤ 1000))) else (some false)) else (some false))

def m_impl_isMode (a1 : Int) : Option Bool :=
  (if a1 = 1 then (some true) else (some (decide (a1 = 2))))

def m_impl_meets (a1 : TRange) (a2 : TRange) : Option Bool :=
  (if a1.Lo < a2.Hi then (some (decide (a2.Lo < a1.Hi))) else (some false))

def m_impl_clash (a1 : TLock) (a2 : TLock) : Option Bool :=
  (if ¬ a1.Tx = a2.Tx then (if a1.Mode = 2 then ((m_impl_Lock_keys a1).bind fun v5 => ((m_impl_Lock_keys a2).bind fun v7 => ((m_impl_meets v5 v7).bind fun v9 => (some v9)))) else (if a2.Mode = 2 then ((m_impl_Lock_keys a1).bind fun v12 => ((m_impl_Lock_keys a2).bind fun v14 => ((m_impl_meets v12 v14).bind fun v16 => (some v16)))) else (some false))) else (some false))

def m_impl_LocksOk_1 (a1 : TLock) (a2 : TLock) : Option Bool :=
  ((m_impl_clash a2 a1).bind fun v3 => (some v3))

def slices_IndexFunc_Lock__LocksOk_1_j3  (t3 : Unit) : Option Int :=
  (some (-1))

def slices_IndexFunc_Lock__LocksOk_1_b5 (a1 : (List TLock)) (a2 : TLock) (kx4 : (Unit → Option Int)) (kb6 : (Int → Option Int)) (s5 : Int) : Option Int :=
  (if s5 < (a1.length : Int) then ((idx a1 s5).bind fun v8 => ((m_impl_LocksOk_1 v8 a2).bind fun v10 => (if v10 = true then (some s5) else (kb6 (IntKind.wrap .i64 (s5 + 1)))))) else (kx4 ()))

def m_slices_IndexFunc_Lock__LocksOk_1 (a1 : (List TLock)) (a2 : TLock) : Option Int :=
  (iter (slices_IndexFunc_Lock__LocksOk_1_b5 a1 a2 slices_IndexFunc_Lock__LocksOk_1_j3) FU 0)

def m_slices_ContainsFunc_Lock__LocksOk_1 (a1 : (List TLock)) (a2 : TLock) : Option Bool :=
  ((m_slices_IndexFunc_Lock__LocksOk_1 a1 a2).bind fun v3 => (some (decide (0 ≤ v3))))

def impl_LocksOk_j2 (a1 : (List TLock)) (t2 : Unit) : Option Bool :=
  (some (decide ((a1.length : Int) ≤ 40)))

def impl_LocksOk_j9 (kb5 : (Int → Option Bool)) (s4 : Int) (t9 : Bool) : Option Bool :=
  (if t9 = true then (some false) else (kb5 (IntKind.wrap .i64 (s4 + 1))))

def impl_LocksOk_b4 (a1 : (List TLock)) (kx3 : (Unit → Option Bool)) (kb5 : (Int → Option Bool)) (s4 : Int) : Option Bool :=
  (if s4 < (a1.length : Int) then ((idx a1 s4).bind fun v7 => ((m_impl_isTx v7.Tx).bind fun v12 => (if v12 = true then ((m_impl_Lock_keys v7).bind fun v15 => ((m_impl_RangeOk v15).bind fun v17 => (if v17 = true then ((m_impl_isMode v7.Mode).bind fun v20 => (if v20 = true then ((cut a1 0 s4).bind fun v23 => ((m_slices_ContainsFunc_Lock__LocksOk_1 v23 v7).bind fun v25 => ((impl_LocksOk_j9 kb5 s4) v25))) else ((impl_LocksOk_j9 kb5 s4) true))) else ((impl_LocksOk_j9 kb5 s4) true)))) else ((impl_LocksOk_j9 kb5 s4) true)))) else (kx3 ()))

def m_impl_LocksOk (a1 : (List TLock)) : Option Bool :=
  (iter (impl_LocksOk_b4 a1 (impl_LocksOk_j2 a1)) FU 0)

def m_impl_LocksHold_1 (a1 : TLock) (a2 : Int) (a3 : Int) (a4 : TRange) : Option Bool :=
  (if a1.Tx = a2 then (if a1.Mode = a3 then (if a1.Lo ≤ a4.Lo then (some (decide (a4.Hi ≤ a1.Hi))) else (some false)) else (if a1.Mode = 2 then (if a1.Lo ≤ a4.Lo then (some (decide (a4.Hi ≤ a1.Hi))) else (some false)) else (some false))) else (some false))

def slices_IndexFunc_Lock__LocksHold_1_j5  (t5 : Unit) : Option Int :=
  (some (-1))

def slices_IndexFunc_Lock__LocksHold_1_b7 (a1 : (List TLock)) (a2 : Int) (a3 : Int) (a4 : TRange) (kx6 : (Unit → Option Int)) (kb8 : (Int → Option Int)) (s7 : Int) : Option Int :=
  (if s7 < (a1.length : Int) then ((idx a1 s7).bind fun v10 => ((m_impl_LocksHold_1 v10 a2 a3 a4).bind fun v12 => (if v12 = true then (some s7) else (kb8 (IntKind.wrap .i64 (s7 + 1)))))) else (kx6 ()))

def m_slices_IndexFunc_Lock__LocksHold_1 (a1 : (List TLock)) (a2 : Int) (a3 : Int) (a4 : TRange) : Option Int :=
  (iter (slices_IndexFunc_Lock__LocksHold_1_b7 a1 a2 a3 a4 slices_IndexFunc_Lock__LocksHold_1_j5) FU 0)

def m_slices_ContainsFunc_Lock__LocksHold_1 (a1 : (List TLock)) (a2 : Int) (a3 : Int) (a4 : TRange) : Option Bool :=
  ((m_slices_IndexFunc_Lock__LocksHold_1 a1 a2 a3 a4).bind fun v5 => (some (decide (0 ≤ v5))))

def m_impl_LocksHold (a1 : (List TLock)) (a2 : Int) (a3 : TRange) (a4 : Int) : Option Bool :=
  ((m_impl_LocksOk a1).bind fun v5 => (if v5 = true then ((m_impl_RangeOk a3).bind fun v8 => (if v8 = true then ((m_impl_isMode a4).bind fun v11 => (if v11 = true then ((m_slices_ContainsFunc_Lock__LocksHold_1 a1 a2 a4 a3).bind fun v14 => (some v14)) else (some false))) else (some false))) else (some false)))

def m_laws_eqLock (a1 : TLock) (a2 : TLock) : Option Bool :=
  (if ¬ a1.Tx = a2.Tx then (some false) else (if ¬ a1.Lo = a2.Lo then (some false) else (if ¬ a1.Hi = a2.Hi then (some false) else (if ¬ a1.Mode = a2.Mode then (some false) else (some true)))))

def laws_eqLockS_j4  (t4 : Unit) : Option Bool :=
  (some true)

def laws_eqLockS_b6 (a1 : (List TLock)) (a2 : (List TLock)) (kx5 : (Unit → Option Bool)) (kb7 : (Int → Option Bool)) (s6 : Int) : Option Bool :=
  (if s6 < (a1.length : Int) then ((idx a1 s6).bind fun v9 => ((idx a2 s6).bind fun v11 => ((m_laws_eqLock v9 v11).bind fun v13 => (if v13 = true then (kb7 (IntKind.wrap .i64 (s6 + 1))) else (some false))))) else (kx5 ()))

def m_laws_eqLockS (a1 : (List TLock)) (a2 : (List TLock)) : Option Bool :=
  (if ¬ (a1.length : Int) = (a2.length : Int) then (some false) else (iter (laws_eqLockS_b6 a1 a2 laws_eqLockS_j4) FU 0))

def m_laws_FnExactLocksHold (a1 : (List TLock)) (a2 : Int) (a3 : TRange) (a4 : Int) : Option Bool :=
  ((m_laws_szLockS a1 1048576).bind fun v5 => (if v5 < 0 then (some true) else ((m_laws_toLockS a1).bind fun v8 => ((m_laws_toRange a3).bind fun v10 => ((m_spec_LocksHold v8 a2 v10 a4).bind fun v12 => ((m_laws_toLockS a1).bind fun v14 => ((m_laws_toRange a3).bind fun v16 => ((m_impl_LocksHold v14 a2 v16 a4).bind fun v18 => (if (v18 != v12) = true then (some false) else ((m_laws_toLockS a1).bind fun v21 => ((m_laws_eqLockS v14 v21).bind fun v23 => (if v23 = true then (some true) else (some false)))))))))))))

end Go.AW
