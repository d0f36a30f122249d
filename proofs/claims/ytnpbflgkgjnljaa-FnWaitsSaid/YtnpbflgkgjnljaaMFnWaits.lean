/- Plain functions that say what functions of the program compute. Conditions: none. -/
import Derived.Test.YtnpbflgkgjnljaaYi
set_option linter.unusedVariables false
set_option linter.unusedSimpArgs false
set_option maxRecDepth 100000
namespace Go.AW
abbrev d_u8 (x : Int) : List D := [(.int .u8 x)]
structure TLock where
 Tx : Int
 Lo : Int
 Hi : Int
 Mode : Int
deriving DecidableEq
structure TRange where
 Lo : Int
 Hi : Int
deriving DecidableEq
abbrev d_TLock (x : TLock) : List D := [(.int .i64 x.Tx), (.int .i64 x.Lo), (.int .i64 x.Hi), (.int .i64 x.Mode)]
abbrev d_i64 (x : Int) : List D := [(.int .i64 x)]
abbrev d_TRange (x : TRange) : List D := [(.int .i64 x.Lo), (.int .i64 x.Hi)]
abbrev dS_i64 (x : (List Int)) : List D := [(.sl 1 (List.map d_i64 x))]
abbrev dS_u8 (x : (List Int)) : List D := [(.sl 1 (List.map d_u8 x))]
def m_laws_big (a1 : (List Int)) : Option Bool :=
 (some (decide (1048576 < (a1.length : Int))))
def spec_l1New_j2  (t2 : Int) : Option (Int × Int) :=
 (some (0, t2))
def spec_l1New_b4 (cb1 : (List Int)) (kx3 : (Int → Option (Int × Int))) (kb5 : ((Int × Int) → Option (Int × Int))) (s4 : (Int × Int)) : Option (Int × Int) :=
 (if s4.2 < (cb1.length : Int) then (if s4.2 < 4000 then ((idx cb1 s4.2).bind fun v8 => (kb5 ((IntKind.wrap .i64 (BitVec.ofInt (IntKind.bits .i64) (IntKind.wrap .i64 ((IntKind.wrap .i64 ((IntKind.wrap .i64 (s4.1 * 131)) + (IntKind.wrap .i64 v8))) + 7)) &&& BitVec.ofInt (IntKind.bits .i64) 1073741823).toNat), (IntKind.wrap .i64 (s4.2 + 1))))) else (kx3 s4.1)) else (kx3 s4.1))
def m_spec_l1New (cb1 : (List Int)) : Option (Int × Int) :=
 (iter (spec_l1New_b4 cb1 spec_l1New_j2) FU ((IntKind.wrap .i64 (97097 + (cb1.length : Int))), 0))
def m_spec_l1Size (cb1 : (List Int)) (a2 : Int) : Option Int :=
 (if a2 < (IntKind.wrap .i64 (2 + (IntKind.wrap .i64 (Int.tdiv (cb1.length : Int) 20)))) then (some a2) else (some (IntKind.wrap .i64 (2 + (IntKind.wrap .i64 (Int.tdiv (cb1.length : Int) 20))))))
def m_spec_l1Byte (cb1 : (List Int)) (a2 : (Int × Int)) : Option (Int × (Int × Int)) :=
 (if a2.1 < (cb1.length : Int) then ((idx cb1 a2.1).bind fun v4 => (some ((IntKind.wrap .i64 (BitVec.ofInt (IntKind.bits .i64) (IntKind.wrap .i64 ((IntKind.wrap .i64 (BitVec.ofInt (IntKind.bits .i64) (IntKind.wrap .i64 (BitVec.ofInt (IntKind.bits .i64) (Int.fdiv (IntKind.wrap .i64 ((IntKind.wrap .i64 (a2.2 * 6364136223846793005)) + 1442695040888963407)) (2 ^ (min (Int.toNat 33) (IntKind.bits .i64)))) ^^^ BitVec.ofInt (IntKind.bits .i64) (Int.fdiv (IntKind.wrap .i64 ((IntKind.wrap .i64 (a2.2 * 6364136223846793005)) + 1442695040888963407)) (2 ^ (min (Int.toNat 45) (IntKind.bits .i64))))).toNat) &&& BitVec.ofInt (IntKind.bits .i64) 255).toNat) + (IntKind.wrap .i64 v4))) &&& BitVec.ofInt (IntKind.bits .i64) 255).toNat), ((IntKind.wrap .i64 (a2.1 + 1)), (IntKind.wrap .i64 ((IntKind.wrap .i64 (a2.2 * 6364136223846793005)) + 1442695040888963407)))))) else (some ((IntKind.wrap .i64 (BitVec.ofInt (IntKind.bits .i64) (IntKind.wrap .i64 (BitVec.ofInt (IntKind.bits .i64) (Int.fdiv (IntKind.wrap .i64 ((IntKind.wrap .i64 (a2.2 * 6364136223846793005)) + 1442695040888963407)) (2 ^ (min (Int.toNat 33) (IntKind.bits .i64)))) ^^^ BitVec.ofInt (IntKind.bits .i64) (Int.fdiv (IntKind.wrap .i64 ((IntKind.wrap .i64 (a2.2 * 6364136223846793005)) + 1442695040888963407)) (2 ^ (min (Int.toNat 45) (IntKind.bits .i64))))).toNat) &&& BitVec.ofInt (IntKind.bits .i64) 255).toNat), (a2.1, (IntKind.wrap .i64 ((IntKind.wrap .i64 (a2.2 * 6364136223846793005)) + 1442695040888963407))))))
def m_spec_l1Below (cb1 : (List Int)) (a2 : (Int × Int)) (a3 : Int) : Option (Int × (Int × Int)) :=
 (if a3 ≤ 0 then (some (0, a2)) else (if a3 ≤ 256 then ((m_spec_l1Byte cb1 a2).bind fun v6 => (if ¬ a3 = 0 then (some ((Int.tmod v6.1 a3), v6.2)) else none)) else ((m_spec_l1Byte cb1 a2).bind fun v9 => ((m_spec_l1Byte cb1 v9.2).bind fun v11 => ((m_spec_l1Byte cb1 v11.2).bind fun v13 => ((m_spec_l1Byte cb1 v13.2).bind fun v15 => (if ¬ a3 = 0 then (some ((Int.tmod (IntKind.wrap .i64 ((IntKind.wrap .i64 ((IntKind.wrap .i64 ((IntKind.wrap .i64 (v9.1 * 16777216)) + (IntKind.wrap .i64 (v11.1 * 65536)))) + (IntKind.wrap .i64 (v13.1 * 256)))) + v15.1)) a3), v15.2)) else none)))))))
def m_spec_l1Once (cb1 : (List Int)) (a2 : (Int × Int)) (a3 : Int) : Option (Bool × (Int × Int)) :=
 ((m_spec_l1Below cb1 a2 a3).bind fun v4 => (some ((decide (v4.1 = 0)), v4.2)))
def m_spec_l1In (a1 : Int) (a2 : Int) (a3 : Int) : Option Bool :=
 (if a2 ≤ a1 then (some (decide (a1 ≤ a3))) else (some false))
def m_spec_l12Tx (a1 : Int) : Option Bool :=
 ((m_spec_l1In a1 1 60).bind fun v2 => (some v2))
def m_spec_l12Range (a1 : TLock) : Option TRange :=
 (some (TRange.mk a1.Lo a1.Hi))
def m_spec_RangeOk (a1 : TRange) : Option Bool :=
 (if 0 ≤ a1.Lo then (if a1.Lo < a1.Hi then (some (decide (a1.Hi ≤ 1000))) else (some false)) else (some false))
def m_spec_l12Mode (a1 : Int) : Option Bool :=
 (if a1 = 1 then (some true) else (some (decide (a1 = 2))))
def m_spec_l1Max (a1 : Int) (a2 : Int) : Option Int :=
 (if a2 < a1 then (some a1) else (some a2))
def m_spec_l1Min (a1 : Int) (a2 : Int) : Option Int :=
 (if a1 < a2 then (some a1) else (some a2))
def spec_RangeMeet_j7 (v3 : Int) (v5 : Int) (t7 : Bool) : Option (TRange × Bool) :=
 (if t7 = true then (some ((TRange.mk 0 0), false)) else (some ((TRange.mk v3 v5), true)))
def m_spec_RangeMeet (a1 : TRange) (a2 : TRange) : Option (TRange × Bool) :=
 ((m_spec_l1Max a1.Lo a2.Lo).bind fun v3 => ((m_spec_l1Min a1.Hi a2.Hi).bind fun v5 => ((m_spec_RangeOk a1).bind fun v10 => (if v10 = true then ((m_spec_RangeOk a2).bind fun v13 => (if v13 = true then ((m_spec_RangeOk (TRange.mk v3 v5)).bind fun v16 => ((spec_RangeMeet_j7 v3 v5) (!v16))) else ((spec_RangeMeet_j7 v3 v5) true))) else ((spec_RangeMeet_j7 v3 v5) true)))))
def m_spec_l12Clash (a1 : TLock) (a2 : TLock) : Option Bool :=
 ((m_spec_l12Range a1).bind fun v3 => ((m_spec_l12Range a2).bind fun v5 => ((m_spec_RangeMeet v3 v5).bind fun v7 => (if v7.2 = true then (if ¬ a1.Tx = a2.Tx then (if a1.Mode = 2 then (some true) else (some (decide (a2.Mode = 2)))) else (some false)) else (some false)))))
def spec_LocksOk_j3  (t3 : Unit) : Option Bool :=
 (some true)
def spec_LocksOk_j8 (kb6 : (Int → Option Bool)) (s5 : Int) (t8 : Unit) : Option Bool :=
 (kb6 (IntKind.wrap .i64 (s5 + 1)))
def spec_LocksOk_b13 (s5 : Int) (a1 : (List TLock)) (kx9 : (Unit → Option Bool)) (kb14 : (Int → Option Bool)) (s13 : Int) : Option Bool :=
 (if s13 < s5 then ((idx a1 s5).bind fun v16 => ((idx a1 s13).bind fun v18 => ((m_spec_l12Clash v16 v18).bind fun v20 => (if v20 = true then (some false) else (kb14 (IntKind.wrap .i64 (s13 + 1))))))) else (kx9 ()))
def spec_LocksOk_j10 (s5 : Int) (a1 : (List TLock)) (kx9 : (Unit → Option Bool)) (t10 : Bool) : Option Bool :=
 (if t10 = true then (some false) else (iter (spec_LocksOk_b13 s5 a1 kx9) FU 0))
def spec_LocksOk_b5 (a1 : (List TLock)) (kx4 : (Unit → Option Bool)) (kb6 : (Int → Option Bool)) (s5 : Int) : Option Bool :=
 (if s5 < (a1.length : Int) then ((idx a1 s5).bind fun v23 => ((m_spec_l12Tx v23.Tx).bind fun v25 => (if v25 = true then ((idx a1 s5).bind fun v28 => ((m_spec_l12Range v28).bind fun v30 => ((m_spec_RangeOk v30).bind fun v32 => (if v32 = true then ((idx a1 s5).bind fun v35 => ((m_spec_l12Mode v35.Mode).bind fun v37 => ((spec_LocksOk_j10 s5 a1 (spec_LocksOk_j8 kb6 s5)) (!v37)))) else ((spec_LocksOk_j10 s5 a1 (spec_LocksOk_j8 kb6 s5)) true))))) else ((spec_LocksOk_j10 s5 a1 (spec_LocksOk_j8 kb6 s5)) true)))) else (kx4 ()))
def m_spec_LocksOk (a1 : (List TLock)) : Option Bool :=
 (if 40 < (a1.length : Int) then (some false) else (iter (spec_LocksOk_b5 a1 spec_LocksOk_j3) FU 0))
def m_spec_l12Right (a1 : (List TLock)) (a2 : (List Int)) (a3 : Int) (a4 : TRange) (a5 : Int) : Option Bool :=
 ((m_spec_LocksOk a1).bind fun v6 => (if v6 = true then (if (a2.length : Int) ≤ 60 then ((m_spec_l12Tx a3).bind fun v10 => (if v10 = true then ((m_spec_RangeOk a4).bind fun v13 => (if v13 = true then ((m_spec_l12Mode a5).bind fun v16 => (some v16)) else (some false))) else (some false))) else (some false)) else (some false)))
def m_spec_RangeIn (a1 : TRange) (a2 : TRange) : Option Bool :=
 ((m_spec_RangeOk a1).bind fun v3 => (if v3 = true then ((m_spec_RangeOk a2).bind fun v6 => (if v6 = true then (if a2.Lo ≤ a1.Lo then (some (decide (a1.Hi ≤ a2.Hi))) else (some false)) else (some false))) else (some false)))
def spec_l12Holds_j5  (t5 : Unit) : Option Bool :=
 (some false)
def spec_l12Holds_j10 (kb8 : (Int → Option Bool)) (s7 : Int) (t10 : Bool) : Option Bool :=
 (if t10 = true then (some true) else (kb8 (IntKind.wrap .i64 (s7 + 1))))
def spec_l12Holds_b7 (a1 : (List TLock)) (a2 : Int) (a3 : TRange) (a4 : Int) (kx6 : (Unit → Option Bool)) (kb8 : (Int → Option Bool)) (s7 : Int) : Option Bool :=
 (if s7 < (a1.length : Int) then ((idx a1 s7).bind fun v13 => (if v13.Tx = a2 then ((idx a1 s7).bind fun v16 => ((m_spec_l12Range v16).bind fun v18 => ((m_spec_RangeIn a3 v18).bind fun v20 => (if v20 = true then ((idx a1 s7).bind fun v23 => ((spec_l12Holds_j10 kb8 s7) (decide (a4 ≤ v23.Mode)))) else ((spec_l12Holds_j10 kb8 s7) false))))) else ((spec_l12Holds_j10 kb8 s7) false))) else (kx6 ()))
def m_spec_l12Holds (a1 : (List TLock)) (a2 : Int) (a3 : TRange) (a4 : Int) : Option Bool :=
 (iter (spec_l12Holds_b7 a1 a2 a3 a4 spec_l12Holds_j5) FU 0)
def spec_l12Put_j3 (a2 : Int) (t3 : ((List Int) × Bool)) : Option (List Int) :=
 (if t3.2 = true then (some t3.1) else (if (t3.1 ++ ([a2])).length ≤ 2147483648 then (some (t3.1 ++ ([a2]))) else none))
def spec_l12Put_j10 (a1 : (List Int)) (s7 : ((List Int) × Bool × Int)) (a2 : Int) (kb8 : (((List Int) × Bool × Int) → Option (List Int))) (t10 : ((List Int) × Bool)) : Option (List Int) :=
 ((idx a1 s7.2.2).bind fun v12 => (if ¬ v12 = a2 then ((idx a1 s7.2.2).bind fun v15 => (if (t10.1 ++ ([v15])).length ≤ 2147483648 then (kb8 ((t10.1 ++ ([v15])), t10.2, (IntKind.wrap .i64 (s7.2.2 + 1)))) else none)) else (kb8 (t10.1, t10.2, (IntKind.wrap .i64 (s7.2.2 + 1))))))
def spec_l12Put_j18 (s7 : ((List Int) × Bool × Int)) (a2 : Int) (kx11 : (((List Int) × Bool) → Option (List Int))) (t18 : Bool) : Option (List Int) :=
 (if t18 = true then (if (s7.1 ++ ([a2])).length ≤ 2147483648 then (kx11 ((s7.1 ++ ([a2])), true)) else none) else (kx11 (s7.1, s7.2.1)))
def spec_l12Put_b7 (a1 : (List Int)) (a2 : Int) (kx4 : (((List Int) × Bool) → Option (List Int))) (kb8 : (((List Int) × Bool × Int) → Option (List Int))) (s7 : ((List Int) × Bool × Int)) : Option (List Int) :=
 (if s7.2.2 < (a1.length : Int) then (if s7.2.1 = true then ((spec_l12Put_j18 s7 a2 (spec_l12Put_j10 a1 s7 a2 kb8)) false) else ((idx a1 s7.2.2).bind fun v23 => ((spec_l12Put_j18 s7 a2 (spec_l12Put_j10 a1 s7 a2 kb8)) (decide (a2 ≤ v23))))) else (kx4 (s7.1, s7.2.1)))
def m_spec_l12Put (a1 : (List Int)) (a2 : Int) : Option (List Int) :=
 (iter (spec_l12Put_b7 a1 a2 (spec_l12Put_j3 a2)) FU (([] : List Int), false, 0))
def spec_l12Foes_j3  (t3 : (List Int)) : Option (List Int) :=
 (some t3)
def spec_l12Foes_b5 (a1 : (List TLock)) (a2 : TLock) (kx4 : ((List Int) → Option (List Int))) (kb6 : (((List Int) × Int) → Option (List Int))) (s5 : ((List Int) × Int)) : Option (List Int) :=
 (if s5.2 < (a1.length : Int) then ((idx a1 s5.2).bind fun v8 => ((m_spec_l12Clash v8 a2).bind fun v10 => (if v10 = true then ((idx a1 s5.2).bind fun v13 => ((m_spec_l12Put s5.1 v13.Tx).bind fun v15 => (kb6 (v15, (IntKind.wrap .i64 (s5.2 + 1)))))) else (kb6 (s5.1, (IntKind.wrap .i64 (s5.2 + 1))))))) else (kx4 s5.1))
def m_spec_l12Foes (a1 : (List TLock)) (a2 : TLock) : Option (List Int) :=
 (iter (spec_l12Foes_b5 a1 a2 spec_l12Foes_j3) FU (([] : List Int), 0))
def spec_l12Has_j3  (t3 : Unit) : Option Bool :=
 (some false)
def spec_l12Has_b5 (a1 : (List Int)) (a2 : Int) (kx4 : (Unit → Option Bool)) (kb6 : (Int → Option Bool)) (s5 : Int) : Option Bool :=
 (if s5 < (a1.length : Int) then ((idx a1 s5).bind fun v8 => (if v8 = a2 then (some true) else (kb6 (IntKind.wrap .i64 (s5 + 1))))) else (kx4 ()))
def m_spec_l12Has (a1 : (List Int)) (a2 : Int) : Option Bool :=
 (iter (spec_l12Has_b5 a1 a2 spec_l12Has_j3) FU 0)
def spec_LocksWaits_j11  (t11 : (List Int)) : Option (List Int) :=
 (some t11)
def spec_LocksWaits_j16 (v9 : (List Int)) (s13 : ((List Int) × Int)) (kb14 : (((List Int) × Int) → Option (List Int))) (t16 : Bool) : Option (List Int) :=
 (if t16 = true then ((idx v9 s13.2).bind fun v19 => (if (s13.1 ++ ([v19])).length ≤ 2147483648 then (kb14 ((s13.1 ++ ([v19])), (IntKind.wrap .i64 (s13.2 + 1)))) else none)) else (kb14 (s13.1, (IntKind.wrap .i64 (s13.2 + 1)))))
def spec_LocksWaits_b13 (v9 : (List Int)) (a3 : Int) (a2 : (List Int)) (kx12 : ((List Int) → Option (List Int))) (kb14 : (((List Int) × Int) → Option (List Int))) (s13 : ((List Int) × Int)) : Option (List Int) :=
 (if s13.2 < (v9.length : Int) then ((idx v9 s13.2).bind fun v22 => (if v22 < a3 then ((spec_LocksWaits_j16 v9 s13 kb14) true) else ((idx v9 s13.2).bind fun v25 => ((m_spec_l12Has a2 v25).bind fun v27 => ((spec_LocksWaits_j16 v9 s13 kb14) v27))))) else (kx12 s13.1))
def spec_LocksWaits_j6 (a1 : (List TLock)) (a3 : Int) (a4 : TRange) (a5 : Int) (a2 : (List Int)) (t6 : Bool) : Option (List Int) :=
 (if t6 = true then (some ([] : (List Int))) else ((m_spec_l12Foes a1 (TLock.mk a3 a4.Lo a4.Hi a5)).bind fun v9 => (iter (spec_LocksWaits_b13 v9 a3 a2 spec_LocksWaits_j11) FU (([] : List Int), 0))))
def m_spec_LocksWaits (a1 : (List TLock)) (a2 : (List Int)) (a3 : Int) (a4 : TRange) (a5 : Int) : Option (List Int) :=
 ((m_spec_l12Right a1 a2 a3 a4 a5).bind fun v29 => (if v29 = true then ((m_spec_l12Holds a1 a3 a4 a5).bind fun v32 => ((spec_LocksWaits_j6 a1 a3 a4 a5 a2) v32)) else ((spec_LocksWaits_j6 a1 a3 a4 a5 a2) true)))
def spec_l12Keep_j4  (t4 : (List TLock)) : Option (List TLock) :=
 (some t4)
def spec_l12Keep_b6 (a1 : (List TLock)) (a2 : Int) (a3 : Bool) (kx5 : ((List TLock) → Option (List TLock))) (kb7 : (((List TLock) × Int) → Option (List TLock))) (s6 : ((List TLock) × Int)) : Option (List TLock) :=
 (if s6.2 < (a1.length : Int) then ((idx a1 s6.2).bind fun v9 => (if ((decide (v9.Tx = a2)) == a3) = true then ((idx a1 s6.2).bind fun v12 => (if (s6.1 ++ ([v12])).length ≤ 2147483648 then (kb7 ((s6.1 ++ ([v12])), (IntKind.wrap .i64 (s6.2 + 1)))) else none)) else (kb7 (s6.1, (IntKind.wrap .i64 (s6.2 + 1)))))) else (kx5 s6.1))
def m_spec_l12Keep (a1 : (List TLock)) (a2 : Int) (a3 : Bool) : Option (List TLock) :=
 (iter (spec_l12Keep_b6 a1 a2 a3 spec_l12Keep_j4) FU (([] : List TLock), 0))
def spec_LockAsk_j18 (a1 : (List TLock)) (a3 : Int) (a4 : TRange) (a5 : Int) (v16 : (List Int)) (t18 : (List TLock)) : Option ((List TLock) × (List Int) × Int) :=
 (if ((t18.length : Nat) : Int) = 40 then (if a1.length ≤ 2147483648 then (some (a1, ([] : (List Int)), 3)) else none) else (if (t18 ++ ([(TLock.mk a3 a4.Lo a4.Hi a5)])).length ≤ 2147483648 then (some ((t18 ++ ([(TLock.mk a3 a4.Lo a4.Hi a5)])), v16, 0)) else none))
def spec_LockAsk_b23 (v16 : (List Int)) (kx19 : ((List TLock) → Option ((List TLock) × (List Int) × Int))) (kb24 : (((List TLock) × Int) → Option ((List TLock) × (List Int) × Int))) (s23 : ((List TLock) × Int)) : Option ((List TLock) × (List Int) × Int) :=
 (if s23.2 < ((v16.length : Nat) : Int) then ((idx v16 s23.2).bind fun v26 => ((m_spec_l12Keep s23.1 v26 false).bind fun v28 => (kb24 (v28, (IntKind.wrap .i64 (s23.2 + 1)))))) else (kx19 s23.1))
def m_spec_LockAsk (a1 : (List TLock)) (a2 : (List Int)) (a3 : Int) (a4 : TRange) (a5 : Int) : Option ((List TLock) × (List Int) × Int) :=
 ((m_spec_l12Right a1 a2 a3 a4 a5).bind fun v6 => (if v6 = true then (if a1.length ≤ 2147483648 then ((m_spec_l12Holds a1 a3 a4 a5).bind fun v10 => (if v10 = true then (some (a1, ([] : (List Int)), 0)) else ((m_spec_LocksWaits a1 a2 a3 a4 a5).bind fun v13 => (if 0 < (v13.length : Int) then (some (a1, ([] : (List Int)), 2)) else ((m_spec_l12Foes a1 (TLock.mk a3 a4.Lo a4.Hi a5)).bind fun v16 => (iter (spec_LockAsk_b23 v16 (spec_LockAsk_j18 a1 a3 a4 a5 v16)) FU (a1, 0))))))) else none) else (some (([] : (List TLock)), ([] : (List Int)), 1))))
def spec_l12DrawLocks_j8  (t8 : ((List TLock) × Int × Int)) : Option ((List TLock) × (Int × Int)) :=
 (some (t8.1, t8.2))
def spec_l12DrawLocks_b10 (t6 : (Int × Int × Int)) (cb1 : (List Int)) (kx9 : (((List TLock) × Int × Int) → Option ((List TLock) × (Int × Int)))) (kb11 : (((List TLock) × Int × Int × Int) → Option ((List TLock) × (Int × Int)))) (s10 : ((List TLock) × Int × Int × Int)) : Option ((List TLock) × (Int × Int)) :=
 (if s10.2.1 < t6.1 then ((m_spec_l1Below cb1 s10.2.2 40).bind fun v13 => ((m_spec_l1Below cb1 v13.2 9).bind fun v15 => ((m_spec_l1Below cb1 v15.2 6).bind fun v17 => ((m_spec_l1Below cb1 v17.2 3).bind fun v19 => ((m_spec_LockAsk s10.1 ([1, 2, 3, 4, 5, 6, 7, 8, 9]) (IntKind.wrap .i64 (1 + v15.1)) (TRange.mk v13.1 (IntKind.wrap .i64 ((IntKind.wrap .i64 (v13.1 + 1)) + v17.1))) (IntKind.wrap .i64 (1 + (IntKind.wrap .i64 (Int.tdiv v19.1 2))))).bind fun v21 => (if v21.2.2 = 0 then (kb11 (v21.1, (IntKind.wrap .i64 (s10.2.1 + 1)), v19.2.1, v19.2.2)) else (kb11 (s10.1, (IntKind.wrap .i64 (s10.2.1 + 1)), v19.2.1, v19.2.2)))))))) else (kx9 (s10.1, s10.2.2.1, s10.2.2.2)))
def spec_l12DrawLocks_j6 (cb1 : (List Int)) (t6 : (Int × Int × Int)) : Option ((List TLock) × (Int × Int)) :=
 (iter (spec_l12DrawLocks_b10 t6 cb1 spec_l12DrawLocks_j8) FU (([] : List TLock), 0, t6.2.1, t6.2.2))
def m_spec_l12DrawLocks (cb1 : (List Int)) (a2 : (Int × Int)) (a3 : Int) : Option ((List TLock) × (Int × Int)) :=
 ((m_spec_l1Below cb1 a2 (IntKind.wrap .i64 (a3 + 1))).bind fun v4 => ((m_spec_l1Once cb1 v4.2 15).bind fun v24 => (if v24.1 = true then ((spec_l12DrawLocks_j6 cb1) (120, v24.2.1, v24.2.2)) else ((spec_l12DrawLocks_j6 cb1) (v4.1, v24.2.1, v24.2.2)))))
def m_spec_l1PickInt (cb1 : (List Int)) (a2 : (Int × Int)) (a3 : (List Int)) : Option (Int × (Int × Int)) :=
 ((m_spec_l1Below cb1 a2 (a3.length : Int)).bind fun v4 => ((idx a3 v4.1).bind fun v6 => (some (v6, v4.2))))
def m_spec_l12DrawAny (cb1 : (List Int)) (a2 : (Int × Int)) (a3 : Int) : Option ((List TLock) × (Int × Int)) :=
 ((m_spec_l12DrawLocks cb1 a2 a3).bind fun v4 => ((m_spec_l1Below cb1 v4.2 25).bind fun v6 => (if v6.1 = 0 then ((m_spec_l1PickInt cb1 v6.2 ([0, 60, 61])).bind fun v9 => (if (v4.1 ++ ([(TLock.mk v9.1 900 901 1)])).length ≤ 2147483648 then (some ((v4.1 ++ ([(TLock.mk v9.1 900 901 1)])), v9.2)) else none)) else (if v6.1 = 1 then ((m_spec_l1PickInt cb1 v6.2 ([5, 30])).bind fun v13 => ((m_spec_l1Below cb1 v13.2 4).bind fun v15 => (if (v4.1 ++ ([(TLock.mk 1 5 v13.1 v15.1)])).length ≤ 2147483648 then (some ((v4.1 ++ ([(TLock.mk 1 5 v13.1 v15.1)])), v15.2)) else none))) else (some (v4.1, v6.2))))))
def m_spec_l10DrawRange (cb1 : (List Int)) (a2 : (Int × Int)) : Option (TRange × (Int × Int)) :=
 ((m_spec_l1Below cb1 a2 30).bind fun v3 => ((m_spec_l1Below cb1 v3.2 12).bind fun v5 => ((m_spec_l1Below cb1 v5.2 20).bind fun v7 => (if v7.1 = 0 then ((m_spec_l1Below cb1 v7.2 2).bind fun v10 => (some ((TRange.mk v3.1 (IntKind.wrap .i64 (v3.1 - v10.1))), v10.2))) else (if v7.1 = 1 then ((m_spec_l1PickInt cb1 v7.2 ([(-1), 0, 990])).bind fun v13 => ((m_spec_l1PickInt cb1 v13.2 ([1000, 1001])).bind fun v15 => (some ((TRange.mk v13.1 v15.1), v15.2)))) else (some ((TRange.mk v3.1 (IntKind.wrap .i64 ((IntKind.wrap .i64 (v3.1 + 1)) + v5.1))), v7.2)))))))
def spec_l12DrawAsk_j24 (v6 : ((List TLock) × (Int × Int))) (t10 : ((List Int) × Int × Int)) (t16 : (Int × Int × Int × Int)) (t20 : (Int × Int × Int)) (t24 : Int) : Option ((List TLock) × (List Int) × Int × TRange × Int) :=
 (some (v6.1, t10.1, t24, (TRange.mk t16.1 t16.2.1), t20.1))
def spec_l12DrawAsk_j20 (cb1 : (List Int)) (v6 : ((List TLock) × (Int × Int))) (t10 : ((List Int) × Int × Int)) (t16 : (Int × Int × Int × Int)) (t20 : (Int × Int × Int)) : Option ((List TLock) × (List Int) × Int × TRange × Int) :=
 ((m_spec_l1Below cb1 t20.2 10).bind fun v22 => ((m_spec_l1Once cb1 v22.2 20).bind fun v26 => (if v26.1 = true then ((m_spec_l1PickInt cb1 v26.2 ([0, 60, 61])).bind fun v29 => ((spec_l12DrawAsk_j24 v6 t10 t16 t20) v29.1)) else ((spec_l12DrawAsk_j24 v6 t10 t16 t20) (IntKind.wrap .i64 (1 + v22.1))))))
def spec_l12DrawAsk_j16 (cb1 : (List Int)) (v6 : ((List TLock) × (Int × Int))) (t10 : ((List Int) × Int × Int)) (t16 : (Int × Int × Int × Int)) : Option ((List TLock) × (List Int) × Int × TRange × Int) :=
 ((m_spec_l1Below cb1 t16.2.2 2).bind fun v18 => ((m_spec_l1Once cb1 v18.2 20).bind fun v31 => (if v31.1 = true then ((m_spec_l1Below cb1 v31.2 4).bind fun v34 => ((spec_l12DrawAsk_j20 cb1 v6 t10 t16) (v34.1, v34.2.1, v34.2.2))) else ((spec_l12DrawAsk_j20 cb1 v6 t10 t16) ((IntKind.wrap .i64 (1 + v18.1)), v31.2.1, v31.2.2)))))
def spec_l12DrawAsk_j10 (cb1 : (List Int)) (v6 : ((List TLock) × (Int × Int))) (t10 : ((List Int) × Int × Int)) : Option ((List TLock) × (List Int) × Int × TRange × Int) :=
 ((m_spec_l1Below cb1 t10.2 40).bind fun v12 => ((m_spec_l1Below cb1 v12.2 6).bind fun v14 => ((m_spec_l1Once cb1 v14.2 15).bind fun v36 => (if v36.1 = true then ((m_spec_l10DrawRange cb1 v36.2).bind fun v39 => ((spec_l12DrawAsk_j16 cb1 v6 t10) (v39.1.Lo, v39.1.Hi, v39.2.1, v39.2.2))) else ((spec_l12DrawAsk_j16 cb1 v6 t10) (v12.1, (IntKind.wrap .i64 ((IntKind.wrap .i64 (v12.1 + 1)) + v14.1)), v36.2.1, v36.2.2))))))
def spec_l12DrawAsk_j8 (cb1 : (List Int)) (v6 : ((List TLock) × (Int × Int))) (t8 : ((List Int) × Int × Int)) : Option ((List TLock) × (List Int) × Int × TRange × Int) :=
 ((m_spec_l1Once cb1 t8.2 30).bind fun v41 => (if v41.1 = true then ((m_spec_l1Below cb1 v41.2 2).bind fun v44 => (if 0 ≤ (IntKind.wrap .i64 (60 + v44.1)) ∧ (IntKind.wrap .i64 (60 + v44.1)) ≤ 2147483648 then ((spec_l12DrawAsk_j10 cb1 v6) ((List.replicate (Int.toNat (IntKind.wrap .i64 (60 + v44.1))) 0), v44.2.1, v44.2.2)) else none)) else ((spec_l12DrawAsk_j10 cb1 v6) (t8.1, v41.2.1, v41.2.2))))
def spec_l12DrawAsk_b47 (cb1 : (List Int)) (kx9 : (((List Int) × Int × Int) → Option ((List TLock) × (List Int) × Int × TRange × Int))) (kb48 : (((List Int) × Int × Int × Int) → Option ((List TLock) × (List Int) × Int × TRange × Int))) (s47 : ((List Int) × Int × Int × Int)) : Option ((List TLock) × (List Int) × Int × TRange × Int) :=
 (if s47.2.1 < 9 then ((m_spec_l1Once cb1 s47.2.2 4).bind fun v50 => (if v50.1 = true then (if (s47.1 ++ ([s47.2.1])).length ≤ 2147483648 then (kb48 ((s47.1 ++ ([s47.2.1])), (IntKind.wrap .i64 (s47.2.1 + 1)), v50.2.1, v50.2.2)) else none) else (kb48 (s47.1, (IntKind.wrap .i64 (s47.2.1 + 1)), v50.2.1, v50.2.2)))) else (kx9 (s47.1, s47.2.2.1, s47.2.2.2)))
def m_spec_l12DrawAsk (cb1 : (List Int)) : Option ((List TLock) × (List Int) × Int × TRange × Int) :=
 ((m_spec_l1New cb1).bind fun v2 => ((m_spec_l1Size cb1 20).bind fun v4 => ((m_spec_l12DrawAny cb1 v2 v4).bind fun v6 => (iter (spec_l12DrawAsk_b47 cb1 (spec_l12DrawAsk_j8 cb1 v6)) FU (([] : List Int), 1, v6.2.1, v6.2.2)))))
def m_spec_DrawLocksWaits (cb1 : (List Int)) : Option ((List TLock) × (List Int) × Int × TRange × Int) :=
 ((m_spec_l12DrawAsk cb1).bind fun v2 => (some (v2.1, v2.2.1, v2.2.2.1, v2.2.2.2.1, v2.2.2.2.2)))
def m_impl_from (a1 : Int) (a2 : Int) (a3 : Int) : Option Bool :=
 (if a2 ≤ a1 then (some (decide (a1 ≤ a3))) else (some false))
def m_impl_isTx (a1 : Int) : Option Bool :=
 ((m_impl_from a1 1 60).bind fun v2 => (some v2))
def m_impl_Lock_keys (a1 : TLock) : Option TRange :=
 (some (TRange.mk a1.Lo a1.Hi))
def m_impl_RangeOk (a1 : TRange) : Option Bool :=
 (if 0 ≤ a1.Lo then (if a1.Lo < a1.Hi then (some (decide (a1.Hi ≤ 1000))) else (some false)) else (some false))
def m_impl_isMode (a1 : Int) : Option Bool :=
 (if a1 = 1 then (some true) else (some (decide (a1 = 2))))
def m_impl_meets (a1 : TRange) (a2 : TRange) : Option Bool :=
 (if a1.Lo < a2.Hi then (some (decide (a2.Lo < a1.Hi))) else (some false))
def m_impl_clash (a1 : TLock) (a2 : TLock) : Option Bool :=
 (if ¬ a1.Tx = a2.Tx then (if a1.Mode = 2 then ((m_impl_Lock_keys a1).bind fun v5 => ((m_impl_Lock_keys a2).bind fun v7 => ((m_impl_meets v5 v7).bind fun v9 => (some v9)))) else (if a2.Mode = 2 then ((m_impl_Lock_keys a1).bind fun v12 => ((m_impl_Lock_keys a2).bind fun v14 => ((m_impl_meets v12 v14).bind fun v16 => (some v16)))) else (some false))) else (some false))
def m_impl_LocksOk_1 (a1 : TLock) (a2 : TLock) : Option Bool :=
 ((m_impl_clash a2 a1).bind fun v3 => (some v3))
def slices_IndexFunc_Lock__LocksOk_1_j3  (t3 : Unit) : Option Int :=
 (some (-1))
def slices_IndexFunc_Lock__LocksOk_1_b5 (a1 : (List TLock)) (a2 : TLock) (kx4 : (Unit → Option Int)) (kb6 : (Int → Option Int)) (s5 : Int) : Option Int :=
 (if s5 < (a1.length : Int) then ((idx a1 s5).bind fun v8 => ((m_impl_LocksOk_1 v8 a2).bind fun v10 => (if v10 = true then (some s5) else (kb6 (IntKind.wrap .i64 (s5 + 1)))))) else (kx4 ()))
def m_slices_IndexFunc_Lock__LocksOk_1 (a1 : (List TLock)) (a2 : TLock) : Option Int :=
 (iter (slices_IndexFunc_Lock__LocksOk_1_b5 a1 a2 slices_IndexFunc_Lock__LocksOk_1_j3) FU 0)
def m_slices_ContainsFunc_Lock__LocksOk_1 (a1 : (List TLock)) (a2 : TLock) : Option Bool :=
 ((m_slices_IndexFunc_Lock__LocksOk_1 a1 a2).bind fun v3 => (some (decide (0 ≤ v3))))
def impl_LocksOk_j2 (a1 : (List TLock)) (t2 : Unit) : Option Bool :=
 (some (decide ((a1.length : Int) ≤ 40)))
def impl_LocksOk_j9 (kb5 : (Int → Option Bool)) (s4 : Int) (t9 : Bool) : Option Bool :=
 (if t9 = true then (some false) else (kb5 (IntKind.wrap .i64 (s4 + 1))))
def impl_LocksOk_b4 (a1 : (List TLock)) (kx3 : (Unit → Option Bool)) (kb5 : (Int → Option Bool)) (s4 : Int) : Option Bool :=
 (if s4 < (a1.length : Int) then ((idx a1 s4).bind fun v7 => ((m_impl_isTx v7.Tx).bind fun v12 => (if v12 = true then ((m_impl_Lock_keys v7).bind fun v15 => ((m_impl_RangeOk v15).bind fun v17 => (if v17 = true then ((m_impl_isMode v7.Mode).bind fun v20 => (if v20 = true then ((cut a1 0 s4).bind fun v23 => ((m_slices_ContainsFunc_Lock__LocksOk_1 v23 v7).bind fun v25 => ((impl_LocksOk_j9 kb5 s4) v25))) else ((impl_LocksOk_j9 kb5 s4) true))) else ((impl_LocksOk_j9 kb5 s4) true)))) else ((impl_LocksOk_j9 kb5 s4) true)))) else (kx3 ()))
def m_impl_LocksOk (a1 : (List TLock)) : Option Bool :=
 (iter (impl_LocksOk_b4 a1 (impl_LocksOk_j2 a1)) FU 0)
def slices_Clone_Lock_j2 (a1 : (List TLock)) (t2 : Unit) : Option (List TLock) :=
 (if a1.length ≤ 2147483648 then (some a1) else none)
def m_slices_Clone_Lock (a1 : (List TLock)) : Option (List TLock) :=
 (if a1.length = 0 then ((slices_Clone_Lock_j2 a1) ()) else ((slices_Clone_Lock_j2 a1) ()))
def m_impl_LocksHold_1 (a1 : TLock) (a2 : Int) (a3 : Int) (a4 : TRange) : Option Bool :=
 (if a1.Tx = a2 then (if a1.Mode = a3 then (if a1.Lo ≤ a4.Lo then (some (decide (a4.Hi ≤ a1.Hi))) else (some false)) else (if a1.Mode = 2 then (if a1.Lo ≤ a4.Lo then (some (decide (a4.Hi ≤ a1.Hi))) else (some false)) else (some false))) else (some false))
def slices_IndexFunc_Lock__LocksHold_1_j5  (t5 : Unit) : Option Int :=
 (some (-1))
def slices_IndexFunc_Lock__LocksHold_1_b7 (a1 : (List TLock)) (a2 : Int) (a3 : Int) (a4 : TRange) (kx6 : (Unit → Option Int)) (kb8 : (Int → Option Int)) (s7 : Int) : Option Int :=
 (if s7 < (a1.length : Int) then ((idx a1 s7).bind fun v10 => ((m_impl_LocksHold_1 v10 a2 a3 a4).bind fun v12 => (if v12 = true then (some s7) else (kb8 (IntKind.wrap .i64 (s7 + 1)))))) else (kx6 ()))
def m_slices_IndexFunc_Lock__LocksHold_1 (a1 : (List TLock)) (a2 : Int) (a3 : Int) (a4 : TRange) : Option Int :=
 (iter (slices_IndexFunc_Lock__LocksHold_1_b7 a1 a2 a3 a4 slices_IndexFunc_Lock__LocksHold_1_j5) FU 0)
def m_slices_ContainsFunc_Lock__LocksHold_1 (a1 : (List TLock)) (a2 : Int) (a3 : Int) (a4 : TRange) : Option Bool :=
 ((m_slices_IndexFunc_Lock__LocksHold_1 a1 a2 a3 a4).bind fun v5 => (some (decide (0 ≤ v5))))
def m_impl_LocksHold (a1 : (List TLock)) (a2 : Int) (a3 : TRange) (a4 : Int) : Option Bool :=
 ((m_impl_LocksOk a1).bind fun v5 => (if v5 = true then ((m_impl_RangeOk a3).bind fun v8 => (if v8 = true then ((m_impl_isMode a4).bind fun v11 => (if v11 = true then ((m_slices_ContainsFunc_Lock__LocksHold_1 a1 a2 a4 a3).bind fun v14 => (some v14)) else (some false))) else (some false))) else (some false)))
def m_cmp_isNaN_int (a1 : Int) : Option Bool :=
 (some (decide (¬ a1 = a1)))
def m_cmp_Less_int (a1 : Int) (a2 : Int) : Option Bool :=
 ((m_cmp_isNaN_int a1).bind fun v3 => (if v3 = true then ((m_cmp_isNaN_int a2).bind fun v6 => (if v6 = true then (some (decide (a1 < a2))) else (some true))) else (some (decide (a1 < a2)))))
def m_slices_isNaN_int (a1 : Int) : Option Bool :=
 (some (decide (¬ a1 = a1)))
def slices_BinarySearch_int_j3 (a1 : (List Int)) (a2 : Int) (t3 : Int) : Option (Int × Bool) :=
 (if t3 < (a1.length : Int) then ((idx a1 t3).bind fun v6 => (if v6 = a2 then (some (t3, true)) else ((idx a1 t3).bind fun v9 => ((m_slices_isNaN_int v9).bind fun v11 => (if v11 = true then ((m_slices_isNaN_int a2).bind fun v14 => (some (t3, v14))) else (some (t3, false))))))) else (some (t3, false)))
def slices_BinarySearch_int_b16 (a1 : (List Int)) (a2 : Int) (kx4 : (Int → Option (Int × Bool))) (kb17 : ((Int × Int) → Option (Int × Bool))) (s16 : (Int × Int)) : Option (Int × Bool) :=
 (if s16.1 < s16.2 then ((idx a1 (IntKind.wrap .i64 (Int.fdiv (IntKind.wrap .u64 (IntKind.wrap .i64 (s16.1 + s16.2))) (2 ^ (min (Int.toNat 1) (IntKind.bits .u64)))))).bind fun v19 => ((m_cmp_Less_int v19 a2).bind fun v21 => (if v21 = true then (kb17 ((IntKind.wrap .i64 ((IntKind.wrap .i64 (Int.fdiv (IntKind.wrap .u64 (IntKind.wrap .i64 (s16.1 + s16.2))) (2 ^ (min (Int.toNat 1) (IntKind.bits .u64))))) + 1)), s16.2)) else (kb17 (s16.1, (IntKind.wrap .i64 (Int.fdiv (IntKind.wrap .u64 (IntKind.wrap .i64 (s16.1 + s16.2))) (2 ^ (min (Int.toNat 1) (IntKind.bits .u64)))))))))) else (kx4 s16.1))
def m_slices_BinarySearch_int (a1 : (List Int)) (a2 : Int) : Option (Int × Bool) :=
 (iter (slices_BinarySearch_int_b16 a1 a2 (slices_BinarySearch_int_j3 a1 a2)) FU (0, (a1.length : Int)))
def slices_Clone_int_j2 (a1 : (List Int)) (t2 : Unit) : Option (List Int) :=
 (if a1.length ≤ 2147483648 then (some a1) else none)
def m_slices_Clone_int (a1 : (List Int)) : Option (List Int) :=
 (if a1.length = 0 then ((slices_Clone_int_j2 a1) ()) else ((slices_Clone_int_j2 a1) ()))
def m_slices_Insert_int (a1 : List Int) (a2 : Int) (a3 : List Int) : Option (List Int) :=
 if 0 ≤ a2 ∧ a2 ≤ (a1.length : Int) ∧ a3.length = 1 ∧ a1.length ≤ 1000000000 then some (List.take (Int.toNat a2) a1 ++ (a3 ++ List.drop (Int.toNat a2) a1)) else none
def m_impl_inserted (a1 : (List Int)) (a2 : Int) : Option (List Int) :=
 ((m_slices_BinarySearch_int a1 a2).bind fun v3 => (if v3.2 = true then (some a1) else ((m_slices_Clone_int a1).bind fun v6 => ((m_slices_Insert_int v6 v3.1 ([a2])).bind fun v8 => (some v8)))))
def slices_Index_int_j3  (t3 : Unit) : Option Int :=
 (some (-1))
def slices_Index_int_b5 (a1 : (List Int)) (a2 : Int) (kx4 : (Unit → Option Int)) (kb6 : (Int → Option Int)) (s5 : Int) : Option Int :=
 (if s5 < (a1.length : Int) then ((idx a1 s5).bind fun v8 => (if a2 = v8 then (some s5) else (kb6 (IntKind.wrap .i64 (s5 + 1))))) else (kx4 ()))
def m_slices_Index_int (a1 : (List Int)) (a2 : Int) : Option Int :=
 (iter (slices_Index_int_b5 a1 a2 slices_Index_int_j3) FU 0)
def m_slices_Contains_int (a1 : (List Int)) (a2 : Int) : Option Bool :=
 ((m_slices_Index_int a1 a2).bind fun v3 => (some (decide (0 ≤ v3))))
def impl_clashing_j4  (t4 : ((List Int) × (List Int))) : Option ((List Int) × (List Int)) :=
 (some (t4.1, t4.2))
def impl_clashing_j16 (s6 : ((List Int) × (List Int) × Int)) (v9 : TLock) (kb7 : (((List Int) × (List Int) × Int) → Option ((List Int) × (List Int)))) (v14 : (List Int)) (t16 : Bool) : Option ((List Int) × (List Int)) :=
 (if t16 = true then ((m_impl_inserted s6.2.1 v9.Tx).bind fun v19 => (kb7 (v14, v19, (IntKind.wrap .i64 (s6.2.2 + 1))))) else (kb7 (v14, s6.2.1, (IntKind.wrap .i64 (s6.2.2 + 1)))))
def impl_clashing_b6 (a1 : (List TLock)) (a3 : TLock) (a2 : (List Int)) (kx5 : (((List Int) × (List Int)) → Option ((List Int) × (List Int)))) (kb7 : (((List Int) × (List Int) × Int) → Option ((List Int) × (List Int)))) (s6 : ((List Int) × (List Int) × Int)) : Option ((List Int) × (List Int)) :=
 (if s6.2.2 < (a1.length : Int) then ((idx a1 s6.2.2).bind fun v9 => ((m_impl_clash a3 v9).bind fun v11 => (if v11 = true then ((m_impl_inserted s6.1 v9.Tx).bind fun v14 => (if v9.Tx < a3.Tx then ((impl_clashing_j16 s6 v9 kb7 v14) true) else ((m_slices_Contains_int a2 v9.Tx).bind fun v22 => ((impl_clashing_j16 s6 v9 kb7 v14) v22)))) else (kb7 (s6.1, s6.2.1, (IntKind.wrap .i64 (s6.2.2 + 1))))))) else (kx5 (s6.1, s6.2.1)))
def m_impl_clashing (a1 : (List TLock)) (a2 : (List Int)) (a3 : TLock) : Option ((List Int) × (List Int)) :=
 (iter (impl_clashing_b6 a1 a3 a2 impl_clashing_j4) FU (([] : List Int), ([] : List Int), 0))
def m_impl_LockAsk_1 (a1 : TLock) (a2 : (List Int)) : Option Bool :=
 ((m_slices_Contains_int a2 a1.Tx).bind fun v3 => (some v3))
def slices_IndexFunc_Lock__LockAsk_1_j3  (t3 : Unit) : Option Int :=
 (some (-1))
def slices_IndexFunc_Lock__LockAsk_1_b5 (a1 : (List TLock)) (a2 : (List Int)) (kx4 : (Unit → Option Int)) (kb6 : (Int → Option Int)) (s5 : Int) : Option Int :=
 (if s5 < (a1.length : Int) then ((idx a1 s5).bind fun v8 => ((m_impl_LockAsk_1 v8 a2).bind fun v10 => (if v10 = true then (some s5) else (kb6 (IntKind.wrap .i64 (s5 + 1)))))) else (kx4 ()))
def m_slices_IndexFunc_Lock__LockAsk_1 (a1 : (List TLock)) (a2 : (List Int)) : Option Int :=
 (iter (slices_IndexFunc_Lock__LockAsk_1_b5 a1 a2 slices_IndexFunc_Lock__LockAsk_1_j3) FU 0)
def slices_DeleteFunc_Lock__LockAsk_1_j6  (t6 : ((List TLock) × Int)) : Option (List TLock) :=
 (if (0 : Int) ≤ t6.2 ∧ t6.2 ≤ ((t6.1.length : Nat) : Int) ∧ ((t6.1.length : Nat) : Int) ≤ ((t6.1.length : Nat) : Int) then (if (Int.toNat t6.2) + (Int.toNat ((t6.1.length : Nat) : Int) - Int.toNat t6.2) ≤ t6.1.length then (if (0 : Int) ≤ 0 ∧ 0 ≤ t6.2 ∧ t6.2 ≤ ((t6.1.length : Nat) : Int) then (some (List.take (Int.toNat t6.2) (List.take (Int.toNat t6.2) t6.1 ++ List.replicate (Int.toNat ((t6.1.length : Nat) : Int) - Int.toNat t6.2) (TLock.mk 0 0 0 0) ++ List.drop ((Int.toNat t6.2) + (Int.toNat ((t6.1.length : Nat) : Int) - Int.toNat t6.2)) t6.1))) else none) else none) else none)
def slices_DeleteFunc_Lock__LockAsk_1_b11 (a2 : (List Int)) (kx7 : (((List TLock) × Int) → Option (List TLock))) (kb12 : (((List TLock) × Int × Int) → Option (List TLock))) (s11 : ((List TLock) × Int × Int)) : Option (List TLock) :=
 (if s11.2.2 < ((s11.1.length : Nat) : Int) then ((idx s11.1 s11.2.2).bind fun v14 => ((m_impl_LockAsk_1 v14 a2).bind fun v16 => (if v16 = true then (kb12 (s11.1, s11.2.1, (IntKind.wrap .i64 (s11.2.2 + 1)))) else ((idx s11.1 s11.2.1).bind fun v19 => (kb12 (s11.1.set (Int.toNat s11.2.1) v14, (IntKind.wrap .i64 (s11.2.1 + 1)), (IntKind.wrap .i64 (s11.2.2 + 1)))))))) else (kx7 (s11.1, s11.2.1)))
def m_slices_DeleteFunc_Lock__LockAsk_1 (a1 : (List TLock)) (a2 : (List Int)) : Option (List TLock) :=
 ((m_slices_IndexFunc_Lock__LockAsk_1 a1 a2).bind fun v3 => (if v3 = (-1) then (some a1) else (iter (slices_DeleteFunc_Lock__LockAsk_1_b11 a2 slices_DeleteFunc_Lock__LockAsk_1_j6) FU (a1, v3, (IntKind.wrap .i64 (v3 + 1))))))
def impl_LockAsk_j6 (a1 : (List TLock)) (a3 : Int) (a4 : TRange) (a5 : Int) (a2 : (List Int)) (t6 : Bool) : Option ((List TLock) × (List Int) × Int) :=
 (if t6 = true then (some (([] : (List TLock)), ([] : (List Int)), 1)) else ((m_slices_Clone_Lock a1).bind fun v9 => ((m_impl_LocksHold a1 a3 a4 a5).bind fun v11 => (if v11 = true then (some (v9, ([] : (List Int)), 0)) else ((m_impl_clashing a1 a2 (TLock.mk a3 a4.Lo a4.Hi a5)).bind fun v14 => (if 0 < ((v14.2.length : Nat) : Int) then (some (v9, ([] : (List Int)), 2)) else ((m_slices_Clone_Lock a1).bind fun v17 => ((m_slices_DeleteFunc_Lock__LockAsk_1 v17 v14.1).bind fun v19 => (if ((v19.length : Nat) : Int) = 40 then (some (v9, ([] : (List Int)), 3)) else (if (v19 ++ ([(TLock.mk a3 a4.Lo a4.Hi a5)])).length ≤ 2147483648 then (some ((v19 ++ ([(TLock.mk a3 a4.Lo a4.Hi a5)])), v14.1, 0)) else none))))))))))
def m_impl_LockAsk (a1 : (List TLock)) (a2 : (List Int)) (a3 : Int) (a4 : TRange) (a5 : Int) : Option ((List TLock) × (List Int) × Int) :=
 ((m_impl_LocksOk a1).bind fun v23 => (if v23 = true then (if 60 < (a2.length : Int) then ((impl_LockAsk_j6 a1 a3 a4 a5 a2) true) else ((m_impl_isTx a3).bind fun v27 => (if v27 = true then ((m_impl_RangeOk a4).bind fun v30 => (if v30 = true then ((m_impl_isMode a5).bind fun v33 => ((impl_LockAsk_j6 a1 a3 a4 a5 a2) (!v33))) else ((impl_LockAsk_j6 a1 a3 a4 a5 a2) true))) else ((impl_LockAsk_j6 a1 a3 a4 a5 a2) true)))) else ((impl_LockAsk_j6 a1 a3 a4 a5 a2) true)))
def m_impl_LocksWaits (a1 : (List TLock)) (a2 : (List Int)) (a3 : Int) (a4 : TRange) (a5 : Int) : Option (List Int) :=
 ((m_impl_LockAsk a1 a2 a3 a4 a5).bind fun v6 => (if ¬ v6.2.2 = 2 then (some ([] : (List Int))) else ((m_impl_clashing a1 a2 (TLock.mk a3 a4.Lo a4.Hi a5)).bind fun v9 => (some v9.2))))
def laws_sameInts_j4  (t4 : Unit) : Option Bool :=
 (some true)
def laws_sameInts_b6 (a1 : (List Int)) (a2 : (List Int)) (kx5 : (Unit → Option Bool)) (kb7 : (Int → Option Bool)) (s6 : Int) : Option Bool :=
 (if s6 < (a1.length : Int) then ((idx a1 s6).bind fun v9 => ((idx a2 s6).bind fun v11 => (if ¬ v9 = v11 then (some false) else (kb7 (IntKind.wrap .i64 (s6 + 1)))))) else (kx5 ()))
def m_laws_sameInts (a1 : (List Int)) (a2 : (List Int)) : Option Bool :=
 (if ¬ (a1.length : Int) = (a2.length : Int) then (some false) else (iter (laws_sameInts_b6 a1 a2 laws_sameInts_j4) FU 0))
def laws_within_j3  (t3 : Unit) : Option Bool :=
 (some false)
def laws_within_b5 (a1 : (List Int)) (a2 : Int) (kx4 : (Unit → Option Bool)) (kb6 : (Int → Option Bool)) (s5 : Int) : Option Bool :=
 (if s5 < (a1.length : Int) then ((idx a1 s5).bind fun v8 => (if v8 = a2 then (some true) else (kb6 (IntKind.wrap .i64 (s5 + 1))))) else (kx4 ()))
def m_laws_within (a1 : (List Int)) (a2 : Int) : Option Bool :=
 (iter (laws_within_b5 a1 a2 laws_within_j3) FU 0)
def m_impl_LocksOf_1 (a1 : TLock) (a2 : Int) : Option Bool :=
 (some (decide (¬ a1.Tx = a2)))
def slices_IndexFunc_Lock__LocksOf_1_j3  (t3 : Unit) : Option Int :=
 (some (-1))
def slices_IndexFunc_Lock__LocksOf_1_b5 (a1 : (List TLock)) (a2 : Int) (kx4 : (Unit → Option Int)) (kb6 : (Int → Option Int)) (s5 : Int) : Option Int :=
 (if s5 < (a1.length : Int) then ((idx a1 s5).bind fun v8 => ((m_impl_LocksOf_1 v8 a2).bind fun v10 => (if v10 = true then (some s5) else (kb6 (IntKind.wrap .i64 (s5 + 1)))))) else (kx4 ()))
def m_slices_IndexFunc_Lock__LocksOf_1 (a1 : (List TLock)) (a2 : Int) : Option Int :=
 (iter (slices_IndexFunc_Lock__LocksOf_1_b5 a1 a2 slices_IndexFunc_Lock__LocksOf_1_j3) FU 0)
def slices_DeleteFunc_Lock__LocksOf_1_j6  (t6 : ((List TLock) × Int)) : Option (List TLock) :=
 (if (0 : Int) ≤ t6.2 ∧ t6.2 ≤ ((t6.1.length : Nat) : Int) ∧ ((t6.1.length : Nat) : Int) ≤ ((t6.1.length : Nat) : Int) then (if (Int.toNat t6.2) + (Int.toNat ((t6.1.length : Nat) : Int) - Int.toNat t6.2) ≤ t6.1.length then (if (0 : Int) ≤ 0 ∧ 0 ≤ t6.2 ∧ t6.2 ≤ ((t6.1.length : Nat) : Int) then (some (List.take (Int.toNat t6.2) (List.take (Int.toNat t6.2) t6.1 ++ List.replicate (Int.toNat ((t6.1.length : Nat) : Int) - Int.toNat t6.2) (TLock.mk 0 0 0 0) ++ List.drop ((Int.toNat t6.2) + (Int.toNat ((t6.1.length : Nat) : Int) - Int.toNat t6.2)) t6.1))) else none) else none) else none)
def slices_DeleteFunc_Lock__LocksOf_1_b11 (a2 : Int) (kx7 : (((List TLock) × Int) → Option (List TLock))) (kb12 : (((List TLock) × Int × Int) → Option (List TLock))) (s11 : ((List TLock) × Int × Int)) : Option (List TLock) :=
 (if s11.2.2 < ((s11.1.length : Nat) : Int) then ((idx s11.1 s11.2.2).bind fun v14 => ((m_impl_LocksOf_1 v14 a2).bind fun v16 => (if v16 = true then (kb12 (s11.1, s11.2.1, (IntKind.wrap .i64 (s11.2.2 + 1)))) else ((idx s11.1 s11.2.1).bind fun v19 => (kb12 (s11.1.set (Int.toNat s11.2.1) v14, (IntKind.wrap .i64 (s11.2.1 + 1)), (IntKind.wrap .i64 (s11.2.2 + 1)))))))) else (kx7 (s11.1, s11.2.1)))
def m_slices_DeleteFunc_Lock__LocksOf_1 (a1 : (List TLock)) (a2 : Int) : Option (List TLock) :=
 ((m_slices_IndexFunc_Lock__LocksOf_1 a1 a2).bind fun v3 => (if v3 = (-1) then (some a1) else (iter (slices_DeleteFunc_Lock__LocksOf_1_b11 a2 slices_DeleteFunc_Lock__LocksOf_1_j6) FU (a1, v3, (IntKind.wrap .i64 (v3 + 1))))))
def m_impl_LocksOf (a1 : (List TLock)) (a2 : Int) : Option (List TLock) :=
 ((m_impl_LocksOk a1).bind fun v3 => (if v3 = true then ((m_slices_Clone_Lock a1).bind fun v6 => ((m_slices_DeleteFunc_Lock__LocksOf_1 v6 a2).bind fun v8 => (some v8))) else (some ([] : (List TLock)))))
def laws_FnWaits_j16  (t16 : Unit) : Option Bool :=
 (some true)
def laws_FnWaits_j21 (kb19 : (Int → Option Bool)) (s18 : Int) (t21 : Unit) : Option Bool :=
 (kb19 (IntKind.wrap .i64 (s18 + 1)))
def laws_FnWaits_j30 (kx22 : (Unit → Option Bool)) (t30 : Bool) : Option Bool :=
 (if t30 = true then (kx22 ()) else (some false))
def laws_FnWaits_b33 (v28 : (List TLock)) (v5 : ((List TLock) × (List Int) × Int × TRange × Int)) (kx31 : (Bool → Option Bool)) (kb34 : ((Bool × Int) → Option Bool)) (s33 : (Bool × Int)) : Option Bool :=
 (if s33.2 < (v28.length : Int) then (if s33.1 = true then (kb34 (true, (IntKind.wrap .i64 (s33.2 + 1)))) else ((idx v28 s33.2).bind fun v37 => (if v37.Lo < v5.2.2.2.1.Hi then ((idx v28 s33.2).bind fun v40 => (kb34 ((decide (v5.2.2.2.1.Lo < v40.Hi)), (IntKind.wrap .i64 (s33.2 + 1))))) else (kb34 (false, (IntKind.wrap .i64 (s33.2 + 1))))))) else (kx31 s33.1))
def laws_FnWaits_j23 (v7 : (List Int)) (s18 : Int) (v5 : ((List TLock) × (List Int) × Int × TRange × Int)) (kx22 : (Unit → Option Bool)) (t23 : Bool) : Option Bool :=
 (if t23 = true then (some false) else ((idx v7 s18).bind fun v26 => ((m_impl_LocksOf v5.1 v26).bind fun v28 => (iter (laws_FnWaits_b33 v28 v5 (laws_FnWaits_j30 kx22)) FU (false, 0)))))
def laws_FnWaits_b18 (v7 : (List Int)) (v5 : ((List TLock) × (List Int) × Int × TRange × Int)) (kx17 : (Unit → Option Bool)) (kb19 : (Int → Option Bool)) (s18 : Int) : Option Bool :=
 (if s18 < (v7.length : Int) then ((idx v7 s18).bind fun v42 => (if v42 = v5.2.2.1 then ((laws_FnWaits_j23 v7 s18 v5 (laws_FnWaits_j21 kb19 s18)) true) else ((idx v7 s18).bind fun v45 => (if v5.2.2.1 < v45 then ((idx v7 s18).bind fun v48 => ((m_laws_within v5.2.1 v48).bind fun v50 => ((laws_FnWaits_j23 v7 s18 v5 (laws_FnWaits_j21 kb19 s18)) (!v50)))) else ((laws_FnWaits_j23 v7 s18 v5 (laws_FnWaits_j21 kb19 s18)) false))))) else (kx17 ()))
def laws_FnWaits_j13 (v7 : (List Int)) (v5 : ((List TLock) × (List Int) × Int × TRange × Int)) (t13 : Bool) : Option Bool :=
 (if t13 = true then (some false) else (iter (laws_FnWaits_b18 v7 v5 laws_FnWaits_j16) FU 0))
def m_laws_FnWaits (a1 : (List Int)) : Option Bool :=
 ((m_laws_big a1).bind fun v2 => (if v2 = true then (some true) else ((m_spec_DrawLocksWaits a1).bind fun v5 => ((m_impl_LocksWaits v5.1 v5.2.1 v5.2.2.1 v5.2.2.2.1 v5.2.2.2.2).bind fun v7 => ((m_impl_LockAsk v5.1 v5.2.1 v5.2.2.1 v5.2.2.2.1 v5.2.2.2.2).bind fun v9 => ((m_spec_LocksWaits v5.1 v5.2.1 v5.2.2.1 v5.2.2.2.1 v5.2.2.2.2).bind fun v11 => ((m_laws_sameInts v7 v11).bind fun v52 => (if v52 = true then ((laws_FnWaits_j13 v7 v5) ((decide (v9.2.2 = 2)) != (decide (0 < (v11.length : Int))))) else ((laws_FnWaits_j13 v7 v5) true)))))))))
end Go.AW
