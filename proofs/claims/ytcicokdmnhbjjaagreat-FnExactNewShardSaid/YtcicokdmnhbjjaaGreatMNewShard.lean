/- Plain functions that say what functions of the program compute: printed by a program of the prover's own (tool/dec.py). Conditions: none. -/
import Derived.Test.YtcicokdmnhbjjaaGreatYs
import Derived.Test.YtcicokdmnhbjjaaGreatYi
set_option linter.unusedVariables false
set_option linter.unusedSimpArgs false
set_option maxRecDepth 100000
namespace Go.AW
structure TRange where
  Lo : Int
  Hi : Int
deriving DecidableEq
def ok_TRange (x : TRange) : Prop := inK .i64 x.Lo ∧ inK .i64 x.Hi
abbrev d_TRange (x : TRange) : List D := [(.int .i64 x.Lo), (.int .i64 x.Hi)]
structure TCell where
  Key : Int
  Value : Int
deriving DecidableEq
structure TLock where
  Tx : Int
  Lo : Int
  Hi : Int
  Mode : Int
deriving DecidableEq
structure THeld where
  Tx : Int
  Writes : (List TCell)
deriving DecidableEq
structure TShard where
  Me : Int
  Own : (List TRange)
  Frozen : (List TRange)
  Cells : (List TCell)
  Locks : (List TLock)
  Helds : (List THeld)
  Wounded : (List Int)
  Ended : (List Int)
  Rank : Int
deriving DecidableEq
abbrev d_TCell (x : TCell) : List D := [(.int .i64 x.Key), (.int .i64 x.Value)]
abbrev d_TLock (x : TLock) : List D := [(.int .i64 x.Tx), (.int .i64 x.Lo), (.int .i64 x.Hi), (.int .i64 x.Mode)]
abbrev d_THeld (x : THeld) : List D := [(.int .i64 x.Tx), (.sl 2 (List.map d_TCell x.Writes))]
abbrev d_i64 (x : Int) : List D := [(.int .i64 x)]
abbrev d_TShard (x : TShard) : List D := [(.int .i64 x.Me), (.sl 2 (List.map d_TRange x.Own)), (.sl 2 (List.map d_TRange x.Frozen)), (.sl 2 (List.map d_TCell x.Cells)), (.sl 4 (List.map d_TLock x.Locks)), (.sl 2 (List.map d_THeld x.Helds)), (.sl 1 (List.map d_i64 x.Wounded)), (.sl 1 (List.map d_i64 x.Ended)), (.int .i64 x.Rank)]
abbrev dS_i64 (x : (List Int)) : List D := [(.sl 1 (List.map d_i64 x))]
abbrev dS_TRange (x : (List TRange)) : List D := [(.sl 2 (List.map d_TRange x))]
def m_laws_szRangeS (a1 : (List TRange)) (a2 : Int) : Option Int :=
  (if (IntKind.wrap .i64 (a2 - (a1.length : Int))) < 0 then (some (-1)) else (some (IntKind.wrap .i64 (a2 - (a1.length : Int)))))
def m_laws_toRange (a1 : TRange) : Option TRange :=
  (some a1)
def laws_toRangeS_j3  (t3 : (List TRange)) : Option (List TRange) :=
  (some t3)
def laws_toRangeS_b5 (a1 : (List TRange)) (kx4 : ((List TRange) → Option (List TRange))) (kb6 : (((List TRange) × Int) → Option (List TRange))) (s5 : ((List TRange) × Int)) : Option (List TRange) :=
  (if s5.2 < (a1.length : Int) then ((idx a1 s5.2).bind fun v8 => ((m_laws_toRange v8).bind fun v10 => ((idx s5.1 s5.2).bind fun v12 => (kb6 (s5.1.set (Int.toNat s5.2) v10, (IntKind.wrap .i64 (s5.2 + 1))))))) else (kx4 s5.1))
def m_laws_toRangeS (a1 : (List TRange)) : Option (List TRange) :=
  (if 0 ≤ (a1.length : Int) ∧ (a1.length : Int) ≤ 2147483648 then (iter (laws_toRangeS_b5 a1 laws_toRangeS_j3) FU ((List.replicate (Int.toNat (a1.length : Int)) (TRange.mk 0 0)), 0)) else none)
def m_spec_l1In (a1 : Int) (a2 : Int) (a3 : Int) : Option Bool :=
  (if a2 ≤ a1 then (some (decide (a1 ≤ a3))) else (some false))
def m_spec_RangeOk (a1 : TRange) : Option Bool :=
  (if 0 ≤ a1.Lo then (if a1.Lo < a1.Hi then (some (decide (a1.Hi ≤ 1000))) else (some false)) else (some false))
def spec_RangesOk_j3  (t3 : Unit) : Option Bool :=
  (some true)
def spec_RangesOk_j8 (kb6 : (Int → Option Bool)) (s5 : Int) (t8 : Bool) : Option Bool :=
  (if t8 = true then (some false) else (kb6 (IntKind.wrap .i64 (s5 + 1))))
def spec_RangesOk_b5 (a1 : (List TRange)) (kx4 : (Unit → Option Bool)) (kb6 : (Int → Option Bool)) (s5 : Int) : Option Bool :=
  (if s5 < (a1.length : Int) then ((idx a1 s5).bind fun v11 => ((m_spec_RangeOk v11).bind fun v13 => (if v13 = true then (if 0 < s5 then ((idx a1 s5).bind fun v17 => ((idx a1 (IntKind.wrap .i64 (s5 - 1))).bind fun v19 => ((spec_RangesOk_j8 kb6 s5) (decide (v17.Lo < v19.Hi))))) else ((spec_RangesOk_j8 kb6 s5) false)) else ((spec_RangesOk_j8 kb6 s5) true)))) else (kx4 ()))
def m_spec_RangesOk (a1 : (List TRange)) : Option Bool :=
  (if 16 < (a1.length : Int) then (some false) else (iter (spec_RangesOk_b5 a1 spec_RangesOk_j3) FU 0))
def m_spec_l10Key (a1 : Int) : Option Bool :=
  ((m_spec_l1In a1 0 999).bind fun v2 => (some v2))
def m_spec_l1Whole (a1 : Int) : Option Bool :=
  ((m_spec_l1In a1 0 1000000000).bind fun v2 => (some v2))
def spec_StoreOk_j3  (t3 : Unit) : Option Bool :=
  (some true)
def spec_StoreOk_j8 (kb6 : (Int → Option Bool)) (s5 : Int) (t8 : Bool) : Option Bool :=
  (if t8 = true then (some false) else (kb6 (IntKind.wrap .i64 (s5 + 1))))
def spec_StoreOk_b5 (a1 : (List TCell)) (kx4 : (Unit → Option Bool)) (kb6 : (Int → Option Bool)) (s5 : Int) : Option Bool :=
  (if s5 < (a1.length : Int) then ((idx a1 s5).bind fun v11 => ((m_spec_l10Key v11.Key).bind fun v13 => (if v13 = true then ((idx a1 s5).bind fun v16 => ((m_spec_l1Whole v16.Value).bind fun v18 => (if v18 = true then (if 0 < s5 then ((idx a1 (IntKind.wrap .i64 (s5 - 1))).bind fun v22 => ((idx a1 s5).bind fun v24 => ((spec_StoreOk_j8 kb6 s5) (decide (v24.Key ≤ v22.Key))))) else ((spec_StoreOk_j8 kb6 s5) false)) else ((spec_StoreOk_j8 kb6 s5) true)))) else ((spec_StoreOk_j8 kb6 s5) true)))) else (kx4 ()))
def m_spec_StoreOk (a1 : (List TCell)) : Option Bool :=
  (if 60 < (a1.length : Int) then (some false) else (iter (spec_StoreOk_b5 a1 spec_StoreOk_j3) FU 0))
def m_spec_l12Tx (a1 : Int) : Option Bool :=
  ((m_spec_l1In a1 1 60).bind fun v2 => (some v2))
def m_spec_l12Range (a1 : TLock) : Option TRange :=
  (some (TRange.mk a1.Lo a1.Hi))
def m_spec_l12Mode (a1 : Int) : Option Bool :=
  (if a1 = 1 then (some true) else (some (decide (a1 = 2))))
def m_spec_l1Max (a1 : Int) (a2 : Int) : Option Int :=
  (if a2 < a1 then (some a1) else (some a2))
def m_spec_l1Min (a1 : Int) (a2 : Int) : Option Int :=
  (if a1 < a2 then (some a1) else (some a2))
def spec_RangeMeet_j7 (v3 : Int) (v5 : Int) (t7 : Bool) : Option (TRange × Bool) :=
  (if t7 = true then (some ((TRange.mk 0 0), false)) else (some ((TRange.mk v3 v5), true)))
def m_spec_RangeMeet (a1 : TRange) (a2 : TRange) : Option (TRange × Bool) :=
  ((m_spec_l1Max a1.Lo a2.Lo).bind fun v3 => ((m_spec_l1Min a1.Hi a2.Hi).bind fun v5 => ((m_spec_RangeOk a1).bind fun v10 => (if v10 = true then ((m_spec_RangeOk a2).bind fun v13 => (if v13 = true then ((m_spec_RangeOk (TRange.mk v3 v5)).bind fun v16 => ((spec_RangeMeet_j7 v3 v5) (!v16))) else ((spec_RangeMeet_j7 v3 v5) true))) else ((spec_RangeMeet_j7 v3 v5) true)))))
def m_spec_l12Clash (a1 : TLock) (a2 : TLock) : Option Bool :=
  ((m_spec_l12Range a1).bind fun v3 => ((m_spec_l12Range a2).bind fun v5 => ((m_spec_RangeMeet v3 v5).bind fun v7 => (if v7.2 = true then (if ¬ a1.Tx = a2.Tx then (if a1.Mode = 2 then (some true) else (some (decide (a2.Mode = 2)))) else (some false)) else (some false)))))
def spec_LocksOk_j3  (t3 : Unit) : Option Bool :=
  (some true)
def spec_LocksOk_j8 (kb6 : (Int → Option Bool)) (s5 : Int) (t8 : Unit) : Option Bool :=
  (kb6 (IntKind.wrap .i64 (s5 + 1)))
def spec_LocksOk_b13 (s5 : Int) (a1 : (List TLock)) (kx9 : (Unit → Option Bool)) (kb14 : (Int → Option Bool)) (s13 : Int) : Option Bool :=
  (if s13 < s5 then ((idx a1 s5).bind fun v16 => ((idx a1 s13).bind fun v18 => ((m_spec_l12Clash v16 v18).bind fun v20 => (if v20 = true then (some false) else (kb14 (IntKind.wrap .i64 (s13 + 1))))))) else (kx9 ()))
def spec_LocksOk_j10 (s5 : Int) (a1 : (List TLock)) (kx9 : (Unit → Option Bool)) (t10 : Bool) : Option Bool :=
  (if t10 = true then (some false) else (iter (spec_LocksOk_b13 s5 a1 kx9) FU 0))
def spec_LocksOk_b5 (a1 : (List TLock)) (kx4 : (Unit → Option Bool)) (kb6 : (Int → Option Bool)) (s5 : Int) : Option Bool :=
  (if s5 < (a1.length : Int) then ((idx a1 s5).bind fun v23 => ((m_spec_l12Tx v23.Tx).bind fun v25 => (if v25 = true then ((idx a1 s5).bind fun v28 => ((m_spec_l12Range v28).bind fun v30 => ((m_spec_RangeOk v30).bind fun v32 => (if v32 = true then ((idx a1 s5).bind fun v35 => ((m_spec_l12Mode v35.Mode).bind fun v37 => ((spec_LocksOk_j10 s5 a1 (spec_LocksOk_j8 kb6 s5)) (!v37)))) else ((spec_LocksOk_j10 s5 a1 (spec_LocksOk_j8 kb6 s5)) true))))) else ((spec_LocksOk_j10 s5 a1 (spec_LocksOk_j8 kb6 s5)) true)))) else (kx4 ()))
def m_spec_LocksOk (a1 : (List TLock)) : Option Bool :=
  (if 40 < (a1.length : Int) then (some false) else (iter (spec_LocksOk_b5 a1 spec_LocksOk_j3) FU 0))
def spec_l13Txs_j2  (t2 : Unit) : Option Bool :=
  (some true)
def spec_l13Txs_j7 (kb5 : (Int → Option Bool)) (s4 : Int) (t7 : Bool) : Option Bool :=
  (if t7 = true then (some false) else (kb5 (IntKind.wrap .i64 (s4 + 1))))
def spec_l13Txs_b4 (a1 : (List Int)) (kx3 : (Unit → Option Bool)) (kb5 : (Int → Option Bool)) (s4 : Int) : Option Bool :=
  (if s4 < (a1.length : Int) then ((idx a1 s4).bind fun v10 => ((m_spec_l12Tx v10).bind fun v12 => (if v12 = true then (if 0 < s4 then ((idx a1 (IntKind.wrap .i64 (s4 - 1))).bind fun v16 => ((idx a1 s4).bind fun v18 => ((spec_l13Txs_j7 kb5 s4) (decide (v18 ≤ v16))))) else ((spec_l13Txs_j7 kb5 s4) false)) else ((spec_l13Txs_j7 kb5 s4) true)))) else (kx3 ()))
def m_spec_l13Txs (a1 : (List Int)) : Option Bool :=
  (iter (spec_l13Txs_b4 a1 spec_l13Txs_j2) FU 0)
def spec_RangesHave_j6 (a2 : TRange) (t6 : Int) : Option Bool :=
  (some (decide (a2.Hi ≤ t6)))
def spec_RangesHave_j11 (a1 : (List TRange)) (s8 : (Int × Int)) (kb9 : ((Int × Int) → Option Bool)) (t11 : Bool) : Option Bool :=
  (if t11 = true then ((idx a1 s8.2).bind fun v14 => (kb9 (v14.Hi, (IntKind.wrap .i64 (s8.2 + 1))))) else (kb9 (s8.1, (IntKind.wrap .i64 (s8.2 + 1)))))
def spec_RangesHave_b8 (a1 : (List TRange)) (kx7 : (Int → Option Bool)) (kb9 : ((Int × Int) → Option Bool)) (s8 : (Int × Int)) : Option Bool :=
  (if s8.2 < (a1.length : Int) then ((idx a1 s8.2).bind fun v16 => (if v16.Lo ≤ s8.1 then ((idx a1 s8.2).bind fun v19 => ((spec_RangesHave_j11 a1 s8 kb9) (decide (s8.1 < v19.Hi)))) else ((spec_RangesHave_j11 a1 s8 kb9) false))) else (kx7 s8.1))
def spec_RangesHave_j3 (a1 : (List TRange)) (a2 : TRange) (t3 : Bool) : Option Bool :=
  (if t3 = true then (some false) else (iter (spec_RangesHave_b8 a1 (spec_RangesHave_j6 a2)) FU (a2.Lo, 0)))
def m_spec_RangesHave (a1 : (List TRange)) (a2 : TRange) : Option Bool :=
  ((m_spec_RangesOk a1).bind fun v21 => (if v21 = true then ((m_spec_RangeOk a2).bind fun v24 => ((spec_RangesHave_j3 a1 a2) (!v24))) else ((spec_RangesHave_j3 a1 a2) true)))
def m_spec_l10One (a1 : Int) : Option TRange :=
  (some (TRange.mk a1 (IntKind.wrap .i64 (a1 + 1))))
def spec_l12Has_j3  (t3 : Unit) : Option Bool :=
  (some false)
def spec_l12Has_b5 (a1 : (List Int)) (a2 : Int) (kx4 : (Unit → Option Bool)) (kb6 : (Int → Option Bool)) (s5 : Int) : Option Bool :=
  (if s5 < (a1.length : Int) then ((idx a1 s5).bind fun v8 => (if v8 = a2 then (some true) else (kb6 (IntKind.wrap .i64 (s5 + 1))))) else (kx4 ()))
def m_spec_l12Has (a1 : (List Int)) (a2 : Int) : Option Bool :=
  (iter (spec_l12Has_b5 a1 a2 spec_l12Has_j3) FU 0)
def spec_WritesOk_j3  (t3 : Unit) : Option Bool :=
  (some true)
def spec_WritesOk_j8 (kb6 : (Int → Option Bool)) (s5 : Int) (t8 : Bool) : Option Bool :=
  (if t8 = true then (some false) else (kb6 (IntKind.wrap .i64 (s5 + 1))))
def spec_WritesOk_b5 (a1 : (List TCell)) (kx4 : (Unit → Option Bool)) (kb6 : (Int → Option Bool)) (s5 : Int) : Option Bool :=
  (if s5 < (a1.length : Int) then ((idx a1 s5).bind fun v11 => ((m_spec_l10Key v11.Key).bind fun v13 => (if v13 = true then ((idx a1 s5).bind fun v16 => ((m_spec_l1In v16.Value (-1) 1000000000).bind fun v18 => (if v18 = true then (if 0 < s5 then ((idx a1 (IntKind.wrap .i64 (s5 - 1))).bind fun v22 => ((idx a1 s5).bind fun v24 => ((spec_WritesOk_j8 kb6 s5) (decide (v24.Key ≤ v22.Key))))) else ((spec_WritesOk_j8 kb6 s5) false)) else ((spec_WritesOk_j8 kb6 s5) true)))) else ((spec_WritesOk_j8 kb6 s5) true)))) else (kx4 ()))
def m_spec_WritesOk (a1 : (List TCell)) : Option Bool :=
  (if 60 < (a1.length : Int) then (some false) else (iter (spec_WritesOk_b5 a1 spec_WritesOk_j3) FU 0))
def m_spec_RangeIn (a1 : TRange) (a2 : TRange) : Option Bool :=
  ((m_spec_RangeOk a1).bind fun v3 => (if v3 = true then ((m_spec_RangeOk a2).bind fun v6 => (if v6 = true then (if a2.Lo ≤ a1.Lo then (some (decide (a1.Hi ≤ a2.Hi))) else (some false)) else (some false))) else (some false)))
def spec_l12Holds_j5  (t5 : Unit) : Option Bool :=
  (some false)
def spec_l12Holds_j10 (kb8 : (Int → Option Bool)) (s7 : Int) (t10 : Bool) : Option Bool :=
  (if t10 = true then (some true) else (kb8 (IntKind.wrap .i64 (s7 + 1))))
def spec_l12Holds_b7 (a1 : (List TLock)) (a2 : Int) (a3 : TRange) (a4 : Int) (kx6 : (Unit → Option Bool)) (kb8 : (Int → Option Bool)) (s7 : Int) : Option Bool :=
  (if s7 < (a1.length : Int) then ((idx a1 s7).bind fun v13 => (if v13.Tx = a2 then ((idx a1 s7).bind fun v16 => ((m_spec_l12Range v16).bind fun v18 => ((m_spec_RangeIn a3 v18).bind fun v20 => (if v20 = true then ((idx a1 s7).bind fun v23 => ((spec_l12Holds_j10 kb8 s7) (decide (a4 ≤ v23.Mode)))) else ((spec_l12Holds_j10 kb8 s7) false))))) else ((spec_l12Holds_j10 kb8 s7) false))) else (kx6 ()))
def m_spec_l12Holds (a1 : (List TLock)) (a2 : Int) (a3 : TRange) (a4 : Int) : Option Bool :=
  (iter (spec_l12Holds_b7 a1 a2 a3 a4 spec_l12Holds_j5) FU 0)
def spec_l13HeldsOk_j2  (t2 : Unit) : Option Bool :=
  (some true)
def spec_l13HeldsOk_j7 (kb5 : (Int → Option Bool)) (s4 : Int) (t7 : Unit) : Option Bool :=
  (kb5 (IntKind.wrap .i64 (s4 + 1)))
def spec_l13HeldsOk_j16 (kx8 : (Unit → Option Bool)) (t16 : Bool) : Option Bool :=
  (if t16 = true then (some false) else (kx8 ()))
def spec_l13HeldsOk_j14 (a1 : TShard) (v9 : THeld) (kx8 : (Unit → Option Bool)) (t14 : Unit) : Option Bool :=
  ((m_spec_l12Has a1.Wounded v9.Tx).bind fun v19 => (if v19 = true then ((spec_l13HeldsOk_j16 kx8) true) else ((m_spec_l12Has a1.Ended v9.Tx).bind fun v22 => ((spec_l13HeldsOk_j16 kx8) v22))))
def spec_l13HeldsOk_b24 (v9 : THeld) (a1 : TShard) (kx15 : (Unit → Option Bool)) (kb25 : (Int → Option Bool)) (s24 : Int) : Option Bool :=
  (if s24 < (v9.Writes.length : Int) then ((idx v9.Writes s24).bind fun v27 => ((m_spec_l10One v27.Key).bind fun v29 => ((m_spec_l12Holds a1.Locks v9.Tx v29 2).bind fun v31 => (if v31 = true then (kb25 (IntKind.wrap .i64 (s24 + 1))) else (some false))))) else (kx15 ()))
def spec_l13HeldsOk_j11 (v9 : THeld) (a1 : TShard) (kx8 : (Unit → Option Bool)) (t11 : Bool) : Option Bool :=
  (if t11 = true then (some false) else (iter (spec_l13HeldsOk_b24 v9 a1 (spec_l13HeldsOk_j14 a1 v9 kx8)) FU 0))
def spec_l13HeldsOk_b4 (a1 : TShard) (kx3 : (Unit → Option Bool)) (kb5 : (Int → Option Bool)) (s4 : Int) : Option Bool :=
  (if s4 < (a1.Helds.length : Int) then ((idx a1.Helds s4).bind fun v9 => ((m_spec_l12Tx v9.Tx).bind fun v34 => (if v34 = true then (if 0 < s4 then ((idx a1.Helds (IntKind.wrap .i64 (s4 - 1))).bind fun v38 => (if v9.Tx ≤ v38.Tx then ((spec_l13HeldsOk_j11 v9 a1 (spec_l13HeldsOk_j7 kb5 s4)) true) else ((m_spec_WritesOk v9.Writes).bind fun v41 => ((spec_l13HeldsOk_j11 v9 a1 (spec_l13HeldsOk_j7 kb5 s4)) (!v41))))) else ((m_spec_WritesOk v9.Writes).bind fun v43 => ((spec_l13HeldsOk_j11 v9 a1 (spec_l13HeldsOk_j7 kb5 s4)) (!v43)))) else ((spec_l13HeldsOk_j11 v9 a1 (spec_l13HeldsOk_j7 kb5 s4)) true)))) else (kx3 ()))
def m_spec_l13HeldsOk (a1 : TShard) : Option Bool :=
  (iter (spec_l13HeldsOk_b4 a1 spec_l13HeldsOk_j2) FU 0)
def spec_l11Get_j3  (t3 : Unit) : Option Int :=
  (some (-1))
def spec_l11Get_b5 (a1 : (List TCell)) (a2 : Int) (kx4 : (Unit → Option Int)) (kb6 : (Int → Option Int)) (s5 : Int) : Option Int :=
  (if s5 < (a1.length : Int) then ((idx a1 s5).bind fun v8 => (if v8.Key = a2 then ((idx a1 s5).bind fun v11 => (some v11.Value)) else (kb6 (IntKind.wrap .i64 (s5 + 1))))) else (kx4 ()))
def m_spec_l11Get (a1 : (List TCell)) (a2 : Int) : Option Int :=
  (iter (spec_l11Get_b5 a1 a2 spec_l11Get_j3) FU 0)
def spec_StoreNew_j6  (t6 : Int) : Option Int :=
  (some t6)
def spec_StoreNew_j11 (kb9 : ((Int × Int) → Option Int)) (s8 : (Int × Int)) (t11 : Bool) : Option Int :=
  (if t11 = true then (kb9 ((IntKind.wrap .i64 (s8.1 + 1)), (IntKind.wrap .i64 (s8.2 + 1)))) else (kb9 (s8.1, (IntKind.wrap .i64 (s8.2 + 1)))))
def spec_StoreNew_b8 (a2 : (List TCell)) (a1 : (List TCell)) (kx7 : (Int → Option Int)) (kb9 : ((Int × Int) → Option Int)) (s8 : (Int × Int)) : Option Int :=
  (if s8.2 < (a2.length : Int) then ((idx a2 s8.2).bind fun v14 => (if 0 ≤ v14.Value then ((idx a2 s8.2).bind fun v17 => ((m_spec_l11Get a1 v17.Key).bind fun v19 => ((spec_StoreNew_j11 kb9 s8) (decide (v19 < 0))))) else ((spec_StoreNew_j11 kb9 s8) false))) else (kx7 s8.1))
def spec_StoreNew_j3 (a2 : (List TCell)) (a1 : (List TCell)) (t3 : Bool) : Option Int :=
  (if t3 = true then (some (-1)) else (iter (spec_StoreNew_b8 a2 a1 spec_StoreNew_j6) FU (0, 0)))
def m_spec_StoreNew (a1 : (List TCell)) (a2 : (List TCell)) : Option Int :=
  ((m_spec_StoreOk a1).bind fun v21 => (if v21 = true then ((m_spec_WritesOk a2).bind fun v24 => ((spec_StoreNew_j3 a2 a1) (!v24))) else ((spec_StoreNew_j3 a2 a1) true)))
def spec_l13New_j2  (t2 : Int) : Option Int :=
  (some t2)
def spec_l13New_b4 (a1 : TShard) (kx3 : (Int → Option Int)) (kb5 : ((Int × Int) → Option Int)) (s4 : (Int × Int)) : Option Int :=
  (if s4.2 < (a1.Helds.length : Int) then ((idx a1.Helds s4.2).bind fun v7 => ((m_spec_StoreNew a1.Cells v7.Writes).bind fun v9 => (kb5 ((IntKind.wrap .i64 (s4.1 + v9)), (IntKind.wrap .i64 (s4.2 + 1)))))) else (kx3 s4.1))
def m_spec_l13New (a1 : TShard) : Option Int :=
  (iter (spec_l13New_b4 a1 spec_l13New_j2) FU (0, 0))
def spec_ShardOk_j14 (a1 : TShard) (t14 : Unit) : Option Bool :=
  ((m_spec_l13HeldsOk a1).bind fun v16 => (if v16 = true then ((m_spec_l13New a1).bind fun v19 => (some (decide ((IntKind.wrap .i64 ((a1.Cells.length : Int) + v19)) ≤ 60)))) else (some false)))
def spec_ShardOk_b21 (a1 : TShard) (kx15 : (Unit → Option Bool)) (kb22 : (Int → Option Bool)) (s21 : Int) : Option Bool :=
  (if s21 < (a1.Wounded.length : Int) then ((idx a1.Wounded s21).bind fun v24 => ((m_spec_l12Has a1.Ended v24).bind fun v26 => (if v26 = true then (some false) else (kb22 (IntKind.wrap .i64 (s21 + 1)))))) else (kx15 ()))
def spec_ShardOk_j12 (a1 : TShard) (t12 : Unit) : Option Bool :=
  (iter (spec_ShardOk_b21 a1 (spec_ShardOk_j14 a1)) FU 0)
def spec_ShardOk_j34 (kb30 : (Int → Option Bool)) (s29 : Int) (t34 : Bool) : Option Bool :=
  (if t34 = true then (some false) else (kb30 (IntKind.wrap .i64 (s29 + 1))))
def spec_ShardOk_b29 (a1 : TShard) (kx13 : (Unit → Option Bool)) (kb30 : (Int → Option Bool)) (s29 : Int) : Option Bool :=
  (if s29 < (a1.Locks.length : Int) then ((idx a1.Locks s29).bind fun v32 => ((m_spec_l12Range v32).bind fun v37 => ((m_spec_RangesHave a1.Own v37).bind fun v39 => (if v39 = true then ((m_spec_l12Has a1.Wounded v32.Tx).bind fun v42 => (if v42 = true then ((spec_ShardOk_j34 kb30 s29) true) else ((m_spec_l12Has a1.Ended v32.Tx).bind fun v45 => ((spec_ShardOk_j34 kb30 s29) v45)))) else ((spec_ShardOk_j34 kb30 s29) true))))) else (kx13 ()))
def spec_ShardOk_j10 (a1 : TShard) (t10 : Unit) : Option Bool :=
  (iter (spec_ShardOk_b29 a1 (spec_ShardOk_j12 a1)) FU 0)
def spec_ShardOk_b47 (a1 : TShard) (kx11 : (Unit → Option Bool)) (kb48 : (Int → Option Bool)) (s47 : Int) : Option Bool :=
  (if s47 < (a1.Cells.length : Int) then ((idx a1.Cells s47).bind fun v50 => ((m_spec_l10One v50.Key).bind fun v52 => ((m_spec_RangesHave a1.Own v52).bind fun v54 => (if v54 = true then (kb48 (IntKind.wrap .i64 (s47 + 1))) else (some false))))) else (kx11 ()))
def spec_ShardOk_j8 (a1 : TShard) (t8 : Unit) : Option Bool :=
  (iter (spec_ShardOk_b47 a1 (spec_ShardOk_j10 a1)) FU 0)
def spec_ShardOk_b57 (a1 : TShard) (kx9 : (Unit → Option Bool)) (kb58 : (Int → Option Bool)) (s57 : Int) : Option Bool :=
  (if s57 < (a1.Frozen.length : Int) then ((idx a1.Frozen s57).bind fun v60 => ((m_spec_RangesHave a1.Own v60).bind fun v62 => (if v62 = true then (kb58 (IntKind.wrap .i64 (s57 + 1))) else (some false)))) else (kx9 ()))
def spec_ShardOk_j5 (a1 : TShard) (t5 : Bool) : Option Bool :=
  (if t5 = true then (some false) else (iter (spec_ShardOk_b57 a1 (spec_ShardOk_j8 a1)) FU 0))
def spec_ShardOk_j2 (a1 : TShard) (t2 : Bool) : Option Bool :=
  (if t2 = true then (some false) else (if 60 < (a1.Helds.length : Int) then ((spec_ShardOk_j5 a1) true) else (if 60 < (a1.Wounded.length : Int) then ((spec_ShardOk_j5 a1) true) else (if 60 < (a1.Ended.length : Int) then ((spec_ShardOk_j5 a1) true) else ((m_spec_l13Txs a1.Wounded).bind fun v68 => (if v68 = true then ((m_spec_l13Txs a1.Ended).bind fun v71 => ((spec_ShardOk_j5 a1) (!v71))) else ((spec_ShardOk_j5 a1) true)))))))
def m_spec_ShardOk (a1 : TShard) : Option Bool :=
  ((m_spec_l1In a1.Me 0 3).bind fun v73 => (if v73 = true then ((m_spec_RangesOk a1.Own).bind fun v76 => (if v76 = true then ((m_spec_RangesOk a1.Frozen).bind fun v79 => (if v79 = true then ((m_spec_StoreOk a1.Cells).bind fun v82 => (if v82 = true then ((m_spec_LocksOk a1.Locks).bind fun v85 => (if v85 = true then ((m_spec_l1In a1.Rank 0 1000000).bind fun v88 => ((spec_ShardOk_j2 a1) (!v88))) else ((spec_ShardOk_j2 a1) true))) else ((spec_ShardOk_j2 a1) true))) else ((spec_ShardOk_j2 a1) true))) else ((spec_ShardOk_j2 a1) true))) else ((spec_ShardOk_j2 a1) true)))
def m_spec_NewShard (a1 : Int) (a2 : (List TRange)) : Option TShard :=
  (if a2.length ≤ 2147483648 then ((m_spec_ShardOk (TShard.mk a1 a2 ([] : (List TRange)) ([] : (List TCell)) ([] : (List TLock)) ([] : (List THeld)) ([] : (List Int)) ([] : (List Int)) 0)).bind fun v4 => (if v4 = true then (some (TShard.mk a1 a2 ([] : (List TRange)) ([] : (List TCell)) ([] : (List TLock)) ([] : (List THeld)) ([] : (List Int)) ([] : (List Int)) 0)) else (some (TShard.mk 0 ([] : (List TRange)) ([] : (List TRange)) ([] : (List TCell)) ([] : (List TLock)) ([] : (List THeld)) ([] : (List Int)) ([] : (List Int)) 0)))) else none)
def slices_Clone_Range_j2 (a1 : (List TRange)) (t2 : Unit) : Option (List TRange) :=
  (if a1.length ≤ 2147483648 then (some a1) else none)
def m_slices_Clone_Range (a1 : (List TRange)) : Option (List TRange) :=
  (if a1.length = 0 then ((slices_Clone_Range_j2 a1) ()) else ((slices_Clone_Range_j2 a1) ()))
def m_impl_from (a1 : Int) (a2 : Int) (a3 : Int) : Option Bool :=
  (if a2 ≤ a1 then (some (decide (a1 ≤ a3))) else (some false))
def m_impl_isGroup (a1 : Int) : Option Bool :=
  ((m_impl_from a1 0 3).bind fun v2 => (some v2))
def m_impl_RangeOk (a1 : TRange) : Option Bool :=
  (if 0 ≤ a1.Lo then (if a1.Lo < a1.Hi then (some (decide (a1.Hi ≤ 1000))) else (some false)) else (some false))
def impl_RangesOk_j2 (a1 : (List TRange)) (t2 : Unit) : Option Bool :=
  (some (decide ((a1.length : Int) ≤ 16)))
def impl_RangesOk_j9 (kb5 : (Int → Option Bool)) (s4 : Int) (t9 : Bool) : Option Bool :=
  (if t9 = true then (some false) else (kb5 (IntKind.wrap .i64 (s4 + 1))))
def impl_RangesOk_b4 (a1 : (List TRange)) (kx3 : (Unit → Option Bool)) (kb5 : (Int → Option Bool)) (s4 : Int) : Option Bool :=
  (if s4 < (a1.length : Int) then ((idx a1 s4).bind fun v7 => ((m_impl_RangeOk v7).bind fun v12 => (if v12 = true then (if 0 < s4 then ((idx a1 (IntKind.wrap .i64 (s4 - 1))).bind fun v16 => ((impl_RangesOk_j9 kb5 s4) (decide (v7.Lo < v16.Hi)))) else ((impl_RangesOk_j9 kb5 s4) false)) else ((impl_RangesOk_j9 kb5 s4) true)))) else (kx3 ()))
def m_impl_RangesOk (a1 : (List TRange)) : Option Bool :=
  (iter (impl_RangesOk_b4 a1 (impl_RangesOk_j2 a1)) FU 0)
def m_impl_isKey (a1 : Int) : Option Bool :=
  ((m_impl_from a1 0 999).bind fun v2 => (some v2))
def m_impl_isWhole (a1 : Int) : Option Bool :=
  ((m_impl_from a1 0 1000000000).bind fun v2 => (some v2))
def impl_StoreOk_j2 (a1 : (List TCell)) (t2 : Unit) : Option Bool :=
  (some (decide ((a1.length : Int) ≤ 60)))
def impl_StoreOk_j9 (kb5 : (Int → Option Bool)) (s4 : Int) (t9 : Bool) : Option Bool :=
  (if t9 = true then (some false) else (kb5 (IntKind.wrap .i64 (s4 + 1))))
def impl_StoreOk_b4 (a1 : (List TCell)) (kx3 : (Unit → Option Bool)) (kb5 : (Int → Option Bool)) (s4 : Int) : Option Bool :=
  (if s4 < (a1.length : Int) then ((idx a1 s4).bind fun v7 => ((m_impl_isKey v7.Key).bind fun v12 => (if v12 = true then ((m_impl_isWhole v7.Value).bind fun v15 => (if v15 = true then (if 0 < s4 then ((idx a1 (IntKind.wrap .i64 (s4 - 1))).bind fun v19 => ((impl_StoreOk_j9 kb5 s4) (decide (v7.Key ≤ v19.Key)))) else ((impl_StoreOk_j9 kb5 s4) false)) else ((impl_StoreOk_j9 kb5 s4) true))) else ((impl_StoreOk_j9 kb5 s4) true)))) else (kx3 ()))
def m_impl_StoreOk (a1 : (List TCell)) : Option Bool :=
  (iter (impl_StoreOk_b4 a1 (impl_StoreOk_j2 a1)) FU 0)
def m_impl_isTx (a1 : Int) : Option Bool :=
  ((m_impl_from a1 1 60).bind fun v2 => (some v2))
def m_impl_Lock_keys (a1 : TLock) : Option TRange :=
  (some (TRange.mk a1.Lo a1.Hi))
def m_impl_isMode (a1 : Int) : Option Bool :=
  (if a1 = 1 then (some true) else (some (decide (a1 = 2))))
def m_impl_meets (a1 : TRange) (a2 : TRange) : Option Bool :=
  (if a1.Lo < a2.Hi then (some (decide (a2.Lo < a1.Hi))) else (some false))
def m_impl_clash (a1 : TLock) (a2 : TLock) : Option Bool :=
  (if ¬ a1.Tx = a2.Tx then (if a1.Mode = 2 then ((m_impl_Lock_keys a1).bind fun v5 => ((m_impl_Lock_keys a2).bind fun v7 => ((m_impl_meets v5 v7).bind fun v9 => (some v9)))) else (if a2.Mode = 2 then ((m_impl_Lock_keys a1).bind fun v12 => ((m_impl_Lock_keys a2).bind fun v14 => ((m_impl_meets v12 v14).bind fun v16 => (some v16)))) else (some false))) else (some false))
def m_impl_LocksOk_1 (a1 : TLock) (a2 : TLock) : Option Bool :=
  ((m_impl_clash a2 a1).bind fun v3 => (some v3))
def slices_IndexFunc_Lock__LocksOk_1_j3  (t3 : Unit) : Option Int :=
  (some (-1))
def slices_IndexFunc_Lock__LocksOk_1_b5 (a1 : (List TLock)) (a2 : TLock) (kx4 : (Unit → Option Int)) (kb6 : (Int → Option Int)) (s5 : Int) : Option Int :=
  (if s5 < (a1.length : Int) then ((idx a1 s5).bind fun v8 => ((m_impl_LocksOk_1 v8 a2).bind fun v10 => (if v10 = true then (some s5) else (kb6 (IntKind.wrap .i64 (s5 + 1)))))) else (kx4 ()))
def m_slices_IndexFunc_Lock__LocksOk_1 (a1 : (List TLock)) (a2 : TLock) : Option Int :=
  (iter (slices_IndexFunc_Lock__LocksOk_1_b5 a1 a2 slices_IndexFunc_Lock__LocksOk_1_j3) FU 0)
def m_slices_ContainsFunc_Lock__LocksOk_1 (a1 : (List TLock)) (a2 : TLock) : Option Bool :=
  ((m_slices_IndexFunc_Lock__LocksOk_1 a1 a2).bind fun v3 => (some (decide (0 ≤ v3))))
def impl_LocksOk_j2 (a1 : (List TLock)) (t2 : Unit) : Option Bool :=
  (some (decide ((a1.length : Int) ≤ 40)))
def impl_LocksOk_j9 (kb5 : (Int → Option Bool)) (s4 : Int) (t9 : Bool) : Option Bool :=
  (if t9 = true then (some false) else (kb5 (IntKind.wrap .i64 (s4 + 1))))
def impl_LocksOk_b4 (a1 : (List TLock)) (kx3 : (Unit → Option Bool)) (kb5 : (Int → Option Bool)) (s4 : Int) : Option Bool :=
  (if s4 < (a1.length : Int) then ((idx a1 s4).bind fun v7 => ((m_impl_isTx v7.Tx).bind fun v12 => (if v12 = true then ((m_impl_Lock_keys v7).bind fun v15 => ((m_impl_RangeOk v15).bind fun v17 => (if v17 = true then ((m_impl_isMode v7.Mode).bind fun v20 => (if v20 = true then ((cut a1 0 s4).bind fun v23 => ((m_slices_ContainsFunc_Lock__LocksOk_1 v23 v7).bind fun v25 => ((impl_LocksOk_j9 kb5 s4) v25))) else ((impl_LocksOk_j9 kb5 s4) true))) else ((impl_LocksOk_j9 kb5 s4) true)))) else ((impl_LocksOk_j9 kb5 s4) true)))) else (kx3 ()))
def m_impl_LocksOk (a1 : (List TLock)) : Option Bool :=
  (iter (impl_LocksOk_b4 a1 (impl_LocksOk_j2 a1)) FU 0)
def m_impl_isAnswer (a1 : Int) : Option Bool :=
  ((m_impl_from a1 (-1) 1000000000).bind fun v2 => (some v2))
def impl_WritesOk_j2 (a1 : (List TCell)) (t2 : Unit) : Option Bool :=
  (some (decide ((a1.length : Int) ≤ 60)))
def impl_WritesOk_j9 (kb5 : (Int → Option Bool)) (s4 : Int) (t9 : Bool) : Option Bool :=
  (if t9 = true then (some false) else (kb5 (IntKind.wrap .i64 (s4 + 1))))
def impl_WritesOk_b4 (a1 : (List TCell)) (kx3 : (Unit → Option Bool)) (kb5 : (Int → Option Bool)) (s4 : Int) : Option Bool :=
  (if s4 < (a1.length : Int) then ((idx a1 s4).bind fun v7 => ((m_impl_isKey v7.Key).bind fun v12 => (if v12 = true then ((m_impl_isAnswer v7.Value).bind fun v15 => (if v15 = true then (if 0 < s4 then ((idx a1 (IntKind.wrap .i64 (s4 - 1))).bind fun v19 => ((impl_WritesOk_j9 kb5 s4) (decide (v7.Key ≤ v19.Key)))) else ((impl_WritesOk_j9 kb5 s4) false)) else ((impl_WritesOk_j9 kb5 s4) true))) else ((impl_WritesOk_j9 kb5 s4) true)))) else (kx3 ()))
def m_impl_WritesOk (a1 : (List TCell)) : Option Bool :=
  (iter (impl_WritesOk_b4 a1 (impl_WritesOk_j2 a1)) FU 0)
def m_impl_one (a1 : Int) : Option TRange :=
  (some (TRange.mk a1 (IntKind.wrap .i64 (a1 + 1))))
def m_impl_LocksHold_1 (a1 : TLock) (a2 : Int) (a3 : Int) (a4 : TRange) : Option Bool :=
  (if a1.Tx = a2 then (if a1.Mode = a3 then (if a1.Lo ≤ a4.Lo then (some (decide (a4.Hi ≤ a1.Hi))) else (some false)) else (if a1.Mode = 2 then (if a1.Lo ≤ a4.Lo then (some (decide (a4.Hi ≤ a1.Hi))) else (some false)) else (some false))) else (some false))
def slices_IndexFunc_Lock__LocksHold_1_j5  (t5 : Unit) : Option Int :=
  (some (-1))
def slices_IndexFunc_Lock__LocksHold_1_b7 (a1 : (List TLock)) (a2 : Int) (a3 : Int) (a4 : TRange) (kx6 : (Unit → Option Int)) (kb8 : (Int → Option Int)) (s7 : Int) : Option Int :=
  (if s7 < (a1.length : Int) then ((idx a1 s7).bind fun v10 => ((m_impl_LocksHold_1 v10 a2 a3 a4).bind fun v12 => (if v12 = true then (some s7) else (kb8 (IntKind.wrap .i64 (s7 + 1)))))) else (kx6 ()))
def m_slices_IndexFunc_Lock__LocksHold_1 (a1 : (List TLock)) (a2 : Int) (a3 : Int) (a4 : TRange) : Option Int :=
  (iter (slices_IndexFunc_Lock__LocksHold_1_b7 a1 a2 a3 a4 slices_IndexFunc_Lock__LocksHold_1_j5) FU 0)
def m_slices_ContainsFunc_Lock__LocksHold_1 (a1 : (List TLock)) (a2 : Int) (a3 : Int) (a4 : TRange) : Option Bool :=
  ((m_slices_IndexFunc_Lock__LocksHold_1 a1 a2 a3 a4).bind fun v5 => (some (decide (0 ≤ v5))))
def m_impl_LocksHold (a1 : (List TLock)) (a2 : Int) (a3 : TRange) (a4 : Int) : Option Bool :=
  ((m_impl_LocksOk a1).bind fun v5 => (if v5 = true then ((m_impl_RangeOk a3).bind fun v8 => (if v8 = true then ((m_impl_isMode a4).bind fun v11 => (if v11 = true then ((m_slices_ContainsFunc_Lock__LocksHold_1 a1 a2 a4 a3).bind fun v14 => (some v14)) else (some false))) else (some false))) else (some false)))
def m_impl_heldsOk_1 (a1 : TCell) (a2 : TShard) (a3 : THeld) : Option Bool :=
  ((m_impl_one a1.Key).bind fun v4 => ((m_impl_LocksHold a2.Locks a3.Tx v4 2).bind fun v6 => (some (!v6))))
def slices_IndexFunc_Write__heldsOk_1_j4  (t4 : Unit) : Option Int :=
  (some (-1))
def slices_IndexFunc_Write__heldsOk_1_b6 (a1 : (List TCell)) (a2 : TShard) (a3 : THeld) (kx5 : (Unit → Option Int)) (kb7 : (Int → Option Int)) (s6 : Int) : Option Int :=
  (if s6 < (a1.length : Int) then ((idx a1 s6).bind fun v9 => ((m_impl_heldsOk_1 v9 a2 a3).bind fun v11 => (if v11 = true then (some s6) else (kb7 (IntKind.wrap .i64 (s6 + 1)))))) else (kx5 ()))
def m_slices_IndexFunc_Write__heldsOk_1 (a1 : (List TCell)) (a2 : TShard) (a3 : THeld) : Option Int :=
  (iter (slices_IndexFunc_Write__heldsOk_1_b6 a1 a2 a3 slices_IndexFunc_Write__heldsOk_1_j4) FU 0)
def m_slices_ContainsFunc_Write__heldsOk_1 (a1 : (List TCell)) (a2 : TShard) (a3 : THeld) : Option Bool :=
  ((m_slices_IndexFunc_Write__heldsOk_1 a1 a2 a3).bind fun v4 => (some (decide (0 ≤ v4))))
def impl_txsOf_j2  (t2 : (List Int)) : Option (List Int) :=
  (some t2)
def impl_txsOf_b4 (a1 : (List THeld)) (kx3 : ((List Int) → Option (List Int))) (kb5 : (((List Int) × Int) → Option (List Int))) (s4 : ((List Int) × Int)) : Option (List Int) :=
  (if s4.2 < (a1.length : Int) then ((idx a1 s4.2).bind fun v7 => (if (s4.1 ++ ([v7.Tx])).length ≤ 2147483648 then (kb5 ((s4.1 ++ ([v7.Tx])), (IntKind.wrap .i64 (s4.2 + 1)))) else none)) else (kx3 s4.1))
def m_impl_txsOf (a1 : (List THeld)) : Option (List Int) :=
  (iter (impl_txsOf_b4 a1 impl_txsOf_j2) FU (([] : List Int), 0))
def impl_ascending_j2  (t2 : Unit) : Option Bool :=
  (some true)
def impl_ascending_j9 (kb5 : (Int → Option Bool)) (s4 : Int) (t9 : Bool) : Option Bool :=
  (if t9 = true then (some false) else (kb5 (IntKind.wrap .i64 (s4 + 1))))
def impl_ascending_b4 (a1 : (List Int)) (kx3 : (Unit → Option Bool)) (kb5 : (Int → Option Bool)) (s4 : Int) : Option Bool :=
  (if s4 < (a1.length : Int) then ((idx a1 s4).bind fun v7 => ((m_impl_isTx v7).bind fun v12 => (if v12 = true then (if 0 < s4 then ((idx a1 (IntKind.wrap .i64 (s4 - 1))).bind fun v16 => ((impl_ascending_j9 kb5 s4) (decide (v7 ≤ v16)))) else ((impl_ascending_j9 kb5 s4) false)) else ((impl_ascending_j9 kb5 s4) true)))) else (kx3 ()))
def m_impl_ascending (a1 : (List Int)) : Option Bool :=
  (iter (impl_ascending_b4 a1 impl_ascending_j2) FU 0)
def impl_heldsOk_j2 (a1 : TShard) (t2 : Unit) : Option Bool :=
  ((m_impl_txsOf a1.Helds).bind fun v4 => ((m_impl_ascending v4).bind fun v6 => (some v6)))
def impl_heldsOk_j13 (kb9 : (Int → Option Bool)) (s8 : Int) (t13 : Bool) : Option Bool :=
  (if t13 = true then (some false) else (kb9 (IntKind.wrap .i64 (s8 + 1))))
def impl_heldsOk_b8 (a1 : TShard) (kx3 : (Unit → Option Bool)) (kb9 : (Int → Option Bool)) (s8 : Int) : Option Bool :=
  (if s8 < (a1.Helds.length : Int) then ((idx a1.Helds s8).bind fun v11 => ((m_impl_WritesOk v11.Writes).bind fun v16 => (if v16 = true then ((m_slices_ContainsFunc_Write__heldsOk_1 v11.Writes a1 v11).bind fun v19 => ((impl_heldsOk_j13 kb9 s8) v19)) else ((impl_heldsOk_j13 kb9 s8) true)))) else (kx3 ()))
def m_impl_heldsOk (a1 : TShard) : Option Bool :=
  (iter (impl_heldsOk_b8 a1 (impl_heldsOk_j2 a1)) FU 0)
def impl_haveAll_j3 (a2 : TRange) (t3 : Int) : Option Bool :=
  (some (decide (a2.Hi ≤ t3)))
def impl_haveAll_j10 (kb6 : ((Int × Int) → Option Bool)) (v8 : TRange) (s5 : (Int × Int)) (t10 : Bool) : Option Bool :=
  (if t10 = true then (kb6 (v8.Hi, (IntKind.wrap .i64 (s5.2 + 1)))) else (kb6 (s5.1, (IntKind.wrap .i64 (s5.2 + 1)))))
def impl_haveAll_b5 (a1 : (List TRange)) (kx4 : (Int → Option Bool)) (kb6 : ((Int × Int) → Option Bool)) (s5 : (Int × Int)) : Option Bool :=
  (if s5.2 < (a1.length : Int) then ((idx a1 s5.2).bind fun v8 => (if v8.Lo ≤ s5.1 then ((impl_haveAll_j10 kb6 v8 s5) (decide (s5.1 < v8.Hi))) else ((impl_haveAll_j10 kb6 v8 s5) false))) else (kx4 s5.1))
def m_impl_haveAll (a1 : (List TRange)) (a2 : TRange) : Option Bool :=
  (iter (impl_haveAll_b5 a1 (impl_haveAll_j3 a2)) FU (a2.Lo, 0))
def m_impl_ShardOk_1 (a1 : TRange) (a2 : TShard) : Option Bool :=
  ((m_impl_haveAll a2.Own a1).bind fun v3 => (some (!v3)))
def slices_IndexFunc_Range__ShardOk_1_j3  (t3 : Unit) : Option Int :=
  (some (-1))
def slices_IndexFunc_Range__ShardOk_1_b5 (a1 : (List TRange)) (a2 : TShard) (kx4 : (Unit → Option Int)) (kb6 : (Int → Option Int)) (s5 : Int) : Option Int :=
  (if s5 < (a1.length : Int) then ((idx a1 s5).bind fun v8 => ((m_impl_ShardOk_1 v8 a2).bind fun v10 => (if v10 = true then (some s5) else (kb6 (IntKind.wrap .i64 (s5 + 1)))))) else (kx4 ()))
def m_slices_IndexFunc_Range__ShardOk_1 (a1 : (List TRange)) (a2 : TShard) : Option Int :=
  (iter (slices_IndexFunc_Range__ShardOk_1_b5 a1 a2 slices_IndexFunc_Range__ShardOk_1_j3) FU 0)
def m_slices_ContainsFunc_Range__ShardOk_1 (a1 : (List TRange)) (a2 : TShard) : Option Bool :=
  ((m_slices_IndexFunc_Range__ShardOk_1 a1 a2).bind fun v3 => (some (decide (0 ≤ v3))))
def m_impl_ShardOk_2 (a1 : TCell) (a2 : TShard) : Option Bool :=
  ((m_impl_one a1.Key).bind fun v3 => ((m_impl_haveAll a2.Own v3).bind fun v5 => (some (!v5))))
def slices_IndexFunc_Cell__ShardOk_2_j3  (t3 : Unit) : Option Int :=
  (some (-1))
def slices_IndexFunc_Cell__ShardOk_2_b5 (a1 : (List TCell)) (a2 : TShard) (kx4 : (Unit → Option Int)) (kb6 : (Int → Option Int)) (s5 : Int) : Option Int :=
  (if s5 < (a1.length : Int) then ((idx a1 s5).bind fun v8 => ((m_impl_ShardOk_2 v8 a2).bind fun v10 => (if v10 = true then (some s5) else (kb6 (IntKind.wrap .i64 (s5 + 1)))))) else (kx4 ()))
def m_slices_IndexFunc_Cell__ShardOk_2 (a1 : (List TCell)) (a2 : TShard) : Option Int :=
  (iter (slices_IndexFunc_Cell__ShardOk_2_b5 a1 a2 slices_IndexFunc_Cell__ShardOk_2_j3) FU 0)
def m_slices_ContainsFunc_Cell__ShardOk_2 (a1 : (List TCell)) (a2 : TShard) : Option Bool :=
  ((m_slices_IndexFunc_Cell__ShardOk_2 a1 a2).bind fun v3 => (some (decide (0 ≤ v3))))
def m_slices_Grow_int (a1 : List Int) (a2 : Int) : Option (List Int) :=
  if 0 ≤ a2 ∧ a2 ≤ 1000000000 then some [] else none
def slices_Concat_int_j6  (t6 : (List Int)) : Option (List Int) :=
  (some t6)
def slices_Concat_int_b8 (a1 : (List (List Int))) (kx7 : ((List Int) → Option (List Int))) (kb9 : (((List Int) × Int) → Option (List Int))) (s8 : ((List Int) × Int)) : Option (List Int) :=
  (if s8.2 < (a1.length : Int) then ((idx a1 s8.2).bind fun v11 => (if (s8.1 ++ v11).length ≤ 2147483648 then (kb9 ((s8.1 ++ v11), (IntKind.wrap .i64 (s8.2 + 1)))) else none)) else (kx7 s8.1))
def slices_Concat_int_j2 (a1 : (List (List Int))) (t2 : Int) : Option (List Int) :=
  ((m_slices_Grow_int ([] : (List Int)) t2).bind fun v4 => (iter (slices_Concat_int_b8 a1 slices_Concat_int_j6) FU (v4, 0)))
def slices_Concat_int_b14 (a1 : (List (List Int))) (kx3 : (Int → Option (List Int))) (kb15 : ((Int × Int) → Option (List Int))) (s14 : (Int × Int)) : Option (List Int) :=
  (if s14.2 < (a1.length : Int) then ((idx a1 s14.2).bind fun v17 => (if (IntKind.wrap .i64 (s14.1 + (v17.length : Int))) < 0 then none else (kb15 ((IntKind.wrap .i64 (s14.1 + (v17.length : Int))), (IntKind.wrap .i64 (s14.2 + 1)))))) else (kx3 s14.1))
def m_slices_Concat_int (a1 : (List (List Int))) : Option (List Int) :=
  (iter (slices_Concat_int_b14 a1 (slices_Concat_int_j2 a1)) FU (0, 0))
def slices_Index_int_j3  (t3 : Unit) : Option Int :=
  (some (-1))
def slices_Index_int_b5 (a1 : (List Int)) (a2 : Int) (kx4 : (Unit → Option Int)) (kb6 : (Int → Option Int)) (s5 : Int) : Option Int :=
  (if s5 < (a1.length : Int) then ((idx a1 s5).bind fun v8 => (if a2 = v8 then (some s5) else (kb6 (IntKind.wrap .i64 (s5 + 1))))) else (kx4 ()))
def m_slices_Index_int (a1 : (List Int)) (a2 : Int) : Option Int :=
  (iter (slices_Index_int_b5 a1 a2 slices_Index_int_j3) FU 0)
def m_slices_Contains_int (a1 : (List Int)) (a2 : Int) : Option Bool :=
  ((m_slices_Index_int a1 a2).bind fun v3 => (some (decide (0 ≤ v3))))
def m_impl_ShardOk_3 (a1 : TLock) (a2 : TShard) (a3 : (List Int)) : Option Bool :=
  ((m_impl_Lock_keys a1).bind fun v4 => ((m_impl_haveAll a2.Own v4).bind fun v6 => (if v6 = true then ((m_slices_Contains_int a3 a1.Tx).bind fun v9 => (some v9)) else (some true))))
def slices_IndexFunc_Lock__ShardOk_3_j4  (t4 : Unit) : Option Int :=
  (some (-1))
def slices_IndexFunc_Lock__ShardOk_3_b6 (a1 : (List TLock)) (a2 : TShard) (a3 : (List Int)) (kx5 : (Unit → Option Int)) (kb7 : (Int → Option Int)) (s6 : Int) : Option Int :=
  (if s6 < (a1.length : Int) then ((idx a1 s6).bind fun v9 => ((m_impl_ShardOk_3 v9 a2 a3).bind fun v11 => (if v11 = true then (some s6) else (kb7 (IntKind.wrap .i64 (s6 + 1)))))) else (kx5 ()))
def m_slices_IndexFunc_Lock__ShardOk_3 (a1 : (List TLock)) (a2 : TShard) (a3 : (List Int)) : Option Int :=
  (iter (slices_IndexFunc_Lock__ShardOk_3_b6 a1 a2 a3 slices_IndexFunc_Lock__ShardOk_3_j4) FU 0)
def m_slices_ContainsFunc_Lock__ShardOk_3 (a1 : (List TLock)) (a2 : TShard) (a3 : (List Int)) : Option Bool :=
  ((m_slices_IndexFunc_Lock__ShardOk_3 a1 a2 a3).bind fun v4 => (some (decide (0 ≤ v4))))
def m_slices_Sort_int (a1 : List Int) : Option (List Int) :=
  if a1.length ≤ 1000000000 then some (sortI a1) else none
def slices_Clone_int_j2 (a1 : (List Int)) (t2 : Unit) : Option (List Int) :=
  (if a1.length ≤ 2147483648 then (some a1) else none)
def m_slices_Clone_int (a1 : (List Int)) : Option (List Int) :=
  (if a1.length = 0 then ((slices_Clone_int_j2 a1) ()) else ((slices_Clone_int_j2 a1) ()))
def m_slices_Compact_int (a1 : List Int) : Option (List Int) :=
  if a1.length ≤ 1000000000 then some (Go.Lib.compact a1) else none
def m_impl_cellFor_1 (a1 : TCell) (a2 : Int) : Option Int :=
  (some (IntKind.wrap .i64 (a1.Key - a2)))
def slices_BinarySearchFunc_Cell_int__cellFor_1_j3 (a1 : (List TCell)) (a2 : Int) (t3 : Int) : Option (Int × Bool) :=
  (if t3 < (a1.length : Int) then ((idx a1 t3).bind fun v6 => ((m_impl_cellFor_1 v6 a2).bind fun v8 => (some (t3, (decide (v8 = 0)))))) else (some (t3, false)))
def slices_BinarySearchFunc_Cell_int__cellFor_1_b10 (a1 : (List TCell)) (a2 : Int) (kx4 : (Int → Option (Int × Bool))) (kb11 : ((Int × Int) → Option (Int × Bool))) (s10 : (Int × Int)) : Option (Int × Bool) :=
  (if s10.1 < s10.2 then ((idx a1 (IntKind.wrap .i64 (Int.fdiv (IntKind.wrap .u64 (IntKind.wrap .i64 (s10.1 + s10.2))) (2 ^ (min (Int.toNat 1) (IntKind.bits .u64)))))).bind fun v13 => ((m_impl_cellFor_1 v13 a2).bind fun v15 => (if v15 < 0 then (kb11 ((IntKind.wrap .i64 ((IntKind.wrap .i64 (Int.fdiv (IntKind.wrap .u64 (IntKind.wrap .i64 (s10.1 + s10.2))) (2 ^ (min (Int.toNat 1) (IntKind.bits .u64))))) + 1)), s10.2)) else (kb11 (s10.1, (IntKind.wrap .i64 (Int.fdiv (IntKind.wrap .u64 (IntKind.wrap .i64 (s10.1 + s10.2))) (2 ^ (min (Int.toNat 1) (IntKind.bits .u64)))))))))) else (kx4 s10.1))
def m_slices_BinarySearchFunc_Cell_int__cellFor_1 (a1 : (List TCell)) (a2 : Int) : Option (Int × Bool) :=
  (iter (slices_BinarySearchFunc_Cell_int__cellFor_1_b10 a1 a2 (slices_BinarySearchFunc_Cell_int__cellFor_1_j3 a1 a2)) FU (0, (a1.length : Int)))
def m_impl_cellFor (a1 : (List TCell)) (a2 : Int) : Option (Int × Bool) :=
  ((m_slices_BinarySearchFunc_Cell_int__cellFor_1 a1 a2).bind fun v3 => (some (v3.1, v3.2)))
def m_impl_valueOf (a1 : (List TCell)) (a2 : Int) : Option Int :=
  ((m_impl_cellFor a1 a2).bind fun v3 => (if v3.2 = true then ((idx a1 v3.1).bind fun v6 => (some v6.Value)) else (some (-1))))
def impl_StoreNew_j6  (t6 : Int) : Option Int :=
  (some t6)
def impl_StoreNew_j13 (kb9 : ((Int × Int) → Option Int)) (s8 : (Int × Int)) (t13 : Bool) : Option Int :=
  (if t13 = true then (kb9 ((IntKind.wrap .i64 (s8.1 + 1)), (IntKind.wrap .i64 (s8.2 + 1)))) else (kb9 (s8.1, (IntKind.wrap .i64 (s8.2 + 1)))))
def impl_StoreNew_b8 (a2 : (List TCell)) (a1 : (List TCell)) (kx7 : (Int → Option Int)) (kb9 : ((Int × Int) → Option Int)) (s8 : (Int × Int)) : Option Int :=
  (if s8.2 < (a2.length : Int) then ((idx a2 s8.2).bind fun v11 => (if ¬ v11.Value = (-1) then ((m_impl_valueOf a1 v11.Key).bind fun v17 => ((impl_StoreNew_j13 kb9 s8) (decide (v17 < 0)))) else ((impl_StoreNew_j13 kb9 s8) false))) else (kx7 s8.1))
def impl_StoreNew_j3 (a2 : (List TCell)) (a1 : (List TCell)) (t3 : Bool) : Option Int :=
  (if t3 = true then (some (-1)) else (iter (impl_StoreNew_b8 a2 a1 impl_StoreNew_j6) FU (0, 0)))
def m_impl_StoreNew (a1 : (List TCell)) (a2 : (List TCell)) : Option Int :=
  ((m_impl_StoreOk a1).bind fun v19 => (if v19 = true then ((m_impl_WritesOk a2).bind fun v22 => ((impl_StoreNew_j3 a2 a1) (!v22))) else ((impl_StoreNew_j3 a2 a1) true)))
def impl_room_j2  (t2 : Int) : Option Int :=
  (some t2)
def impl_room_b4 (a1 : TShard) (kx3 : (Int → Option Int)) (kb5 : ((Int × Int) → Option Int)) (s4 : (Int × Int)) : Option Int :=
  (if s4.2 < (a1.Helds.length : Int) then ((idx a1.Helds s4.2).bind fun v7 => ((m_impl_StoreNew a1.Cells v7.Writes).bind fun v9 => (kb5 ((IntKind.wrap .i64 (s4.1 + v9)), (IntKind.wrap .i64 (s4.2 + 1)))))) else (kx3 s4.1))
def m_impl_room (a1 : TShard) : Option Int :=
  (iter (impl_room_b4 a1 impl_room_j2) FU ((a1.Cells.length : Int), 0))
def impl_ShardOk_j5 (a1 : TShard) (t5 : Bool) : Option Bool :=
  (if t5 = true then (some false) else ((m_slices_Concat_int ([a1.Wounded, a1.Ended])).bind fun v8 => ((m_slices_ContainsFunc_Lock__ShardOk_3 a1.Locks a1 v8).bind fun v10 => (if v10 = true then (some false) else ((m_impl_txsOf a1.Helds).bind fun v13 => (if (v13 ++ v8).length ≤ 2147483648 then ((m_slices_Sort_int (v13 ++ v8)).bind fun v16 => (if v16.length = (v13 ++ v8).length then ((m_slices_Clone_int v16).bind fun v19 => ((m_slices_Compact_int v19).bind fun v21 => (if (v21.length : Int) = (((v13 ++ v8).length : Nat) : Int) then ((m_impl_room a1).bind fun v24 => (some (decide (v24 ≤ 60)))) else (some false)))) else none)) else none))))))
def impl_ShardOk_j2 (a1 : TShard) (t2 : Bool) : Option Bool :=
  (if t2 = true then (some false) else ((m_slices_ContainsFunc_Range__ShardOk_1 a1.Frozen a1).bind fun v26 => (if v26 = true then ((impl_ShardOk_j5 a1) true) else ((m_slices_ContainsFunc_Cell__ShardOk_2 a1.Cells a1).bind fun v29 => ((impl_ShardOk_j5 a1) v29)))))
def m_impl_ShardOk (a1 : TShard) : Option Bool :=
  ((m_impl_isGroup a1.Me).bind fun v31 => (if v31 = true then ((m_impl_RangesOk a1.Own).bind fun v34 => (if v34 = true then ((m_impl_RangesOk a1.Frozen).bind fun v37 => (if v37 = true then ((m_impl_StoreOk a1.Cells).bind fun v40 => (if v40 = true then ((m_impl_LocksOk a1.Locks).bind fun v43 => (if v43 = true then ((m_impl_heldsOk a1).bind fun v46 => (if v46 = true then ((m_impl_ascending a1.Wounded).bind fun v49 => (if v49 = true then ((m_impl_ascending a1.Ended).bind fun v52 => (if v52 = true then ((m_impl_from a1.Rank 0 1000000).bind fun v55 => ((impl_ShardOk_j2 a1) (!v55))) else ((impl_ShardOk_j2 a1) true))) else ((impl_ShardOk_j2 a1) true))) else ((impl_ShardOk_j2 a1) true))) else ((impl_ShardOk_j2 a1) true))) else ((impl_ShardOk_j2 a1) true))) else ((impl_ShardOk_j2 a1) true))) else ((impl_ShardOk_j2 a1) true))) else ((impl_ShardOk_j2 a1) true)))
def m_impl_NewShard (a1 : Int) (a2 : (List TRange)) : Option TShard :=
  ((m_slices_Clone_Range a2).bind fun v3 => ((m_impl_ShardOk (TShard.mk a1 v3 ([] : (List TRange)) ([] : (List TCell)) ([] : (List TLock)) ([] : (List THeld)) ([] : (List Int)) ([] : (List Int)) 0)).bind fun v5 => (if v5 = true then (some (TShard.mk a1 v3 ([] : (List TRange)) ([] : (List TCell)) ([] : (List TLock)) ([] : (List THeld)) ([] : (List Int)) ([] : (List Int)) 0)) else (some (TShard.mk 0 ([] : (List TRange)) ([] : (List TRange)) ([] : (List TCell)) ([] : (List TLock)) ([] : (List THeld)) ([] : (List Int)) ([] : (List Int)) 0)))))
def m_laws_eqRange (a1 : TRange) (a2 : TRange) : Option Bool :=
  (if ¬ a1.Lo = a2.Lo then (some false) else (if ¬ a1.Hi = a2.Hi then (some false) else (some true)))
def laws_eqRangeS_j4  (t4 : Unit) : Option Bool :=
  (some true)
def laws_eqRangeS_b6 (a1 : (List TRange)) (a2 : (List TRange)) (kx5 : (Unit → Option Bool)) (kb7 : (Int → Option Bool)) (s6 : Int) : Option Bool :=
  (if s6 < (a1.length : Int) then ((idx a1 s6).bind fun v9 => ((idx a2 s6).bind fun v11 => ((m_laws_eqRange v9 v11).bind fun v13 => (if v13 = true then (kb7 (IntKind.wrap .i64 (s6 + 1))) else (some false))))) else (kx5 ()))
def m_laws_eqRangeS (a1 : (List TRange)) (a2 : (List TRange)) : Option Bool :=
  (if ¬ (a1.length : Int) = (a2.length : Int) then (some false) else (iter (laws_eqRangeS_b6 a1 a2 laws_eqRangeS_j4) FU 0))
def m_laws_eqCell (a1 : TCell) (a2 : TCell) : Option Bool :=
  (if ¬ a1.Key = a2.Key then (some false) else (if ¬ a1.Value = a2.Value then (some false) else (some true)))
def laws_eqCellS_j4  (t4 : Unit) : Option Bool :=
  (some true)
def laws_eqCellS_b6 (a1 : (List TCell)) (a2 : (List TCell)) (kx5 : (Unit → Option Bool)) (kb7 : (Int → Option Bool)) (s6 : Int) : Option Bool :=
  (if s6 < (a1.length : Int) then ((idx a1 s6).bind fun v9 => ((idx a2 s6).bind fun v11 => ((m_laws_eqCell v9 v11).bind fun v13 => (if v13 = true then (kb7 (IntKind.wrap .i64 (s6 + 1))) else (some false))))) else (kx5 ()))
def m_laws_eqCellS (a1 : (List TCell)) (a2 : (List TCell)) : Option Bool :=
  (if ¬ (a1.length : Int) = (a2.length : Int) then (some false) else (iter (laws_eqCellS_b6 a1 a2 laws_eqCellS_j4) FU 0))
def m_laws_eqLock (a1 : TLock) (a2 : TLock) : Option Bool :=
  (if ¬ a1.Tx = a2.Tx then (some false) else (if ¬ a1.Lo = a2.Lo then (some false) else (if ¬ a1.Hi = a2.Hi then (some false) else (if ¬ a1.Mode = a2.Mode then (some false) else (some true)))))
def laws_eqLockS_j4  (t4 : Unit) : Option Bool :=
  (some true)
def laws_eqLockS_b6 (a1 : (List TLock)) (a2 : (List TLock)) (kx5 : (Unit → Option Bool)) (kb7 : (Int → Option Bool)) (s6 : Int) : Option Bool :=
  (if s6 < (a1.length : Int) then ((idx a1 s6).bind fun v9 => ((idx a2 s6).bind fun v11 => ((m_laws_eqLock v9 v11).bind fun v13 => (if v13 = true then (kb7 (IntKind.wrap .i64 (s6 + 1))) else (some false))))) else (kx5 ()))
def m_laws_eqLockS (a1 : (List TLock)) (a2 : (List TLock)) : Option Bool :=
  (if ¬ (a1.length : Int) = (a2.length : Int) then (some false) else (iter (laws_eqLockS_b6 a1 a2 laws_eqLockS_j4) FU 0))
def m_laws_eqWrite (a1 : TCell) (a2 : TCell) : Option Bool :=
  (if ¬ a1.Key = a2.Key then (some false) else (if ¬ a1.Value = a2.Value then (some false) else (some true)))
def laws_eqWriteS_j4  (t4 : Unit) : Option Bool :=
  (some true)
def laws_eqWriteS_b6 (a1 : (List TCell)) (a2 : (List TCell)) (kx5 : (Unit → Option Bool)) (kb7 : (Int → Option Bool)) (s6 : Int) : Option Bool :=
  (if s6 < (a1.length : Int) then ((idx a1 s6).bind fun v9 => ((idx a2 s6).bind fun v11 => ((m_laws_eqWrite v9 v11).bind fun v13 => (if v13 = true then (kb7 (IntKind.wrap .i64 (s6 + 1))) else (some false))))) else (kx5 ()))
def m_laws_eqWriteS (a1 : (List TCell)) (a2 : (List TCell)) : Option Bool :=
  (if ¬ (a1.length : Int) = (a2.length : Int) then (some false) else (iter (laws_eqWriteS_b6 a1 a2 laws_eqWriteS_j4) FU 0))
def m_laws_eqHeld (a1 : THeld) (a2 : THeld) : Option Bool :=
  (if ¬ a1.Tx = a2.Tx then (some false) else ((m_laws_eqWriteS a1.Writes a2.Writes).bind fun v4 => (if v4 = true then (some true) else (some false))))
def laws_eqHeldS_j4  (t4 : Unit) : Option Bool :=
  (some true)
def laws_eqHeldS_b6 (a1 : (List THeld)) (a2 : (List THeld)) (kx5 : (Unit → Option Bool)) (kb7 : (Int → Option Bool)) (s6 : Int) : Option Bool :=
  (if s6 < (a1.length : Int) then ((idx a1 s6).bind fun v9 => ((idx a2 s6).bind fun v11 => ((m_laws_eqHeld v9 v11).bind fun v13 => (if v13 = true then (kb7 (IntKind.wrap .i64 (s6 + 1))) else (some false))))) else (kx5 ()))
def m_laws_eqHeldS (a1 : (List THeld)) (a2 : (List THeld)) : Option Bool :=
  (if ¬ (a1.length : Int) = (a2.length : Int) then (some false) else (iter (laws_eqHeldS_b6 a1 a2 laws_eqHeldS_j4) FU 0))
def laws_eqIntS_j4  (t4 : Unit) : Option Bool :=
  (some true)
def laws_eqIntS_b6 (a1 : (List Int)) (a2 : (List Int)) (kx5 : (Unit → Option Bool)) (kb7 : (Int → Option Bool)) (s6 : Int) : Option Bool :=
  (if s6 < (a1.length : Int) then ((idx a1 s6).bind fun v9 => ((idx a2 s6).bind fun v11 => (if ¬ v9 = v11 then (some false) else (kb7 (IntKind.wrap .i64 (s6 + 1)))))) else (kx5 ()))
def m_laws_eqIntS (a1 : (List Int)) (a2 : (List Int)) : Option Bool :=
  (if ¬ (a1.length : Int) = (a2.length : Int) then (some false) else (iter (laws_eqIntS_b6 a1 a2 laws_eqIntS_j4) FU 0))
def m_laws_eqShard (a1 : TShard) (a2 : TShard) : Option Bool :=
  (if ¬ a1.Me = a2.Me then (some false) else ((m_laws_eqRangeS a1.Own a2.Own).bind fun v4 => (if v4 = true then ((m_laws_eqRangeS a1.Frozen a2.Frozen).bind fun v7 => (if v7 = true then ((m_laws_eqCellS a1.Cells a2.Cells).bind fun v10 => (if v10 = true then ((m_laws_eqLockS a1.Locks a2.Locks).bind fun v13 => (if v13 = true then ((m_laws_eqHeldS a1.Helds a2.Helds).bind fun v16 => (if v16 = true then ((m_laws_eqIntS a1.Wounded a2.Wounded).bind fun v19 => (if v19 = true then ((m_laws_eqIntS a1.Ended a2.Ended).bind fun v22 => (if v22 = true then (if ¬ a1.Rank = a2.Rank then (some false) else (some true)) else (some false))) else (some false))) else (some false))) else (some false))) else (some false))) else (some false))) else (some false))))
def laws_markRangeS_j3 (a1 : (List TRange)) (t3 : ((List TRange) × Int)) : Option (Int × (List TRange)) :=
  (if t3.1.length = a1.length then (some (t3.2, t3.1)) else none)
def laws_markRangeS_b6 (kx4 : (((List TRange) × Int) → Option (Int × (List TRange)))) (kb7 : (((List TRange) × Int × Int) → Option (Int × (List TRange)))) (s6 : ((List TRange) × Int × Int)) : Option (Int × (List TRange)) :=
  (if s6.2.2 < ((s6.1.length : Nat) : Int) then ((idx s6.1 s6.2.2).bind fun v9 => ((idx (s6.1.set (Int.toNat s6.2.2) (TRange.mk s6.2.1 v9.Hi)) s6.2.2).bind fun v11 => (kb7 ((s6.1.set (Int.toNat s6.2.2) (TRange.mk s6.2.1 v9.Hi)).set (Int.toNat s6.2.2) (TRange.mk v11.Lo (IntKind.wrap .i64 (s6.2.1 + 1))), (IntKind.wrap .i64 ((IntKind.wrap .i64 (s6.2.1 + 1)) + 1)), (IntKind.wrap .i64 (s6.2.2 + 1)))))) else (kx4 (s6.1, s6.2.1)))
def m_laws_markRangeS (a1 : (List TRange)) (a2 : Int) : Option (Int × (List TRange)) :=
  (iter (laws_markRangeS_b6 (laws_markRangeS_j3 a1)) FU (a1, a2, 0))
def laws_markCellS_j3 (a1 : (List TCell)) (t3 : ((List TCell) × Int)) : Option (Int × (List TCell)) :=
  (if t3.1.length = a1.length then (some (t3.2, t3.1)) else none)
def laws_markCellS_b6 (kx4 : (((List TCell) × Int) → Option (Int × (List TCell)))) (kb7 : (((List TCell) × Int × Int) → Option (Int × (List TCell)))) (s6 : ((List TCell) × Int × Int)) : Option (Int × (List TCell)) :=
  (if s6.2.2 < ((s6.1.length : Nat) : Int) then ((idx s6.1 s6.2.2).bind fun v9 => ((idx (s6.1.set (Int.toNat s6.2.2) (TCell.mk s6.2.1 v9.Value)) s6.2.2).bind fun v11 => (kb7 ((s6.1.set (Int.toNat s6.2.2) (TCell.mk s6.2.1 v9.Value)).set (Int.toNat s6.2.2) (TCell.mk v11.Key (IntKind.wrap .i64 (s6.2.1 + 1))), (IntKind.wrap .i64 ((IntKind.wrap .i64 (s6.2.1 + 1)) + 1)), (IntKind.wrap .i64 (s6.2.2 + 1)))))) else (kx4 (s6.1, s6.2.1)))
def m_laws_markCellS (a1 : (List TCell)) (a2 : Int) : Option (Int × (List TCell)) :=
  (iter (laws_markCellS_b6 (laws_markCellS_j3 a1)) FU (a1, a2, 0))
def laws_markLockS_j3 (a1 : (List TLock)) (t3 : ((List TLock) × Int)) : Option (Int × (List TLock)) :=
  (if t3.1.length = a1.length then (some (t3.2, t3.1)) else none)
def laws_markLockS_b6 (kx4 : (((List TLock) × Int) → Option (Int × (List TLock)))) (kb7 : (((List TLock) × Int × Int) → Option (Int × (List TLock)))) (s6 : ((List TLock) × Int × Int)) : Option (Int × (List TLock)) :=
  (if s6.2.2 < ((s6.1.length : Nat) : Int) then ((idx s6.1 s6.2.2).bind fun v9 => ((idx (s6.1.set (Int.toNat s6.2.2) (TLock.mk s6.2.1 v9.Lo v9.Hi v9.Mode)) s6.2.2).bind fun v11 => ((idx ((s6.1.set (Int.toNat s6.2.2) (TLock.mk s6.2.1 v9.Lo v9.Hi v9.Mode)).set (Int.toNat s6.2.2) (TLock.mk v11.Tx (IntKind.wrap .i64 (s6.2.1 + 1)) v11.Hi v11.Mode)) s6.2.2).bind fun v13 => ((idx (((s6.1.set (Int.toNat s6.2.2) (TLock.mk s6.2.1 v9.Lo v9.Hi v9.Mode)).set (Int.toNat s6.2.2) (TLock.mk v11.Tx (IntKind.wrap .i64 (s6.2.1 + 1)) v11.Hi v11.Mode)).set (Int.toNat s6.2.2) (TLock.mk v13.Tx v13.Lo (IntKind.wrap .i64 ((IntKind.wrap .i64 (s6.2.1 + 1)) + 1)) v13.Mode)) s6.2.2).bind fun v15 => (kb7 ((((s6.1.set (Int.toNat s6.2.2) (TLock.mk s6.2.1 v9.Lo v9.Hi v9.Mode)).set (Int.toNat s6.2.2) (TLock.mk v11.Tx (IntKind.wrap .i64 (s6.2.1 + 1)) v11.Hi v11.Mode)).set (Int.toNat s6.2.2) (TLock.mk v13.Tx v13.Lo (IntKind.wrap .i64 ((IntKind.wrap .i64 (s6.2.1 + 1)) + 1)) v13.Mode)).set (Int.toNat s6.2.2) (TLock.mk v15.Tx v15.Lo v15.Hi (IntKind.wrap .i64 ((IntKind.wrap .i64 ((IntKind.wrap .i64 (s6.2.1 + 1)) + 1)) + 1))), (IntKind.wrap .i64 ((IntKind.wrap .i64 ((IntKind.wrap .i64 ((IntKind.wrap .i64 (s6.2.1 + 1)) + 1)) + 1)) + 1)), (IntKind.wrap .i64 (s6.2.2 + 1)))))))) else (kx4 (s6.1, s6.2.1)))
def m_laws_markLockS (a1 : (List TLock)) (a2 : Int) : Option (Int × (List TLock)) :=
  (iter (laws_markLockS_b6 (laws_markLockS_j3 a1)) FU (a1, a2, 0))
def laws_markWriteS_j3 (a1 : (List TCell)) (t3 : ((List TCell) × Int)) : Option (Int × (List TCell)) :=
  (if t3.1.length = a1.length then (some (t3.2, t3.1)) else none)
def laws_markWriteS_b6 (kx4 : (((List TCell) × Int) → Option (Int × (List TCell)))) (kb7 : (((List TCell) × Int × Int) → Option (Int × (List TCell)))) (s6 : ((List TCell) × Int × Int)) : Option (Int × (List TCell)) :=
  (if s6.2.2 < ((s6.1.length : Nat) : Int) then ((idx s6.1 s6.2.2).bind fun v9 => ((idx (s6.1.set (Int.toNat s6.2.2) (TCell.mk s6.2.1 v9.Value)) s6.2.2).bind fun v11 => (kb7 ((s6.1.set (Int.toNat s6.2.2) (TCell.mk s6.2.1 v9.Value)).set (Int.toNat s6.2.2) (TCell.mk v11.Key (IntKind.wrap .i64 (s6.2.1 + 1))), (IntKind.wrap .i64 ((IntKind.wrap .i64 (s6.2.1 + 1)) + 1)), (IntKind.wrap .i64 (s6.2.2 + 1)))))) else (kx4 (s6.1, s6.2.1)))
def m_laws_markWriteS (a1 : (List TCell)) (a2 : Int) : Option (Int × (List TCell)) :=
  (iter (laws_markWriteS_b6 (laws_markWriteS_j3 a1)) FU (a1, a2, 0))
def laws_markHeldS_j3 (a1 : (List THeld)) (t3 : ((List THeld) × Int)) : Option (Int × (List THeld)) :=
  (if t3.1.length = a1.length then (some (t3.2, t3.1)) else none)
def laws_markHeldS_b6 (kx4 : (((List THeld) × Int) → Option (Int × (List THeld)))) (kb7 : (((List THeld) × Int × Int) → Option (Int × (List THeld)))) (s6 : ((List THeld) × Int × Int)) : Option (Int × (List THeld)) :=
  (if s6.2.2 < ((s6.1.length : Nat) : Int) then ((idx s6.1 s6.2.2).bind fun v9 => ((idx (s6.1.set (Int.toNat s6.2.2) (THeld.mk s6.2.1 v9.Writes)) s6.2.2).bind fun v11 => ((m_laws_markWriteS v11.Writes (IntKind.wrap .i64 (s6.2.1 + 1))).bind fun v13 => (kb7 ((s6.1.set (Int.toNat s6.2.2) (THeld.mk s6.2.1 v9.Writes)).set (Int.toNat s6.2.2) (THeld.mk v11.Tx v13.2), v13.1, (IntKind.wrap .i64 (s6.2.2 + 1))))))) else (kx4 (s6.1, s6.2.1)))
def m_laws_markHeldS (a1 : (List THeld)) (a2 : Int) : Option (Int × (List THeld)) :=
  (iter (laws_markHeldS_b6 (laws_markHeldS_j3 a1)) FU (a1, a2, 0))
def laws_markIntS_j3 (a1 : (List Int)) (t3 : ((List Int) × Int)) : Option (Int × (List Int)) :=
  (if t3.1.length = a1.length then (some (t3.2, t3.1)) else none)
def laws_markIntS_b6 (kx4 : (((List Int) × Int) → Option (Int × (List Int)))) (kb7 : (((List Int) × Int × Int) → Option (Int × (List Int)))) (s6 : ((List Int) × Int × Int)) : Option (Int × (List Int)) :=
  (if s6.2.2 < ((s6.1.length : Nat) : Int) then ((idx s6.1 s6.2.2).bind fun v9 => (kb7 (s6.1.set (Int.toNat s6.2.2) s6.2.1, (IntKind.wrap .i64 (s6.2.1 + 1)), (IntKind.wrap .i64 (s6.2.2 + 1))))) else (kx4 (s6.1, s6.2.1)))
def m_laws_markIntS (a1 : (List Int)) (a2 : Int) : Option (Int × (List Int)) :=
  (iter (laws_markIntS_b6 (laws_markIntS_j3 a1)) FU (a1, a2, 0))
def m_laws_markShard (a1 : TShard) (a2 : Int) : Option (Int × TShard) :=
  ((m_laws_markRangeS a1.Own a2).bind fun v3 => (if v3.2.length = a1.Own.length then ((m_laws_markRangeS a1.Frozen v3.1).bind fun v6 => (if v6.2.length = a1.Frozen.length then ((m_laws_markCellS a1.Cells v6.1).bind fun v9 => (if v9.2.length = a1.Cells.length then ((m_laws_markLockS a1.Locks v9.1).bind fun v12 => (if v12.2.length = a1.Locks.length then ((m_laws_markHeldS a1.Helds v12.1).bind fun v15 => (if v15.2.length = a1.Helds.length then ((m_laws_markIntS a1.Wounded v15.1).bind fun v18 => (if v18.2.length = a1.Wounded.length then ((m_laws_markIntS a1.Ended v18.1).bind fun v21 => (if v21.2.length = a1.Ended.length then (if v3.2.length = a1.Own.length then (if v6.2.length = a1.Frozen.length then (if v9.2.length = a1.Cells.length then (if v12.2.length = a1.Locks.length then (if v15.2.length = a1.Helds.length then (if v18.2.length = a1.Wounded.length then (if v21.2.length = a1.Ended.length then (some (v21.1, (TShard.mk a1.Me v3.2 v6.2 v9.2 v12.2 v15.2 v18.2 v21.2 a1.Rank))) else none) else none) else none) else none) else none) else none) else none) else none)) else none)) else none)) else none)) else none)) else none)) else none))
def laws_heldRangeS_j3  (t3 : Int) : Option Int :=
  (some t3)
def laws_heldRangeS_b5 (a1 : (List TRange)) (kx4 : (Int → Option Int)) (kb6 : ((Int × Int) → Option Int)) (s5 : (Int × Int)) : Option Int :=
  (if s5.2 < (a1.length : Int) then ((idx a1 s5.2).bind fun v8 => (if ¬ v8.Lo = s5.1 then (some (-1)) else ((idx a1 s5.2).bind fun v11 => (if ¬ v11.Hi = (IntKind.wrap .i64 (s5.1 + 1)) then (some (-1)) else (kb6 ((IntKind.wrap .i64 ((IntKind.wrap .i64 (s5.1 + 1)) + 1)), (IntKind.wrap .i64 (s5.2 + 1)))))))) else (kx4 s5.1))
def m_laws_heldRangeS (a1 : (List TRange)) (a2 : Int) : Option Int :=
  (iter (laws_heldRangeS_b5 a1 laws_heldRangeS_j3) FU (a2, 0))
def laws_heldCellS_j3  (t3 : Int) : Option Int :=
  (some t3)
def laws_heldCellS_b5 (a1 : (List TCell)) (kx4 : (Int → Option Int)) (kb6 : ((Int × Int) → Option Int)) (s5 : (Int × Int)) : Option Int :=
  (if s5.2 < (a1.length : Int) then ((idx a1 s5.2).bind fun v8 => (if ¬ v8.Key = s5.1 then (some (-1)) else ((idx a1 s5.2).bind fun v11 => (if ¬ v11.Value = (IntKind.wrap .i64 (s5.1 + 1)) then (some (-1)) else (kb6 ((IntKind.wrap .i64 ((IntKind.wrap .i64 (s5.1 + 1)) + 1)), (IntKind.wrap .i64 (s5.2 + 1)))))))) else (kx4 s5.1))
def m_laws_heldCellS (a1 : (List TCell)) (a2 : Int) : Option Int :=
  (iter (laws_heldCellS_b5 a1 laws_heldCellS_j3) FU (a2, 0))
def laws_heldLockS_j3  (t3 : Int) : Option Int :=
  (some t3)
def laws_heldLockS_b5 (a1 : (List TLock)) (kx4 : (Int → Option Int)) (kb6 : ((Int × Int) → Option Int)) (s5 : (Int × Int)) : Option Int :=
  (if s5.2 < (a1.length : Int) then ((idx a1 s5.2).bind fun v8 => (if ¬ v8.Tx = s5.1 then (some (-1)) else ((idx a1 s5.2).bind fun v11 => (if ¬ v11.Lo = (IntKind.wrap .i64 (s5.1 + 1)) then (some (-1)) else ((idx a1 s5.2).bind fun v14 => (if ¬ v14.Hi = (IntKind.wrap .i64 ((IntKind.wrap .i64 (s5.1 + 1)) + 1)) then (some (-1)) else ((idx a1 s5.2).bind fun v17 => (if ¬ v17.Mode = (IntKind.wrap .i64 ((IntKind.wrap .i64 ((IntKind.wrap .i64 (s5.1 + 1)) + 1)) + 1)) then (some (-1)) else (kb6 ((IntKind.wrap .i64 ((IntKind.wrap .i64 ((IntKind.wrap .i64 ((IntKind.wrap .i64 (s5.1 + 1)) + 1)) + 1)) + 1)), (IntKind.wrap .i64 (s5.2 + 1)))))))))))) else (kx4 s5.1))
def m_laws_heldLockS (a1 : (List TLock)) (a2 : Int) : Option Int :=
  (iter (laws_heldLockS_b5 a1 laws_heldLockS_j3) FU (a2, 0))
def laws_heldWriteS_j3  (t3 : Int) : Option Int :=
  (some t3)
def laws_heldWriteS_b5 (a1 : (List TCell)) (kx4 : (Int → Option Int)) (kb6 : ((Int × Int) → Option Int)) (s5 : (Int × Int)) : Option Int :=
  (if s5.2 < (a1.length : Int) then ((idx a1 s5.2).bind fun v8 => (if ¬ v8.Key = s5.1 then (some (-1)) else ((idx a1 s5.2).bind fun v11 => (if ¬ v11.Value = (IntKind.wrap .i64 (s5.1 + 1)) then (some (-1)) else (kb6 ((IntKind.wrap .i64 ((IntKind.wrap .i64 (s5.1 + 1)) + 1)), (IntKind.wrap .i64 (s5.2 + 1)))))))) else (kx4 s5.1))
def m_laws_heldWriteS (a1 : (List TCell)) (a2 : Int) : Option Int :=
  (iter (laws_heldWriteS_b5 a1 laws_heldWriteS_j3) FU (a2, 0))
def laws_heldHeldS_j3  (t3 : Int) : Option Int :=
  (some t3)
def laws_heldHeldS_b5 (a1 : (List THeld)) (kx4 : (Int → Option Int)) (kb6 : ((Int × Int) → Option Int)) (s5 : (Int × Int)) : Option Int :=
  (if s5.2 < (a1.length : Int) then ((idx a1 s5.2).bind fun v8 => (if ¬ v8.Tx = s5.1 then (some (-1)) else ((idx a1 s5.2).bind fun v11 => ((m_laws_heldWriteS v11.Writes (IntKind.wrap .i64 (s5.1 + 1))).bind fun v13 => (if v13 < 0 then (some (-1)) else (kb6 (v13, (IntKind.wrap .i64 (s5.2 + 1))))))))) else (kx4 s5.1))
def m_laws_heldHeldS (a1 : (List THeld)) (a2 : Int) : Option Int :=
  (iter (laws_heldHeldS_b5 a1 laws_heldHeldS_j3) FU (a2, 0))
def laws_heldIntS_j3  (t3 : Int) : Option Int :=
  (some t3)
def laws_heldIntS_b5 (a1 : (List Int)) (kx4 : (Int → Option Int)) (kb6 : ((Int × Int) → Option Int)) (s5 : (Int × Int)) : Option Int :=
  (if s5.2 < (a1.length : Int) then ((idx a1 s5.2).bind fun v8 => (if ¬ v8 = s5.1 then (some (-1)) else (kb6 ((IntKind.wrap .i64 (s5.1 + 1)), (IntKind.wrap .i64 (s5.2 + 1)))))) else (kx4 s5.1))
def m_laws_heldIntS (a1 : (List Int)) (a2 : Int) : Option Int :=
  (iter (laws_heldIntS_b5 a1 laws_heldIntS_j3) FU (a2, 0))
def m_laws_heldShard (a1 : TShard) (a2 : Int) : Option Int :=
  ((m_laws_heldRangeS a1.Own a2).bind fun v3 => (if v3 < 0 then (some (-1)) else ((m_laws_heldRangeS a1.Frozen v3).bind fun v6 => (if v6 < 0 then (some (-1)) else ((m_laws_heldCellS a1.Cells v6).bind fun v9 => (if v9 < 0 then (some (-1)) else ((m_laws_heldLockS a1.Locks v9).bind fun v12 => (if v12 < 0 then (some (-1)) else ((m_laws_heldHeldS a1.Helds v12).bind fun v15 => (if v15 < 0 then (some (-1)) else ((m_laws_heldIntS a1.Wounded v15).bind fun v18 => (if v18 < 0 then (some (-1)) else ((m_laws_heldIntS a1.Ended v18).bind fun v21 => (if v21 < 0 then (some (-1)) else (some v21)))))))))))))))
def laws_FnExactNewShard_j25 (v12 : TShard) (a2 : (List TRange)) (a1 : Int) (v8 : TShard) (t25 : Bool) : Option Bool :=
  (if t25 = true then (some false) else ((m_laws_markShard v12 1).bind fun v28 => (if v28.2.Own.length = v12.Own.length then (if v28.2.Frozen.length = v12.Frozen.length then (if v28.2.Cells.length = v12.Cells.length then (if v28.2.Locks.length = v12.Locks.length then (if v28.2.Helds.length = v12.Helds.length then (if v28.2.Wounded.length = v12.Wounded.length then (if v28.2.Ended.length = v12.Ended.length then ((m_laws_heldShard (TShard.mk v12.Me v28.2.Own v28.2.Frozen v28.2.Cells v28.2.Locks v28.2.Helds v28.2.Wounded v28.2.Ended v12.Rank) 1).bind fun v37 => (if v37 < 0 then (some false) else (if ¬ v37 = v28.1 then (some false) else ((m_laws_toRangeS a2).bind fun v41 => ((m_impl_NewShard a1 v41).bind fun v43 => ((m_laws_eqShard v43 v8).bind fun v45 => (if v45 = true then ((m_laws_heldShard (TShard.mk v12.Me v28.2.Own v28.2.Frozen v28.2.Cells v28.2.Locks v28.2.Helds v28.2.Wounded v28.2.Ended v12.Rank) 1).bind fun v48 => (if v48 < 0 then (some false) else (if ¬ v48 = v28.1 then (some false) else (some true)))) else (some false)))))))) else none) else none) else none) else none) else none) else none) else none)))
def m_laws_FnExactNewShard (a1 : Int) (a2 : (List TRange)) : Option Bool :=
  ((m_laws_szRangeS a2 1048576).bind fun v3 => (if v3 < 0 then (some true) else ((m_laws_toRangeS a2).bind fun v6 => ((m_spec_NewShard a1 v6).bind fun v8 => ((m_laws_toRangeS a2).bind fun v10 => ((m_impl_NewShard a1 v10).bind fun v12 => ((m_laws_eqShard v12 v8).bind fun v14 => (if v14 = true then ((m_laws_toRangeS a2).bind fun v17 => ((m_laws_eqRangeS v10 v17).bind fun v19 => (if v19 = true then ((m_laws_markRangeS v10 1).bind fun v22 => (if v22.2.length = v10.length then (if v22.1 < 0 then ((laws_FnExactNewShard_j25 v12 a2 a1 v8) true) else ((m_laws_eqShard v12 v8).bind fun v53 => ((laws_FnExactNewShard_j25 v12 a2 a1 v8) (!v53)))) else none)) else (some false)))) else (some false)))))))))
end Go.AW
