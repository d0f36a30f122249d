/- Plain functions that say what functions of the program compute: printed by a program of the prover's own (tool/dec.py). Conditions: none. -/
import Derived.Test.YtkdaohfkphodeaaYb
set_option linter.unusedVariables false
set_option maxRecDepth 100000
namespace Go.AW

structure TDeed where
  Kind : Int
  At : Int
  To : Int
  Lo : Int
  Hi : Int
  Key : Int
  Value : Int
deriving DecidableEq

def ok_TDeed (x : TDeed) : Prop := inK .i64 x.Kind ∧ inK .i64 x.At ∧ inK .i64 x.To ∧ inK .i64 x.Lo ∧ inK .i64 x.Hi ∧ inK .i64 x.Key ∧ inK .i64 x.Value

abbrev d_TDeed (x : TDeed) : List D := [(.int .i64 x.Kind), (.int .i64 x.At), (.int .i64 x.To), (.int .i64 x.Lo), (.int .i64 x.Hi), (.int .i64 x.Key), (.int .i64 x.Value)]

structure TRange where
  Lo : Int
  Hi : Int
deriving DecidableEq

def ok_TRange (x : TRange) : Prop := inK .i64 x.Lo ∧ inK .i64 x.Hi

abbrev d_TRange (x : TRange) : List D := [(.int .i64 x.Lo), (.int .i64 x.Hi)]

abbrev d_i64 (x : Int) : List D := [(.int .i64 x)]

def m_laws_toDeed (a1 : TDeed) : Option TDeed :=
  (some a1)

def m_spec_l1In (a1 : Int) (a2 : Int) (a3 : Int) : Option Bool :=
  (if a2 ≤ a1 then (some (decide (a1 ≤ a3))) else (some false))

def m_spec_RangeOk (a1 : TRange) : Option Bool :=
  (if 0 ≤ a1.Lo then (if a1.Lo < a1.Hi then (some (decide (a1.Hi ≤ 1000))) else (some false)) else (some false))

def m_spec_l16RangeOk (a1 : Int) (a2 : Int) : Option Bool :=
  ((m_spec_RangeOk (TRange.mk a1 a2)).bind fun v3 => (some v3))

def m_spec_l10Key (a1 : Int) : Option Bool :=
  ((m_spec_l1In a1 0 999).bind fun v2 => (some v2))

def m_spec_l12Tx (a1 : Int) : Option Bool :=
  ((m_spec_l1In a1 1 60).bind fun v2 => (some v2))

def m_spec_l15Group (a1 : Int) : Option Bool :=
  ((m_spec_l1In a1 0 3).bind fun v2 => (some v2))

def spec_DeedOk_j32 (a1 : TDeed) (t32 : Bool) : Option Bool :=
  (if t32 = true then ((m_spec_l12Tx a1.At).bind fun v35 => (if v35 = true then (some (decide (a1.Kind = a1.Kind) && (decide (a1.At = a1.At) && (decide (a1.To = 0) && (decide (a1.Lo = 0) && (decide (a1.Hi = 0) && (decide (a1.Key = 0) && (decide (a1.Value = 0) && true)))))))) else (some false))) else (if a1.Kind = 13 then ((m_spec_l10Key a1.Key).bind fun v39 => (if v39 = true then (some (decide (a1.Kind = a1.Kind) && (decide (a1.At = 0) && (decide (a1.To = 0) && (decide (a1.Lo = 0) && (decide (a1.Hi = 0) && (decide (a1.Key = a1.Key) && (decide (a1.Value = 0) && true)))))))) else (some false))) else (if a1.Kind = 14 then ((m_spec_l10Key a1.Key).bind fun v43 => (if v43 = true then ((m_spec_l15Group a1.To).bind fun v46 => (if v46 = true then (some (decide (a1.Kind = a1.Kind) && (decide (a1.At = 0) && (decide (a1.To = a1.To) && (decide (a1.Lo = 0) && (decide (a1.Hi = 0) && (decide (a1.Key = a1.Key) && (decide (a1.Value = 0) && true)))))))) else (some false))) else (some false))) else (if a1.Kind = 15 then (some (decide (a1.Kind = a1.Kind) && (decide (a1.At = 0) && (decide (a1.To = 0) && (decide (a1.Lo = 0) && (decide (a1.Hi = 0) && (decide (a1.Key = 0) && (decide (a1.Value = 0) && true)))))))) else (some false)))))

def spec_DeedOk_j23 (v4 : Bool) (a1 : TDeed) (t23 : Bool) : Option Bool :=
  (if t23 = true then (if v4 = true then (some (decide (a1.Kind = a1.Kind) && (decide (a1.At = a1.At) && (decide (a1.To = 0) && (decide (a1.Lo = 0) && (decide (a1.Hi = 0) && (decide (a1.Key = 0) && (decide (a1.Value = 0) && true)))))))) else (some false)) else (if a1.Kind = 10 then (if v4 = true then ((m_spec_l1In a1.To 0 59).bind fun v29 => (if v29 = true then (some (decide (a1.Kind = a1.Kind) && (decide (a1.At = a1.At) && (decide (a1.To = a1.To) && (decide (a1.Lo = 0) && (decide (a1.Hi = 0) && (decide (a1.Key = 0) && (decide (a1.Value = 0) && true)))))))) else (some false))) else (some false)) else (if a1.Kind = 11 then ((spec_DeedOk_j32 a1) (decide (a1.Kind = 11))) else ((spec_DeedOk_j32 a1) (decide (a1.Kind = 12))))))

def spec_DeedOk_j6 (v2 : Bool) (a1 : TDeed) (v4 : Bool) (t6 : Bool) : Option Bool :=
  (if t6 = true then (if v2 = true then (some (decide (a1.Kind = a1.Kind) && (decide (a1.At = a1.At) && (decide (a1.To = 0) && (decide (a1.Lo = 0) && (decide (a1.Hi = 0) && (decide (a1.Key = 0) && (decide (a1.Value = 0) && true)))))))) else (some false)) else (if a1.Kind = 2 then (if v2 = true then ((m_spec_l16RangeOk a1.Lo a1.Hi).bind fun v12 => (if v12 = true then (some (decide (a1.Kind = a1.Kind) && (decide (a1.At = a1.At) && (decide (a1.To = 0) && (decide (a1.Lo = a1.Lo) && (decide (a1.Hi = a1.Hi) && (decide (a1.Key = 0) && (decide (a1.Value = 0) && true)))))))) else (some false))) else (some false)) else (if a1.Kind = 3 then (if v2 = true then ((m_spec_l10Key a1.Key).bind fun v17 => (if v17 = true then ((m_spec_l1In a1.Value (-1) 1000000000).bind fun v20 => (if v20 = true then (some (decide (a1.Kind = a1.Kind) && (decide (a1.At = a1.At) && (decide (a1.To = 0) && (decide (a1.Lo = 0) && (decide (a1.Hi = 0) && (decide (a1.Key = a1.Key) && (decide (a1.Value = a1.Value) && true)))))))) else (some false))) else (some false))) else (some false)) else (if a1.Kind = 7 then ((spec_DeedOk_j23 v4 a1) (decide (a1.Kind = 7))) else (if a1.Kind = 8 then ((spec_DeedOk_j23 v4 a1) (decide (a1.Kind = 8))) else ((spec_DeedOk_j23 v4 a1) (decide (a1.Kind = 9))))))))

def m_spec_DeedOk (a1 : TDeed) : Option Bool :=
  ((m_spec_l1In a1.At 0 5).bind fun v2 => ((m_spec_l1In a1.At 0 59).bind fun v4 => (if a1.Kind = 1 then ((spec_DeedOk_j6 v2 a1 v4) (decide (a1.Kind = 1))) else (if a1.Kind = 4 then ((spec_DeedOk_j6 v2 a1 v4) (decide (a1.Kind = 4))) else (if a1.Kind = 5 then ((spec_DeedOk_j6 v2 a1 v4) (decide (a1.Kind = 5))) else ((spec_DeedOk_j6 v2 a1 v4) (decide (a1.Kind = 6))))))))

def m_impl_from (a1 : Int) (a2 : Int) (a3 : Int) : Option Bool :=
  (if a2 ≤ a1 then (some (decide (a1 ≤ a3))) else (some false))

def m_impl_RangeOk (a1 : TRange) : Option Bool :=
  (if 0 ≤ a1.Lo then (if a1.Lo < a1.Hi then (some (decide (a1.Hi ≤ 1000))) else (some false)) else (some false))

def m_impl_isKey (a1 : Int) : Option Bool :=
  ((m_impl_from a1 0 999).bind fun v2 => (some v2))

def m_impl_isAnswer (a1 : Int) : Option Bool :=
  ((m_impl_from a1 (-1) 1000000000).bind fun v2 => (some v2))

def m_impl_isTx (a1 : Int) : Option Bool :=
  ((m_impl_from a1 1 60).bind fun v2 => (some v2))

def m_impl_isGroup (a1 : Int) : Option Bool :=
  ((m_impl_from a1 0 3).bind fun v2 => (some v2))

def impl_DeedOk_j2  (t2 : (Bool × Int × Int × Int × Int × Int × Int)) : Option Bool :=
  (if t2.1 = true then (some (decide (0 = 0) && (decide (t2.2.1 = 0) && (decide (t2.2.2.1 = 0) && (decide (t2.2.2.2.1 = 0) && (decide (t2.2.2.2.2.1 = 0) && (decide (t2.2.2.2.2.2.1 = 0) && (decide (t2.2.2.2.2.2.2 = 0) && true)))))))) else (some false))

def impl_DeedOk_j11 (kx3 : ((Bool × Int × Int × Int × Int × Int × Int) → Option Bool)) (a1 : TDeed) (t11 : Bool) : Option Bool :=
  (kx3 (t11, 0, a1.To, 0, 0, a1.Key, a1.Value))

def impl_DeedOk_j19 (kx3 : ((Bool × Int × Int × Int × Int × Int × Int) → Option Bool)) (a1 : TDeed) (t19 : Bool) : Option Bool :=
  (kx3 (t19, 0, a1.To, a1.Lo, a1.Hi, 0, 0))

def impl_DeedOk_j35 (kx3 : ((Bool × Int × Int × Int × Int × Int × Int) → Option Bool)) (a1 : TDeed) (t35 : Bool) : Option Bool :=
  (kx3 (t35, 0, 0, a1.Lo, a1.Hi, a1.Key, a1.Value))

def impl_DeedOk_j51 (kx3 : ((Bool × Int × Int × Int × Int × Int × Int) → Option Bool)) (a1 : TDeed) (t51 : Bool) : Option Bool :=
  (kx3 (t51, a1.At, 0, a1.Lo, a1.Hi, 0, a1.Value))

def impl_DeedOk_j42 (a1 : TDeed) (kx3 : ((Bool × Int × Int × Int × Int × Int × Int) → Option Bool)) (t42 : Bool) : Option Bool :=
  (if t42 = true then ((m_impl_isTx a1.At).bind fun v45 => (kx3 (v45, 0, a1.To, a1.Lo, a1.Hi, a1.Key, a1.Value))) else (if a1.Kind = 13 then ((m_impl_isKey a1.Key).bind fun v48 => (kx3 (v48, a1.At, a1.To, a1.Lo, a1.Hi, 0, a1.Value))) else (if a1.Kind = 14 then ((m_impl_isKey a1.Key).bind fun v53 => (if v53 = true then ((m_impl_isGroup a1.To).bind fun v56 => ((impl_DeedOk_j51 kx3 a1) v56)) else ((impl_DeedOk_j51 kx3 a1) false))) else (if a1.Kind = 15 then (kx3 (true, a1.At, a1.To, a1.Lo, a1.Hi, a1.Key, a1.Value)) else (kx3 (false, a1.At, a1.To, a1.Lo, a1.Hi, a1.Key, a1.Value))))))

def impl_DeedOk_j29 (a1 : TDeed) (kx3 : ((Bool × Int × Int × Int × Int × Int × Int) → Option Bool)) (t29 : Bool) : Option Bool :=
  (if t29 = true then ((m_impl_from a1.At 0 59).bind fun v32 => (kx3 (v32, 0, a1.To, a1.Lo, a1.Hi, a1.Key, a1.Value))) else (if a1.Kind = 10 then ((m_impl_from a1.At 0 59).bind fun v37 => (if v37 = true then ((m_impl_from a1.To 0 59).bind fun v40 => ((impl_DeedOk_j35 kx3 a1) v40)) else ((impl_DeedOk_j35 kx3 a1) false))) else (if a1.Kind = 11 then ((impl_DeedOk_j42 a1 kx3) (decide (a1.Kind = 11))) else ((impl_DeedOk_j42 a1 kx3) (decide (a1.Kind = 12))))))

def impl_DeedOk_j5 (a1 : TDeed) (kx3 : ((Bool × Int × Int × Int × Int × Int × Int) → Option Bool)) (t5 : Bool) : Option Bool :=
  (if t5 = true then ((m_impl_from a1.At 0 5).bind fun v8 => (kx3 (v8, 0, a1.To, a1.Lo, a1.Hi, a1.Key, a1.Value))) else (if a1.Kind = 2 then ((m_impl_from a1.At 0 5).bind fun v13 => (if v13 = true then ((m_impl_RangeOk (TRange.mk a1.Lo a1.Hi)).bind fun v16 => ((impl_DeedOk_j11 kx3 a1) v16)) else ((impl_DeedOk_j11 kx3 a1) false))) else (if a1.Kind = 3 then ((m_impl_from a1.At 0 5).bind fun v21 => (if v21 = true then ((m_impl_isKey a1.Key).bind fun v24 => (if v24 = true then ((m_impl_isAnswer a1.Value).bind fun v27 => ((impl_DeedOk_j19 kx3 a1) v27)) else ((impl_DeedOk_j19 kx3 a1) false))) else ((impl_DeedOk_j19 kx3 a1) false))) else (if a1.Kind = 7 then ((impl_DeedOk_j29 a1 kx3) (decide (a1.Kind = 7))) else (if a1.Kind = 8 then ((impl_DeedOk_j29 a1 kx3) (decide (a1.Kind = 8))) else ((impl_DeedOk_j29 a1 kx3) (decide (a1.Kind = 9))))))))

def m_impl_DeedOk (a1 : TDeed) : Option Bool :=
  (if a1.Kind = 1 then ((impl_DeedOk_j5 a1 impl_DeedOk_j2) (decide (a1.Kind = 1))) else (if a1.Kind = 4 then ((impl_DeedOk_j5 a1 impl_DeedOk_j2) (decide (a1.Kind = 4))) else (if a1.Kind = 5 then ((impl_DeedOk_j5 a1 impl_DeedOk_j2) (decide (a1.Kind = 5))) else ((impl_DeedOk_j5 a1 impl_DeedOk_j2) (decide (a1.Kind = 6))))))

def m_laws_FnExactDeedOk (a1 : TDeed) : Option Bool :=
  ((m_laws_toDeed a1).bind fun v2 => ((m_spec_DeedOk v2).bind fun v4 => ((m_laws_toDeed a1).bind fun v6 => ((m_impl_DeedOk v6).bind fun v8 => (if (v8 != v4) = true then (some false) else (some true))))))

end Go.AW
