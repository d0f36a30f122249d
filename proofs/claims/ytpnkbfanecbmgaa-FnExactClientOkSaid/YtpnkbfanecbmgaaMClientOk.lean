/- Plain functions that say what functions of the program compute: printed by a program of the prover's own (tool/dec.py). Conditions: none. -/
import Derived.Test.YtpnkbfanecbmgaaYb
set_option linter.unusedVariables false
set_option maxRecDepth 100000
namespace Go.AW

structure TCell where
  Key : Int
  Value : Int
deriving DecidableEq

def ok_TCell (x : TCell) : Prop := inK .i64 x.Key ∧ inK .i64 x.Value

structure TSeen where
  Group : Int
  Lo : Int
  Hi : Int
deriving DecidableEq

def ok_TSeen (x : TSeen) : Prop := inK .i64 x.Group ∧ inK .i64 x.Lo ∧ inK .i64 x.Hi

structure TPart where
  Lo : Int
  Hi : Int
  Owner : Int
deriving DecidableEq

def ok_TPart (x : TPart) : Prop := inK .i64 x.Lo ∧ inK .i64 x.Hi ∧ inK .i64 x.Owner

structure TClient where
  Stage : Int
  Tx : Int
  Req : Int
  Buf : (List TCell)
  Seen : (List TSeen)
  Lo : Int
  Hi : Int
  To : Int
  Parts : (List TPart)
deriving DecidableEq

def ok_TClient (x : TClient) : Prop := inK .i64 x.Stage ∧ inK .i64 x.Tx ∧ inK .i64 x.Req ∧ okS ok_TCell x.Buf ∧ okS ok_TSeen x.Seen ∧ inK .i64 x.Lo ∧ inK .i64 x.Hi ∧ inK .i64 x.To ∧ okS ok_TPart x.Parts

abbrev d_TCell (x : TCell) : List D := [(.int .i64 x.Key), (.int .i64 x.Value)]

abbrev d_TSeen (x : TSeen) : List D := [(.int .i64 x.Group), (.int .i64 x.Lo), (.int .i64 x.Hi)]

abbrev d_TPart (x : TPart) : List D := [(.int .i64 x.Lo), (.int .i64 x.Hi), (.int .i64 x.Owner)]

abbrev d_TClient (x : TClient) : List D := [(.int .i64 x.Stage), (.int .i64 x.Tx), (.int .i64 x.Req), (.sl 2 (List.map d_TCell x.Buf)), (.sl 3 (List.map d_TSeen x.Seen)), (.int .i64 x.Lo), (.int .i64 x.Hi), (.int .i64 x.To), (.sl 3 (List.map d_TPart x.Parts))]

structure TRange where
  Lo : Int
  Hi : Int
deriving DecidableEq

def ok_TRange (x : TRange) : Prop := inK .i64 x.Lo ∧ inK .i64 x.Hi

abbrev d_TRange (x : TRange) : List D := [(.int .i64 x.Lo), (.int .i64 x.Hi)]

abbrev d_i64 (x : Int) : List D := [(.int .i64 x)]

abbrev dS_TPart (x : (List TPart)) : List D := [(.sl 3 (List.map d_TPart x))]

abbrev dS_TSeen (x : (List TSeen)) : List D := [(.sl 3 (List.map d_TSeen x))]

abbrev dS_TCell (x : (List TCell)) : List D := [(.sl 2 (List.map d_TCell x))]

def m_laws_szWriteS (a1 : (List TCell)) (a2 : Int) : Option Int :=
  (if (IntKind.wrap .i64 (a2 - (a1.length : Int))) < 0 then (some (-1)) else (some (IntKind.wrap .i64 (a2 - (a1.length : Int)))))

def m_laws_szSeenS (a1 : (List TSeen)) (a2 : Int) : Option Int :=
  (if (IntKind.wrap .i64 (a2 - (a1.length : Int))) < 0 then (some (-1)) else (some (IntKind.wrap .i64 (a2 - (a1.length : Int)))))

def m_laws_szPartS (a1 : (List TPart)) (a2 : Int) : Option Int :=
  (if (IntKind.wrap .i64 (a2 - (a1.length : Int))) < 0 then (some (-1)) else (some (IntKind.wrap .i64 (a2 - (a1.length : Int)))))

def m_laws_szClient (a1 : TClient) (a2 : Int) : Option Int :=
  ((m_laws_szWriteS a1.Buf a2).bind fun v3 => (if v3 < 0 then (some (-1)) else ((m_laws_szSeenS a1.Seen v3).bind fun v6 => (if v6 < 0 then (some (-1)) else ((m_laws_szPartS a1.Parts v6).bind fun v9 => (if v9 < 0 then (some (-1)) else (some v9)))))))

def m_laws_toWrite (a1 : TCell) : Option TCell :=
  (some a1)

def laws_toWriteS_j3  (t3 : (List TCell)) : Option (List TCell) :=
  (some t3)

def laws_toWriteS_b5 (a1 : (List TCell)) (kx4 : ((List TCell) → Option (List TCell))) (kb6 : (((List TCell) × Int) → Option (List TCell))) (s5 : ((List TCell) × Int)) : Option (List TCell) :=
  (if s5.2 < (a1.length : Int) then ((idx a1 s5.2).bind fun v8 => ((m_laws_toWrite v8).bind fun v10 => ((idx s5.1 s5.2).bind fun v12 => (kb6 (s5.1.set (Int.toNat s5.2) v10, (IntKind.wrap .i64 (s5.2 + 1))))))) else (kx4 s5.1))

def m_laws_toWriteS (a1 : (List TCell)) : Option (List TCell) :=
  (if 0 ≤ (a1.length : Int) ∧ (a1.length : Int) ≤ 2147483648 then (iter (laws_toWriteS_b5 a1 laws_toWriteS_j3) FU ((List.replicate (Int.toNat (a1.length : Int)) (TCell.mk 0 0)), 0)) else none)

def m_laws_toSeen (a1 : TSeen) : Option TSeen :=
  (some a1)

def laws_toSeenS_j3  (t3 : (List TSeen)) : Option (List TSeen) :=
  (some t3)

def laws_toSeenS_b5 (a1 : (List TSeen)) (kx4 : ((List TSeen) → Option (List TSeen))) (kb6 : (((List TSeen) × Int) → Option (List TSeen))) (s5 : ((List TSeen) × Int)) : Option (List TSeen) :=
  (if s5.2 < (a1.length : Int) then ((idx a1 s5.2).bind fun v8 => ((m_laws_toSeen v8).bind fun v10 => ((idx s5.1 s5.2).bind fun v12 => (kb6 (s5.1.set (Int.toNat s5.2) v10, (IntKind.wrap .i64 (s5.2 + 1))))))) else (kx4 s5.1))

def m_laws_toSeenS (a1 : (List TSeen)) : Option (List TSeen) :=
  (if 0 ≤ (a1.length : Int) ∧ (a1.length : Int) ≤ 2147483648 then (iter (laws_toSeenS_b5 a1 laws_toSeenS_j3) FU ((List.replicate (Int.toNat (a1.length : Int)) (TSeen.mk 0 0 0)), 0)) else none)

def m_laws_toPart (a1 : TPart) : Option TPart :=
  (some a1)

def laws_toPartS_j3  (t3 : (List TPart)) : Option (List TPart) :=
  (some t3)

def laws_toPartS_b5 (a1 : (List TPart)) (kx4 : ((List TPart) → Option (List TPart))) (kb6 : (((List TPart) × Int) → Option (List TPart))) (s5 : ((List TPart) × Int)) : Option (List TPart) :=
  (if s5.2 < (a1.length : Int) then ((idx a1 s5.2).bind fun v8 => ((m_laws_toPart v8).bind fun v10 => ((idx s5.1 s5.2).bind fun v12 => (kb6 (s5.1.set (Int.toNat s5.2) v10, (IntKind.wrap .i64 (s5.2 + 1))))))) else (kx4 s5.1))

def m_laws_toPartS (a1 : (List TPart)) : Option (List TPart) :=
  (if 0 ≤ (a1.length : Int) ∧ (a1.length : Int) ≤ 2147483648 then (iter (laws_toPartS_b5 a1 laws_toPartS_j3) FU ((List.replicate (Int.toNat (a1.length : Int)) (TPart.mk 0 0 0)), 0)) else none)

def m_laws_toClient (a1 : TClient) : Option TClient :=
  ((m_laws_toWriteS a1.Buf).bind fun v2 => ((m_laws_toSeenS a1.Seen).bind fun v4 => ((m_laws_toPartS a1.Parts).bind fun v6 => (some (TClient.mk a1.Stage a1.Tx a1.Req v2 v4 a1.Lo a1.Hi a1.To v6)))))

def m_spec_l1In (a1 : Int) (a2 : Int) (a3 : Int) : Option Bool :=
  (if a2 ≤ a1 then (some (decide (a1 ≤ a3))) else (some false))

def m_spec_l1Whole (a1 : Int) : Option Bool :=
  ((m_spec_l1In a1 0 1000000000).bind fun v2 => (some v2))

def m_spec_RangeOk (a1 : TRange) : Option Bool :=
  (if 0 ≤ a1.Lo then (if a1.Lo < a1.Hi then (some (decide (a1.Hi ≤ 1000))) else (some false)) else (some false))

def m_spec_l16RangeOk (a1 : Int) (a2 : Int) : Option Bool :=
  ((m_spec_RangeOk (TRange.mk a1 a2)).bind fun v3 => (some v3))

def m_spec_l15Group (a1 : Int) : Option Bool :=
  ((m_spec_l1In a1 0 3).bind fun v2 => (some v2))

def m_spec_l12Tx (a1 : Int) : Option Bool :=
  ((m_spec_l1In a1 1 60).bind fun v2 => (some v2))

def m_spec_l10Key (a1 : Int) : Option Bool :=
  ((m_spec_l1In a1 0 999).bind fun v2 => (some v2))

def spec_WritesOk_j3  (t3 : Unit) : Option Bool :=
  (some true)

def spec_WritesOk_j8 (kb6 : (Int → Option Bool)) (s5 : Int) (t8 : Bool) : Option Bool :=
  (if t8 = true then (some false) else (kb6 (IntKind.wrap .i64 (s5 + 1))))

def spec_WritesOk_b5 (a1 : (List TCell)) (kx4 : (Unit → Option Bool)) (kb6 : (Int → Option Bool)) (s5 : Int) : Option Bool :=
  (if s5 < (a1.length : Int) then ((idx a1 s5).bind fun v11 => ((m_spec_l10Key v11.Key).bind fun v13 => (if v13 = true then ((idx a1 s5).bind fun v16 => ((m_spec_l1In v16.Value (-1) 1000000000).bind fun v18 => (if v18 = true then (if 0 < s5 then ((idx a1 (IntKind.wrap .i64 (s5 - 1))).bind fun v22 => ((idx a1 s5).bind fun v24 => ((spec_WritesOk_j8 kb6 s5) (decide (v24.Key ≤ v22.Key))))) else ((spec_WritesOk_j8 kb6 s5) false)) else ((spec_WritesOk_j8 kb6 s5) true)))) else ((spec_WritesOk_j8 kb6 s5) true)))) else (kx4 ()))

def m_spec_WritesOk (a1 : (List TCell)) : Option Bool :=
  (if 60 < (a1.length : Int) then (some false) else (iter (spec_WritesOk_b5 a1 spec_WritesOk_j3) FU 0))

def spec_l16SeenOk_j3  (t3 : Unit) : Option Bool :=
  (some true)

def spec_l16SeenOk_j8 (kb6 : (Int → Option Bool)) (s5 : Int) (t8 : Bool) : Option Bool :=
  (if t8 = true then (some false) else (kb6 (IntKind.wrap .i64 (s5 + 1))))

def spec_l16SeenOk_b5 (a1 : (List TSeen)) (kx4 : (Unit → Option Bool)) (kb6 : (Int → Option Bool)) (s5 : Int) : Option Bool :=
  (if s5 < (a1.length : Int) then ((idx a1 s5).bind fun v11 => ((m_spec_l15Group v11.Group).bind fun v13 => (if v13 = true then ((idx a1 s5).bind fun v16 => ((idx a1 s5).bind fun v18 => ((m_spec_l16RangeOk v16.Lo v18.Hi).bind fun v20 => ((spec_l16SeenOk_j8 kb6 s5) (!v20))))) else ((spec_l16SeenOk_j8 kb6 s5) true)))) else (kx4 ()))

def m_spec_l16SeenOk (a1 : (List TSeen)) : Option Bool :=
  (if 16 < (a1.length : Int) then (some false) else (iter (spec_l16SeenOk_b5 a1 spec_l16SeenOk_j3) FU 0))

def spec_PartsOk_j5  (t5 : Unit) : Option Bool :=
  (some true)

def spec_PartsOk_j12 (kb8 : (Int → Option Bool)) (s7 : Int) (t12 : Bool) : Option Bool :=
  (if t12 = true then (some false) else (kb8 (IntKind.wrap .i64 (s7 + 1))))

def spec_PartsOk_b7 (a1 : (List TPart)) (kx6 : (Unit → Option Bool)) (kb8 : (Int → Option Bool)) (s7 : Int) : Option Bool :=
  (if s7 < (a1.length : Int) then ((idx a1 s7).bind fun v10 => (if v10.Hi ≤ v10.Lo then ((spec_PartsOk_j12 kb8 s7) true) else (if v10.Lo < 0 then ((spec_PartsOk_j12 kb8 s7) true) else (if 1000 < v10.Hi then ((spec_PartsOk_j12 kb8 s7) true) else ((m_spec_l1In v10.Owner 0 3).bind fun v18 => (if v18 = true then (if 0 < s7 then ((idx a1 (IntKind.wrap .i64 (s7 - 1))).bind fun v22 => ((spec_PartsOk_j12 kb8 s7) (decide (¬ v22.Hi = v10.Lo)))) else ((spec_PartsOk_j12 kb8 s7) false)) else ((spec_PartsOk_j12 kb8 s7) true))))))) else (kx6 ()))

def spec_PartsOk_j2 (a1 : (List TPart)) (t2 : Bool) : Option Bool :=
  (if t2 = true then (some false) else (iter (spec_PartsOk_b7 a1 spec_PartsOk_j5) FU 0))

def m_spec_PartsOk (a1 : (List TPart)) : Option Bool :=
  ((m_spec_l1In (a1.length : Int) 1 16).bind fun v24 => (if v24 = true then ((idx a1 0).bind fun v27 => (if ¬ v27.Lo = 0 then ((spec_PartsOk_j2 a1) true) else ((idx a1 (IntKind.wrap .i64 ((a1.length : Int) - 1))).bind fun v30 => ((spec_PartsOk_j2 a1) (decide (¬ v30.Hi = 1000)))))) else ((spec_PartsOk_j2 a1) true)))

def spec_ClientOk_j12 (a1 : TClient) (t12 : Bool) : Option Bool :=
  (if t12 = true then ((m_spec_l12Tx a1.Tx).bind fun v15 => (if v15 = true then ((m_spec_WritesOk a1.Buf).bind fun v18 => (if v18 = true then ((m_spec_l16SeenOk a1.Seen).bind fun v21 => (if v21 = true then ((m_spec_PartsOk a1.Parts).bind fun v24 => (some v24)) else (some false))) else (some false))) else (some false))) else (some false))

def spec_ClientOk_j5 (a1 : TClient) (t5 : Bool) : Option Bool :=
  (if a1.Stage < 2 then (if t5 = true then (if a1.Tx = 0 then (if (a1.Buf.length : Int) = 0 then (if (a1.Seen.length : Int) = 0 then (some (decide ((a1.Parts.length : Int) = 0))) else (some false)) else (some false)) else (some false)) else (some false)) else (if a1.Stage = 3 then ((m_spec_l16RangeOk a1.Lo a1.Hi).bind fun v27 => (if v27 = true then ((m_spec_l15Group a1.To).bind fun v30 => ((spec_ClientOk_j12 a1) v30)) else ((spec_ClientOk_j12 a1) false))) else ((spec_ClientOk_j12 a1) t5)))

def spec_ClientOk_j2 (a1 : TClient) (t2 : Bool) : Option Bool :=
  (if t2 = true then (some false) else (if a1.Lo = 0 then (if a1.Hi = 0 then ((spec_ClientOk_j5 a1) (decide (a1.To = 0))) else ((spec_ClientOk_j5 a1) false)) else ((spec_ClientOk_j5 a1) false)))

def m_spec_ClientOk (a1 : TClient) : Option Bool :=
  ((m_spec_l1In a1.Stage 0 5).bind fun v34 => (if v34 = true then ((m_spec_l1Whole a1.Req).bind fun v37 => (if v37 = true then (if ¬ a1.Stage = 0 then ((spec_ClientOk_j2 a1) (decide (a1.Req = 0))) else ((spec_ClientOk_j2 a1) false)) else ((spec_ClientOk_j2 a1) true))) else ((spec_ClientOk_j2 a1) true)))

def m_impl_from (a1 : Int) (a2 : Int) (a3 : Int) : Option Bool :=
  (if a2 ≤ a1 then (some (decide (a1 ≤ a3))) else (some false))

def m_impl_isWhole (a1 : Int) : Option Bool :=
  ((m_impl_from a1 0 1000000000).bind fun v2 => (some v2))

def m_impl_RangeOk (a1 : TRange) : Option Bool :=
  (if 0 ≤ a1.Lo then (if a1.Lo < a1.Hi then (some (decide (a1.Hi ≤ 1000))) else (some false)) else (some false))

def m_impl_isGroup (a1 : Int) : Option Bool :=
  ((m_impl_from a1 0 3).bind fun v2 => (some v2))

def m_impl_isTx (a1 : Int) : Option Bool :=
  ((m_impl_from a1 1 60).bind fun v2 => (some v2))

def m_impl_isKey (a1 : Int) : Option Bool :=
  ((m_impl_from a1 0 999).bind fun v2 => (some v2))

def m_impl_isAnswer (a1 : Int) : Option Bool :=
  ((m_impl_from a1 (-1) 1000000000).bind fun v2 => (some v2))

def impl_WritesOk_j2 (a1 : (List TCell)) (t2 : Unit) : Option Bool :=
  (some (decide ((a1.length : Int) ≤ 60)))

def impl_WritesOk_j9 (kb5 : (Int → Option Bool)) (s4 : Int) (t9 : Bool) : Option Bool :=
  (if t9 = true then (some false) else (kb5 (IntKind.wrap .i64 (s4 + 1))))

def impl_WritesOk_b4 (a1 : (List TCell)) (kx3 : (Unit → Option Bool)) (kb5 : (Int → Option Bool)) (s4 : Int) : Option Bool :=
  (if s4 < (a1.length : Int) then ((idx a1 s4).bind fun v7 => ((m_impl_isKey v7.Key).bind fun v12 => (if v12 = true then ((m_impl_isAnswer v7.Value).bind fun v15 => (if v15 = true then (if 0 < s4 then ((idx a1 (IntKind.wrap .i64 (s4 - 1))).bind fun v19 => ((impl_WritesOk_j9 kb5 s4) (decide (v7.Key ≤ v19.Key)))) else ((impl_WritesOk_j9 kb5 s4) false)) else ((impl_WritesOk_j9 kb5 s4) true))) else ((impl_WritesOk_j9 kb5 s4) true)))) else (kx3 ()))

def m_impl_WritesOk (a1 : (List TCell)) : Option Bool :=
  (iter (impl_WritesOk_b4 a1 (impl_WritesOk_j2 a1)) FU 0)

def impl_PartsOk_j2 (a1 : (List TPart)) (t2 : Int) : Option Bool :=
  ((m_impl_from (a1.length : Int) 1 16).bind fun v4 => (if v4 = true then (some (decide (t2 = 1000))) else (some false)))

def impl_PartsOk_j12 (kb8 : ((Int × Int) → Option Bool)) (v10 : TPart) (s7 : (Int × Int)) (t12 : Bool) : Option Bool :=
  (if t12 = true then (some false) else (kb8 (v10.Hi, (IntKind.wrap .i64 (s7.2 + 1)))))

def impl_PartsOk_b7 (a1 : (List TPart)) (kx3 : (Int → Option Bool)) (kb8 : ((Int × Int) → Option Bool)) (s7 : (Int × Int)) : Option Bool :=
  (if s7.2 < (a1.length : Int) then ((idx a1 s7.2).bind fun v10 => (if ¬ v10.Lo = s7.1 then ((impl_PartsOk_j12 kb8 v10 s7) true) else (if v10.Hi ≤ v10.Lo then ((impl_PartsOk_j12 kb8 v10 s7) true) else ((m_impl_isGroup v10.Owner).bind fun v17 => ((impl_PartsOk_j12 kb8 v10 s7) (!v17)))))) else (kx3 s7.1))

def m_impl_PartsOk (a1 : (List TPart)) : Option Bool :=
  (iter (impl_PartsOk_b7 a1 (impl_PartsOk_j2 a1)) FU (0, 0))

def m_impl_Seen_keys (a1 : TSeen) : Option TRange :=
  (some (TRange.mk a1.Lo a1.Hi))

def m_impl_ClientOk_1 (a1 : TSeen) : Option Bool :=
  ((m_impl_isGroup a1.Group).bind fun v2 => (if v2 = true then ((m_impl_Seen_keys a1).bind fun v5 => ((m_impl_RangeOk v5).bind fun v7 => (some (!v7)))) else (some true)))

def slices_IndexFunc_Seen__ClientOk_1_j2  (t2 : Unit) : Option Int :=
  (some (-1))

def slices_IndexFunc_Seen__ClientOk_1_b4 (a1 : (List TSeen)) (kx3 : (Unit → Option Int)) (kb5 : (Int → Option Int)) (s4 : Int) : Option Int :=
  (if s4 < (a1.length : Int) then ((idx a1 s4).bind fun v7 => ((m_impl_ClientOk_1 v7).bind fun v9 => (if v9 = true then (some s4) else (kb5 (IntKind.wrap .i64 (s4 + 1)))))) else (kx3 ()))

def m_slices_IndexFunc_Seen__ClientOk_1 (a1 : (List TSeen)) : Option Int :=
  (iter (slices_IndexFunc_Seen__ClientOk_1_b4 a1 slices_IndexFunc_Seen__ClientOk_1_j2) FU 0)

def m_slices_ContainsFunc_Seen__ClientOk_1 (a1 : (List TSeen)) : Option Bool :=
  ((m_slices_IndexFunc_Seen__ClientOk_1 a1).bind fun v2 => (some (decide (0 ≤ v2))))

def impl_ClientOk_j12 (a1 : TClient) (t12 : Bool) : Option Bool :=
  (if t12 = true then ((m_impl_isTx a1.Tx).bind fun v15 => (if v15 = true then ((m_impl_WritesOk a1.Buf).bind fun v18 => (if v18 = true then (if (a1.Seen.length : Int) ≤ 16 then ((m_impl_PartsOk a1.Parts).bind fun v22 => (if v22 = true then ((m_slices_ContainsFunc_Seen__ClientOk_1 a1.Seen).bind fun v25 => (some (!v25))) else (some false))) else (some false)) else (some false))) else (some false))) else (some false))

def impl_ClientOk_j7 (t5 : Bool) (a1 : TClient) (t7 : Bool) : Option Bool :=
  (if t7 = true then (if t5 = true then (if a1.Tx = 0 then (some (decide ((IntKind.wrap .i64 ((IntKind.wrap .i64 ((a1.Buf.length : Int) + (a1.Seen.length : Int))) + (a1.Parts.length : Int))) = 0))) else (some false)) else (some false)) else (if a1.Stage = 3 then ((m_impl_RangeOk (TRange.mk a1.Lo a1.Hi)).bind fun v28 => (if v28 = true then ((m_impl_isGroup a1.To).bind fun v31 => ((impl_ClientOk_j12 a1) v31)) else ((impl_ClientOk_j12 a1) false))) else ((impl_ClientOk_j12 a1) t5)))

def impl_ClientOk_j5 (a1 : TClient) (t5 : Bool) : Option Bool :=
  (if a1.Stage = 0 then ((impl_ClientOk_j7 t5 a1) true) else ((impl_ClientOk_j7 t5 a1) (decide (a1.Stage = 1))))

def impl_ClientOk_j2 (a1 : TClient) (t2 : Bool) : Option Bool :=
  (if t2 = true then (some false) else (if a1.Lo = 0 then (if a1.Hi = 0 then ((impl_ClientOk_j5 a1) (decide (a1.To = 0))) else ((impl_ClientOk_j5 a1) false)) else ((impl_ClientOk_j5 a1) false)))

def m_impl_ClientOk (a1 : TClient) : Option Bool :=
  ((m_impl_from a1.Stage 0 5).bind fun v36 => (if v36 = true then ((m_impl_isWhole a1.Req).bind fun v39 => (if v39 = true then (if a1.Req = 0 then ((impl_ClientOk_j2 a1) (decide (¬ a1.Stage = 0))) else ((impl_ClientOk_j2 a1) false)) else ((impl_ClientOk_j2 a1) true))) else ((impl_ClientOk_j2 a1) true)))

def m_laws_eqWrite (a1 : TCell) (a2 : TCell) : Option Bool :=
  (if ¬ a1.Key = a2.Key then (some false) else (if ¬ a1.Value = a2.Value then (some false) else (some true)))

def laws_eqWriteS_j4  (t4 : Unit) : Option Bool :=
  (some true)

def laws_eqWriteS_b6 (a1 : (List TCell)) (a2 : (List TCell)) (kx5 : (Unit → Option Bool)) (kb7 : (Int → Option Bool)) (s6 : Int) : Option Bool :=
  (if s6 < (a1.length : Int) then ((idx a1 s6).bind fun v9 => ((idx a2 s6).bind fun v11 => ((m_laws_eqWrite v9 v11).bind fun v13 => (if v13 = true then (kb7 (IntKind.wrap .i64 (s6 + 1))) else (some false))))) else (kx5 ()))

def m_laws_eqWriteS (a1 : (List TCell)) (a2 : (List TCell)) : Option Bool :=
  (if ¬ (a1.length : Int) = (a2.length : Int) then (some false) else (iter (laws_eqWriteS_b6 a1 a2 laws_eqWriteS_j4) FU 0))

def m_laws_eqSeen (a1 : TSeen) (a2 : TSeen) : Option Bool :=
  (if ¬ a1.Group = a2.Group then (some false) else (if ¬ a1.Lo = a2.Lo then (some false) else (if ¬ a1.Hi = a2.Hi then (some false) else (some true))))

def laws_eqSeenS_j4  (t4 : Unit) : Option Bool :=
  (some true)

def laws_eqSeenS_b6 (a1 : (List TSeen)) (a2 : (List TSeen)) (kx5 : (Unit → Option Bool)) (kb7 : (Int → Option Bool)) (s6 : Int) : Option Bool :=
  (if s6 < (a1.length : Int) then ((idx a1 s6).bind fun v9 => ((idx a2 s6).bind fun v11 => ((m_laws_eqSeen v9 v11).bind fun v13 => (if v13 = true then (kb7 (IntKind.wrap .i64 (s6 + 1))) else (some false))))) else (kx5 ()))

def m_laws_eqSeenS (a1 : (List TSeen)) (a2 : (List TSeen)) : Option Bool :=
  (if ¬ (a1.length : Int) = (a2.length : Int) then (some false) else (iter (laws_eqSeenS_b6 a1 a2 laws_eqSeenS_j4) FU 0))

def m_laws_eqPart (a1 : TPart) (a2 : TPart) : Option Bool :=
  (if ¬ a1.Lo = a2.Lo then (some false) else (if ¬ a1.Hi = a2.Hi then (some false) else (if ¬ a1.Owner = a2.Owner then (some false) else (some true))))

def laws_eqPartS_j4  (t4 : Unit) : Option Bool :=
  (some true)

def laws_eqPartS_b6 (a1 : (List TPart)) (a2 : (List TPart)) (kx5 : (Unit → Option Bool)) (kb7 : (Int → Option Bool)) (s6 : Int) : Option Bool :=
  (if s6 < (a1.length : Int) then ((idx a1 s6).bind fun v9 => ((idx a2 s6).bind fun v11 => ((m_laws_eqPart v9 v11).bind fun v13 => (if v13 = true then (kb7 (IntKind.wrap .i64 (s6 + 1))) else (some false))))) else (kx5 ()))

def m_laws_eqPartS (a1 : (List TPart)) (a2 : (List TPart)) : Option Bool :=
  (if ¬ (a1.length : Int) = (a2.length : Int) then (some false) else (iter (laws_eqPartS_b6 a1 a2 laws_eqPartS_j4) FU 0))

def m_laws_eqClient (a1 : TClient) (a2 : TClient) : Option Bool :=
  (if ¬ a1.Stage = a2.Stage then (some false) else (if ¬ a1.Tx = a2.Tx then (some false) else (if ¬ a1.Req = a2.Req then (some false) else ((m_laws_eqWriteS a1.Buf a2.Buf).bind fun v6 => (if v6 = true then ((m_laws_eqSeenS a1.Seen a2.Seen).bind fun v9 => (if v9 = true then (if ¬ a1.Lo = a2.Lo then (some false) else (if ¬ a1.Hi = a2.Hi then (some false) else (if ¬ a1.To = a2.To then (some false) else ((m_laws_eqPartS a1.Parts a2.Parts).bind fun v15 => (if v15 = true then (some true) else (some false)))))) else (some false))) else (some false))))))

def m_laws_FnExactClientOk (a1 : TClient) : Option Bool :=
  ((m_laws_szClient a1 1048576).bind fun v2 => (if v2 < 0 then (some true) else ((m_laws_toClient a1).bind fun v5 => ((m_spec_ClientOk v5).bind fun v7 => ((m_laws_toClient a1).bind fun v9 => ((m_impl_ClientOk v9).bind fun v11 => (if (v11 != v7) = true then (some false) else ((m_laws_toClient a1).bind fun v14 => ((m_laws_eqClient v9 v14).bind fun v16 => (if v16 = true then (some true) else (some false)))))))))))

end Go.AW
