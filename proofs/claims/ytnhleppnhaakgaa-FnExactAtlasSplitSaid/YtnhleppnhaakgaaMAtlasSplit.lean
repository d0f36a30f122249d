/- Plain functions that say what functions of the program compute: printed by a program of the prover's own (tool/dec.py). Conditions: none. -/
import Derived.Test.YtnhleppnhaakgaaYg
set_option linter.unusedVariables false
set_option linter.unusedSimpArgs false
set_option maxRecDepth 100000
namespace Go.AW

def lkO : List (Nat × V) → Nat → Option V
  | [], _ => none
  | (k, v) :: r, n => match Nat.beq n k with
    | true => some v
    | false => lkO r n
theorem eR {l : List (Nat × V)} {n : Nat} {v : V} (h : lkO l n = some v) : Ev l (.t n) v := by
  show lk l n = v
  induction l with
  | nil => cases h
  | cons p r ih =>
    obtain ⟨k, u⟩ := p
    unfold lkO at h
    unfold lk
    split at h
    · rename_i e
      have : n = k := Nat.eq_of_beq_eq_true e
      rw [if_pos this]
      exact Option.some.inj h
    · rename_i e
      rw [if_neg (Nat.ne_of_beq_eq_false e)]
      exact ih h
structure TPart where
  Lo : Int
  Hi : Int
  Owner : Int
deriving DecidableEq

def ok_TPart (x : TPart) : Prop := inK .i64 x.Lo ∧ inK .i64 x.Hi ∧ inK .i64 x.Owner

structure TCell where
  Key : Int
  Value : Int
deriving DecidableEq

def ok_TCell (x : TCell) : Prop := inK .i64 x.Key ∧ inK .i64 x.Value

structure TMove where
  No : Int
  Stage : Int
  Lo : Int
  Hi : Int
  From : Int
  To : Int
  Cells : (List TCell)
deriving DecidableEq

def ok_TMove (x : TMove) : Prop := inK .i64 x.No ∧ inK .i64 x.Stage ∧ inK .i64 x.Lo ∧ inK .i64 x.Hi ∧ inK .i64 x.From ∧ inK .i64 x.To ∧ okS ok_TCell x.Cells

structure TAtlas where
  Epoch : Int
  Parts : (List TPart)
  Move : TMove
deriving DecidableEq

def ok_TAtlas (x : TAtlas) : Prop := inK .i64 x.Epoch ∧ okS ok_TPart x.Parts ∧ ok_TMove x.Move

abbrev d_TPart (x : TPart) : List D := [(.int .i64 x.Lo), (.int .i64 x.Hi), (.int .i64 x.Owner)]

abbrev d_TCell (x : TCell) : List D := [(.int .i64 x.Key), (.int .i64 x.Value)]

abbrev d_TAtlas (x : TAtlas) : List D := [(.int .i64 x.Epoch), (.sl 3 (List.map d_TPart x.Parts)), (.int .i64 x.Move.No), (.int .i64 x.Move.Stage), (.int .i64 x.Move.Lo), (.int .i64 x.Move.Hi), (.int .i64 x.Move.From), (.int .i64 x.Move.To), (.sl 2 (List.map d_TCell x.Move.Cells))]

abbrev d_TMove (x : TMove) : List D := [(.int .i64 x.No), (.int .i64 x.Stage), (.int .i64 x.Lo), (.int .i64 x.Hi), (.int .i64 x.From), (.int .i64 x.To), (.sl 2 (List.map d_TCell x.Cells))]

structure TRange where
  Lo : Int
  Hi : Int
deriving DecidableEq

def ok_TRange (x : TRange) : Prop := inK .i64 x.Lo ∧ inK .i64 x.Hi

abbrev d_TRange (x : TRange) : List D := [(.int .i64 x.Lo), (.int .i64 x.Hi)]

abbrev d_i64 (x : Int) : List D := [(.int .i64 x)]

abbrev dS_TCell (x : (List TCell)) : List D := [(.sl 2 (List.map d_TCell x))]

abbrev dS_TPart (x : (List TPart)) : List D := [(.sl 3 (List.map d_TPart x))]

def m_laws_szPartS (a1 : (List TPart)) (a2 : Int) : Option Int :=
  (if (IntKind.wrap .i64 (a2 - (a1.length : Int))) < 0 then (some (-1)) else (some (IntKind.wrap .i64 (a2 - (a1.length : Int)))))

def m_laws_szCellS (a1 : (List TCell)) (a2 : Int) : Option Int :=
  (if (IntKind.wrap .i64 (a2 - (a1.length : Int))) < 0 then (some (-1)) else (some (IntKind.wrap .i64 (a2 - (a1.length : Int)))))

def m_laws_szMove (a1 : TMove) (a2 : Int) : Option Int :=
  ((m_laws_szCellS a1.Cells a2).bind fun v3 => (if v3 < 0 then (some (-1)) else (some v3)))

def m_laws_szAtlas (a1 : TAtlas) (a2 : Int) : Option Int :=
  ((m_laws_szPartS a1.Parts a2).bind fun v3 => (if v3 < 0 then (some (-1)) else ((m_laws_szMove a1.Move v3).bind fun v6 => (if v6 < 0 then (some (-1)) else (some v6)))))

def m_laws_toPart (a1 : TPart) : Option TPart :=
  (some a1)

def laws_toPartS_j3  (t3 : (List TPart)) : Option (List TPart) :=
  (some t3)

def laws_toPartS_b5 (a1 : (List TPart)) (kx4 : ((List TPart) → Option (List TPart))) (kb6 : (((List TPart) × Int) → Option (List TPart))) (s5 : ((List TPart) × Int)) : Option (List TPart) :=
  (if s5.2 < (a1.length : Int) then ((idx a1 s5.2).bind fun v8 => ((m_laws_toPart v8).bind fun v10 => ((idx s5.1 s5.2).bind fun v12 => (kb6 (s5.1.set (Int.toNat s5.2) v10, (IntKind.wrap .i64 (s5.2 + 1))))))) else (kx4 s5.1))

def m_laws_toPartS (a1 : (List TPart)) : Option (List TPart) :=
  (if 0 ≤ (a1.length : Int) ∧ (a1.length : Int) ≤ 2147483648 then (iter (laws_toPartS_b5 a1 laws_toPartS_j3) FU ((List.replicate (Int.toNat (a1.length : Int)) (TPart.mk 0 0 0)), 0)) else none)

def m_laws_toCell (a1 : TCell) : Option TCell :=
  (some a1)

def laws_toCellS_j3  (t3 : (List TCell)) : Option (List TCell) :=
  (some t3)

def laws_toCellS_b5 (a1 : (List TCell)) (kx4 : ((List TCell) → Option (List TCell))) (kb6 : (((List TCell) × Int) → Option (List TCell))) (s5 : ((List TCell) × Int)) : Option (List TCell) :=
  (if s5.2 < (a1.length : Int) then ((idx a1 s5.2).bind fun v8 => ((m_laws_toCell v8).bind fun v10 => ((idx s5.1 s5.2).bind fun v12 => (kb6 (s5.1.set (Int.toNat s5.2) v10, (IntKind.wrap .i64 (s5.2 + 1))))))) else (kx4 s5.1))

def m_laws_toCellS (a1 : (List TCell)) : Option (List TCell) :=
  (if 0 ≤ (a1.length : Int) ∧ (a1.length : Int) ≤ 2147483648 then (iter (laws_toCellS_b5 a1 laws_toCellS_j3) FU ((List.replicate (Int.toNat (a1.length : Int)) (TCell.mk 0 0)), 0)) else none)

def m_laws_toMove (a1 : TMove) : Option TMove :=
  ((m_laws_toCellS a1.Cells).bind fun v2 => (some (TMove.mk a1.No a1.Stage a1.Lo a1.Hi a1.From a1.To v2)))

def m_laws_toAtlas (a1 : TAtlas) : Option TAtlas :=
  ((m_laws_toPartS a1.Parts).bind fun v2 => ((m_laws_toMove a1.Move).bind fun v4 => (some (TAtlas.mk a1.Epoch v2 v4))))

def m_spec_l1In (a1 : Int) (a2 : Int) (a3 : Int) : Option Bool :=
  (if a2 ≤ a1 then (some (decide (a1 ≤ a3))) else (some false))

def spec_PartsOk_j5  (t5 : Unit) : Option Bool :=
  (some true)

def spec_PartsOk_j12 (kb8 : (Int → Option Bool)) (s7 : Int) (t12 : Bool) : Option Bool :=
  (if t12 = true then (some false) else (kb8 (IntKind.wrap .i64 (s7 + 1))))

def spec_PartsOk_b7 (a1 : (List TPart)) (kx6 : (Unit → Option Bool)) (kb8 : (Int → Option Bool)) (s7 : Int) : Option Bool :=
  (if s7 < (a1.length : Int) then ((idx a1 s7).bind fun v10 => (if v10.Hi ≤ v10.Lo then ((spec_PartsOk_j12 kb8 s7) true) else (if v10.Lo < 0 then ((spec_PartsOk_j12 kb8 s7) true) else (if 1000 < v10.Hi then ((spec_PartsOk_j12 kb8 s7) true) else ((m_spec_l1In v10.Owner 0 3).bind fun v18 => (if v18 = true then (if 0 < s7 then ((idx a1 (IntKind.wrap .i64 (s7 - 1))).bind fun v22 => ((spec_PartsOk_j12 kb8 s7) (decide (¬ v22.Hi = v10.Lo)))) else ((spec_PartsOk_j12 kb8 s7) false)) else ((spec_PartsOk_j12 kb8 s7) true))))))) else (kx6 ()))

def spec_PartsOk_j2 (a1 : (List TPart)) (t2 : Bool) : Option Bool :=
  (if t2 = true then (some false) else (iter (spec_PartsOk_b7 a1 spec_PartsOk_j5) FU 0))

def m_spec_PartsOk (a1 : (List TPart)) : Option Bool :=
  ((m_spec_l1In (a1.length : Int) 1 16).bind fun v24 => (if v24 = true then ((idx a1 0).bind fun v27 => (if ¬ v27.Lo = 0 then ((spec_PartsOk_j2 a1) true) else ((idx a1 (IntKind.wrap .i64 ((a1.length : Int) - 1))).bind fun v30 => ((spec_PartsOk_j2 a1) (decide (¬ v30.Hi = 1000)))))) else ((spec_PartsOk_j2 a1) true)))

def m_spec_l10Key (a1 : Int) : Option Bool :=
  ((m_spec_l1In a1 0 999).bind fun v2 => (some v2))

def m_spec_l1Whole (a1 : Int) : Option Bool :=
  ((m_spec_l1In a1 0 1000000000).bind fun v2 => (some v2))

def spec_StoreOk_j3  (t3 : Unit) : Option Bool :=
  (some true)

def spec_StoreOk_j8 (kb6 : (Int → Option Bool)) (s5 : Int) (t8 : Bool) : Option Bool :=
  (if t8 = true then (some false) else (kb6 (IntKind.wrap .i64 (s5 + 1))))

def spec_StoreOk_b5 (a1 : (List TCell)) (kx4 : (Unit → Option Bool)) (kb6 : (Int → Option Bool)) (s5 : Int) : Option Bool :=
  (if s5 < (a1.length : Int) then ((idx a1 s5).bind fun v11 => ((m_spec_l10Key v11.Key).bind fun v13 => (if v13 = true then ((idx a1 s5).bind fun v16 => ((m_spec_l1Whole v16.Value).bind fun v18 => (if v18 = true then (if 0 < s5 then ((idx a1 (IntKind.wrap .i64 (s5 - 1))).bind fun v22 => ((idx a1 s5).bind fun v24 => ((spec_StoreOk_j8 kb6 s5) (decide (v24.Key ≤ v22.Key))))) else ((spec_StoreOk_j8 kb6 s5) false)) else ((spec_StoreOk_j8 kb6 s5) true)))) else ((spec_StoreOk_j8 kb6 s5) true)))) else (kx4 ()))

def m_spec_StoreOk (a1 : (List TCell)) : Option Bool :=
  (if 60 < (a1.length : Int) then (some false) else (iter (spec_StoreOk_b5 a1 spec_StoreOk_j3) FU 0))

def m_spec_RangeOk (a1 : TRange) : Option Bool :=
  (if 0 ≤ a1.Lo then (if a1.Lo < a1.Hi then (some (decide (a1.Hi ≤ 1000))) else (some false)) else (some false))

def m_spec_l15Group (a1 : Int) : Option Bool :=
  ((m_spec_l1In a1 0 3).bind fun v2 => (some v2))

def spec_l15In_j3  (t3 : Unit) : Option Bool :=
  (some true)

def spec_l15In_b5 (a1 : (List TCell)) (a2 : TMove) (kx4 : (Unit → Option Bool)) (kb6 : (Int → Option Bool)) (s5 : Int) : Option Bool :=
  (if s5 < (a1.length : Int) then ((idx a1 s5).bind fun v8 => ((m_spec_l1In v8.Key a2.Lo (IntKind.wrap .i64 (a2.Hi - 1))).bind fun v10 => (if v10 = true then (kb6 (IntKind.wrap .i64 (s5 + 1))) else (some false)))) else (kx4 ()))

def m_spec_l15In (a1 : (List TCell)) (a2 : TMove) : Option Bool :=
  (iter (spec_l15In_b5 a1 a2 spec_l15In_j3) FU 0)

def spec_AtlasOk_j10 (a1 : TAtlas) (t10 : Bool) : Option Bool :=
  (if t10 = true then (some false) else ((m_spec_l15In a1.Move.Cells a1.Move).bind fun v13 => (if v13 = true then (if a1.Move.Stage = 2 then (some true) else (some (decide ((a1.Move.Cells.length : Int) = 0)))) else (some false))))

def spec_AtlasOk_j2 (a1 : TAtlas) (t2 : Bool) : Option Bool :=
  (if t2 = true then (some false) else (if a1.Move.Stage = 0 then (if a1.Move.Lo = 0 then (if a1.Move.Hi = 0 then (if a1.Move.From = 0 then (if a1.Move.To = 0 then (some (decide ((a1.Move.Cells.length : Int) = 0))) else (some false)) else (some false)) else (some false)) else (some false)) else (if a1.Move.No < 1 then ((spec_AtlasOk_j10 a1) true) else ((m_spec_RangeOk (TRange.mk a1.Move.Lo a1.Move.Hi)).bind fun v18 => (if v18 = true then ((m_spec_l15Group a1.Move.From).bind fun v21 => (if v21 = true then ((m_spec_l15Group a1.Move.To).bind fun v24 => (if v24 = true then ((spec_AtlasOk_j10 a1) (decide (a1.Move.From = a1.Move.To))) else ((spec_AtlasOk_j10 a1) true))) else ((spec_AtlasOk_j10 a1) true))) else ((spec_AtlasOk_j10 a1) true))))))

def m_spec_AtlasOk (a1 : TAtlas) : Option Bool :=
  ((m_spec_l1In a1.Epoch 0 1000000).bind fun v27 => (if v27 = true then ((m_spec_PartsOk a1.Parts).bind fun v30 => (if v30 = true then ((m_spec_l1In a1.Move.No 0 300000).bind fun v33 => (if v33 = true then ((m_spec_l1In a1.Move.Stage 0 4).bind fun v36 => (if v36 = true then ((m_spec_StoreOk a1.Move.Cells).bind fun v39 => ((spec_AtlasOk_j2 a1) (!v39))) else ((spec_AtlasOk_j2 a1) true))) else ((spec_AtlasOk_j2 a1) true))) else ((spec_AtlasOk_j2 a1) true))) else ((spec_AtlasOk_j2 a1) true)))

def m_spec_l15Copy (a1 : TAtlas) : Option TAtlas :=
  (if a1.Parts.length ≤ 2147483648 then (if a1.Move.Cells.length ≤ 2147483648 then (some a1) else none) else none)

def spec_PartAt_j3  (t3 : Unit) : Option Int :=
  (some (-1))

def spec_PartAt_j11 (s5 : Int) (kb6 : (Int → Option Int)) (t11 : Bool) : Option Int :=
  (if t11 = true then (some s5) else (kb6 (IntKind.wrap .i64 (s5 + 1))))

def spec_PartAt_b5 (a1 : (List TPart)) (a2 : Int) (kx4 : (Unit → Option Int)) (kb6 : (Int → Option Int)) (s5 : Int) : Option Int :=
  (if s5 < (a1.length : Int) then ((m_spec_PartsOk a1).bind fun v8 => (if v8 = true then ((idx a1 s5).bind fun v14 => (if v14.Lo ≤ a2 then ((idx a1 s5).bind fun v17 => ((spec_PartAt_j11 s5 kb6) (decide (a2 < v17.Hi)))) else ((spec_PartAt_j11 s5 kb6) false))) else (kx4 ()))) else (kx4 ()))

def m_spec_PartAt (a1 : (List TPart)) (a2 : Int) : Option Int :=
  (iter (spec_PartAt_b5 a1 a2 spec_PartAt_j3) FU 0)

def spec_SplitAt_j8  (t8 : (List TPart)) : Option ((List TPart) × Bool) :=
  (some (t8, true))

def spec_SplitAt_j15 (v13 : TPart) (kb11 : (((List TPart) × Int) → Option ((List TPart) × Bool))) (s10 : ((List TPart) × Int)) (t15 : ((List TPart) × Int)) : Option ((List TPart) × Bool) :=
  (if (t15.1 ++ ([(TPart.mk t15.2 v13.Hi v13.Owner)])).length ≤ 2147483648 then (kb11 ((t15.1 ++ ([(TPart.mk t15.2 v13.Hi v13.Owner)])), (IntKind.wrap .i64 (s10.2 + 1)))) else none)

def spec_SplitAt_b10 (a1 : (List TPart)) (v3 : Int) (a2 : Int) (kx9 : ((List TPart) → Option ((List TPart) × Bool))) (kb11 : (((List TPart) × Int) → Option ((List TPart) × Bool))) (s10 : ((List TPart) × Int)) : Option ((List TPart) × Bool) :=
  (if s10.2 < (a1.length : Int) then ((idx a1 s10.2).bind fun v13 => (if s10.2 = v3 then (if (s10.1 ++ ([(TPart.mk v13.Lo a2 v13.Owner)])).length ≤ 2147483648 then ((spec_SplitAt_j15 v13 kb11 s10) ((s10.1 ++ ([(TPart.mk v13.Lo a2 v13.Owner)])), a2)) else none) else ((spec_SplitAt_j15 v13 kb11 s10) (s10.1, v13.Lo)))) else (kx9 s10.1))

def spec_SplitAt_j5 (a1 : (List TPart)) (v3 : Int) (a2 : Int) (t5 : Bool) : Option ((List TPart) × Bool) :=
  (if t5 = true then (some (([] : (List TPart)), false)) else (iter (spec_SplitAt_b10 a1 v3 a2 spec_SplitAt_j8) FU (([] : List TPart), 0)))

def m_spec_SplitAt (a1 : (List TPart)) (a2 : Int) : Option ((List TPart) × Bool) :=
  ((m_spec_PartAt a1 a2).bind fun v3 => (if v3 < 0 then ((spec_SplitAt_j5 a1 v3 a2) true) else ((idx a1 v3).bind fun v21 => (if v21.Lo = a2 then ((spec_SplitAt_j5 a1 v3 a2) true) else ((spec_SplitAt_j5 a1 v3 a2) (decide ((a1.length : Int) = 16)))))))

def spec_AtlasSplit_j10 (v6 : TAtlas) (v8 : ((List TPart) × Bool)) (t10 : Bool) : Option (TAtlas × Int) :=
  (if t10 = true then (some (v6, 3)) else (some ((TAtlas.mk (IntKind.wrap .i64 (v6.Epoch + 1)) v8.1 v6.Move), 0)))

def m_spec_AtlasSplit (a1 : TAtlas) (a2 : Int) : Option (TAtlas × Int) :=
  ((m_spec_AtlasOk a1).bind fun v3 => (if v3 = true then ((m_spec_l15Copy a1).bind fun v6 => ((m_spec_SplitAt a1.Parts a2).bind fun v8 => (if v8.2 = true then ((spec_AtlasSplit_j10 v6 v8) (decide (a1.Epoch = 1000000))) else ((spec_AtlasSplit_j10 v6 v8) true)))) else (some ((TAtlas.mk 0 ([] : (List TPart)) (TMove.mk 0 0 0 0 0 0 ([] : (List TCell)))), 1))))

def m_impl_from (a1 : Int) (a2 : Int) (a3 : Int) : Option Bool :=
  (if a2 ≤ a1 then (some (decide (a1 ≤ a3))) else (some false))

def m_impl_isGroup (a1 : Int) : Option Bool :=
  ((m_impl_from a1 0 3).bind fun v2 => (some v2))

def impl_PartsOk_j2 (a1 : (List TPart)) (t2 : Int) : Option Bool :=
  ((m_impl_from (a1.length : Int) 1 16).bind fun v4 => (if v4 = true then (some (decide (t2 = 1000))) else (some false)))

def impl_PartsOk_j12 (kb8 : ((Int × Int) → Option Bool)) (v10 : TPart) (s7 : (Int × Int)) (t12 : Bool) : Option Bool :=
  (if t12 = true then (some false) else (kb8 (v10.Hi, (IntKind.wrap .i64 (s7.2 + 1)))))

def impl_PartsOk_b7 (a1 : (List TPart)) (kx3 : (Int → Option Bool)) (kb8 : ((Int × Int) → Option Bool)) (s7 : (Int × Int)) : Option Bool :=
  (if s7.2 < (a1.length : Int) then ((idx a1 s7.2).bind fun v10 => (if ¬ v10.Lo = s7.1 then ((impl_PartsOk_j12 kb8 v10 s7) true) else (if v10.Hi ≤ v10.Lo then ((impl_PartsOk_j12 kb8 v10 s7) true) else ((m_impl_isGroup v10.Owner).bind fun v17 => ((impl_PartsOk_j12 kb8 v10 s7) (!v17)))))) else (kx3 s7.1))

def m_impl_PartsOk (a1 : (List TPart)) : Option Bool :=
  (iter (impl_PartsOk_b7 a1 (impl_PartsOk_j2 a1)) FU (0, 0))

def m_impl_Move_keys (a1 : TMove) : Option TRange :=
  (some (TRange.mk a1.Lo a1.Hi))

def m_impl_RangeOk (a1 : TRange) : Option Bool :=
  (if 0 ≤ a1.Lo then (if a1.Lo < a1.Hi then (some (decide (a1.Hi ≤ 1000))) else (some false)) else (some false))

def m_impl_isKey (a1 : Int) : Option Bool :=
  ((m_impl_from a1 0 999).bind fun v2 => (some v2))

def m_impl_isWhole (a1 : Int) : Option Bool :=
  ((m_impl_from a1 0 1000000000).bind fun v2 => (some v2))

def impl_StoreOk_j2 (a1 : (List TCell)) (t2 : Unit) : Option Bool :=
  (some (decide ((a1.length : Int) ≤ 60)))

def impl_StoreOk_j9 (kb5 : (Int → Option Bool)) (s4 : Int) (t9 : Bool) : Option Bool :=
  (if t9 = true then (some false) else (kb5 (IntKind.wrap .i64 (s4 + 1))))

def impl_StoreOk_b4 (a1 : (List TCell)) (kx3 : (Unit → Option Bool)) (kb5 : (Int → Option Bool)) (s4 : Int) : Option Bool :=
  (if s4 < (a1.length : Int) then ((idx a1 s4).bind fun v7 => ((m_impl_isKey v7.Key).bind fun v12 => (if v12 = true then ((m_impl_isWhole v7.Value).bind fun v15 => (if v15 = true then (if 0 < s4 then ((idx a1 (IntKind.wrap .i64 (s4 - 1))).bind fun v19 => ((impl_StoreOk_j9 kb5 s4) (decide (v7.Key ≤ v19.Key)))) else ((impl_StoreOk_j9 kb5 s4) false)) else ((impl_StoreOk_j9 kb5 s4) true))) else ((impl_StoreOk_j9 kb5 s4) true)))) else (kx3 ()))

def m_impl_StoreOk (a1 : (List TCell)) : Option Bool :=
  (iter (impl_StoreOk_b4 a1 (impl_StoreOk_j2 a1)) FU 0)

def m_impl_Range_has (a1 : TRange) (a2 : Int) : Option Bool :=
  ((m_impl_from a2 a1.Lo (IntKind.wrap .i64 (a1.Hi - 1))).bind fun v3 => (some v3))

def m_impl_cellsIn_1 (a1 : TCell) (a2 : TRange) : Option Bool :=
  ((m_impl_Range_has a2 a1.Key).bind fun v3 => (some (!v3)))

def slices_IndexFunc_Cell__cellsIn_1_j3  (t3 : Unit) : Option Int :=
  (some (-1))

def slices_IndexFunc_Cell__cellsIn_1_b5 (a1 : (List TCell)) (a2 : TRange) (kx4 : (Unit → Option Int)) (kb6 : (Int → Option Int)) (s5 : Int) : Option Int :=
  (if s5 < (a1.length : Int) then ((idx a1 s5).bind fun v8 => ((m_impl_cellsIn_1 v8 a2).bind fun v10 => (if v10 = true then (some s5) else (kb6 (IntKind.wrap .i64 (s5 + 1)))))) else (kx4 ()))

def m_slices_IndexFunc_Cell__cellsIn_1 (a1 : (List TCell)) (a2 : TRange) : Option Int :=
  (iter (slices_IndexFunc_Cell__cellsIn_1_b5 a1 a2 slices_IndexFunc_Cell__cellsIn_1_j3) FU 0)

def m_slices_ContainsFunc_Cell__cellsIn_1 (a1 : (List TCell)) (a2 : TRange) : Option Bool :=
  ((m_slices_IndexFunc_Cell__cellsIn_1 a1 a2).bind fun v3 => (some (decide (0 ≤ v3))))

def m_impl_cellsIn (a1 : (List TCell)) (a2 : TRange) : Option Bool :=
  ((m_impl_StoreOk a1).bind fun v3 => (if v3 = true then ((m_slices_ContainsFunc_Cell__cellsIn_1 a1 a2).bind fun v6 => (some (!v6))) else (some false)))

def impl_moveOk_j2 (a1 : TMove) (t2 : Bool) : Option Bool :=
  (if t2 = true then (some false) else (if a1.Stage = 0 then (if a1.Lo = 0 then (if a1.Hi = 0 then (if a1.From = 0 then (if a1.To = 0 then (some (decide ((a1.Cells.length : Int) = 0))) else (some false)) else (some false)) else (some false)) else (some false)) else (if 1 ≤ a1.No then ((m_impl_Move_keys a1).bind fun v11 => ((m_impl_RangeOk v11).bind fun v13 => (if v13 = true then ((m_impl_isGroup a1.From).bind fun v16 => (if v16 = true then ((m_impl_isGroup a1.To).bind fun v19 => (if v19 = true then (if ¬ a1.From = a1.To then ((m_impl_Move_keys a1).bind fun v23 => ((m_impl_cellsIn a1.Cells v23).bind fun v25 => (if v25 = true then (if a1.Stage = 2 then (some true) else (some (decide ((a1.Cells.length : Int) = 0)))) else (some false)))) else (some false)) else (some false))) else (some false))) else (some false)))) else (some false))))

def m_impl_moveOk (a1 : TMove) : Option Bool :=
  ((m_impl_from a1.No 0 300000).bind fun v29 => (if v29 = true then ((m_impl_from a1.Stage 0 4).bind fun v32 => ((impl_moveOk_j2 a1) (!v32))) else ((impl_moveOk_j2 a1) true)))

def m_impl_AtlasOk (a1 : TAtlas) : Option Bool :=
  ((m_impl_from a1.Epoch 0 1000000).bind fun v2 => (if v2 = true then ((m_impl_PartsOk a1.Parts).bind fun v5 => (if v5 = true then ((m_impl_moveOk a1.Move).bind fun v8 => (some v8)) else (some false))) else (some false)))

def slices_Clone_Part_j2 (a1 : (List TPart)) (t2 : Unit) : Option (List TPart) :=
  (if a1.length ≤ 2147483648 then (some a1) else none)

def m_slices_Clone_Part (a1 : (List TPart)) : Option (List TPart) :=
  (if a1.length = 0 then ((slices_Clone_Part_j2 a1) ()) else ((slices_Clone_Part_j2 a1) ()))

def slices_Clone_Cell_j2 (a1 : (List TCell)) (t2 : Unit) : Option (List TCell) :=
  (if a1.length ≤ 2147483648 then (some a1) else none)

def m_slices_Clone_Cell (a1 : (List TCell)) : Option (List TCell) :=
  (if a1.length = 0 then ((slices_Clone_Cell_j2 a1) ()) else ((slices_Clone_Cell_j2 a1) ()))

def m_impl_copyAtlas (a1 : TAtlas) : Option TAtlas :=
  ((m_slices_Clone_Part a1.Parts).bind fun v2 => ((m_slices_Clone_Cell a1.Move.Cells).bind fun v4 => (some (TAtlas.mk a1.Epoch v2 (TMove.mk a1.Move.No a1.Move.Stage a1.Move.Lo a1.Move.Hi a1.Move.From a1.Move.To v4)))))

def m_impl_partAt_1 (a1 : TPart) (a2 : Int) : Option Bool :=
  ((m_impl_from a2 a1.Lo (IntKind.wrap .i64 (a1.Hi - 1))).bind fun v3 => (some v3))

def slices_IndexFunc_Part__partAt_1_j3  (t3 : Unit) : Option Int :=
  (some (-1))

def slices_IndexFunc_Part__partAt_1_b5 (a1 : (List TPart)) (a2 : Int) (kx4 : (Unit → Option Int)) (kb6 : (Int → Option Int)) (s5 : Int) : Option Int :=
  (if s5 < (a1.length : Int) then ((idx a1 s5).bind fun v8 => ((m_impl_partAt_1 v8 a2).bind fun v10 => (if v10 = true then (some s5) else (kb6 (IntKind.wrap .i64 (s5 + 1)))))) else (kx4 ()))

def m_slices_IndexFunc_Part__partAt_1 (a1 : (List TPart)) (a2 : Int) : Option Int :=
  (iter (slices_IndexFunc_Part__partAt_1_b5 a1 a2 slices_IndexFunc_Part__partAt_1_j3) FU 0)

def m_impl_partAt (a1 : (List TPart)) (a2 : Int) : Option Int :=
  ((m_slices_IndexFunc_Part__partAt_1 a1 a2).bind fun v3 => (some v3))

def m_impl_PartAt (a1 : (List TPart)) (a2 : Int) : Option Int :=
  ((m_impl_PartsOk a1).bind fun v3 => (if v3 = true then ((m_impl_partAt a1 a2).bind fun v6 => (some v6)) else (some (-1))))

def m_slices_Insert_Part (a1 : List TPart) (a2 : Int) (a3 : List TPart) : Option (List TPart) :=
  if 0 ≤ a2 ∧ a2 ≤ (a1.length : Int) ∧ a3.length = 1 ∧ a1.length ≤ 1000000000 then some (List.take (Int.toNat a2) a1 ++ (a3 ++ List.drop (Int.toNat a2) a1)) else none

def impl_SplitAt_j5 (a1 : (List TPart)) (v3 : Int) (a2 : Int) (t5 : Bool) : Option ((List TPart) × Bool) :=
  (if t5 = true then (some (([] : (List TPart)), false)) else ((m_slices_Clone_Part a1).bind fun v8 => ((idx a1 v3).bind fun v10 => ((idx a1 v3).bind fun v12 => ((m_slices_Insert_Part v8 (IntKind.wrap .i64 (v3 + 1)) ([(TPart.mk a2 v10.Hi v12.Owner)])).bind fun v14 => ((idx v14 v3).bind fun v16 => (some (v14.set (Int.toNat v3) (TPart.mk v16.Lo a2 v16.Owner), true))))))))

def m_impl_SplitAt (a1 : (List TPart)) (a2 : Int) : Option ((List TPart) × Bool) :=
  ((m_impl_PartAt a1 a2).bind fun v3 => (if v3 < 0 then ((impl_SplitAt_j5 a1 v3 a2) true) else ((idx a1 v3).bind fun v19 => (if v19.Lo = a2 then ((impl_SplitAt_j5 a1 v3 a2) true) else ((impl_SplitAt_j5 a1 v3 a2) (decide ((a1.length : Int) = 16)))))))

def impl_AtlasSplit_j10 (v6 : TAtlas) (v8 : ((List TPart) × Bool)) (t10 : Bool) : Option (TAtlas × Int) :=
  (if t10 = true then (some (v6, 3)) else (some ((TAtlas.mk (IntKind.wrap .i64 (v6.Epoch + 1)) v8.1 v6.Move), 0)))

def m_impl_AtlasSplit (a1 : TAtlas) (a2 : Int) : Option (TAtlas × Int) :=
  ((m_impl_AtlasOk a1).bind fun v3 => (if v3 = true then ((m_impl_copyAtlas a1).bind fun v6 => ((m_impl_SplitAt a1.Parts a2).bind fun v8 => (if v8.2 = true then ((impl_AtlasSplit_j10 v6 v8) (decide (a1.Epoch = 1000000))) else ((impl_AtlasSplit_j10 v6 v8) true)))) else (some ((TAtlas.mk 0 ([] : (List TPart)) (TMove.mk 0 0 0 0 0 0 ([] : (List TCell)))), 1))))

def m_laws_eqPart (a1 : TPart) (a2 : TPart) : Option Bool :=
  (if ¬ a1.Lo = a2.Lo then (some false) else (if ¬ a1.Hi = a2.Hi then (some false) else (if ¬ a1.Owner = a2.Owner then (some false) else (some true))))

def laws_eqPartS_j4  (t4 : Unit) : Option Bool :=
  (some true)

def laws_eqPartS_b6 (a1 : (List TPart)) (a2 : (List TPart)) (kx5 : (Unit → Option Bool)) (kb7 : (Int → Option Bool)) (s6 : Int) : Option Bool :=
  (if s6 < (a1.length : Int) then ((idx a1 s6).bind fun v9 => ((idx a2 s6).bind fun v11 => ((m_laws_eqPart v9 v11).bind fun v13 => (if v13 = true then (kb7 (IntKind.wrap .i64 (s6 + 1))) else (some false))))) else (kx5 ()))

def m_laws_eqPartS (a1 : (List TPart)) (a2 : (List TPart)) : Option Bool :=
  (if ¬ (a1.length : Int) = (a2.length : Int) then (some false) else (iter (laws_eqPartS_b6 a1 a2 laws_eqPartS_j4) FU 0))

def m_laws_eqCell (a1 : TCell) (a2 : TCell) : Option Bool :=
  (if ¬ a1.Key = a2.Key then (some false) else (if ¬ a1.Value = a2.Value then (some false) else (some true)))

def laws_eqCellS_j4  (t4 : Unit) : Option Bool :=
  (some true)

def laws_eqCellS_b6 (a1 : (List TCell)) (a2 : (List TCell)) (kx5 : (Unit → Option Bool)) (kb7 : (Int → Option Bool)) (s6 : Int) : Option Bool :=
  (if s6 < (a1.length : Int) then ((idx a1 s6).bind fun v9 => ((idx a2 s6).bind fun v11 => ((m_laws_eqCell v9 v11).bind fun v13 => (if v13 = true then (kb7 (IntKind.wrap .i64 (s6 + 1))) else (some false))))) else (kx5 ()))

def m_laws_eqCellS (a1 : (List TCell)) (a2 : (List TCell)) : Option Bool :=
  (if ¬ (a1.length : Int) = (a2.length : Int) then (some false) else (iter (laws_eqCellS_b6 a1 a2 laws_eqCellS_j4) FU 0))

def m_laws_eqMove (a1 : TMove) (a2 : TMove) : Option Bool :=
  (if ¬ a1.No = a2.No then (some false) else (if ¬ a1.Stage = a2.Stage then (some false) else (if ¬ a1.Lo = a2.Lo then (some false) else (if ¬ a1.Hi = a2.Hi then (some false) else (if ¬ a1.From = a2.From then (some false) else (if ¬ a1.To = a2.To then (some false) else ((m_laws_eqCellS a1.Cells a2.Cells).bind fun v9 => (if v9 = true then (some true) else (some false)))))))))

def m_laws_eqAtlas (a1 : TAtlas) (a2 : TAtlas) : Option Bool :=
  (if ¬ a1.Epoch = a2.Epoch then (some false) else ((m_laws_eqPartS a1.Parts a2.Parts).bind fun v4 => (if v4 = true then ((m_laws_eqMove a1.Move a2.Move).bind fun v7 => (if v7 = true then (some true) else (some false))) else (some false))))

def laws_markPartS_j3 (a1 : (List TPart)) (t3 : ((List TPart) × Int)) : Option (Int × (List TPart)) :=
  (if t3.1.length = a1.length then (some (t3.2, t3.1)) else none)

def laws_markPartS_b6 (kx4 : (((List TPart) × Int) → Option (Int × (List TPart)))) (kb7 : (((List TPart) × Int × Int) → Option (Int × (List TPart)))) (s6 : ((List TPart) × Int × Int)) : Option (Int × (List TPart)) :=
  (if s6.2.2 < ((s6.1.length : Nat) : Int) then ((idx s6.1 s6.2.2).bind fun v9 => ((idx (s6.1.set (Int.toNat s6.2.2) (TPart.mk s6.2.1 v9.Hi v9.Owner)) s6.2.2).bind fun v11 => ((idx ((s6.1.set (Int.toNat s6.2.2) (TPart.mk s6.2.1 v9.Hi v9.Owner)).set (Int.toNat s6.2.2) (TPart.mk v11.Lo (IntKind.wrap .i64 (s6.2.1 + 1)) v11.Owner)) s6.2.2).bind fun v13 => (kb7 (((s6.1.set (Int.toNat s6.2.2) (TPart.mk s6.2.1 v9.Hi v9.Owner)).set (Int.toNat s6.2.2) (TPart.mk v11.Lo (IntKind.wrap .i64 (s6.2.1 + 1)) v11.Owner)).set (Int.toNat s6.2.2) (TPart.mk v13.Lo v13.Hi (IntKind.wrap .i64 ((IntKind.wrap .i64 (s6.2.1 + 1)) + 1))), (IntKind.wrap .i64 ((IntKind.wrap .i64 ((IntKind.wrap .i64 (s6.2.1 + 1)) + 1)) + 1)), (IntKind.wrap .i64 (s6.2.2 + 1))))))) else (kx4 (s6.1, s6.2.1)))

def m_laws_markPartS (a1 : (List TPart)) (a2 : Int) : Option (Int × (List TPart)) :=
  (iter (laws_markPartS_b6 (laws_markPartS_j3 a1)) FU (a1, a2, 0))

def laws_markCellS_j3 (a1 : (List TCell)) (t3 : ((List TCell) × Int)) : Option (Int × (List TCell)) :=
  (if t3.1.length = a1.length then (some (t3.2, t3.1)) else none)

def laws_markCellS_b6 (kx4 : (((List TCell) × Int) → Option (Int × (List TCell)))) (kb7 : (((List TCell) × Int × Int) → Option (Int × (List TCell)))) (s6 : ((List TCell) × Int × Int)) : Option (Int × (List TCell)) :=
  (if s6.2.2 < ((s6.1.length : Nat) : Int) then ((idx s6.1 s6.2.2).bind fun v9 => ((idx (s6.1.set (Int.toNat s6.2.2) (TCell.mk s6.2.1 v9.Value)) s6.2.2).bind fun v11 => (kb7 ((s6.1.set (Int.toNat s6.2.2) (TCell.mk s6.2.1 v9.Value)).set (Int.toNat s6.2.2) (TCell.mk v11.Key (IntKind.wrap .i64 (s6.2.1 + 1))), (IntKind.wrap .i64 ((IntKind.wrap .i64 (s6.2.1 + 1)) + 1)), (IntKind.wrap .i64 (s6.2.2 + 1)))))) else (kx4 (s6.1, s6.2.1)))

def m_laws_markCellS (a1 : (List TCell)) (a2 : Int) : Option (Int × (List TCell)) :=
  (iter (laws_markCellS_b6 (laws_markCellS_j3 a1)) FU (a1, a2, 0))

def m_laws_markMove (a1 : TMove) (a2 : Int) : Option (Int × TMove) :=
  ((m_laws_markCellS a1.Cells a2).bind fun v3 => (if v3.2.length = a1.Cells.length then (if v3.2.length = a1.Cells.length then (some (v3.1, (TMove.mk a1.No a1.Stage a1.Lo a1.Hi a1.From a1.To v3.2))) else none) else none))

def m_laws_markAtlas (a1 : TAtlas) (a2 : Int) : Option (Int × TAtlas) :=
  ((m_laws_markPartS a1.Parts a2).bind fun v3 => (if v3.2.length = a1.Parts.length then ((m_laws_markMove a1.Move v3.1).bind fun v6 => (if v6.2.Cells.length = a1.Move.Cells.length then (if v3.2.length = a1.Parts.length then (if v6.2.Cells.length = a1.Move.Cells.length then (some (v6.1, (TAtlas.mk a1.Epoch v3.2 (TMove.mk a1.Move.No a1.Move.Stage a1.Move.Lo a1.Move.Hi a1.Move.From a1.Move.To v6.2.Cells)))) else none) else none) else none)) else none))

def laws_heldPartS_j3  (t3 : Int) : Option Int :=
  (some t3)

def laws_heldPartS_b5 (a1 : (List TPart)) (kx4 : (Int → Option Int)) (kb6 : ((Int × Int) → Option Int)) (s5 : (Int × Int)) : Option Int :=
  (if s5.2 < (a1.length : Int) then ((idx a1 s5.2).bind fun v8 => (if ¬ v8.Lo = s5.1 then (some (-1)) else ((idx a1 s5.2).bind fun v11 => (if ¬ v11.Hi = (IntKind.wrap .i64 (s5.1 + 1)) then (some (-1)) else ((idx a1 s5.2).bind fun v14 => (if ¬ v14.Owner = (IntKind.wrap .i64 ((IntKind.wrap .i64 (s5.1 + 1)) + 1)) then (some (-1)) else (kb6 ((IntKind.wrap .i64 ((IntKind.wrap .i64 ((IntKind.wrap .i64 (s5.1 + 1)) + 1)) + 1)), (IntKind.wrap .i64 (s5.2 + 1)))))))))) else (kx4 s5.1))

def m_laws_heldPartS (a1 : (List TPart)) (a2 : Int) : Option Int :=
  (iter (laws_heldPartS_b5 a1 laws_heldPartS_j3) FU (a2, 0))

def laws_heldCellS_j3  (t3 : Int) : Option Int :=
  (some t3)

def laws_heldCellS_b5 (a1 : (List TCell)) (kx4 : (Int → Option Int)) (kb6 : ((Int × Int) → Option Int)) (s5 : (Int × Int)) : Option Int :=
  (if s5.2 < (a1.length : Int) then ((idx a1 s5.2).bind fun v8 => (if ¬ v8.Key = s5.1 then (some (-1)) else ((idx a1 s5.2).bind fun v11 => (if ¬ v11.Value = (IntKind.wrap .i64 (s5.1 + 1)) then (some (-1)) else (kb6 ((IntKind.wrap .i64 ((IntKind.wrap .i64 (s5.1 + 1)) + 1)), (IntKind.wrap .i64 (s5.2 + 1)))))))) else (kx4 s5.1))

def m_laws_heldCellS (a1 : (List TCell)) (a2 : Int) : Option Int :=
  (iter (laws_heldCellS_b5 a1 laws_heldCellS_j3) FU (a2, 0))

def m_laws_heldMove (a1 : TMove) (a2 : Int) : Option Int :=
  ((m_laws_heldCellS a1.Cells a2).bind fun v3 => (if v3 < 0 then (some (-1)) else (some v3)))

def m_laws_heldAtlas (a1 : TAtlas) (a2 : Int) : Option Int :=
  ((m_laws_heldPartS a1.Parts a2).bind fun v3 => (if v3 < 0 then (some (-1)) else ((m_laws_heldMove a1.Move v3).bind fun v6 => (if v6 < 0 then (some (-1)) else (some v6)))))

def laws_FnExactAtlasSplit_j41 (v12 : (TAtlas × Int)) (v29 : (Int × TAtlas)) (t41 : Bool) : Option Bool :=
  (if t41 = true then (some false) else ((m_laws_heldAtlas (TAtlas.mk v12.1.Epoch v29.2.Parts (TMove.mk v12.1.Move.No v12.1.Move.Stage v12.1.Move.Lo v12.1.Move.Hi v12.1.Move.From v12.1.Move.To v29.2.Move.Cells)) 1).bind fun v44 => (if v44 < 0 then (some false) else (if ¬ v44 = v29.1 then (some false) else (some true)))))

def laws_FnExactAtlasSplit_j26 (v12 : (TAtlas × Int)) (a1 : TAtlas) (a2 : Int) (v8 : (TAtlas × Int)) (t26 : Bool) : Option Bool :=
  (if t26 = true then (some false) else ((m_laws_markAtlas v12.1 1).bind fun v29 => (if v29.2.Parts.length = v12.1.Parts.length then (if v29.2.Move.Cells.length = v12.1.Move.Cells.length then ((m_laws_heldAtlas (TAtlas.mk v12.1.Epoch v29.2.Parts (TMove.mk v12.1.Move.No v12.1.Move.Stage v12.1.Move.Lo v12.1.Move.Hi v12.1.Move.From v12.1.Move.To v29.2.Move.Cells)) 1).bind fun v33 => (if v33 < 0 then (some false) else (if ¬ v33 = v29.1 then (some false) else ((m_laws_toAtlas a1).bind fun v37 => ((m_impl_AtlasSplit v37 a2).bind fun v39 => ((m_laws_eqAtlas v39.1 v8.1).bind fun v48 => (if v48 = true then ((laws_FnExactAtlasSplit_j41 v12 v29) (decide (¬ v39.2 = v8.2))) else ((laws_FnExactAtlasSplit_j41 v12 v29) true)))))))) else none) else none)))

def laws_FnExactAtlasSplit_j14 (a1 : TAtlas) (v10 : TAtlas) (v12 : (TAtlas × Int)) (a2 : Int) (v8 : (TAtlas × Int)) (t14 : Bool) : Option Bool :=
  (if t14 = true then (some false) else ((m_laws_toAtlas a1).bind fun v17 => ((m_laws_eqAtlas v10 v17).bind fun v19 => (if v19 = true then ((m_laws_markAtlas v10 1).bind fun v22 => (if v22.2.Parts.length = v10.Parts.length then (if v22.2.Move.Cells.length = v10.Move.Cells.length then (if v22.1 < 0 then ((laws_FnExactAtlasSplit_j26 v12 a1 a2 v8) true) else ((m_laws_eqAtlas v12.1 v8.1).bind fun v52 => (if v52 = true then ((laws_FnExactAtlasSplit_j26 v12 a1 a2 v8) (decide (¬ v12.2 = v8.2))) else ((laws_FnExactAtlasSplit_j26 v12 a1 a2 v8) true)))) else none) else none)) else (some false)))))

def m_laws_FnExactAtlasSplit (a1 : TAtlas) (a2 : Int) : Option Bool :=
  ((m_laws_szAtlas a1 1048576).bind fun v3 => (if v3 < 0 then (some true) else ((m_laws_toAtlas a1).bind fun v6 => ((m_spec_AtlasSplit v6 a2).bind fun v8 => ((m_laws_toAtlas a1).bind fun v10 => ((m_impl_AtlasSplit v10 a2).bind fun v12 => ((m_laws_eqAtlas v12.1 v8.1).bind fun v55 => (if v55 = true then ((laws_FnExactAtlasSplit_j14 a1 v10 v12 a2 v8) (decide (¬ v12.2 = v8.2))) else ((laws_FnExactAtlasSplit_j14 a1 v10 v12 a2 v8) true)))))))))

end Go.AW
