/- Plain functions that say what functions of the program compute: printed by a program of the prover's own (tool/dec.py). Conditions: none. -/
import Derived.Test.YtkdaohfkphodeaaYb
set_option linter.unusedVariables false
set_option maxRecDepth 100000
namespace Go.AW

structure TCell where
  Key : Int
  Value : Int
deriving DecidableEq

def ok_TCell (x : TCell) : Prop := inK .i64 x.Key ∧ inK .i64 x.Value

structure TMove where
  No : Int
  Stage : Int
  Lo : Int
  Hi : Int
  From : Int
  To : Int
  Cells : (List TCell)
deriving DecidableEq

def ok_TMove (x : TMove) : Prop := inK .i64 x.No ∧ inK .i64 x.Stage ∧ inK .i64 x.Lo ∧ inK .i64 x.Hi ∧ inK .i64 x.From ∧ inK .i64 x.To ∧ okS ok_TCell x.Cells

abbrev d_TCell (x : TCell) : List D := [(.int .i64 x.Key), (.int .i64 x.Value)]

abbrev d_TMove (x : TMove) : List D := [(.int .i64 x.No), (.int .i64 x.Stage), (.int .i64 x.Lo), (.int .i64 x.Hi), (.int .i64 x.From), (.int .i64 x.To), (.sl 2 (List.map d_TCell x.Cells))]

abbrev d_i64 (x : Int) : List D := [(.int .i64 x)]

abbrev dS_TCell (x : (List TCell)) : List D := [(.sl 2 (List.map d_TCell x))]

def m_laws_szCellS (a1 : (List TCell)) (a2 : Int) : Option Int :=
  (if (IntKind.wrap .i64 (a2 - (a1.length : Int))) < 0 then (some (-1)) else (some (IntKind.wrap .i64 (a2 - (a1.length : Int)))))

def m_laws_szMove (a1 : TMove) (a2 : Int) : Option Int :=
  ((m_laws_szCellS a1.Cells a2).bind fun v3 => (if v3 < 0 then (some (-1)) else (some v3)))

def m_laws_toCell (a1 : TCell) : Option TCell :=
  (some a1)

def laws_toCellS_j3  (t3 : (List TCell)) : Option (List TCell) :=
  (some t3)

def laws_toCellS_b5 (a1 : (List TCell)) (kx4 : ((List TCell) → Option (List TCell))) (kb6 : (((List TCell) × Int) → Option (List TCell))) (s5 : ((List TCell) × Int)) : Option (List TCell) :=
  (if s5.2 < (a1.length : Int) then ((idx a1 s5.2).bind fun v8 => ((m_laws_toCell v8).bind fun v10 => ((idx s5.1 s5.2).bind fun v12 => (kb6 (s5.1.set (Int.toNat s5.2) v10, (IntKind.wrap .i64 (s5.2 + 1))))))) else (kx4 s5.1))

def m_laws_toCellS (a1 : (List TCell)) : Option (List TCell) :=
  (if 0 ≤ (a1.length : Int) ∧ (a1.length : Int) ≤ 2147483648 then (iter (laws_toCellS_b5 a1 laws_toCellS_j3) FU ((List.replicate (Int.toNat (a1.length : Int)) (TCell.mk 0 0)), 0)) else none)

def m_laws_toMove (a1 : TMove) : Option TMove :=
  ((m_laws_toCellS a1.Cells).bind fun v2 => (some (TMove.mk a1.No a1.Stage a1.Lo a1.Hi a1.From a1.To v2)))

def m_spec_l1In (a1 : Int) (a2 : Int) (a3 : Int) : Option Bool :=
  (if a2 ≤ a1 then (some (decide (a1 ≤ a3))) else (some false))

def m_spec_l1Min (a1 : Int) (a2 : Int) : Option Int :=
  (if a1 < a2 then (some a1) else (some a2))

def spec_MoveRank_j2 (a1 : TMove) (t2 : Bool) : Option Int :=
  (if t2 = true then (some 0) else ((m_spec_l1Min a1.Stage 3).bind fun v5 => (some (IntKind.wrap .i64 ((IntKind.wrap .i64 (3 * (IntKind.wrap .i64 (a1.No - 1)))) + v5)))))

def m_spec_MoveRank (a1 : TMove) : Option Int :=
  ((m_spec_l1In a1.No 1 300000).bind fun v7 => (if v7 = true then ((m_spec_l1In a1.Stage 1 4).bind fun v10 => ((spec_MoveRank_j2 a1) (!v10))) else ((spec_MoveRank_j2 a1) true)))

def m_impl_from (a1 : Int) (a2 : Int) (a3 : Int) : Option Bool :=
  (if a2 ≤ a1 then (some (decide (a1 ≤ a3))) else (some false))

def impl_MoveRank_j2 (a1 : TMove) (t2 : Bool) : Option Int :=
  (if t2 = true then (some 0) else (some (IntKind.wrap .i64 ((IntKind.wrap .i64 (3 * (IntKind.wrap .i64 (a1.No - 1)))) + (if 3 < a1.Stage then 3 else a1.Stage)))))

def m_impl_MoveRank (a1 : TMove) : Option Int :=
  ((m_impl_from a1.No 1 300000).bind fun v5 => (if v5 = true then ((m_impl_from a1.Stage 1 4).bind fun v8 => ((impl_MoveRank_j2 a1) (!v8))) else ((impl_MoveRank_j2 a1) true)))

def m_laws_eqCell (a1 : TCell) (a2 : TCell) : Option Bool :=
  (if ¬ a1.Key = a2.Key then (some false) else (if ¬ a1.Value = a2.Value then (some false) else (some true)))

def laws_eqCellS_j4  (t4 : Unit) : Option Bool :=
  (some true)

def laws_eqCellS_b6 (a1 : (List TCell)) (a2 : (List TCell)) (kx5 : (Unit → Option Bool)) (kb7 : (Int → Option Bool)) (s6 : Int) : Option Bool :=
  (if s6 < (a1.length : Int) then ((idx a1 s6).bind fun v9 => ((idx a2 s6).bind fun v11 => ((m_laws_eqCell v9 v11).bind fun v13 => (if v13 = true then (kb7 (IntKind.wrap .i64 (s6 + 1))) else (some false))))) else (kx5 ()))

def m_laws_eqCellS (a1 : (List TCell)) (a2 : (List TCell)) : Option Bool :=
  (if ¬ (a1.length : Int) = (a2.length : Int) then (some false) else (iter (laws_eqCellS_b6 a1 a2 laws_eqCellS_j4) FU 0))

def m_laws_eqMove (a1 : TMove) (a2 : TMove) : Option Bool :=
  (if ¬ a1.No = a2.No then (some false) else (if ¬ a1.Stage = a2.Stage then (some false) else (if ¬ a1.Lo = a2.Lo then (some false) else (if ¬ a1.Hi = a2.Hi then (some false) else (if ¬ a1.From = a2.From then (some false) else (if ¬ a1.To = a2.To then (some false) else ((m_laws_eqCellS a1.Cells a2.Cells).bind fun v9 => (if v9 = true then (some true) else (some false)))))))))

def m_laws_FnExactMoveRank (a1 : TMove) : Option Bool :=
  ((m_laws_szMove a1 1048576).bind fun v2 => (if v2 < 0 then (some true) else ((m_laws_toMove a1).bind fun v5 => ((m_spec_MoveRank v5).bind fun v7 => ((m_laws_toMove a1).bind fun v9 => ((m_impl_MoveRank v9).bind fun v11 => (if ¬ v11 = v7 then (some false) else ((m_laws_toMove a1).bind fun v14 => ((m_laws_eqMove v9 v14).bind fun v16 => (if v16 = true then (some true) else (some false)))))))))))

end Go.AW
