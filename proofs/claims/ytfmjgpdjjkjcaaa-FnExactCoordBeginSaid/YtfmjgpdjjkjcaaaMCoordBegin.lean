/- Plain functions that say what functions of the program compute: printed by a program of the prover's own (tool/dec.py). Conditions: none. -/
import Derived.Test.YtfmjgpdjjkjcaaaYi
set_option linter.unusedVariables false
set_option linter.unusedSimpArgs false
set_option maxRecDepth 100000
namespace Go.AW
structure TRange where
  Lo : Int
  Hi : Int
deriving DecidableEq
def ok_TRange (x : TRange) : Prop := inK .i64 x.Lo ∧ inK .i64 x.Hi
structure TCell where
  Key : Int
  Value : Int
deriving DecidableEq
def ok_TCell (x : TCell) : Prop := inK .i64 x.Key ∧ inK .i64 x.Value
structure TShare where
  Group : Int
  Reads : (List TRange)
  Writes : (List TCell)
  Vote : Int
deriving DecidableEq
def ok_TShare (x : TShare) : Prop := inK .i64 x.Group ∧ okS ok_TRange x.Reads ∧ okS ok_TCell x.Writes ∧ inK .i64 x.Vote
structure TRec where
  Tx : Int
  Client : Int
  Req : Int
  State : Int
  Shares : (List TShare)
deriving DecidableEq
def ok_TRec (x : TRec) : Prop := inK .i64 x.Tx ∧ inK .i64 x.Client ∧ inK .i64 x.Req ∧ inK .i64 x.State ∧ okS ok_TShare x.Shares
structure TCoord where
  Recs : (List TRec)
  Order : (List Int)
deriving DecidableEq
def ok_TCoord (x : TCoord) : Prop := okS ok_TRec x.Recs ∧ okS (inK .i64) x.Order
abbrev d_TRange (x : TRange) : List D := [(.int .i64 x.Lo), (.int .i64 x.Hi)]
abbrev d_TCell (x : TCell) : List D := [(.int .i64 x.Key), (.int .i64 x.Value)]
abbrev d_TShare (x : TShare) : List D := [(.int .i64 x.Group), (.sl 2 (List.map d_TRange x.Reads)), (.sl 2 (List.map d_TCell x.Writes)), (.int .i64 x.Vote)]
abbrev d_TRec (x : TRec) : List D := [(.int .i64 x.Tx), (.int .i64 x.Client), (.int .i64 x.Req), (.int .i64 x.State), (.sl 4 (List.map d_TShare x.Shares))]
abbrev d_i64 (x : Int) : List D := [(.int .i64 x)]
abbrev d_TCoord (x : TCoord) : List D := [(.sl 5 (List.map d_TRec x.Recs)), (.sl 1 (List.map d_i64 x.Order))]
abbrev dS_i64 (x : (List Int)) : List D := [(.sl 1 (List.map d_i64 x))]
abbrev dS_TCell (x : (List TCell)) : List D := [(.sl 2 (List.map d_TCell x))]
abbrev dS_TRange (x : (List TRange)) : List D := [(.sl 2 (List.map d_TRange x))]
abbrev dS_TShare (x : (List TShare)) : List D := [(.sl 4 (List.map d_TShare x))]
abbrev dS_TRec (x : (List TRec)) : List D := [(.sl 5 (List.map d_TRec x))]
def m_laws_szRangeS (a1 : (List TRange)) (a2 : Int) : Option Int :=
  (if (IntKind.wrap .i64 (a2 - (a1.length : Int))) < 0 then (some (-1)) else (some (IntKind.wrap .i64 (a2 - (a1.length : Int)))))
def m_laws_szWriteS (a1 : (List TCell)) (a2 : Int) : Option Int :=
  (if (IntKind.wrap .i64 (a2 - (a1.length : Int))) < 0 then (some (-1)) else (some (IntKind.wrap .i64 (a2 - (a1.length : Int)))))
def m_laws_szShare (a1 : TShare) (a2 : Int) : Option Int :=
  ((m_laws_szRangeS a1.Reads a2).bind fun v3 => (if v3 < 0 then (some (-1)) else ((m_laws_szWriteS a1.Writes v3).bind fun v6 => (if v6 < 0 then (some (-1)) else (some v6)))))
def laws_szShareS_j4  (t4 : Int) : Option Int :=
  (some t4)
def laws_szShareS_b6 (a1 : (List TShare)) (kx5 : (Int → Option Int)) (kb7 : ((Int × Int) → Option Int)) (s6 : (Int × Int)) : Option Int :=
  (if s6.2 < (a1.length : Int) then ((idx a1 s6.2).bind fun v9 => ((m_laws_szShare v9 s6.1).bind fun v11 => (if v11 < 0 then (some (-1)) else (kb7 (v11, (IntKind.wrap .i64 (s6.2 + 1))))))) else (kx5 s6.1))
def m_laws_szShareS (a1 : (List TShare)) (a2 : Int) : Option Int :=
  (if (IntKind.wrap .i64 (a2 - (a1.length : Int))) < 0 then (some (-1)) else (iter (laws_szShareS_b6 a1 laws_szShareS_j4) FU ((IntKind.wrap .i64 (a2 - (a1.length : Int))), 0)))
def m_laws_szRec (a1 : TRec) (a2 : Int) : Option Int :=
  ((m_laws_szShareS a1.Shares a2).bind fun v3 => (if v3 < 0 then (some (-1)) else (some v3)))
def laws_szRecS_j4  (t4 : Int) : Option Int :=
  (some t4)
def laws_szRecS_b6 (a1 : (List TRec)) (kx5 : (Int → Option Int)) (kb7 : ((Int × Int) → Option Int)) (s6 : (Int × Int)) : Option Int :=
  (if s6.2 < (a1.length : Int) then ((idx a1 s6.2).bind fun v9 => ((m_laws_szRec v9 s6.1).bind fun v11 => (if v11 < 0 then (some (-1)) else (kb7 (v11, (IntKind.wrap .i64 (s6.2 + 1))))))) else (kx5 s6.1))
def m_laws_szRecS (a1 : (List TRec)) (a2 : Int) : Option Int :=
  (if (IntKind.wrap .i64 (a2 - (a1.length : Int))) < 0 then (some (-1)) else (iter (laws_szRecS_b6 a1 laws_szRecS_j4) FU ((IntKind.wrap .i64 (a2 - (a1.length : Int))), 0)))
def m_laws_szIntS (a1 : (List Int)) (a2 : Int) : Option Int :=
  (if (IntKind.wrap .i64 (a2 - (a1.length : Int))) < 0 then (some (-1)) else (some (IntKind.wrap .i64 (a2 - (a1.length : Int)))))
def m_laws_szCoord (a1 : TCoord) (a2 : Int) : Option Int :=
  ((m_laws_szRecS a1.Recs a2).bind fun v3 => (if v3 < 0 then (some (-1)) else ((m_laws_szIntS a1.Order v3).bind fun v6 => (if v6 < 0 then (some (-1)) else (some v6)))))
def m_laws_toRange (a1 : TRange) : Option TRange :=
  (some a1)
def laws_toRangeS_j3  (t3 : (List TRange)) : Option (List TRange) :=
  (some t3)
def laws_toRangeS_b5 (a1 : (List TRange)) (kx4 : ((List TRange) → Option (List TRange))) (kb6 : (((List TRange) × Int) → Option (List TRange))) (s5 : ((List TRange) × Int)) : Option (List TRange) :=
  (if s5.2 < (a1.length : Int) then ((idx a1 s5.2).bind fun v8 => ((m_laws_toRange v8).bind fun v10 => ((idx s5.1 s5.2).bind fun v12 => (kb6 (s5.1.set (Int.toNat s5.2) v10, (IntKind.wrap .i64 (s5.2 + 1))))))) else (kx4 s5.1))
def m_laws_toRangeS (a1 : (List TRange)) : Option (List TRange) :=
  (if 0 ≤ (a1.length : Int) ∧ (a1.length : Int) ≤ 2147483648 then (iter (laws_toRangeS_b5 a1 laws_toRangeS_j3) FU ((List.replicate (Int.toNat (a1.length : Int)) (TRange.mk 0 0)), 0)) else none)
def m_laws_toWrite (a1 : TCell) : Option TCell :=
  (some a1)
def laws_toWriteS_j3  (t3 : (List TCell)) : Option (List TCell) :=
  (some t3)
def laws_toWriteS_b5 (a1 : (List TCell)) (kx4 : ((List TCell) → Option (List TCell))) (kb6 : (((List TCell) × Int) → Option (List TCell))) (s5 : ((List TCell) × Int)) : Option (List TCell) :=
  (if s5.2 < (a1.length : Int) then ((idx a1 s5.2).bind fun v8 => ((m_laws_toWrite v8).bind fun v10 => ((idx s5.1 s5.2).bind fun v12 => (kb6 (s5.1.set (Int.toNat s5.2) v10, (IntKind.wrap .i64 (s5.2 + 1))))))) else (kx4 s5.1))
def m_laws_toWriteS (a1 : (List TCell)) : Option (List TCell) :=
  (if 0 ≤ (a1.length : Int) ∧ (a1.length : Int) ≤ 2147483648 then (iter (laws_toWriteS_b5 a1 laws_toWriteS_j3) FU ((List.replicate (Int.toNat (a1.length : Int)) (TCell.mk 0 0)), 0)) else none)
def m_laws_toShare (a1 : TShare) : Option TShare :=
  ((m_laws_toRangeS a1.Reads).bind fun v2 => ((m_laws_toWriteS a1.Writes).bind fun v4 => (some (TShare.mk a1.Group v2 v4 a1.Vote))))
def laws_toShareS_j3  (t3 : (List TShare)) : Option (List TShare) :=
  (some t3)
def laws_toShareS_b5 (a1 : (List TShare)) (kx4 : ((List TShare) → Option (List TShare))) (kb6 : (((List TShare) × Int) → Option (List TShare))) (s5 : ((List TShare) × Int)) : Option (List TShare) :=
  (if s5.2 < (a1.length : Int) then ((idx a1 s5.2).bind fun v8 => ((m_laws_toShare v8).bind fun v10 => ((idx s5.1 s5.2).bind fun v12 => (kb6 (s5.1.set (Int.toNat s5.2) v10, (IntKind.wrap .i64 (s5.2 + 1))))))) else (kx4 s5.1))
def m_laws_toShareS (a1 : (List TShare)) : Option (List TShare) :=
  (if 0 ≤ (a1.length : Int) ∧ (a1.length : Int) ≤ 2147483648 then (iter (laws_toShareS_b5 a1 laws_toShareS_j3) FU ((List.replicate (Int.toNat (a1.length : Int)) (TShare.mk 0 ([] : (List TRange)) ([] : (List TCell)) 0)), 0)) else none)
def m_laws_toRec (a1 : TRec) : Option TRec :=
  ((m_laws_toShareS a1.Shares).bind fun v2 => (some (TRec.mk a1.Tx a1.Client a1.Req a1.State v2)))
def laws_toRecS_j3  (t3 : (List TRec)) : Option (List TRec) :=
  (some t3)
def laws_toRecS_b5 (a1 : (List TRec)) (kx4 : ((List TRec) → Option (List TRec))) (kb6 : (((List TRec) × Int) → Option (List TRec))) (s5 : ((List TRec) × Int)) : Option (List TRec) :=
  (if s5.2 < (a1.length : Int) then ((idx a1 s5.2).bind fun v8 => ((m_laws_toRec v8).bind fun v10 => ((idx s5.1 s5.2).bind fun v12 => (kb6 (s5.1.set (Int.toNat s5.2) v10, (IntKind.wrap .i64 (s5.2 + 1))))))) else (kx4 s5.1))
def m_laws_toRecS (a1 : (List TRec)) : Option (List TRec) :=
  (if 0 ≤ (a1.length : Int) ∧ (a1.length : Int) ≤ 2147483648 then (iter (laws_toRecS_b5 a1 laws_toRecS_j3) FU ((List.replicate (Int.toNat (a1.length : Int)) (TRec.mk 0 0 0 0 ([] : (List TShare)))), 0)) else none)
def laws_toIntS_j3  (t3 : (List Int)) : Option (List Int) :=
  (some t3)
def laws_toIntS_b5 (a1 : (List Int)) (kx4 : ((List Int) → Option (List Int))) (kb6 : (((List Int) × Int) → Option (List Int))) (s5 : ((List Int) × Int)) : Option (List Int) :=
  (if s5.2 < (a1.length : Int) then ((idx a1 s5.2).bind fun v8 => ((idx s5.1 s5.2).bind fun v10 => (kb6 (s5.1.set (Int.toNat s5.2) v8, (IntKind.wrap .i64 (s5.2 + 1)))))) else (kx4 s5.1))
def m_laws_toIntS (a1 : (List Int)) : Option (List Int) :=
  (if 0 ≤ (a1.length : Int) ∧ (a1.length : Int) ≤ 2147483648 then (iter (laws_toIntS_b5 a1 laws_toIntS_j3) FU ((List.replicate (Int.toNat (a1.length : Int)) 0), 0)) else none)
def m_laws_toCoord (a1 : TCoord) : Option TCoord :=
  ((m_laws_toRecS a1.Recs).bind fun v2 => ((m_laws_toIntS a1.Order).bind fun v4 => (some (TCoord.mk v2 v4))))
def m_spec_l1In (a1 : Int) (a2 : Int) (a3 : Int) : Option Bool :=
  (if a2 ≤ a1 then (some (decide (a1 ≤ a3))) else (some false))
def m_spec_l1Whole (a1 : Int) : Option Bool :=
  ((m_spec_l1In a1 0 1000000000).bind fun v2 => (some v2))
def m_spec_l10Key (a1 : Int) : Option Bool :=
  ((m_spec_l1In a1 0 999).bind fun v2 => (some v2))
def spec_WritesOk_j3  (t3 : Unit) : Option Bool :=
  (some true)
def spec_WritesOk_j8 (kb6 : (Int → Option Bool)) (s5 : Int) (t8 : Bool) : Option Bool :=
  (if t8 = true then (some false) else (kb6 (IntKind.wrap .i64 (s5 + 1))))
def spec_WritesOk_b5 (a1 : (List TCell)) (kx4 : (Unit → Option Bool)) (kb6 : (Int → Option Bool)) (s5 : Int) : Option Bool :=
  (if s5 < (a1.length : Int) then ((idx a1 s5).bind fun v11 => ((m_spec_l10Key v11.Key).bind fun v13 => (if v13 = true then ((idx a1 s5).bind fun v16 => ((m_spec_l1In v16.Value (-1) 1000000000).bind fun v18 => (if v18 = true then (if 0 < s5 then ((idx a1 (IntKind.wrap .i64 (s5 - 1))).bind fun v22 => ((idx a1 s5).bind fun v24 => ((spec_WritesOk_j8 kb6 s5) (decide (v24.Key ≤ v22.Key))))) else ((spec_WritesOk_j8 kb6 s5) false)) else ((spec_WritesOk_j8 kb6 s5) true)))) else ((spec_WritesOk_j8 kb6 s5) true)))) else (kx4 ()))
def m_spec_WritesOk (a1 : (List TCell)) : Option Bool :=
  (if 60 < (a1.length : Int) then (some false) else (iter (spec_WritesOk_b5 a1 spec_WritesOk_j3) FU 0))
def m_spec_RangeOk (a1 : TRange) : Option Bool :=
  (if 0 ≤ a1.Lo then (if a1.Lo < a1.Hi then (some (decide (a1.Hi ≤ 1000))) else (some false)) else (some false))
def spec_SharesOk_j3  (t3 : Unit) : Option Bool :=
  (some true)
def spec_SharesOk_j8 (kb6 : (Int → Option Bool)) (s5 : Int) (t8 : Unit) : Option Bool :=
  (kb6 (IntKind.wrap .i64 (s5 + 1)))
def spec_SharesOk_b15 (v10 : TShare) (kx9 : (Unit → Option Bool)) (kb16 : (Int → Option Bool)) (s15 : Int) : Option Bool :=
  (if s15 < (v10.Reads.length : Int) then ((idx v10.Reads s15).bind fun v18 => ((m_spec_RangeOk v18).bind fun v20 => (if v20 = true then (kb16 (IntKind.wrap .i64 (s15 + 1))) else (some false)))) else (kx9 ()))
def spec_SharesOk_j12 (v10 : TShare) (kx9 : (Unit → Option Bool)) (t12 : Bool) : Option Bool :=
  (if t12 = true then (some false) else (iter (spec_SharesOk_b15 v10 kx9) FU 0))
def spec_SharesOk_b5 (a1 : (List TShare)) (kx4 : (Unit → Option Bool)) (kb6 : (Int → Option Bool)) (s5 : Int) : Option Bool :=
  (if s5 < (a1.length : Int) then ((idx a1 s5).bind fun v10 => ((m_spec_l1In v10.Group 0 3).bind fun v23 => (if v23 = true then (if 0 < s5 then ((idx a1 (IntKind.wrap .i64 (s5 - 1))).bind fun v27 => (if v10.Group ≤ v27.Group then ((spec_SharesOk_j12 v10 (spec_SharesOk_j8 kb6 s5)) true) else (if 16 < (v10.Reads.length : Int) then ((spec_SharesOk_j12 v10 (spec_SharesOk_j8 kb6 s5)) true) else ((m_spec_WritesOk v10.Writes).bind fun v31 => (if v31 = true then ((m_spec_l1In v10.Vote 0 2).bind fun v34 => ((spec_SharesOk_j12 v10 (spec_SharesOk_j8 kb6 s5)) (!v34))) else ((spec_SharesOk_j12 v10 (spec_SharesOk_j8 kb6 s5)) true)))))) else (if 16 < (v10.Reads.length : Int) then ((spec_SharesOk_j12 v10 (spec_SharesOk_j8 kb6 s5)) true) else ((m_spec_WritesOk v10.Writes).bind fun v37 => (if v37 = true then ((m_spec_l1In v10.Vote 0 2).bind fun v40 => ((spec_SharesOk_j12 v10 (spec_SharesOk_j8 kb6 s5)) (!v40))) else ((spec_SharesOk_j12 v10 (spec_SharesOk_j8 kb6 s5)) true))))) else ((spec_SharesOk_j12 v10 (spec_SharesOk_j8 kb6 s5)) true)))) else (kx4 ()))
def m_spec_SharesOk (a1 : (List TShare)) : Option Bool :=
  (if 4 < (a1.length : Int) then (some false) else (iter (spec_SharesOk_b5 a1 spec_SharesOk_j3) FU 0))
def spec_l14Votes_j3  (t3 : Int) : Option Int :=
  (some t3)
def spec_l14Votes_b5 (a1 : (List TShare)) (a2 : Int) (kx4 : (Int → Option Int)) (kb6 : ((Int × Int) → Option Int)) (s5 : (Int × Int)) : Option Int :=
  (if s5.2 < (a1.length : Int) then ((idx a1 s5.2).bind fun v8 => (if v8.Vote = a2 then (kb6 ((IntKind.wrap .i64 (s5.1 + 1)), (IntKind.wrap .i64 (s5.2 + 1)))) else (kb6 (s5.1, (IntKind.wrap .i64 (s5.2 + 1)))))) else (kx4 s5.1))
def m_spec_l14Votes (a1 : (List TShare)) (a2 : Int) : Option Int :=
  (iter (spec_l14Votes_b5 a1 a2 spec_l14Votes_j3) FU (0, 0))
def spec_l14RecOk_j2 (a1 : TRec) (t2 : Bool) : Option Bool :=
  (if t2 = true then (some false) else (if a1.State = 1 then (some (decide ((a1.Shares.length : Int) = 0))) else (if a1.State = 2 then ((m_spec_l14Votes a1.Shares 0).bind fun v7 => (if 0 < v7 then ((m_spec_l14Votes a1.Shares 2).bind fun v10 => (some (decide (v10 = 0)))) else (some false))) else (if a1.State = 3 then ((m_spec_l14Votes a1.Shares 1).bind fun v13 => (some (decide (v13 = (a1.Shares.length : Int))))) else (some (decide (a1.State = 4)))))))
def m_spec_l14RecOk (a1 : TRec) : Option Bool :=
  ((m_spec_l1Whole a1.Client).bind fun v15 => (if v15 = true then ((m_spec_l1In a1.Req 1 1000000000).bind fun v18 => (if v18 = true then ((m_spec_SharesOk a1.Shares).bind fun v21 => ((spec_l14RecOk_j2 a1) (!v21))) else ((spec_l14RecOk_j2 a1) true))) else ((spec_l14RecOk_j2 a1) true)))
def spec_l12Has_j3  (t3 : Unit) : Option Bool :=
  (some false)
def spec_l12Has_b5 (a1 : (List Int)) (a2 : Int) (kx4 : (Unit → Option Bool)) (kb6 : (Int → Option Bool)) (s5 : Int) : Option Bool :=
  (if s5 < (a1.length : Int) then ((idx a1 s5).bind fun v8 => (if v8 = a2 then (some true) else (kb6 (IntKind.wrap .i64 (s5 + 1))))) else (kx4 ()))
def m_spec_l12Has (a1 : (List Int)) (a2 : Int) : Option Bool :=
  (iter (spec_l12Has_b5 a1 a2 spec_l12Has_j3) FU 0)
def spec_CoordOk_j7 (t5 : Int) (a1 : TCoord) (t7 : Unit) : Option Bool :=
  (some (decide (t5 = (a1.Order.length : Int))))
def spec_CoordOk_j14 (kb10 : (Int → Option Bool)) (s9 : Int) (t14 : Bool) : Option Bool :=
  (if t14 = true then (some false) else (kb10 (IntKind.wrap .i64 (s9 + 1))))
def spec_CoordOk_b9 (a1 : TCoord) (kx8 : (Unit → Option Bool)) (kb10 : (Int → Option Bool)) (s9 : Int) : Option Bool :=
  (if s9 < (a1.Order.length : Int) then ((idx a1.Order s9).bind fun v12 => ((m_spec_l1In v12 1 (a1.Recs.length : Int)).bind fun v17 => (if v17 = true then ((idx a1.Recs (IntKind.wrap .i64 (v12 - 1))).bind fun v20 => (if ¬ v20.State = 3 then ((spec_CoordOk_j14 kb10 s9) true) else ((cut a1.Order 0 s9).bind fun v23 => ((m_spec_l12Has v23 v12).bind fun v25 => ((spec_CoordOk_j14 kb10 s9) v25))))) else ((spec_CoordOk_j14 kb10 s9) true)))) else (kx8 ()))
def spec_CoordOk_j5 (a1 : TCoord) (t5 : Int) : Option Bool :=
  (iter (spec_CoordOk_b9 a1 (spec_CoordOk_j7 t5 a1)) FU 0)
def spec_CoordOk_j30 (kb28 : ((Int × Int) → Option Bool)) (s27 : (Int × Int)) (t30 : Int) : Option Bool :=
  (kb28 (t30, (IntKind.wrap .i64 (s27.2 + 1))))
def spec_CoordOk_j37 (v32 : TRec) (kx31 : (Int → Option Bool)) (s27 : (Int × Int)) (t37 : Unit) : Option Bool :=
  (if v32.State = 3 then (kx31 (IntKind.wrap .i64 (s27.1 + 1))) else (kx31 s27.1))
def spec_CoordOk_j43 (kb41 : (Int → Option Bool)) (s40 : Int) (t43 : Bool) : Option Bool :=
  (if t43 = true then (some false) else (kb41 (IntKind.wrap .i64 (s40 + 1))))
def spec_CoordOk_b40 (s27 : (Int × Int)) (a1 : TCoord) (v32 : TRec) (kx38 : (Unit → Option Bool)) (kb41 : (Int → Option Bool)) (s40 : Int) : Option Bool :=
  (if s40 < s27.2 then ((idx a1.Recs s40).bind fun v46 => (if v46.Client = v32.Client then ((idx a1.Recs s40).bind fun v49 => ((spec_CoordOk_j43 kb41 s40) (decide (v49.Req = v32.Req)))) else ((spec_CoordOk_j43 kb41 s40) false))) else (kx38 ()))
def spec_CoordOk_j34 (s27 : (Int × Int)) (a1 : TCoord) (v32 : TRec) (kx31 : (Int → Option Bool)) (t34 : Bool) : Option Bool :=
  (if t34 = true then (some false) else (iter (spec_CoordOk_b40 s27 a1 v32 (spec_CoordOk_j37 v32 kx31 s27)) FU 0))
def spec_CoordOk_b27 (a1 : TCoord) (kx6 : (Int → Option Bool)) (kb28 : ((Int × Int) → Option Bool)) (s27 : (Int × Int)) : Option Bool :=
  (if s27.2 < (a1.Recs.length : Int) then ((idx a1.Recs s27.2).bind fun v32 => (if ¬ v32.Tx = (IntKind.wrap .i64 (s27.2 + 1)) then ((spec_CoordOk_j34 s27 a1 v32 (spec_CoordOk_j30 kb28 s27)) true) else ((m_spec_l14RecOk v32).bind fun v52 => ((spec_CoordOk_j34 s27 a1 v32 (spec_CoordOk_j30 kb28 s27)) (!v52))))) else (kx6 s27.1))
def spec_CoordOk_j2 (a1 : TCoord) (t2 : Bool) : Option Bool :=
  (if t2 = true then (some false) else (iter (spec_CoordOk_b27 a1 (spec_CoordOk_j5 a1)) FU (0, 0)))
def m_spec_CoordOk (a1 : TCoord) : Option Bool :=
  (if 60 < (a1.Recs.length : Int) then ((spec_CoordOk_j2 a1) true) else ((spec_CoordOk_j2 a1) (decide (60 < (a1.Order.length : Int)))))
def spec_l14Shares_j2  (t2 : (List TShare)) : Option (List TShare) :=
  (some t2)
def spec_l14Shares_b4 (a1 : (List TShare)) (kx3 : ((List TShare) → Option (List TShare))) (kb5 : (((List TShare) × Int) → Option (List TShare))) (s4 : ((List TShare) × Int)) : Option (List TShare) :=
  (if s4.2 < (a1.length : Int) then ((idx a1 s4.2).bind fun v7 => (if v7.Reads.length ≤ 2147483648 then (if v7.Writes.length ≤ 2147483648 then (if (s4.1 ++ [v7]).length ≤ 2147483648 then (kb5 ((s4.1 ++ [v7]), (IntKind.wrap .i64 (s4.2 + 1)))) else none) else none) else none)) else (kx3 s4.1))
def m_spec_l14Shares (a1 : (List TShare)) : Option (List TShare) :=
  (iter (spec_l14Shares_b4 a1 spec_l14Shares_j2) FU (([] : List TShare), 0))
def spec_l14Copy_j3 (a1 : TCoord) (t3 : (List TRec)) : Option TCoord :=
  (some (TCoord.mk t3 a1.Order))
def spec_l14Copy_b5 (a1 : TCoord) (kx4 : ((List TRec) → Option TCoord)) (kb6 : ((Int × (List TRec)) → Option TCoord)) (s5 : (Int × (List TRec))) : Option TCoord :=
  (if s5.1 < (a1.Recs.length : Int) then ((idx a1.Recs s5.1).bind fun v8 => ((m_spec_l14Shares v8.Shares).bind fun v10 => (if (s5.2 ++ [(TRec.mk v8.Tx v8.Client v8.Req v8.State v10)]).length ≤ 2147483648 then (kb6 ((IntKind.wrap .i64 (s5.1 + 1)), (s5.2 ++ [(TRec.mk v8.Tx v8.Client v8.Req v8.State v10)]))) else none))) else (kx4 s5.2))
def m_spec_l14Copy (a1 : TCoord) : Option TCoord :=
  (if a1.Order.length ≤ 2147483648 then (iter (spec_l14Copy_b5 a1 (spec_l14Copy_j3 a1)) FU (0, ([] : List TRec))) else none)
def spec_CoordFind_j4  (t4 : Unit) : Option Int :=
  (some 0)
def spec_CoordFind_j12 (a1 : TCoord) (s6 : Int) (kb7 : (Int → Option Int)) (t12 : Bool) : Option Int :=
  (if t12 = true then ((idx a1.Recs s6).bind fun v15 => (some v15.Tx)) else (kb7 (IntKind.wrap .i64 (s6 + 1))))
def spec_CoordFind_b6 (a1 : TCoord) (a2 : Int) (a3 : Int) (kx5 : (Unit → Option Int)) (kb7 : (Int → Option Int)) (s6 : Int) : Option Int :=
  (if s6 < (a1.Recs.length : Int) then ((m_spec_CoordOk a1).bind fun v9 => (if v9 = true then ((idx a1.Recs s6).bind fun v17 => (if v17.Client = a2 then ((idx a1.Recs s6).bind fun v20 => ((spec_CoordFind_j12 a1 s6 kb7) (decide (v20.Req = a3)))) else ((spec_CoordFind_j12 a1 s6 kb7) false))) else (kx5 ()))) else (kx5 ()))
def m_spec_CoordFind (a1 : TCoord) (a2 : Int) (a3 : Int) : Option Int :=
  (iter (spec_CoordFind_b6 a1 a2 a3 spec_CoordFind_j4) FU 0)
def spec_CoordBegin_j4 (a1 : TCoord) (a2 : Int) (a3 : Int) (t4 : Bool) : Option (TCoord × Int × Int) :=
  (if t4 = true then (some ((TCoord.mk ([] : (List TRec)) ([] : (List Int))), 0, 1)) else ((m_spec_l14Copy a1).bind fun v7 => ((m_spec_CoordFind a1 a2 a3).bind fun v9 => (if 0 < v9 then (some (v7, v9, 0)) else (if (a1.Recs.length : Int) = 60 then (some (v7, 0, 4)) else (if (v7.Recs ++ [(TRec.mk (IntKind.wrap .i64 ((a1.Recs.length : Int) + 1)) a2 a3 1 ([] : List TShare))]).length ≤ 2147483648 then (some ((TCoord.mk (v7.Recs ++ [(TRec.mk (IntKind.wrap .i64 ((a1.Recs.length : Int) + 1)) a2 a3 1 ([] : List TShare))]) v7.Order), (IntKind.wrap .i64 ((a1.Recs.length : Int) + 1)), 0)) else none))))))
def m_spec_CoordBegin (a1 : TCoord) (a2 : Int) (a3 : Int) : Option (TCoord × Int × Int) :=
  ((m_spec_CoordOk a1).bind fun v14 => (if v14 = true then ((m_spec_l1Whole a2).bind fun v17 => (if v17 = true then ((m_spec_l1In a3 1 1000000000).bind fun v20 => ((spec_CoordBegin_j4 a1 a2 a3) (!v20))) else ((spec_CoordBegin_j4 a1 a2 a3) true))) else ((spec_CoordBegin_j4 a1 a2 a3) true)))
def m_impl_from (a1 : Int) (a2 : Int) (a3 : Int) : Option Bool :=
  (if a2 ≤ a1 then (some (decide (a1 ≤ a3))) else (some false))
def m_impl_isWhole (a1 : Int) : Option Bool :=
  ((m_impl_from a1 0 1000000000).bind fun v2 => (some v2))
def m_impl_isReq (a1 : Int) : Option Bool :=
  ((m_impl_from a1 1 1000000000).bind fun v2 => (some v2))
def m_impl_isGroup (a1 : Int) : Option Bool :=
  ((m_impl_from a1 0 3).bind fun v2 => (some v2))
def m_impl_RangeOk (a1 : TRange) : Option Bool :=
  (if 0 ≤ a1.Lo then (if a1.Lo < a1.Hi then (some (decide (a1.Hi ≤ 1000))) else (some false)) else (some false))
def m_impl_readsOk_1 (a1 : TRange) : Option Bool :=
  ((m_impl_RangeOk a1).bind fun v2 => (some (!v2)))
def slices_IndexFunc_Range__readsOk_1_j2  (t2 : Unit) : Option Int :=
  (some (-1))
def slices_IndexFunc_Range__readsOk_1_b4 (a1 : (List TRange)) (kx3 : (Unit → Option Int)) (kb5 : (Int → Option Int)) (s4 : Int) : Option Int :=
  (if s4 < (a1.length : Int) then ((idx a1 s4).bind fun v7 => ((m_impl_readsOk_1 v7).bind fun v9 => (if v9 = true then (some s4) else (kb5 (IntKind.wrap .i64 (s4 + 1)))))) else (kx3 ()))
def m_slices_IndexFunc_Range__readsOk_1 (a1 : (List TRange)) : Option Int :=
  (iter (slices_IndexFunc_Range__readsOk_1_b4 a1 slices_IndexFunc_Range__readsOk_1_j2) FU 0)
def m_slices_ContainsFunc_Range__readsOk_1 (a1 : (List TRange)) : Option Bool :=
  ((m_slices_IndexFunc_Range__readsOk_1 a1).bind fun v2 => (some (decide (0 ≤ v2))))
def m_impl_readsOk (a1 : (List TRange)) : Option Bool :=
  (if (a1.length : Int) ≤ 16 then ((m_slices_ContainsFunc_Range__readsOk_1 a1).bind fun v3 => (some (!v3))) else (some false))
def m_impl_isKey (a1 : Int) : Option Bool :=
  ((m_impl_from a1 0 999).bind fun v2 => (some v2))
def m_impl_isAnswer (a1 : Int) : Option Bool :=
  ((m_impl_from a1 (-1) 1000000000).bind fun v2 => (some v2))
def impl_WritesOk_j2 (a1 : (List TCell)) (t2 : Unit) : Option Bool :=
  (some (decide ((a1.length : Int) ≤ 60)))
def impl_WritesOk_j9 (kb5 : (Int → Option Bool)) (s4 : Int) (t9 : Bool) : Option Bool :=
  (if t9 = true then (some false) else (kb5 (IntKind.wrap .i64 (s4 + 1))))
def impl_WritesOk_b4 (a1 : (List TCell)) (kx3 : (Unit → Option Bool)) (kb5 : (Int → Option Bool)) (s4 : Int) : Option Bool :=
  (if s4 < (a1.length : Int) then ((idx a1 s4).bind fun v7 => ((m_impl_isKey v7.Key).bind fun v12 => (if v12 = true then ((m_impl_isAnswer v7.Value).bind fun v15 => (if v15 = true then (if 0 < s4 then ((idx a1 (IntKind.wrap .i64 (s4 - 1))).bind fun v19 => ((impl_WritesOk_j9 kb5 s4) (decide (v7.Key ≤ v19.Key)))) else ((impl_WritesOk_j9 kb5 s4) false)) else ((impl_WritesOk_j9 kb5 s4) true))) else ((impl_WritesOk_j9 kb5 s4) true)))) else (kx3 ()))
def m_impl_WritesOk (a1 : (List TCell)) : Option Bool :=
  (iter (impl_WritesOk_b4 a1 (impl_WritesOk_j2 a1)) FU 0)
def impl_SharesOk_j2 (a1 : (List TShare)) (t2 : Unit) : Option Bool :=
  (some (decide ((a1.length : Int) ≤ 4)))
def impl_SharesOk_j9 (kb5 : (Int → Option Bool)) (s4 : Int) (t9 : Bool) : Option Bool :=
  (if t9 = true then (some false) else (kb5 (IntKind.wrap .i64 (s4 + 1))))
def impl_SharesOk_b4 (a1 : (List TShare)) (kx3 : (Unit → Option Bool)) (kb5 : (Int → Option Bool)) (s4 : Int) : Option Bool :=
  (if s4 < (a1.length : Int) then ((idx a1 s4).bind fun v7 => ((m_impl_isGroup v7.Group).bind fun v12 => (if v12 = true then (if 0 < s4 then ((idx a1 (IntKind.wrap .i64 (s4 - 1))).bind fun v16 => (if v7.Group ≤ v16.Group then ((impl_SharesOk_j9 kb5 s4) true) else ((m_impl_readsOk v7.Reads).bind fun v19 => (if v19 = true then ((m_impl_WritesOk v7.Writes).bind fun v22 => (if v22 = true then ((m_impl_from v7.Vote 0 2).bind fun v25 => ((impl_SharesOk_j9 kb5 s4) (!v25))) else ((impl_SharesOk_j9 kb5 s4) true))) else ((impl_SharesOk_j9 kb5 s4) true))))) else ((m_impl_readsOk v7.Reads).bind fun v27 => (if v27 = true then ((m_impl_WritesOk v7.Writes).bind fun v30 => (if v30 = true then ((m_impl_from v7.Vote 0 2).bind fun v33 => ((impl_SharesOk_j9 kb5 s4) (!v33))) else ((impl_SharesOk_j9 kb5 s4) true))) else ((impl_SharesOk_j9 kb5 s4) true)))) else ((impl_SharesOk_j9 kb5 s4) true)))) else (kx3 ()))
def m_impl_SharesOk (a1 : (List TShare)) : Option Bool :=
  (iter (impl_SharesOk_b4 a1 (impl_SharesOk_j2 a1)) FU 0)
def m_impl_votes_1 (a1 : TShare) (a2 : Int) : Option Bool :=
  (some (decide (a1.Vote = a2)))
def slices_IndexFunc_Share__votes_1_j3  (t3 : Unit) : Option Int :=
  (some (-1))
def slices_IndexFunc_Share__votes_1_b5 (a1 : (List TShare)) (a2 : Int) (kx4 : (Unit → Option Int)) (kb6 : (Int → Option Int)) (s5 : Int) : Option Int :=
  (if s5 < (a1.length : Int) then ((idx a1 s5).bind fun v8 => ((m_impl_votes_1 v8 a2).bind fun v10 => (if v10 = true then (some s5) else (kb6 (IntKind.wrap .i64 (s5 + 1)))))) else (kx4 ()))
def m_slices_IndexFunc_Share__votes_1 (a1 : (List TShare)) (a2 : Int) : Option Int :=
  (iter (slices_IndexFunc_Share__votes_1_b5 a1 a2 slices_IndexFunc_Share__votes_1_j3) FU 0)
def m_slices_ContainsFunc_Share__votes_1 (a1 : (List TShare)) (a2 : Int) : Option Bool :=
  ((m_slices_IndexFunc_Share__votes_1 a1 a2).bind fun v3 => (some (decide (0 ≤ v3))))
def m_impl_votes (a1 : (List TShare)) (a2 : Int) : Option Bool :=
  ((m_slices_ContainsFunc_Share__votes_1 a1 a2).bind fun v3 => (some v3))
def impl_recOk_j2 (a1 : TRec) (t2 : Bool) : Option Bool :=
  (if t2 = true then (some false) else (if a1.State = 1 then (some (decide ((a1.Shares.length : Int) = 0))) else (if a1.State = 2 then ((m_impl_votes a1.Shares 0).bind fun v7 => (if v7 = true then ((m_impl_votes a1.Shares 2).bind fun v10 => (some (!v10))) else (some false))) else (if a1.State = 3 then ((m_impl_votes a1.Shares 0).bind fun v13 => (if v13 = true then (some false) else ((m_impl_votes a1.Shares 2).bind fun v16 => (some (!v16))))) else (some (decide (a1.State = 4)))))))
def m_impl_recOk (a1 : TRec) : Option Bool :=
  ((m_impl_isWhole a1.Client).bind fun v18 => (if v18 = true then ((m_impl_isReq a1.Req).bind fun v21 => (if v21 = true then ((m_impl_SharesOk a1.Shares).bind fun v24 => ((impl_recOk_j2 a1) (!v24))) else ((impl_recOk_j2 a1) true))) else ((impl_recOk_j2 a1) true)))
def m_impl_CoordOk_1 (a1 : TRec) (a2 : TRec) : Option Bool :=
  (if a1.Client = a2.Client then (some (decide (a1.Req = a2.Req))) else (some false))
def slices_IndexFunc_Rec__CoordOk_1_j3  (t3 : Unit) : Option Int :=
  (some (-1))
def slices_IndexFunc_Rec__CoordOk_1_b5 (a1 : (List TRec)) (a2 : TRec) (kx4 : (Unit → Option Int)) (kb6 : (Int → Option Int)) (s5 : Int) : Option Int :=
  (if s5 < (a1.length : Int) then ((idx a1 s5).bind fun v8 => ((m_impl_CoordOk_1 v8 a2).bind fun v10 => (if v10 = true then (some s5) else (kb6 (IntKind.wrap .i64 (s5 + 1)))))) else (kx4 ()))
def m_slices_IndexFunc_Rec__CoordOk_1 (a1 : (List TRec)) (a2 : TRec) : Option Int :=
  (iter (slices_IndexFunc_Rec__CoordOk_1_b5 a1 a2 slices_IndexFunc_Rec__CoordOk_1_j3) FU 0)
def m_slices_ContainsFunc_Rec__CoordOk_1 (a1 : (List TRec)) (a2 : TRec) : Option Bool :=
  ((m_slices_IndexFunc_Rec__CoordOk_1 a1 a2).bind fun v3 => (some (decide (0 ≤ v3))))
def slices_Index_int_j3  (t3 : Unit) : Option Int :=
  (some (-1))
def slices_Index_int_b5 (a1 : (List Int)) (a2 : Int) (kx4 : (Unit → Option Int)) (kb6 : (Int → Option Int)) (s5 : Int) : Option Int :=
  (if s5 < (a1.length : Int) then ((idx a1 s5).bind fun v8 => (if a2 = v8 then (some s5) else (kb6 (IntKind.wrap .i64 (s5 + 1))))) else (kx4 ()))
def m_slices_Index_int (a1 : (List Int)) (a2 : Int) : Option Int :=
  (iter (slices_Index_int_b5 a1 a2 slices_Index_int_j3) FU 0)
def m_slices_Contains_int (a1 : (List Int)) (a2 : Int) : Option Bool :=
  ((m_slices_Index_int a1 a2).bind fun v3 => (some (decide (0 ≤ v3))))
def impl_CoordOk_j5 (t3 : Int) (a1 : TCoord) (t5 : Unit) : Option Bool :=
  (some (decide (t3 = (a1.Order.length : Int))))
def impl_CoordOk_j12 (kb8 : (Int → Option Bool)) (s7 : Int) (t12 : Bool) : Option Bool :=
  (if t12 = true then (some false) else (kb8 (IntKind.wrap .i64 (s7 + 1))))
def impl_CoordOk_b7 (a1 : TCoord) (kx6 : (Unit → Option Bool)) (kb8 : (Int → Option Bool)) (s7 : Int) : Option Bool :=
  (if s7 < (a1.Order.length : Int) then ((idx a1.Order s7).bind fun v10 => ((m_impl_from v10 1 (a1.Recs.length : Int)).bind fun v15 => (if v15 = true then ((idx a1.Recs (IntKind.wrap .i64 (v10 - 1))).bind fun v18 => (if ¬ v18.State = 3 then ((impl_CoordOk_j12 kb8 s7) true) else ((cut a1.Order 0 s7).bind fun v21 => ((m_slices_Contains_int v21 v10).bind fun v23 => ((impl_CoordOk_j12 kb8 s7) v23))))) else ((impl_CoordOk_j12 kb8 s7) true)))) else (kx6 ()))
def impl_CoordOk_j3 (a1 : TCoord) (t3 : Int) : Option Bool :=
  (iter (impl_CoordOk_b7 a1 (impl_CoordOk_j5 t3 a1)) FU 0)
def impl_CoordOk_j30 (v28 : TRec) (kb26 : ((Int × Int) → Option Bool)) (s25 : (Int × Int)) (t30 : Bool) : Option Bool :=
  (if t30 = true then (some false) else (if v28.State = 3 then (kb26 ((IntKind.wrap .i64 (s25.1 + 1)), (IntKind.wrap .i64 (s25.2 + 1)))) else (kb26 (s25.1, (IntKind.wrap .i64 (s25.2 + 1))))))
def impl_CoordOk_b25 (a1 : TCoord) (kx4 : (Int → Option Bool)) (kb26 : ((Int × Int) → Option Bool)) (s25 : (Int × Int)) : Option Bool :=
  (if s25.2 < (a1.Recs.length : Int) then ((idx a1.Recs s25.2).bind fun v28 => (if ¬ v28.Tx = (IntKind.wrap .i64 (s25.2 + 1)) then ((impl_CoordOk_j30 v28 kb26 s25) true) else ((m_impl_recOk v28).bind fun v35 => (if v35 = true then ((cut a1.Recs 0 s25.2).bind fun v38 => ((m_slices_ContainsFunc_Rec__CoordOk_1 v38 v28).bind fun v40 => ((impl_CoordOk_j30 v28 kb26 s25) v40))) else ((impl_CoordOk_j30 v28 kb26 s25) true))))) else (kx4 s25.1))
def m_impl_CoordOk (a1 : TCoord) : Option Bool :=
  (if 60 < (a1.Recs.length : Int) then (some false) else (iter (impl_CoordOk_b25 a1 (impl_CoordOk_j3 a1)) FU (0, 0)))
def slices_Clone_int_j2 (a1 : (List Int)) (t2 : Unit) : Option (List Int) :=
  (if a1.length ≤ 2147483648 then (some a1) else none)
def m_slices_Clone_int (a1 : (List Int)) : Option (List Int) :=
  (if a1.length = 0 then ((slices_Clone_int_j2 a1) ()) else ((slices_Clone_int_j2 a1) ()))
def slices_Clone_Range_j2 (a1 : (List TRange)) (t2 : Unit) : Option (List TRange) :=
  (if a1.length ≤ 2147483648 then (some a1) else none)
def m_slices_Clone_Range (a1 : (List TRange)) : Option (List TRange) :=
  (if a1.length = 0 then ((slices_Clone_Range_j2 a1) ()) else ((slices_Clone_Range_j2 a1) ()))
def slices_Clone_Write_j2 (a1 : (List TCell)) (t2 : Unit) : Option (List TCell) :=
  (if a1.length ≤ 2147483648 then (some a1) else none)
def m_slices_Clone_Write (a1 : (List TCell)) : Option (List TCell) :=
  (if a1.length = 0 then ((slices_Clone_Write_j2 a1) ()) else ((slices_Clone_Write_j2 a1) ()))
def impl_copyShares_j2  (t2 : (List TShare)) : Option (List TShare) :=
  (some t2)
def impl_copyShares_b4 (a1 : (List TShare)) (kx3 : ((List TShare) → Option (List TShare))) (kb5 : (((List TShare) × Int) → Option (List TShare))) (s4 : ((List TShare) × Int)) : Option (List TShare) :=
  (if s4.2 < (a1.length : Int) then ((idx a1 s4.2).bind fun v7 => ((m_slices_Clone_Range v7.Reads).bind fun v9 => ((m_slices_Clone_Write v7.Writes).bind fun v11 => (if (s4.1 ++ [(TShare.mk v7.Group v9 v11 v7.Vote)]).length ≤ 2147483648 then (kb5 ((s4.1 ++ [(TShare.mk v7.Group v9 v11 v7.Vote)]), (IntKind.wrap .i64 (s4.2 + 1)))) else none)))) else (kx3 s4.1))
def m_impl_copyShares (a1 : (List TShare)) : Option (List TShare) :=
  (iter (impl_copyShares_b4 a1 impl_copyShares_j2) FU (([] : List TShare), 0))
def impl_copyCoord_j4 (v2 : (List Int)) (t4 : (List TRec)) : Option TCoord :=
  (some (TCoord.mk t4 v2))
def impl_copyCoord_b6 (a1 : TCoord) (kx5 : ((List TRec) → Option TCoord)) (kb7 : ((Int × (List TRec)) → Option TCoord)) (s6 : (Int × (List TRec))) : Option TCoord :=
  (if s6.1 < (a1.Recs.length : Int) then ((idx a1.Recs s6.1).bind fun v9 => ((m_impl_copyShares v9.Shares).bind fun v11 => (if (s6.2 ++ [(TRec.mk v9.Tx v9.Client v9.Req v9.State v11)]).length ≤ 2147483648 then (kb7 ((IntKind.wrap .i64 (s6.1 + 1)), (s6.2 ++ [(TRec.mk v9.Tx v9.Client v9.Req v9.State v11)]))) else none))) else (kx5 s6.2))
def m_impl_copyCoord (a1 : TCoord) : Option TCoord :=
  ((m_slices_Clone_int a1.Order).bind fun v2 => (iter (impl_copyCoord_b6 a1 (impl_copyCoord_j4 v2)) FU (0, ([] : List TRec))))
def m_impl_CoordFind_1 (a1 : TRec) (a2 : Int) (a3 : Int) : Option Bool :=
  (if a1.Client = a2 then (some (decide (a1.Req = a3))) else (some false))
def slices_IndexFunc_Rec__CoordFind_1_j4  (t4 : Unit) : Option Int :=
  (some (-1))
def slices_IndexFunc_Rec__CoordFind_1_b6 (a1 : (List TRec)) (a2 : Int) (a3 : Int) (kx5 : (Unit → Option Int)) (kb7 : (Int → Option Int)) (s6 : Int) : Option Int :=
  (if s6 < (a1.length : Int) then ((idx a1 s6).bind fun v9 => ((m_impl_CoordFind_1 v9 a2 a3).bind fun v11 => (if v11 = true then (some s6) else (kb7 (IntKind.wrap .i64 (s6 + 1)))))) else (kx5 ()))
def m_slices_IndexFunc_Rec__CoordFind_1 (a1 : (List TRec)) (a2 : Int) (a3 : Int) : Option Int :=
  (iter (slices_IndexFunc_Rec__CoordFind_1_b6 a1 a2 a3 slices_IndexFunc_Rec__CoordFind_1_j4) FU 0)
def m_impl_CoordFind (a1 : TCoord) (a2 : Int) (a3 : Int) : Option Int :=
  ((m_impl_CoordOk a1).bind fun v4 => (if v4 = true then ((m_slices_IndexFunc_Rec__CoordFind_1 a1.Recs a2 a3).bind fun v7 => (some (IntKind.wrap .i64 (1 + v7)))) else (some 0)))
def impl_CoordBegin_j4 (a1 : TCoord) (a2 : Int) (a3 : Int) (t4 : Bool) : Option (TCoord × Int × Int) :=
  (if t4 = true then (some ((TCoord.mk ([] : (List TRec)) ([] : (List Int))), 0, 1)) else ((m_impl_copyCoord a1).bind fun v7 => ((m_impl_CoordFind a1 a2 a3).bind fun v9 => (if 0 < v9 then (some (v7, v9, 0)) else (if (a1.Recs.length : Int) = 60 then (some (v7, 0, 4)) else (if (v7.Recs ++ [(TRec.mk (IntKind.wrap .i64 ((a1.Recs.length : Int) + 1)) a2 a3 1 ([] : List TShare))]).length ≤ 2147483648 then (some ((TCoord.mk (v7.Recs ++ [(TRec.mk (IntKind.wrap .i64 ((a1.Recs.length : Int) + 1)) a2 a3 1 ([] : List TShare))]) v7.Order), (IntKind.wrap .i64 ((a1.Recs.length : Int) + 1)), 0)) else none))))))
def m_impl_CoordBegin (a1 : TCoord) (a2 : Int) (a3 : Int) : Option (TCoord × Int × Int) :=
  ((m_impl_CoordOk a1).bind fun v14 => (if v14 = true then ((m_impl_isWhole a2).bind fun v17 => (if v17 = true then ((m_impl_isReq a3).bind fun v20 => ((impl_CoordBegin_j4 a1 a2 a3) (!v20))) else ((impl_CoordBegin_j4 a1 a2 a3) true))) else ((impl_CoordBegin_j4 a1 a2 a3) true)))
def m_laws_eqRange (a1 : TRange) (a2 : TRange) : Option Bool :=
  (if ¬ a1.Lo = a2.Lo then (some false) else (if ¬ a1.Hi = a2.Hi then (some false) else (some true)))
def laws_eqRangeS_j4  (t4 : Unit) : Option Bool :=
  (some true)
def laws_eqRangeS_b6 (a1 : (List TRange)) (a2 : (List TRange)) (kx5 : (Unit → Option Bool)) (kb7 : (Int → Option Bool)) (s6 : Int) : Option Bool :=
  (if s6 < (a1.length : Int) then ((idx a1 s6).bind fun v9 => ((idx a2 s6).bind fun v11 => ((m_laws_eqRange v9 v11).bind fun v13 => (if v13 = true then (kb7 (IntKind.wrap .i64 (s6 + 1))) else (some false))))) else (kx5 ()))
def m_laws_eqRangeS (a1 : (List TRange)) (a2 : (List TRange)) : Option Bool :=
  (if ¬ (a1.length : Int) = (a2.length : Int) then (some false) else (iter (laws_eqRangeS_b6 a1 a2 laws_eqRangeS_j4) FU 0))
def m_laws_eqWrite (a1 : TCell) (a2 : TCell) : Option Bool :=
  (if ¬ a1.Key = a2.Key then (some false) else (if ¬ a1.Value = a2.Value then (some false) else (some true)))
def laws_eqWriteS_j4  (t4 : Unit) : Option Bool :=
  (some true)
def laws_eqWriteS_b6 (a1 : (List TCell)) (a2 : (List TCell)) (kx5 : (Unit → Option Bool)) (kb7 : (Int → Option Bool)) (s6 : Int) : Option Bool :=
  (if s6 < (a1.length : Int) then ((idx a1 s6).bind fun v9 => ((idx a2 s6).bind fun v11 => ((m_laws_eqWrite v9 v11).bind fun v13 => (if v13 = true then (kb7 (IntKind.wrap .i64 (s6 + 1))) else (some false))))) else (kx5 ()))
def m_laws_eqWriteS (a1 : (List TCell)) (a2 : (List TCell)) : Option Bool :=
  (if ¬ (a1.length : Int) = (a2.length : Int) then (some false) else (iter (laws_eqWriteS_b6 a1 a2 laws_eqWriteS_j4) FU 0))
def m_laws_eqShare (a1 : TShare) (a2 : TShare) : Option Bool :=
  (if ¬ a1.Group = a2.Group then (some false) else ((m_laws_eqRangeS a1.Reads a2.Reads).bind fun v4 => (if v4 = true then ((m_laws_eqWriteS a1.Writes a2.Writes).bind fun v7 => (if v7 = true then (if ¬ a1.Vote = a2.Vote then (some false) else (some true)) else (some false))) else (some false))))
def laws_eqShareS_j4  (t4 : Unit) : Option Bool :=
  (some true)
def laws_eqShareS_b6 (a1 : (List TShare)) (a2 : (List TShare)) (kx5 : (Unit → Option Bool)) (kb7 : (Int → Option Bool)) (s6 : Int) : Option Bool :=
  (if s6 < (a1.length : Int) then ((idx a1 s6).bind fun v9 => ((idx a2 s6).bind fun v11 => ((m_laws_eqShare v9 v11).bind fun v13 => (if v13 = true then (kb7 (IntKind.wrap .i64 (s6 + 1))) else (some false))))) else (kx5 ()))
def m_laws_eqShareS (a1 : (List TShare)) (a2 : (List TShare)) : Option Bool :=
  (if ¬ (a1.length : Int) = (a2.length : Int) then (some false) else (iter (laws_eqShareS_b6 a1 a2 laws_eqShareS_j4) FU 0))
def m_laws_eqRec (a1 : TRec) (a2 : TRec) : Option Bool :=
  (if ¬ a1.Tx = a2.Tx then (some false) else (if ¬ a1.Client = a2.Client then (some false) else (if ¬ a1.Req = a2.Req then (some false) else (if ¬ a1.State = a2.State then (some false) else ((m_laws_eqShareS a1.Shares a2.Shares).bind fun v7 => (if v7 = true then (some true) else (some false)))))))
def laws_eqRecS_j4  (t4 : Unit) : Option Bool :=
  (some true)
def laws_eqRecS_b6 (a1 : (List TRec)) (a2 : (List TRec)) (kx5 : (Unit → Option Bool)) (kb7 : (Int → Option Bool)) (s6 : Int) : Option Bool :=
  (if s6 < (a1.length : Int) then ((idx a1 s6).bind fun v9 => ((idx a2 s6).bind fun v11 => ((m_laws_eqRec v9 v11).bind fun v13 => (if v13 = true then (kb7 (IntKind.wrap .i64 (s6 + 1))) else (some false))))) else (kx5 ()))
def m_laws_eqRecS (a1 : (List TRec)) (a2 : (List TRec)) : Option Bool :=
  (if ¬ (a1.length : Int) = (a2.length : Int) then (some false) else (iter (laws_eqRecS_b6 a1 a2 laws_eqRecS_j4) FU 0))
def laws_eqIntS_j4  (t4 : Unit) : Option Bool :=
  (some true)
def laws_eqIntS_b6 (a1 : (List Int)) (a2 : (List Int)) (kx5 : (Unit → Option Bool)) (kb7 : (Int → Option Bool)) (s6 : Int) : Option Bool :=
  (if s6 < (a1.length : Int) then ((idx a1 s6).bind fun v9 => ((idx a2 s6).bind fun v11 => (if ¬ v9 = v11 then (some false) else (kb7 (IntKind.wrap .i64 (s6 + 1)))))) else (kx5 ()))
def m_laws_eqIntS (a1 : (List Int)) (a2 : (List Int)) : Option Bool :=
  (if ¬ (a1.length : Int) = (a2.length : Int) then (some false) else (iter (laws_eqIntS_b6 a1 a2 laws_eqIntS_j4) FU 0))
def m_laws_eqCoord (a1 : TCoord) (a2 : TCoord) : Option Bool :=
  ((m_laws_eqRecS a1.Recs a2.Recs).bind fun v3 => (if v3 = true then ((m_laws_eqIntS a1.Order a2.Order).bind fun v6 => (if v6 = true then (some true) else (some false))) else (some false)))
def laws_markRangeS_j3 (a1 : (List TRange)) (t3 : ((List TRange) × Int)) : Option (Int × (List TRange)) :=
  (if t3.1.length = a1.length then (some (t3.2, t3.1)) else none)
def laws_markRangeS_b6 (kx4 : (((List TRange) × Int) → Option (Int × (List TRange)))) (kb7 : (((List TRange) × Int × Int) → Option (Int × (List TRange)))) (s6 : ((List TRange) × Int × Int)) : Option (Int × (List TRange)) :=
  (if s6.2.2 < ((s6.1.length : Nat) : Int) then ((idx s6.1 s6.2.2).bind fun v9 => ((idx (s6.1.set (Int.toNat s6.2.2) (TRange.mk s6.2.1 v9.Hi)) s6.2.2).bind fun v11 => (kb7 ((s6.1.set (Int.toNat s6.2.2) (TRange.mk s6.2.1 v9.Hi)).set (Int.toNat s6.2.2) (TRange.mk v11.Lo (IntKind.wrap .i64 (s6.2.1 + 1))), (IntKind.wrap .i64 ((IntKind.wrap .i64 (s6.2.1 + 1)) + 1)), (IntKind.wrap .i64 (s6.2.2 + 1)))))) else (kx4 (s6.1, s6.2.1)))
def m_laws_markRangeS (a1 : (List TRange)) (a2 : Int) : Option (Int × (List TRange)) :=
  (iter (laws_markRangeS_b6 (laws_markRangeS_j3 a1)) FU (a1, a2, 0))
def laws_markWriteS_j3 (a1 : (List TCell)) (t3 : ((List TCell) × Int)) : Option (Int × (List TCell)) :=
  (if t3.1.length = a1.length then (some (t3.2, t3.1)) else none)
def laws_markWriteS_b6 (kx4 : (((List TCell) × Int) → Option (Int × (List TCell)))) (kb7 : (((List TCell) × Int × Int) → Option (Int × (List TCell)))) (s6 : ((List TCell) × Int × Int)) : Option (Int × (List TCell)) :=
  (if s6.2.2 < ((s6.1.length : Nat) : Int) then ((idx s6.1 s6.2.2).bind fun v9 => ((idx (s6.1.set (Int.toNat s6.2.2) (TCell.mk s6.2.1 v9.Value)) s6.2.2).bind fun v11 => (kb7 ((s6.1.set (Int.toNat s6.2.2) (TCell.mk s6.2.1 v9.Value)).set (Int.toNat s6.2.2) (TCell.mk v11.Key (IntKind.wrap .i64 (s6.2.1 + 1))), (IntKind.wrap .i64 ((IntKind.wrap .i64 (s6.2.1 + 1)) + 1)), (IntKind.wrap .i64 (s6.2.2 + 1)))))) else (kx4 (s6.1, s6.2.1)))
def m_laws_markWriteS (a1 : (List TCell)) (a2 : Int) : Option (Int × (List TCell)) :=
  (iter (laws_markWriteS_b6 (laws_markWriteS_j3 a1)) FU (a1, a2, 0))
def laws_markShareS_j3 (a1 : (List TShare)) (t3 : ((List TShare) × Int)) : Option (Int × (List TShare)) :=
  (if t3.1.length = a1.length then (some (t3.2, t3.1)) else none)
def laws_markShareS_b6 (kx4 : (((List TShare) × Int) → Option (Int × (List TShare)))) (kb7 : (((List TShare) × Int × Int) → Option (Int × (List TShare)))) (s6 : ((List TShare) × Int × Int)) : Option (Int × (List TShare)) :=
  (if s6.2.2 < ((s6.1.length : Nat) : Int) then ((idx s6.1 s6.2.2).bind fun v9 => ((idx (s6.1.set (Int.toNat s6.2.2) (TShare.mk s6.2.1 v9.Reads v9.Writes v9.Vote)) s6.2.2).bind fun v11 => ((m_laws_markRangeS v11.Reads (IntKind.wrap .i64 (s6.2.1 + 1))).bind fun v13 => ((idx ((s6.1.set (Int.toNat s6.2.2) (TShare.mk s6.2.1 v9.Reads v9.Writes v9.Vote)).set (Int.toNat s6.2.2) (TShare.mk v11.Group v13.2 v11.Writes v11.Vote)) s6.2.2).bind fun v15 => ((m_laws_markWriteS v15.Writes v13.1).bind fun v17 => ((idx (((s6.1.set (Int.toNat s6.2.2) (TShare.mk s6.2.1 v9.Reads v9.Writes v9.Vote)).set (Int.toNat s6.2.2) (TShare.mk v11.Group v13.2 v11.Writes v11.Vote)).set (Int.toNat s6.2.2) (TShare.mk v15.Group v15.Reads v17.2 v15.Vote)) s6.2.2).bind fun v19 => (kb7 ((((s6.1.set (Int.toNat s6.2.2) (TShare.mk s6.2.1 v9.Reads v9.Writes v9.Vote)).set (Int.toNat s6.2.2) (TShare.mk v11.Group v13.2 v11.Writes v11.Vote)).set (Int.toNat s6.2.2) (TShare.mk v15.Group v15.Reads v17.2 v15.Vote)).set (Int.toNat s6.2.2) (TShare.mk v19.Group v19.Reads v19.Writes v17.1), (IntKind.wrap .i64 (v17.1 + 1)), (IntKind.wrap .i64 (s6.2.2 + 1)))))))))) else (kx4 (s6.1, s6.2.1)))
def m_laws_markShareS (a1 : (List TShare)) (a2 : Int) : Option (Int × (List TShare)) :=
  (iter (laws_markShareS_b6 (laws_markShareS_j3 a1)) FU (a1, a2, 0))
def laws_markRecS_j3 (a1 : (List TRec)) (t3 : ((List TRec) × Int)) : Option (Int × (List TRec)) :=
  (if t3.1.length = a1.length then (some (t3.2, t3.1)) else none)
def laws_markRecS_b6 (kx4 : (((List TRec) × Int) → Option (Int × (List TRec)))) (kb7 : (((List TRec) × Int × Int) → Option (Int × (List TRec)))) (s6 : ((List TRec) × Int × Int)) : Option (Int × (List TRec)) :=
  (if s6.2.2 < ((s6.1.length : Nat) : Int) then ((idx s6.1 s6.2.2).bind fun v9 => ((idx (s6.1.set (Int.toNat s6.2.2) (TRec.mk s6.2.1 v9.Client v9.Req v9.State v9.Shares)) s6.2.2).bind fun v11 => ((idx ((s6.1.set (Int.toNat s6.2.2) (TRec.mk s6.2.1 v9.Client v9.Req v9.State v9.Shares)).set (Int.toNat s6.2.2) (TRec.mk v11.Tx (IntKind.wrap .i64 (s6.2.1 + 1)) v11.Req v11.State v11.Shares)) s6.2.2).bind fun v13 => ((idx (((s6.1.set (Int.toNat s6.2.2) (TRec.mk s6.2.1 v9.Client v9.Req v9.State v9.Shares)).set (Int.toNat s6.2.2) (TRec.mk v11.Tx (IntKind.wrap .i64 (s6.2.1 + 1)) v11.Req v11.State v11.Shares)).set (Int.toNat s6.2.2) (TRec.mk v13.Tx v13.Client (IntKind.wrap .i64 ((IntKind.wrap .i64 (s6.2.1 + 1)) + 1)) v13.State v13.Shares)) s6.2.2).bind fun v15 => ((idx ((((s6.1.set (Int.toNat s6.2.2) (TRec.mk s6.2.1 v9.Client v9.Req v9.State v9.Shares)).set (Int.toNat s6.2.2) (TRec.mk v11.Tx (IntKind.wrap .i64 (s6.2.1 + 1)) v11.Req v11.State v11.Shares)).set (Int.toNat s6.2.2) (TRec.mk v13.Tx v13.Client (IntKind.wrap .i64 ((IntKind.wrap .i64 (s6.2.1 + 1)) + 1)) v13.State v13.Shares)).set (Int.toNat s6.2.2) (TRec.mk v15.Tx v15.Client v15.Req (IntKind.wrap .i64 ((IntKind.wrap .i64 ((IntKind.wrap .i64 (s6.2.1 + 1)) + 1)) + 1)) v15.Shares)) s6.2.2).bind fun v17 => ((m_laws_markShareS v17.Shares (IntKind.wrap .i64 ((IntKind.wrap .i64 ((IntKind.wrap .i64 ((IntKind.wrap .i64 (s6.2.1 + 1)) + 1)) + 1)) + 1))).bind fun v19 => (kb7 (((((s6.1.set (Int.toNat s6.2.2) (TRec.mk s6.2.1 v9.Client v9.Req v9.State v9.Shares)).set (Int.toNat s6.2.2) (TRec.mk v11.Tx (IntKind.wrap .i64 (s6.2.1 + 1)) v11.Req v11.State v11.Shares)).set (Int.toNat s6.2.2) (TRec.mk v13.Tx v13.Client (IntKind.wrap .i64 ((IntKind.wrap .i64 (s6.2.1 + 1)) + 1)) v13.State v13.Shares)).set (Int.toNat s6.2.2) (TRec.mk v15.Tx v15.Client v15.Req (IntKind.wrap .i64 ((IntKind.wrap .i64 ((IntKind.wrap .i64 (s6.2.1 + 1)) + 1)) + 1)) v15.Shares)).set (Int.toNat s6.2.2) (TRec.mk v17.Tx v17.Client v17.Req v17.State v19.2), v19.1, (IntKind.wrap .i64 (s6.2.2 + 1)))))))))) else (kx4 (s6.1, s6.2.1)))
def m_laws_markRecS (a1 : (List TRec)) (a2 : Int) : Option (Int × (List TRec)) :=
  (iter (laws_markRecS_b6 (laws_markRecS_j3 a1)) FU (a1, a2, 0))
def laws_markIntS_j3 (a1 : (List Int)) (t3 : ((List Int) × Int)) : Option (Int × (List Int)) :=
  (if t3.1.length = a1.length then (some (t3.2, t3.1)) else none)
def laws_markIntS_b6 (kx4 : (((List Int) × Int) → Option (Int × (List Int)))) (kb7 : (((List Int) × Int × Int) → Option (Int × (List Int)))) (s6 : ((List Int) × Int × Int)) : Option (Int × (List Int)) :=
  (if s6.2.2 < ((s6.1.length : Nat) : Int) then ((idx s6.1 s6.2.2).bind fun v9 => (kb7 (s6.1.set (Int.toNat s6.2.2) s6.2.1, (IntKind.wrap .i64 (s6.2.1 + 1)), (IntKind.wrap .i64 (s6.2.2 + 1))))) else (kx4 (s6.1, s6.2.1)))
def m_laws_markIntS (a1 : (List Int)) (a2 : Int) : Option (Int × (List Int)) :=
  (iter (laws_markIntS_b6 (laws_markIntS_j3 a1)) FU (a1, a2, 0))
def m_laws_markCoord (a1 : TCoord) (a2 : Int) : Option (Int × TCoord) :=
  ((m_laws_markRecS a1.Recs a2).bind fun v3 => (if v3.2.length = a1.Recs.length then ((m_laws_markIntS a1.Order v3.1).bind fun v6 => (if v6.2.length = a1.Order.length then (if v3.2.length = a1.Recs.length then (if v6.2.length = a1.Order.length then (some (v6.1, (TCoord.mk v3.2 v6.2))) else none) else none) else none)) else none))
def laws_heldRangeS_j3  (t3 : Int) : Option Int :=
  (some t3)
def laws_heldRangeS_b5 (a1 : (List TRange)) (kx4 : (Int → Option Int)) (kb6 : ((Int × Int) → Option Int)) (s5 : (Int × Int)) : Option Int :=
  (if s5.2 < (a1.length : Int) then ((idx a1 s5.2).bind fun v8 => (if ¬ v8.Lo = s5.1 then (some (-1)) else ((idx a1 s5.2).bind fun v11 => (if ¬ v11.Hi = (IntKind.wrap .i64 (s5.1 + 1)) then (some (-1)) else (kb6 ((IntKind.wrap .i64 ((IntKind.wrap .i64 (s5.1 + 1)) + 1)), (IntKind.wrap .i64 (s5.2 + 1)))))))) else (kx4 s5.1))
def m_laws_heldRangeS (a1 : (List TRange)) (a2 : Int) : Option Int :=
  (iter (laws_heldRangeS_b5 a1 laws_heldRangeS_j3) FU (a2, 0))
def laws_heldWriteS_j3  (t3 : Int) : Option Int :=
  (some t3)
def laws_heldWriteS_b5 (a1 : (List TCell)) (kx4 : (Int → Option Int)) (kb6 : ((Int × Int) → Option Int)) (s5 : (Int × Int)) : Option Int :=
  (if s5.2 < (a1.length : Int) then ((idx a1 s5.2).bind fun v8 => (if ¬ v8.Key = s5.1 then (some (-1)) else ((idx a1 s5.2).bind fun v11 => (if ¬ v11.Value = (IntKind.wrap .i64 (s5.1 + 1)) then (some (-1)) else (kb6 ((IntKind.wrap .i64 ((IntKind.wrap .i64 (s5.1 + 1)) + 1)), (IntKind.wrap .i64 (s5.2 + 1)))))))) else (kx4 s5.1))
def m_laws_heldWriteS (a1 : (List TCell)) (a2 : Int) : Option Int :=
  (iter (laws_heldWriteS_b5 a1 laws_heldWriteS_j3) FU (a2, 0))
def laws_heldShareS_j3  (t3 : Int) : Option Int :=
  (some t3)
def laws_heldShareS_b5 (a1 : (List TShare)) (kx4 : (Int → Option Int)) (kb6 : ((Int × Int) → Option Int)) (s5 : (Int × Int)) : Option Int :=
  (if s5.2 < (a1.length : Int) then ((idx a1 s5.2).bind fun v8 => (if ¬ v8.Group = s5.1 then (some (-1)) else ((idx a1 s5.2).bind fun v11 => ((m_laws_heldRangeS v11.Reads (IntKind.wrap .i64 (s5.1 + 1))).bind fun v13 => (if v13 < 0 then (some (-1)) else ((idx a1 s5.2).bind fun v16 => ((m_laws_heldWriteS v16.Writes v13).bind fun v18 => (if v18 < 0 then (some (-1)) else ((idx a1 s5.2).bind fun v21 => (if ¬ v21.Vote = v18 then (some (-1)) else (kb6 ((IntKind.wrap .i64 (v18 + 1)), (IntKind.wrap .i64 (s5.2 + 1)))))))))))))) else (kx4 s5.1))
def m_laws_heldShareS (a1 : (List TShare)) (a2 : Int) : Option Int :=
  (iter (laws_heldShareS_b5 a1 laws_heldShareS_j3) FU (a2, 0))
def laws_heldRecS_j3  (t3 : Int) : Option Int :=
  (some t3)
def laws_heldRecS_b5 (a1 : (List TRec)) (kx4 : (Int → Option Int)) (kb6 : ((Int × Int) → Option Int)) (s5 : (Int × Int)) : Option Int :=
  (if s5.2 < (a1.length : Int) then ((idx a1 s5.2).bind fun v8 => (if ¬ v8.Tx = s5.1 then (some (-1)) else ((idx a1 s5.2).bind fun v11 => (if ¬ v11.Client = (IntKind.wrap .i64 (s5.1 + 1)) then (some (-1)) else ((idx a1 s5.2).bind fun v14 => (if ¬ v14.Req = (IntKind.wrap .i64 ((IntKind.wrap .i64 (s5.1 + 1)) + 1)) then (some (-1)) else ((idx a1 s5.2).bind fun v17 => (if ¬ v17.State = (IntKind.wrap .i64 ((IntKind.wrap .i64 ((IntKind.wrap .i64 (s5.1 + 1)) + 1)) + 1)) then (some (-1)) else ((idx a1 s5.2).bind fun v20 => ((m_laws_heldShareS v20.Shares (IntKind.wrap .i64 ((IntKind.wrap .i64 ((IntKind.wrap .i64 ((IntKind.wrap .i64 (s5.1 + 1)) + 1)) + 1)) + 1))).bind fun v22 => (if v22 < 0 then (some (-1)) else (kb6 (v22, (IntKind.wrap .i64 (s5.2 + 1))))))))))))))) else (kx4 s5.1))
def m_laws_heldRecS (a1 : (List TRec)) (a2 : Int) : Option Int :=
  (iter (laws_heldRecS_b5 a1 laws_heldRecS_j3) FU (a2, 0))
def laws_heldIntS_j3  (t3 : Int) : Option Int :=
  (some t3)
def laws_heldIntS_b5 (a1 : (List Int)) (kx4 : (Int → Option Int)) (kb6 : ((Int × Int) → Option Int)) (s5 : (Int × Int)) : Option Int :=
  (if s5.2 < (a1.length : Int) then ((idx a1 s5.2).bind fun v8 => (if ¬ v8 = s5.1 then (some (-1)) else (kb6 ((IntKind.wrap .i64 (s5.1 + 1)), (IntKind.wrap .i64 (s5.2 + 1)))))) else (kx4 s5.1))
def m_laws_heldIntS (a1 : (List Int)) (a2 : Int) : Option Int :=
  (iter (laws_heldIntS_b5 a1 laws_heldIntS_j3) FU (a2, 0))
def m_laws_heldCoord (a1 : TCoord) (a2 : Int) : Option Int :=
  ((m_laws_heldRecS a1.Recs a2).bind fun v3 => (if v3 < 0 then (some (-1)) else ((m_laws_heldIntS a1.Order v3).bind fun v6 => (if v6 < 0 then (some (-1)) else (some v6)))))
def laws_FnExactCoordBegin_j42 (v30 : (Int × TCoord)) (t42 : Bool) : Option Bool :=
  (if t42 = true then (some false) else ((m_laws_heldCoord v30.2 1).bind fun v45 => (if v45 < 0 then (some false) else (if ¬ v45 = v30.1 then (some false) else (some true)))))
def laws_FnExactCoordBegin_j27 (v13 : (TCoord × Int × Int)) (a1 : TCoord) (a2 : Int) (a3 : Int) (v9 : (TCoord × Int × Int)) (t27 : Bool) : Option Bool :=
  (if t27 = true then (some false) else ((m_laws_markCoord v13.1 1).bind fun v30 => (if v30.2.Recs.length = v13.1.Recs.length then (if v30.2.Order.length = v13.1.Order.length then ((m_laws_heldCoord v30.2 1).bind fun v34 => (if v34 < 0 then (some false) else (if ¬ v34 = v30.1 then (some false) else ((m_laws_toCoord a1).bind fun v38 => ((m_impl_CoordBegin v38 a2 a3).bind fun v40 => ((m_laws_eqCoord v40.1 v9.1).bind fun v49 => (if v49 = true then (if ¬ v40.2.1 = v9.2.1 then ((laws_FnExactCoordBegin_j42 v30) true) else ((laws_FnExactCoordBegin_j42 v30) (decide (¬ v40.2.2 = v9.2.2)))) else ((laws_FnExactCoordBegin_j42 v30) true)))))))) else none) else none)))
def laws_FnExactCoordBegin_j15 (a1 : TCoord) (v11 : TCoord) (v13 : (TCoord × Int × Int)) (a2 : Int) (a3 : Int) (v9 : (TCoord × Int × Int)) (t15 : Bool) : Option Bool :=
  (if t15 = true then (some false) else ((m_laws_toCoord a1).bind fun v18 => ((m_laws_eqCoord v11 v18).bind fun v20 => (if v20 = true then ((m_laws_markCoord v11 1).bind fun v23 => (if v23.2.Recs.length = v11.Recs.length then (if v23.2.Order.length = v11.Order.length then (if v23.1 < 0 then ((laws_FnExactCoordBegin_j27 v13 a1 a2 a3 v9) true) else ((m_laws_eqCoord v13.1 v9.1).bind fun v54 => (if v54 = true then (if ¬ v13.2.1 = v9.2.1 then ((laws_FnExactCoordBegin_j27 v13 a1 a2 a3 v9) true) else ((laws_FnExactCoordBegin_j27 v13 a1 a2 a3 v9) (decide (¬ v13.2.2 = v9.2.2)))) else ((laws_FnExactCoordBegin_j27 v13 a1 a2 a3 v9) true)))) else none) else none)) else (some false)))))
def m_laws_FnExactCoordBegin (a1 : TCoord) (a2 : Int) (a3 : Int) : Option Bool :=
  ((m_laws_szCoord a1 1048576).bind fun v4 => (if v4 < 0 then (some true) else ((m_laws_toCoord a1).bind fun v7 => ((m_spec_CoordBegin v7 a2 a3).bind fun v9 => ((m_laws_toCoord a1).bind fun v11 => ((m_impl_CoordBegin v11 a2 a3).bind fun v13 => ((m_laws_eqCoord v13.1 v9.1).bind fun v58 => (if v58 = true then (if ¬ v13.2.1 = v9.2.1 then ((laws_FnExactCoordBegin_j15 a1 v11 v13 a2 a3 v9) true) else ((laws_FnExactCoordBegin_j15 a1 v11 v13 a2 a3 v9) (decide (¬ v13.2.2 = v9.2.2)))) else ((laws_FnExactCoordBegin_j15 a1 v11 v13 a2 a3 v9) true)))))))))
end Go.AW
