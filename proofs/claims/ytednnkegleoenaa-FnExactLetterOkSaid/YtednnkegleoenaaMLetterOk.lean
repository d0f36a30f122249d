/- Plain functions that say what functions of the program compute: printed by a program of the prover's own (tool/dec.py). Conditions: none. -/
import Derived.Test.YtednnkegleoenaaYi
set_option linter.unusedVariables false
set_option linter.unusedSimpArgs false
set_option maxRecDepth 100000
namespace Go.AW
structure TRange where
  Lo : Int
  Hi : Int
deriving DecidableEq
def ok_TRange (x : TRange) : Prop := inK .i64 x.Lo ∧ inK .i64 x.Hi
structure TCell where
  Key : Int
  Value : Int
deriving DecidableEq
def ok_TCell (x : TCell) : Prop := inK .i64 x.Key ∧ inK .i64 x.Value
structure TShare where
  Group : Int
  Reads : (List TRange)
  Writes : (List TCell)
  Vote : Int
deriving DecidableEq
def ok_TShare (x : TShare) : Prop := inK .i64 x.Group ∧ okS ok_TRange x.Reads ∧ okS ok_TCell x.Writes ∧ inK .i64 x.Vote
structure TLetter where
  Kind : Int
  Group : Int
  Client : Int
  Req : Int
  Tx : Int
  Lo : Int
  Hi : Int
  Rank : Int
  Code : Int
  Yes : Bool
  Reads : (List TRange)
  Writes : (List TCell)
  Cells : (List TCell)
  Shares : (List TShare)
deriving DecidableEq
def ok_TLetter (x : TLetter) : Prop := inK .i64 x.Kind ∧ inK .i64 x.Group ∧ inK .i64 x.Client ∧ inK .i64 x.Req ∧ inK .i64 x.Tx ∧ inK .i64 x.Lo ∧ inK .i64 x.Hi ∧ inK .i64 x.Rank ∧ inK .i64 x.Code ∧ True ∧ okS ok_TRange x.Reads ∧ okS ok_TCell x.Writes ∧ okS ok_TCell x.Cells ∧ okS ok_TShare x.Shares
abbrev d_TRange (x : TRange) : List D := [(.int .i64 x.Lo), (.int .i64 x.Hi)]
abbrev d_TCell (x : TCell) : List D := [(.int .i64 x.Key), (.int .i64 x.Value)]
abbrev d_TShare (x : TShare) : List D := [(.int .i64 x.Group), (.sl 2 (List.map d_TRange x.Reads)), (.sl 2 (List.map d_TCell x.Writes)), (.int .i64 x.Vote)]
abbrev d_TLetter (x : TLetter) : List D := [(.int .i64 x.Kind), (.int .i64 x.Group), (.int .i64 x.Client), (.int .i64 x.Req), (.int .i64 x.Tx), (.int .i64 x.Lo), (.int .i64 x.Hi), (.int .i64 x.Rank), (.int .i64 x.Code), (.bool x.Yes), (.sl 2 (List.map d_TRange x.Reads)), (.sl 2 (List.map d_TCell x.Writes)), (.sl 2 (List.map d_TCell x.Cells)), (.sl 4 (List.map d_TShare x.Shares))]
abbrev d_i64 (x : Int) : List D := [(.int .i64 x)]
abbrev dS_TCell (x : (List TCell)) : List D := [(.sl 2 (List.map d_TCell x))]
abbrev dS_TRange (x : (List TRange)) : List D := [(.sl 2 (List.map d_TRange x))]
abbrev dS_TShare (x : (List TShare)) : List D := [(.sl 4 (List.map d_TShare x))]
abbrev d_bool (x : Bool) : List D := [(.bool x)]
def m_laws_szRangeS (a1 : (List TRange)) (a2 : Int) : Option Int :=
  (if (IntKind.wrap .i64 (a2 - (a1.length : Int))) < 0 then (some (-1)) else (some (IntKind.wrap .i64 (a2 - (a1.length : Int)))))
def m_laws_szWriteS (a1 : (List TCell)) (a2 : Int) : Option Int :=
  (if (IntKind.wrap .i64 (a2 - (a1.length : Int))) < 0 then (some (-1)) else (some (IntKind.wrap .i64 (a2 - (a1.length : Int)))))
def m_laws_szCellS (a1 : (List TCell)) (a2 : Int) : Option Int :=
  (if (IntKind.wrap .i64 (a2 - (a1.length : Int))) < 0 then (some (-1)) else (some (IntKind.wrap .i64 (a2 - (a1.length : Int)))))
def m_laws_szShare (a1 : TShare) (a2 : Int) : Option Int :=
  ((m_laws_szRangeS a1.Reads a2).bind fun v3 => (if v3 < 0 then (some (-1)) else ((m_laws_szWriteS a1.Writes v3).bind fun v6 => (if v6 < 0 then (some (-1)) else (some v6)))))
def laws_szShareS_j4  (t4 : Int) : Option Int :=
  (some t4)
def laws_szShareS_b6 (a1 : (List TShare)) (kx5 : (Int → Option Int)) (kb7 : ((Int × Int) → Option Int)) (s6 : (Int × Int)) : Option Int :=
  (if s6.2 < (a1.length : Int) then ((idx a1 s6.2).bind fun v9 => ((m_laws_szShare v9 s6.1).bind fun v11 => (if v11 < 0 then (some (-1)) else (kb7 (v11, (IntKind.wrap .i64 (s6.2 + 1))))))) else (kx5 s6.1))
def m_laws_szShareS (a1 : (List TShare)) (a2 : Int) : Option Int :=
  (if (IntKind.wrap .i64 (a2 - (a1.length : Int))) < 0 then (some (-1)) else (iter (laws_szShareS_b6 a1 laws_szShareS_j4) FU ((IntKind.wrap .i64 (a2 - (a1.length : Int))), 0)))
def m_laws_szLetter (a1 : TLetter) (a2 : Int) : Option Int :=
  ((m_laws_szRangeS a1.Reads a2).bind fun v3 => (if v3 < 0 then (some (-1)) else ((m_laws_szWriteS a1.Writes v3).bind fun v6 => (if v6 < 0 then (some (-1)) else ((m_laws_szCellS a1.Cells v6).bind fun v9 => (if v9 < 0 then (some (-1)) else ((m_laws_szShareS a1.Shares v9).bind fun v12 => (if v12 < 0 then (some (-1)) else (some v12)))))))))
def m_laws_toRange (a1 : TRange) : Option TRange :=
  (some a1)
def laws_toRangeS_j3  (t3 : (List TRange)) : Option (List TRange) :=
  (some t3)
def laws_toRangeS_b5 (a1 : (List TRange)) (kx4 : ((List TRange) → Option (List TRange))) (kb6 : (((List TRange) × Int) → Option (List TRange))) (s5 : ((List TRange) × Int)) : Option (List TRange) :=
  (if s5.2 < (a1.length : Int) then ((idx a1 s5.2).bind fun v8 => ((m_laws_toRange v8).bind fun v10 => ((idx s5.1 s5.2).bind fun v12 => (kb6 (s5.1.set (Int.toNat s5.2) v10, (IntKind.wrap .i64 (s5.2 + 1))))))) else (kx4 s5.1))
def m_laws_toRangeS (a1 : (List TRange)) : Option (List TRange) :=
  (if 0 ≤ (a1.length : Int) ∧ (a1.length : Int) ≤ 2147483648 then (iter (laws_toRangeS_b5 a1 laws_toRangeS_j3) FU ((List.replicate (Int.toNat (a1.length : Int)) (TRange.mk 0 0)), 0)) else none)
def m_laws_toWrite (a1 : TCell) : Option TCell :=
  (some a1)
def laws_toWriteS_j3  (t3 : (List TCell)) : Option (List TCell) :=
  (some t3)
def laws_toWriteS_b5 (a1 : (List TCell)) (kx4 : ((List TCell) → Option (List TCell))) (kb6 : (((List TCell) × Int) → Option (List TCell))) (s5 : ((List TCell) × Int)) : Option (List TCell) :=
  (if s5.2 < (a1.length : Int) then ((idx a1 s5.2).bind fun v8 => ((m_laws_toWrite v8).bind fun v10 => ((idx s5.1 s5.2).bind fun v12 => (kb6 (s5.1.set (Int.toNat s5.2) v10, (IntKind.wrap .i64 (s5.2 + 1))))))) else (kx4 s5.1))
def m_laws_toWriteS (a1 : (List TCell)) : Option (List TCell) :=
  (if 0 ≤ (a1.length : Int) ∧ (a1.length : Int) ≤ 2147483648 then (iter (laws_toWriteS_b5 a1 laws_toWriteS_j3) FU ((List.replicate (Int.toNat (a1.length : Int)) (TCell.mk 0 0)), 0)) else none)
def m_laws_toCell (a1 : TCell) : Option TCell :=
  (some a1)
def laws_toCellS_j3  (t3 : (List TCell)) : Option (List TCell) :=
  (some t3)
def laws_toCellS_b5 (a1 : (List TCell)) (kx4 : ((List TCell) → Option (List TCell))) (kb6 : (((List TCell) × Int) → Option (List TCell))) (s5 : ((List TCell) × Int)) : Option (List TCell) :=
  (if s5.2 < (a1.length : Int) then ((idx a1 s5.2).bind fun v8 => ((m_laws_toCell v8).bind fun v10 => ((idx s5.1 s5.2).bind fun v12 => (kb6 (s5.1.set (Int.toNat s5.2) v10, (IntKind.wrap .i64 (s5.2 + 1))))))) else (kx4 s5.1))
def m_laws_toCellS (a1 : (List TCell)) : Option (List TCell) :=
  (if 0 ≤ (a1.length : Int) ∧ (a1.length : Int) ≤ 2147483648 then (iter (laws_toCellS_b5 a1 laws_toCellS_j3) FU ((List.replicate (Int.toNat (a1.length : Int)) (TCell.mk 0 0)), 0)) else none)
def m_laws_toShare (a1 : TShare) : Option TShare :=
  ((m_laws_toRangeS a1.Reads).bind fun v2 => ((m_laws_toWriteS a1.Writes).bind fun v4 => (some (TShare.mk a1.Group v2 v4 a1.Vote))))
def laws_toShareS_j3  (t3 : (List TShare)) : Option (List TShare) :=
  (some t3)
def laws_toShareS_b5 (a1 : (List TShare)) (kx4 : ((List TShare) → Option (List TShare))) (kb6 : (((List TShare) × Int) → Option (List TShare))) (s5 : ((List TShare) × Int)) : Option (List TShare) :=
  (if s5.2 < (a1.length : Int) then ((idx a1 s5.2).bind fun v8 => ((m_laws_toShare v8).bind fun v10 => ((idx s5.1 s5.2).bind fun v12 => (kb6 (s5.1.set (Int.toNat s5.2) v10, (IntKind.wrap .i64 (s5.2 + 1))))))) else (kx4 s5.1))
def m_laws_toShareS (a1 : (List TShare)) : Option (List TShare) :=
  (if 0 ≤ (a1.length : Int) ∧ (a1.length : Int) ≤ 2147483648 then (iter (laws_toShareS_b5 a1 laws_toShareS_j3) FU ((List.replicate (Int.toNat (a1.length : Int)) (TShare.mk 0 ([] : (List TRange)) ([] : (List TCell)) 0)), 0)) else none)
def m_laws_toLetter (a1 : TLetter) : Option TLetter :=
  ((m_laws_toRangeS a1.Reads).bind fun v2 => ((m_laws_toWriteS a1.Writes).bind fun v4 => ((m_laws_toCellS a1.Cells).bind fun v6 => ((m_laws_toShareS a1.Shares).bind fun v8 => (some (TLetter.mk a1.Kind a1.Group a1.Client a1.Req a1.Tx a1.Lo a1.Hi a1.Rank a1.Code a1.Yes v2 v4 v6 v8))))))
def m_spec_l1In (a1 : Int) (a2 : Int) (a3 : Int) : Option Bool :=
  (if a2 ≤ a1 then (some (decide (a1 ≤ a3))) else (some false))
def m_spec_l16Has (a1 : Int) : Option ByteArray :=
  ((m_spec_l1In a1 1 17).bind fun v2 => (if v2 = true then ((idx [ByteArray.empty, (ByteArray.mk #[99, 113]), (ByteArray.mk #[99, 113, 116]), (ByteArray.mk #[103, 99, 113, 116, 114]), (ByteArray.mk #[103, 99, 113, 116, 114, 107, 67]), (ByteArray.mk #[99, 116, 83]), (ByteArray.mk #[99, 116]), (ByteArray.mk #[99, 116, 121]), (ByteArray.mk #[103, 116, 82, 87]), (ByteArray.mk #[103, 116, 121]), (ByteArray.mk #[103, 116, 121]), (ByteArray.mk #[103, 110, 114]), (ByteArray.mk #[110, 67]), (ByteArray.mk #[103, 110, 114, 67]), (ByteArray.mk #[110, 121]), (ByteArray.mk #[103, 110, 114]), (ByteArray.mk #[103, 110, 114]), (ByteArray.mk #[110])] a1).bind fun v5 => (some v5)) else (some ByteArray.empty)))
def spec_l4In_j3  (t3 : Unit) : Option Bool :=
  (some false)
def spec_l4In_b5 (a1 : ByteArray) (a2 : Int) (kx4 : (Unit → Option Bool)) (kb6 : (Int → Option Bool)) (s5 : Int) : Option Bool :=
  (if s5 < (a1.size : Int) then ((sidx a1 s5).bind fun v8 => (if v8 = a2 then (some true) else (kb6 (IntKind.wrap .i64 (s5 + 1))))) else (kx4 ()))
def m_spec_l4In (a1 : ByteArray) (a2 : Int) : Option Bool :=
  (iter (spec_l4In_b5 a1 a2 spec_l4In_j3) FU 0)
def m_spec_l4Num (a1 : Bool) (a2 : Int) (a3 : Int) (a4 : Int) : Option Bool :=
  (if a1 = true then ((m_spec_l1In a2 a3 a4).bind fun v6 => (if v6 = true then (some true) else (some false))) else (some (decide (a2 = 0))))
def m_spec_RangeOk (a1 : TRange) : Option Bool :=
  (if 0 ≤ a1.Lo then (if a1.Lo < a1.Hi then (some (decide (a1.Hi ≤ 1000))) else (some false)) else (some false))
def m_spec_l16RangeOk (a1 : Int) (a2 : Int) : Option Bool :=
  ((m_spec_RangeOk (TRange.mk a1 a2)).bind fun v3 => (some v3))
def m_spec_l10Key (a1 : Int) : Option Bool :=
  ((m_spec_l1In a1 0 999).bind fun v2 => (some v2))
def spec_WritesOk_j3  (t3 : Unit) : Option Bool :=
  (some true)
def spec_WritesOk_j8 (kb6 : (Int → Option Bool)) (s5 : Int) (t8 : Bool) : Option Bool :=
  (if t8 = true then (some false) else (kb6 (IntKind.wrap .i64 (s5 + 1))))
def spec_WritesOk_b5 (a1 : (List TCell)) (kx4 : (Unit → Option Bool)) (kb6 : (Int → Option Bool)) (s5 : Int) : Option Bool :=
  (if s5 < (a1.length : Int) then ((idx a1 s5).bind fun v11 => ((m_spec_l10Key v11.Key).bind fun v13 => (if v13 = true then ((idx a1 s5).bind fun v16 => ((m_spec_l1In v16.Value (-1) 1000000000).bind fun v18 => (if v18 = true then (if 0 < s5 then ((idx a1 (IntKind.wrap .i64 (s5 - 1))).bind fun v22 => ((idx a1 s5).bind fun v24 => ((spec_WritesOk_j8 kb6 s5) (decide (v24.Key ≤ v22.Key))))) else ((spec_WritesOk_j8 kb6 s5) false)) else ((spec_WritesOk_j8 kb6 s5) true)))) else ((spec_WritesOk_j8 kb6 s5) true)))) else (kx4 ()))
def m_spec_WritesOk (a1 : (List TCell)) : Option Bool :=
  (if 60 < (a1.length : Int) then (some false) else (iter (spec_WritesOk_b5 a1 spec_WritesOk_j3) FU 0))
def m_spec_l1Whole (a1 : Int) : Option Bool :=
  ((m_spec_l1In a1 0 1000000000).bind fun v2 => (some v2))
def spec_StoreOk_j3  (t3 : Unit) : Option Bool :=
  (some true)
def spec_StoreOk_j8 (kb6 : (Int → Option Bool)) (s5 : Int) (t8 : Bool) : Option Bool :=
  (if t8 = true then (some false) else (kb6 (IntKind.wrap .i64 (s5 + 1))))
def spec_StoreOk_b5 (a1 : (List TCell)) (kx4 : (Unit → Option Bool)) (kb6 : (Int → Option Bool)) (s5 : Int) : Option Bool :=
  (if s5 < (a1.length : Int) then ((idx a1 s5).bind fun v11 => ((m_spec_l10Key v11.Key).bind fun v13 => (if v13 = true then ((idx a1 s5).bind fun v16 => ((m_spec_l1Whole v16.Value).bind fun v18 => (if v18 = true then (if 0 < s5 then ((idx a1 (IntKind.wrap .i64 (s5 - 1))).bind fun v22 => ((idx a1 s5).bind fun v24 => ((spec_StoreOk_j8 kb6 s5) (decide (v24.Key ≤ v22.Key))))) else ((spec_StoreOk_j8 kb6 s5) false)) else ((spec_StoreOk_j8 kb6 s5) true)))) else ((spec_StoreOk_j8 kb6 s5) true)))) else (kx4 ()))
def m_spec_StoreOk (a1 : (List TCell)) : Option Bool :=
  (if 60 < (a1.length : Int) then (some false) else (iter (spec_StoreOk_b5 a1 spec_StoreOk_j3) FU 0))
def spec_SharesOk_j3  (t3 : Unit) : Option Bool :=
  (some true)
def spec_SharesOk_j8 (kb6 : (Int → Option Bool)) (s5 : Int) (t8 : Unit) : Option Bool :=
  (kb6 (IntKind.wrap .i64 (s5 + 1)))
def spec_SharesOk_b15 (v10 : TShare) (kx9 : (Unit → Option Bool)) (kb16 : (Int → Option Bool)) (s15 : Int) : Option Bool :=
  (if s15 < (v10.Reads.length : Int) then ((idx v10.Reads s15).bind fun v18 => ((m_spec_RangeOk v18).bind fun v20 => (if v20 = true then (kb16 (IntKind.wrap .i64 (s15 + 1))) else (some false)))) else (kx9 ()))
def spec_SharesOk_j12 (v10 : TShare) (kx9 : (Unit → Option Bool)) (t12 : Bool) : Option Bool :=
  (if t12 = true then (some false) else (iter (spec_SharesOk_b15 v10 kx9) FU 0))
def spec_SharesOk_b5 (a1 : (List TShare)) (kx4 : (Unit → Option Bool)) (kb6 : (Int → Option Bool)) (s5 : Int) : Option Bool :=
  (if s5 < (a1.length : Int) then ((idx a1 s5).bind fun v10 => ((m_spec_l1In v10.Group 0 3).bind fun v23 => (if v23 = true then (if 0 < s5 then ((idx a1 (IntKind.wrap .i64 (s5 - 1))).bind fun v27 => (if v10.Group ≤ v27.Group then ((spec_SharesOk_j12 v10 (spec_SharesOk_j8 kb6 s5)) true) else (if 16 < (v10.Reads.length : Int) then ((spec_SharesOk_j12 v10 (spec_SharesOk_j8 kb6 s5)) true) else ((m_spec_WritesOk v10.Writes).bind fun v31 => (if v31 = true then ((m_spec_l1In v10.Vote 0 2).bind fun v34 => ((spec_SharesOk_j12 v10 (spec_SharesOk_j8 kb6 s5)) (!v34))) else ((spec_SharesOk_j12 v10 (spec_SharesOk_j8 kb6 s5)) true)))))) else (if 16 < (v10.Reads.length : Int) then ((spec_SharesOk_j12 v10 (spec_SharesOk_j8 kb6 s5)) true) else ((m_spec_WritesOk v10.Writes).bind fun v37 => (if v37 = true then ((m_spec_l1In v10.Vote 0 2).bind fun v40 => ((spec_SharesOk_j12 v10 (spec_SharesOk_j8 kb6 s5)) (!v40))) else ((spec_SharesOk_j12 v10 (spec_SharesOk_j8 kb6 s5)) true))))) else ((spec_SharesOk_j12 v10 (spec_SharesOk_j8 kb6 s5)) true)))) else (kx4 ()))
def m_spec_SharesOk (a1 : (List TShare)) : Option Bool :=
  (if 4 < (a1.length : Int) then (some false) else (iter (spec_SharesOk_b5 a1 spec_SharesOk_j3) FU 0))
def spec_l14Votes_j3  (t3 : Int) : Option Int :=
  (some t3)
def spec_l14Votes_b5 (a1 : (List TShare)) (a2 : Int) (kx4 : (Int → Option Int)) (kb6 : ((Int × Int) → Option Int)) (s5 : (Int × Int)) : Option Int :=
  (if s5.2 < (a1.length : Int) then ((idx a1 s5.2).bind fun v8 => (if v8.Vote = a2 then (kb6 ((IntKind.wrap .i64 (s5.1 + 1)), (IntKind.wrap .i64 (s5.2 + 1)))) else (kb6 (s5.1, (IntKind.wrap .i64 (s5.2 + 1)))))) else (kx4 s5.1))
def m_spec_l14Votes (a1 : (List TShare)) (a2 : Int) : Option Int :=
  (iter (spec_l14Votes_b5 a1 a2 spec_l14Votes_j3) FU (0, 0))
def spec_LetterOk_j16 (a1 : TLetter) (t16 : Unit) : Option Bool :=
  ((m_spec_l14Votes a1.Shares 0).bind fun v18 => (some (decide (v18 = (a1.Shares.length : Int)))))
def spec_LetterOk_b20 (a1 : TLetter) (kx17 : (Unit → Option Bool)) (kb21 : (Int → Option Bool)) (s20 : Int) : Option Bool :=
  (if s20 < (a1.Reads.length : Int) then ((idx a1.Reads s20).bind fun v23 => ((m_spec_RangeOk v23).bind fun v25 => (if v25 = true then (kb21 (IntKind.wrap .i64 (s20 + 1))) else (some false)))) else (kx17 ()))
def spec_LetterOk_j13 (a1 : TLetter) (t13 : Bool) : Option Bool :=
  (if t13 = true then (some false) else (iter (spec_LetterOk_b20 a1 (spec_LetterOk_j16 a1)) FU 0))
def spec_LetterOk_j10 (a1 : TLetter) (v2 : ByteArray) (t10 : Bool) : Option Bool :=
  (if t10 = true then (some false) else (if 16 < (a1.Reads.length : Int) then ((spec_LetterOk_j13 a1) true) else ((m_spec_l4In v2 82).bind fun v29 => (if v29 = true then ((m_spec_WritesOk a1.Writes).bind fun v32 => (if v32 = true then ((m_spec_l4In v2 87).bind fun v35 => (if v35 = true then ((m_spec_StoreOk a1.Cells).bind fun v38 => (if v38 = true then ((m_spec_l4In v2 67).bind fun v41 => (if v41 = true then ((m_spec_SharesOk a1.Shares).bind fun v44 => (if v44 = true then ((m_spec_l4In v2 83).bind fun v47 => (if v47 = true then ((spec_LetterOk_j13 a1) false) else ((spec_LetterOk_j13 a1) (decide (0 < (a1.Shares.length : Int)))))) else ((spec_LetterOk_j13 a1) true))) else (if 0 < (a1.Cells.length : Int) then ((spec_LetterOk_j13 a1) true) else ((m_spec_SharesOk a1.Shares).bind fun v51 => (if v51 = true then ((m_spec_l4In v2 83).bind fun v54 => (if v54 = true then ((spec_LetterOk_j13 a1) false) else ((spec_LetterOk_j13 a1) (decide (0 < (a1.Shares.length : Int)))))) else ((spec_LetterOk_j13 a1) true)))))) else ((spec_LetterOk_j13 a1) true))) else (if 0 < (a1.Writes.length : Int) then ((spec_LetterOk_j13 a1) true) else ((m_spec_StoreOk a1.Cells).bind fun v58 => (if v58 = true then ((m_spec_l4In v2 67).bind fun v61 => (if v61 = true then ((m_spec_SharesOk a1.Shares).bind fun v64 => (if v64 = true then ((m_spec_l4In v2 83).bind fun v67 => (if v67 = true then ((spec_LetterOk_j13 a1) false) else ((spec_LetterOk_j13 a1) (decide (0 < (a1.Shares.length : Int)))))) else ((spec_LetterOk_j13 a1) true))) else (if 0 < (a1.Cells.length : Int) then ((spec_LetterOk_j13 a1) true) else ((m_spec_SharesOk a1.Shares).bind fun v71 => (if v71 = true then ((m_spec_l4In v2 83).bind fun v74 => (if v74 = true then ((spec_LetterOk_j13 a1) false) else ((spec_LetterOk_j13 a1) (decide (0 < (a1.Shares.length : Int)))))) else ((spec_LetterOk_j13 a1) true)))))) else ((spec_LetterOk_j13 a1) true)))))) else ((spec_LetterOk_j13 a1) true))) else (if 0 < (a1.Reads.length : Int) then ((spec_LetterOk_j13 a1) true) else ((m_spec_WritesOk a1.Writes).bind fun v78 => (if v78 = true then ((m_spec_l4In v2 87).bind fun v81 => (if v81 = true then ((m_spec_StoreOk a1.Cells).bind fun v84 => (if v84 = true then ((m_spec_l4In v2 67).bind fun v87 => (if v87 = true then ((m_spec_SharesOk a1.Shares).bind fun v90 => (if v90 = true then ((m_spec_l4In v2 83).bind fun v93 => (if v93 = true then ((spec_LetterOk_j13 a1) false) else ((spec_LetterOk_j13 a1) (decide (0 < (a1.Shares.length : Int)))))) else ((spec_LetterOk_j13 a1) true))) else (if 0 < (a1.Cells.length : Int) then ((spec_LetterOk_j13 a1) true) else ((m_spec_SharesOk a1.Shares).bind fun v97 => (if v97 = true then ((m_spec_l4In v2 83).bind fun v100 => (if v100 = true then ((spec_LetterOk_j13 a1) false) else ((spec_LetterOk_j13 a1) (decide (0 < (a1.Shares.length : Int)))))) else ((spec_LetterOk_j13 a1) true)))))) else ((spec_LetterOk_j13 a1) true))) else (if 0 < (a1.Writes.length : Int) then ((spec_LetterOk_j13 a1) true) else ((m_spec_StoreOk a1.Cells).bind fun v104 => (if v104 = true then ((m_spec_l4In v2 67).bind fun v107 => (if v107 = true then ((m_spec_SharesOk a1.Shares).bind fun v110 => (if v110 = true then ((m_spec_l4In v2 83).bind fun v113 => (if v113 = true then ((spec_LetterOk_j13 a1) false) else ((spec_LetterOk_j13 a1) (decide (0 < (a1.Shares.length : Int)))))) else ((spec_LetterOk_j13 a1) true))) else (if 0 < (a1.Cells.length : Int) then ((spec_LetterOk_j13 a1) true) else ((m_spec_SharesOk a1.Shares).bind fun v117 => (if v117 = true then ((m_spec_l4In v2 83).bind fun v120 => (if v120 = true then ((spec_LetterOk_j13 a1) false) else ((spec_LetterOk_j13 a1) (decide (0 < (a1.Shares.length : Int)))))) else ((spec_LetterOk_j13 a1) true)))))) else ((spec_LetterOk_j13 a1) true)))))) else ((spec_LetterOk_j13 a1) true))))))))
def spec_LetterOk_j7 (v2 : ByteArray) (a1 : TLetter) (t7 : Bool) : Option Bool :=
  (if t7 = true then (some false) else ((m_spec_l4In v2 114).bind fun v123 => (if v123 = true then ((m_spec_l16RangeOk a1.Lo a1.Hi).bind fun v126 => (if v126 = true then ((m_spec_l4In v2 114).bind fun v129 => (if v129 = true then ((spec_LetterOk_j10 a1 v2) false) else (if ¬ a1.Lo = 0 then ((spec_LetterOk_j10 a1 v2) true) else ((spec_LetterOk_j10 a1 v2) (decide (¬ a1.Hi = 0)))))) else ((spec_LetterOk_j10 a1 v2) true))) else ((m_spec_l4In v2 114).bind fun v133 => (if v133 = true then ((spec_LetterOk_j10 a1 v2) false) else (if ¬ a1.Lo = 0 then ((spec_LetterOk_j10 a1 v2) true) else ((spec_LetterOk_j10 a1 v2) (decide (¬ a1.Hi = 0)))))))))
def spec_LetterOk_j4 (v2 : ByteArray) (a1 : TLetter) (t4 : Bool) : Option Bool :=
  (if t4 = true then (some false) else ((m_spec_l4In v2 110).bind fun v137 => ((m_spec_l4Num v137 a1.Rank 1 1000000).bind fun v139 => (if v139 = true then ((m_spec_l4In v2 107).bind fun v142 => ((m_spec_l4Num v142 a1.Code 0 7).bind fun v144 => (if v144 = true then (if a1.Yes = true then ((m_spec_l4In v2 121).bind fun v148 => ((spec_LetterOk_j7 v2 a1) (!v148))) else ((spec_LetterOk_j7 v2 a1) false)) else ((spec_LetterOk_j7 v2 a1) true)))) else ((spec_LetterOk_j7 v2 a1) true)))))
def m_spec_LetterOk (a1 : TLetter) : Option Bool :=
  ((m_spec_l16Has a1.Kind).bind fun v2 => (if (v2.toList == ByteArray.empty.toList) = true then ((spec_LetterOk_j4 v2 a1) true) else ((m_spec_l4In v2 103).bind fun v151 => ((m_spec_l4Num v151 a1.Group 0 3).bind fun v153 => (if v153 = true then ((m_spec_l4In v2 99).bind fun v156 => ((m_spec_l4Num v156 a1.Client 0 5).bind fun v158 => (if v158 = true then ((m_spec_l4In v2 113).bind fun v161 => ((m_spec_l4Num v161 a1.Req 1 1000000000).bind fun v163 => (if v163 = true then ((m_spec_l4In v2 116).bind fun v166 => ((m_spec_l4Num v166 a1.Tx 1 60).bind fun v168 => ((spec_LetterOk_j4 v2 a1) (!v168)))) else ((spec_LetterOk_j4 v2 a1) true)))) else ((spec_LetterOk_j4 v2 a1) true)))) else ((spec_LetterOk_j4 v2 a1) true))))))
def impl_letterHas_j13 (a1 : Int) (t13 : Bool) : Option ByteArray :=
  (if t13 = true then (some (ByteArray.mk #[71, 78, 107])) else (if a1 = 12 then (some (ByteArray.mk #[78, 108])) else (if a1 = 13 then (some (ByteArray.mk #[71, 78, 107, 108])) else (if a1 = 14 then (some (ByteArray.mk #[78, 89])) else (if a1 = 17 then (some (ByteArray.mk #[78])) else (some ByteArray.empty))))))
def impl_letterHas_j10 (a1 : Int) (t10 : Bool) : Option ByteArray :=
  (if t10 = true then (some (ByteArray.mk #[71, 84, 89])) else (if a1 = 11 then ((impl_letterHas_j13 a1) (decide (a1 = 11))) else (if a1 = 15 then ((impl_letterHas_j13 a1) (decide (a1 = 15))) else ((impl_letterHas_j13 a1) (decide (a1 = 16))))))
def m_impl_letterHas (a1 : Int) : Option ByteArray :=
  (if a1 = 1 then (some (ByteArray.mk #[67, 82])) else (if a1 = 2 then (some (ByteArray.mk #[67, 82, 84])) else (if a1 = 3 then (some (ByteArray.mk #[71, 67, 82, 84, 107])) else (if a1 = 4 then (some (ByteArray.mk #[71, 67, 82, 84, 107, 99, 108])) else (if a1 = 5 then (some (ByteArray.mk #[67, 84, 83])) else (if a1 = 6 then (some (ByteArray.mk #[67, 84])) else (if a1 = 7 then (some (ByteArray.mk #[67, 84, 89])) else (if a1 = 8 then (some (ByteArray.mk #[71, 84, 101, 87])) else (if a1 = 9 then ((impl_letterHas_j10 a1) (decide (a1 = 9))) else ((impl_letterHas_j10 a1) (decide (a1 = 10))))))))))))
def impl_has_j3  (t3 : Unit) : Option Bool :=
  (some false)
def impl_has_b5 (a1 : ByteArray) (a2 : Int) (kx4 : (Unit → Option Bool)) (kb6 : (Int → Option Bool)) (s5 : Int) : Option Bool :=
  (if s5 < (a1.size : Int) then ((sidx a1 s5).bind fun v8 => (if v8 = a2 then (some true) else (kb6 (IntKind.wrap .i64 (s5 + 1))))) else (kx4 ()))
def m_impl_has (a1 : ByteArray) (a2 : Int) : Option Bool :=
  (iter (impl_has_b5 a1 a2 impl_has_j3) FU 0)
def m_impl_from (a1 : Int) (a2 : Int) (a3 : Int) : Option Bool :=
  (if a2 ≤ a1 then (some (decide (a1 ≤ a3))) else (some false))
def m_impl_numRight (a1 : ByteArray) (a2 : Int) (a3 : Int) (a4 : Int) (a5 : Int) : Option Bool :=
  ((m_impl_has a1 a2).bind fun v6 => (if v6 = true then ((m_impl_from a3 a4 a5).bind fun v9 => (some v9)) else (some (decide (a3 = 0)))))
def m_impl_RangeOk (a1 : TRange) : Option Bool :=
  (if 0 ≤ a1.Lo then (if a1.Lo < a1.Hi then (some (decide (a1.Hi ≤ 1000))) else (some false)) else (some false))
def m_impl_readsOk_1 (a1 : TRange) : Option Bool :=
  ((m_impl_RangeOk a1).bind fun v2 => (some (!v2)))
def slices_IndexFunc_Range__readsOk_1_j2  (t2 : Unit) : Option Int :=
  (some (-1))
def slices_IndexFunc_Range__readsOk_1_b4 (a1 : (List TRange)) (kx3 : (Unit → Option Int)) (kb5 : (Int → Option Int)) (s4 : Int) : Option Int :=
  (if s4 < (a1.length : Int) then ((idx a1 s4).bind fun v7 => ((m_impl_readsOk_1 v7).bind fun v9 => (if v9 = true then (some s4) else (kb5 (IntKind.wrap .i64 (s4 + 1)))))) else (kx3 ()))
def m_slices_IndexFunc_Range__readsOk_1 (a1 : (List TRange)) : Option Int :=
  (iter (slices_IndexFunc_Range__readsOk_1_b4 a1 slices_IndexFunc_Range__readsOk_1_j2) FU 0)
def m_slices_ContainsFunc_Range__readsOk_1 (a1 : (List TRange)) : Option Bool :=
  ((m_slices_IndexFunc_Range__readsOk_1 a1).bind fun v2 => (some (decide (0 ≤ v2))))
def m_impl_readsOk (a1 : (List TRange)) : Option Bool :=
  (if (a1.length : Int) ≤ 16 then ((m_slices_ContainsFunc_Range__readsOk_1 a1).bind fun v3 => (some (!v3))) else (some false))
def m_impl_isKey (a1 : Int) : Option Bool :=
  ((m_impl_from a1 0 999).bind fun v2 => (some v2))
def m_impl_isAnswer (a1 : Int) : Option Bool :=
  ((m_impl_from a1 (-1) 1000000000).bind fun v2 => (some v2))
def impl_WritesOk_j2 (a1 : (List TCell)) (t2 : Unit) : Option Bool :=
  (some (decide ((a1.length : Int) ≤ 60)))
def impl_WritesOk_j9 (kb5 : (Int → Option Bool)) (s4 : Int) (t9 : Bool) : Option Bool :=
  (if t9 = true then (some false) else (kb5 (IntKind.wrap .i64 (s4 + 1))))
def impl_WritesOk_b4 (a1 : (List TCell)) (kx3 : (Unit → Option Bool)) (kb5 : (Int → Option Bool)) (s4 : Int) : Option Bool :=
  (if s4 < (a1.length : Int) then ((idx a1 s4).bind fun v7 => ((m_impl_isKey v7.Key).bind fun v12 => (if v12 = true then ((m_impl_isAnswer v7.Value).bind fun v15 => (if v15 = true then (if 0 < s4 then ((idx a1 (IntKind.wrap .i64 (s4 - 1))).bind fun v19 => ((impl_WritesOk_j9 kb5 s4) (decide (v7.Key ≤ v19.Key)))) else ((impl_WritesOk_j9 kb5 s4) false)) else ((impl_WritesOk_j9 kb5 s4) true))) else ((impl_WritesOk_j9 kb5 s4) true)))) else (kx3 ()))
def m_impl_WritesOk (a1 : (List TCell)) : Option Bool :=
  (iter (impl_WritesOk_b4 a1 (impl_WritesOk_j2 a1)) FU 0)
def m_impl_isWhole (a1 : Int) : Option Bool :=
  ((m_impl_from a1 0 1000000000).bind fun v2 => (some v2))
def impl_StoreOk_j2 (a1 : (List TCell)) (t2 : Unit) : Option Bool :=
  (some (decide ((a1.length : Int) ≤ 60)))
def impl_StoreOk_j9 (kb5 : (Int → Option Bool)) (s4 : Int) (t9 : Bool) : Option Bool :=
  (if t9 = true then (some false) else (kb5 (IntKind.wrap .i64 (s4 + 1))))
def impl_StoreOk_b4 (a1 : (List TCell)) (kx3 : (Unit → Option Bool)) (kb5 : (Int → Option Bool)) (s4 : Int) : Option Bool :=
  (if s4 < (a1.length : Int) then ((idx a1 s4).bind fun v7 => ((m_impl_isKey v7.Key).bind fun v12 => (if v12 = true then ((m_impl_isWhole v7.Value).bind fun v15 => (if v15 = true then (if 0 < s4 then ((idx a1 (IntKind.wrap .i64 (s4 - 1))).bind fun v19 => ((impl_StoreOk_j9 kb5 s4) (decide (v7.Key ≤ v19.Key)))) else ((impl_StoreOk_j9 kb5 s4) false)) else ((impl_StoreOk_j9 kb5 s4) true))) else ((impl_StoreOk_j9 kb5 s4) true)))) else (kx3 ()))
def m_impl_StoreOk (a1 : (List TCell)) : Option Bool :=
  (iter (impl_StoreOk_b4 a1 (impl_StoreOk_j2 a1)) FU 0)
def m_impl_isGroup (a1 : Int) : Option Bool :=
  ((m_impl_from a1 0 3).bind fun v2 => (some v2))
def impl_SharesOk_j2 (a1 : (List TShare)) (t2 : Unit) : Option Bool :=
  (some (decide ((a1.length : Int) ≤ 4)))
def impl_SharesOk_j9 (kb5 : (Int → Option Bool)) (s4 : Int) (t9 : Bool) : Option Bool :=
  (if t9 = true then (some false) else (kb5 (IntKind.wrap .i64 (s4 + 1))))
def impl_SharesOk_b4 (a1 : (List TShare)) (kx3 : (Unit → Option Bool)) (kb5 : (Int → Option Bool)) (s4 : Int) : Option Bool :=
  (if s4 < (a1.length : Int) then ((idx a1 s4).bind fun v7 => ((m_impl_isGroup v7.Group).bind fun v12 => (if v12 = true then (if 0 < s4 then ((idx a1 (IntKind.wrap .i64 (s4 - 1))).bind fun v16 => (if v7.Group ≤ v16.Group then ((impl_SharesOk_j9 kb5 s4) true) else ((m_impl_readsOk v7.Reads).bind fun v19 => (if v19 = true then ((m_impl_WritesOk v7.Writes).bind fun v22 => (if v22 = true then ((m_impl_from v7.Vote 0 2).bind fun v25 => ((impl_SharesOk_j9 kb5 s4) (!v25))) else ((impl_SharesOk_j9 kb5 s4) true))) else ((impl_SharesOk_j9 kb5 s4) true))))) else ((m_impl_readsOk v7.Reads).bind fun v27 => (if v27 = true then ((m_impl_WritesOk v7.Writes).bind fun v30 => (if v30 = true then ((m_impl_from v7.Vote 0 2).bind fun v33 => ((impl_SharesOk_j9 kb5 s4) (!v33))) else ((impl_SharesOk_j9 kb5 s4) true))) else ((impl_SharesOk_j9 kb5 s4) true)))) else ((impl_SharesOk_j9 kb5 s4) true)))) else (kx3 ()))
def m_impl_SharesOk (a1 : (List TShare)) : Option Bool :=
  (iter (impl_SharesOk_b4 a1 (impl_SharesOk_j2 a1)) FU 0)
def m_impl_votes_1 (a1 : TShare) (a2 : Int) : Option Bool :=
  (some (decide (a1.Vote = a2)))
def slices_IndexFunc_Share__votes_1_j3  (t3 : Unit) : Option Int :=
  (some (-1))
def slices_IndexFunc_Share__votes_1_b5 (a1 : (List TShare)) (a2 : Int) (kx4 : (Unit → Option Int)) (kb6 : (Int → Option Int)) (s5 : Int) : Option Int :=
  (if s5 < (a1.length : Int) then ((idx a1 s5).bind fun v8 => ((m_impl_votes_1 v8 a2).bind fun v10 => (if v10 = true then (some s5) else (kb6 (IntKind.wrap .i64 (s5 + 1)))))) else (kx4 ()))
def m_slices_IndexFunc_Share__votes_1 (a1 : (List TShare)) (a2 : Int) : Option Int :=
  (iter (slices_IndexFunc_Share__votes_1_b5 a1 a2 slices_IndexFunc_Share__votes_1_j3) FU 0)
def m_slices_ContainsFunc_Share__votes_1 (a1 : (List TShare)) (a2 : Int) : Option Bool :=
  ((m_slices_IndexFunc_Share__votes_1 a1 a2).bind fun v3 => (some (decide (0 ≤ v3))))
def m_impl_votes (a1 : (List TShare)) (a2 : Int) : Option Bool :=
  ((m_slices_ContainsFunc_Share__votes_1 a1 a2).bind fun v3 => (some v3))
def impl_LetterOk_j7 (a1 : TLetter) (v2 : ByteArray) (t7 : Bool) : Option Bool :=
  (if t7 = true then (some false) else ((m_impl_readsOk a1.Reads).bind fun v10 => (if v10 = true then ((m_impl_has v2 101).bind fun v13 => (if v13 = true then ((m_impl_WritesOk a1.Writes).bind fun v16 => (if v16 = true then ((m_impl_has v2 87).bind fun v19 => (if v19 = true then ((m_impl_StoreOk a1.Cells).bind fun v22 => (if v22 = true then ((m_impl_has v2 108).bind fun v25 => (if v25 = true then ((m_impl_SharesOk a1.Shares).bind fun v28 => (if v28 = true then ((m_impl_has v2 83).bind fun v31 => (if v31 = true then ((m_impl_votes a1.Shares 1).bind fun v34 => (if v34 = true then (some false) else ((m_impl_votes a1.Shares 2).bind fun v37 => (some (!v37))))) else (if (a1.Shares.length : Int) = 0 then ((m_impl_votes a1.Shares 1).bind fun v40 => (if v40 = true then (some false) else ((m_impl_votes a1.Shares 2).bind fun v43 => (some (!v43))))) else (some false)))) else (some false))) else (if (a1.Cells.length : Int) = 0 then ((m_impl_SharesOk a1.Shares).bind fun v46 => (if v46 = true then ((m_impl_has v2 83).bind fun v49 => (if v49 = true then ((m_impl_votes a1.Shares 1).bind fun v52 => (if v52 = true then (some false) else ((m_impl_votes a1.Shares 2).bind fun v55 => (some (!v55))))) else (if (a1.Shares.length : Int) = 0 then ((m_impl_votes a1.Shares 1).bind fun v58 => (if v58 = true then (some false) else ((m_impl_votes a1.Shares 2).bind fun v61 => (some (!v61))))) else (some false)))) else (some false))) else (some false)))) else (some false))) else (if (a1.Writes.length : Int) = 0 then ((m_impl_StoreOk a1.Cells).bind fun v64 => (if v64 = true then ((m_impl_has v2 108).bind fun v67 => (if v67 = true then ((m_impl_SharesOk a1.Shares).bind fun v70 => (if v70 = true then ((m_impl_has v2 83).bind fun v73 => (if v73 = true then ((m_impl_votes a1.Shares 1).bind fun v76 => (if v76 = true then (some false) else ((m_impl_votes a1.Shares 2).bind fun v79 => (some (!v79))))) else (if (a1.Shares.length : Int) = 0 then ((m_impl_votes a1.Shares 1).bind fun v82 => (if v82 = true then (some false) else ((m_impl_votes a1.Shares 2).bind fun v85 => (some (!v85))))) else (some false)))) else (some false))) else (if (a1.Cells.length : Int) = 0 then ((m_impl_SharesOk a1.Shares).bind fun v88 => (if v88 = true then ((m_impl_has v2 83).bind fun v91 => (if v91 = true then ((m_impl_votes a1.Shares 1).bind fun v94 => (if v94 = true then (some false) else ((m_impl_votes a1.Shares 2).bind fun v97 => (some (!v97))))) else (if (a1.Shares.length : Int) = 0 then ((m_impl_votes a1.Shares 1).bind fun v100 => (if v100 = true then (some false) else ((m_impl_votes a1.Shares 2).bind fun v103 => (some (!v103))))) else (some false)))) else (some false))) else (some false)))) else (some false))) else (some false)))) else (some false))) else (if (a1.Reads.length : Int) = 0 then ((m_impl_WritesOk a1.Writes).bind fun v106 => (if v106 = true then ((m_impl_has v2 87).bind fun v109 => (if v109 = true then ((m_impl_StoreOk a1.Cells).bind fun v112 => (if v112 = true then ((m_impl_has v2 108).bind fun v115 => (if v115 = true then ((m_impl_SharesOk a1.Shares).bind fun v118 => (if v118 = true then ((m_impl_has v2 83).bind fun v121 => (if v121 = true then ((m_impl_votes a1.Shares 1).bind fun v124 => (if v124 = true then (some false) else ((m_impl_votes a1.Shares 2).bind fun v127 => (some (!v127))))) else (if (a1.Shares.length : Int) = 0 then ((m_impl_votes a1.Shares 1).bind fun v130 => (if v130 = true then (some false) else ((m_impl_votes a1.Shares 2).bind fun v133 => (some (!v133))))) else (some false)))) else (some false))) else (if (a1.Cells.length : Int) = 0 then ((m_impl_SharesOk a1.Shares).bind fun v136 => (if v136 = true then ((m_impl_has v2 83).bind fun v139 => (if v139 = true then ((m_impl_votes a1.Shares 1).bind fun v142 => (if v142 = true then (some false) else ((m_impl_votes a1.Shares 2).bind fun v145 => (some (!v145))))) else (if (a1.Shares.length : Int) = 0 then ((m_impl_votes a1.Shares 1).bind fun v148 => (if v148 = true then (some false) else ((m_impl_votes a1.Shares 2).bind fun v151 => (some (!v151))))) else (some false)))) else (some false))) else (some false)))) else (some false))) else (if (a1.Writes.length : Int) = 0 then ((m_impl_StoreOk a1.Cells).bind fun v154 => (if v154 = true then ((m_impl_has v2 108).bind fun v157 => (if v157 = true then ((m_impl_SharesOk a1.Shares).bind fun v160 => (if v160 = true then ((m_impl_has v2 83).bind fun v163 => (if v163 = true then ((m_impl_votes a1.Shares 1).bind fun v166 => (if v166 = true then (some false) else ((m_impl_votes a1.Shares 2).bind fun v169 => (some (!v169))))) else (if (a1.Shares.length : Int) = 0 then ((m_impl_votes a1.Shares 1).bind fun v172 => (if v172 = true then (some false) else ((m_impl_votes a1.Shares 2).bind fun v175 => (some (!v175))))) else (some false)))) else (some false))) else (if (a1.Cells.length : Int) = 0 then ((m_impl_SharesOk a1.Shares).bind fun v178 => (if v178 = true then ((m_impl_has v2 83).bind fun v181 => (if v181 = true then ((m_impl_votes a1.Shares 1).bind fun v184 => (if v184 = true then (some false) else ((m_impl_votes a1.Shares 2).bind fun v187 => (some (!v187))))) else (if (a1.Shares.length : Int) = 0 then ((m_impl_votes a1.Shares 1).bind fun v190 => (if v190 = true then (some false) else ((m_impl_votes a1.Shares 2).bind fun v193 => (some (!v193))))) else (some false)))) else (some false))) else (some false)))) else (some false))) else (some false)))) else (some false))) else (some false)))) else (some false))))
def impl_LetterOk_j4 (v2 : ByteArray) (a1 : TLetter) (t4 : Bool) : Option Bool :=
  (if t4 = true then (some false) else ((m_impl_has v2 107).bind fun v195 => (if v195 = true then ((m_impl_RangeOk (TRange.mk a1.Lo a1.Hi)).bind fun v198 => (if v198 = true then ((m_impl_has v2 107).bind fun v201 => (if v201 = true then ((m_impl_has v2 89).bind fun v204 => (if v204 = true then ((impl_LetterOk_j7 a1 v2) false) else ((impl_LetterOk_j7 a1 v2) a1.Yes))) else (if ¬ a1.Lo = 0 then ((impl_LetterOk_j7 a1 v2) true) else (if ¬ a1.Hi = 0 then ((impl_LetterOk_j7 a1 v2) true) else ((m_impl_has v2 89).bind fun v209 => (if v209 = true then ((impl_LetterOk_j7 a1 v2) false) else ((impl_LetterOk_j7 a1 v2) a1.Yes))))))) else ((impl_LetterOk_j7 a1 v2) true))) else ((m_impl_has v2 107).bind fun v212 => (if v212 = true then ((m_impl_has v2 89).bind fun v215 => (if v215 = true then ((impl_LetterOk_j7 a1 v2) false) else ((impl_LetterOk_j7 a1 v2) a1.Yes))) else (if ¬ a1.Lo = 0 then ((impl_LetterOk_j7 a1 v2) true) else (if ¬ a1.Hi = 0 then ((impl_LetterOk_j7 a1 v2) true) else ((m_impl_has v2 89).bind fun v220 => (if v220 = true then ((impl_LetterOk_j7 a1 v2) false) else ((impl_LetterOk_j7 a1 v2) a1.Yes))))))))))
def m_impl_LetterOk (a1 : TLetter) : Option Bool :=
  ((m_impl_letterHas a1.Kind).bind fun v2 => (if (v2.toList == ByteArray.empty.toList) = true then ((impl_LetterOk_j4 v2 a1) true) else ((m_impl_numRight v2 71 a1.Group 0 3).bind fun v224 => (if v224 = true then ((m_impl_numRight v2 67 a1.Client 0 5).bind fun v227 => (if v227 = true then ((m_impl_numRight v2 82 a1.Req 1 1000000000).bind fun v230 => (if v230 = true then ((m_impl_numRight v2 84 a1.Tx 1 60).bind fun v233 => (if v233 = true then ((m_impl_numRight v2 78 a1.Rank 1 1000000).bind fun v236 => (if v236 = true then ((m_impl_numRight v2 99 a1.Code 0 7).bind fun v239 => ((impl_LetterOk_j4 v2 a1) (!v239))) else ((impl_LetterOk_j4 v2 a1) true))) else ((impl_LetterOk_j4 v2 a1) true))) else ((impl_LetterOk_j4 v2 a1) true))) else ((impl_LetterOk_j4 v2 a1) true))) else ((impl_LetterOk_j4 v2 a1) true)))))
def m_laws_eqRange (a1 : TRange) (a2 : TRange) : Option Bool :=
  (if ¬ a1.Lo = a2.Lo then (some false) else (if ¬ a1.Hi = a2.Hi then (some false) else (some true)))
def laws_eqRangeS_j4  (t4 : Unit) : Option Bool :=
  (some true)
def laws_eqRangeS_b6 (a1 : (List TRange)) (a2 : (List TRange)) (kx5 : (Unit → Option Bool)) (kb7 : (Int → Option Bool)) (s6 : Int) : Option Bool :=
  (if s6 < (a1.length : Int) then ((idx a1 s6).bind fun v9 => ((idx a2 s6).bind fun v11 => ((m_laws_eqRange v9 v11).bind fun v13 => (if v13 = true then (kb7 (IntKind.wrap .i64 (s6 + 1))) else (some false))))) else (kx5 ()))
def m_laws_eqRangeS (a1 : (List TRange)) (a2 : (List TRange)) : Option Bool :=
  (if ¬ (a1.length : Int) = (a2.length : Int) then (some false) else (iter (laws_eqRangeS_b6 a1 a2 laws_eqRangeS_j4) FU 0))
def m_laws_eqWrite (a1 : TCell) (a2 : TCell) : Option Bool :=
  (if ¬ a1.Key = a2.Key then (some false) else (if ¬ a1.Value = a2.Value then (some false) else (some true)))
def laws_eqWriteS_j4  (t4 : Unit) : Option Bool :=
  (some true)
def laws_eqWriteS_b6 (a1 : (List TCell)) (a2 : (List TCell)) (kx5 : (Unit → Option Bool)) (kb7 : (Int → Option Bool)) (s6 : Int) : Option Bool :=
  (if s6 < (a1.length : Int) then ((idx a1 s6).bind fun v9 => ((idx a2 s6).bind fun v11 => ((m_laws_eqWrite v9 v11).bind fun v13 => (if v13 = true then (kb7 (IntKind.wrap .i64 (s6 + 1))) else (some false))))) else (kx5 ()))
def m_laws_eqWriteS (a1 : (List TCell)) (a2 : (List TCell)) : Option Bool :=
  (if ¬ (a1.length : Int) = (a2.length : Int) then (some false) else (iter (laws_eqWriteS_b6 a1 a2 laws_eqWriteS_j4) FU 0))
def m_laws_eqCell (a1 : TCell) (a2 : TCell) : Option Bool :=
  (if ¬ a1.Key = a2.Key then (some false) else (if ¬ a1.Value = a2.Value then (some false) else (some true)))
def laws_eqCellS_j4  (t4 : Unit) : Option Bool :=
  (some true)
def laws_eqCellS_b6 (a1 : (List TCell)) (a2 : (List TCell)) (kx5 : (Unit → Option Bool)) (kb7 : (Int → Option Bool)) (s6 : Int) : Option Bool :=
  (if s6 < (a1.length : Int) then ((idx a1 s6).bind fun v9 => ((idx a2 s6).bind fun v11 => ((m_laws_eqCell v9 v11).bind fun v13 => (if v13 = true then (kb7 (IntKind.wrap .i64 (s6 + 1))) else (some false))))) else (kx5 ()))
def m_laws_eqCellS (a1 : (List TCell)) (a2 : (List TCell)) : Option Bool :=
  (if ¬ (a1.length : Int) = (a2.length : Int) then (some false) else (iter (laws_eqCellS_b6 a1 a2 laws_eqCellS_j4) FU 0))
def m_laws_eqShare (a1 : TShare) (a2 : TShare) : Option Bool :=
  (if ¬ a1.Group = a2.Group then (some false) else ((m_laws_eqRangeS a1.Reads a2.Reads).bind fun v4 => (if v4 = true then ((m_laws_eqWriteS a1.Writes a2.Writes).bind fun v7 => (if v7 = true then (if ¬ a1.Vote = a2.Vote then (some false) else (some true)) else (some false))) else (some false))))
def laws_eqShareS_j4  (t4 : Unit) : Option Bool :=
  (some true)
def laws_eqShareS_b6 (a1 : (List TShare)) (a2 : (List TShare)) (kx5 : (Unit → Option Bool)) (kb7 : (Int → Option Bool)) (s6 : Int) : Option Bool :=
  (if s6 < (a1.length : Int) then ((idx a1 s6).bind fun v9 => ((idx a2 s6).bind fun v11 => ((m_laws_eqShare v9 v11).bind fun v13 => (if v13 = true then (kb7 (IntKind.wrap .i64 (s6 + 1))) else (some false))))) else (kx5 ()))
def m_laws_eqShareS (a1 : (List TShare)) (a2 : (List TShare)) : Option Bool :=
  (if ¬ (a1.length : Int) = (a2.length : Int) then (some false) else (iter (laws_eqShareS_b6 a1 a2 laws_eqShareS_j4) FU 0))
def m_laws_eqLetter (a1 : TLetter) (a2 : TLetter) : Option Bool :=
  (if ¬ a1.Kind = a2.Kind then (some false) else (if ¬ a1.Group = a2.Group then (some false) else (if ¬ a1.Client = a2.Client then (some false) else (if ¬ a1.Req = a2.Req then (some false) else (if ¬ a1.Tx = a2.Tx then (some false) else (if ¬ a1.Lo = a2.Lo then (some false) else (if ¬ a1.Hi = a2.Hi then (some false) else (if ¬ a1.Rank = a2.Rank then (some false) else (if ¬ a1.Code = a2.Code then (some false) else (if (a1.Yes != a2.Yes) = true then (some false) else ((m_laws_eqRangeS a1.Reads a2.Reads).bind fun v13 => (if v13 = true then ((m_laws_eqWriteS a1.Writes a2.Writes).bind fun v16 => (if v16 = true then ((m_laws_eqCellS a1.Cells a2.Cells).bind fun v19 => (if v19 = true then ((m_laws_eqShareS a1.Shares a2.Shares).bind fun v22 => (if v22 = true then (some true) else (some false))) else (some false))) else (some false))) else (some false)))))))))))))
def m_laws_FnExactLetterOk (a1 : TLetter) : Option Bool :=
  ((m_laws_szLetter a1 1048576).bind fun v2 => (if v2 < 0 then (some true) else ((m_laws_toLetter a1).bind fun v5 => ((m_spec_LetterOk v5).bind fun v7 => ((m_laws_toLetter a1).bind fun v9 => ((m_impl_LetterOk v9).bind fun v11 => (if (v11 != v7) = true then (some false) else ((m_laws_toLetter a1).bind fun v14 => ((m_laws_eqLetter v9 v14).bind fun v16 => (if v16 = true then (some true) else (some false)))))))))))
end Go.AW
