/- The compact code of functions of the program, and that it is the program's: made by a program of the prover's own (tool/GenIC.lean). Conditions: none. -/
import Derived.Test.YtednnkegleoenaaYi
import Derived.Test.YtednnkegleoenaaRows
import Derived.KernelRfl
set_option linter.unusedVariables false
set_option maxRecDepth 100000
namespace Go.AW
open Go.Proofs
abbrev k_laws_FnExactLetterOk : Nat := 4
abbrev k_laws_szCellS : Nat := 5
abbrev k_laws_toCellS : Nat := 7
abbrev k_laws_eqCellS : Nat := 9
abbrev k_laws_szLetter : Nat := 12
abbrev k_spec_LetterOk : Nat := 13
abbrev k_laws_toLetter : Nat := 14
abbrev k_impl_LetterOk : Nat := 15
abbrev k_laws_eqLetter : Nat := 16
abbrev k_spec_StoreOk : Nat := 17
abbrev k_laws_toCell : Nat := 20
abbrev k_impl_StoreOk : Nat := 21
abbrev k_laws_eqCell : Nat := 25
abbrev k_laws_szRangeS : Nat := 26
abbrev k_laws_szWriteS : Nat := 27
abbrev k_laws_szShareS : Nat := 28
abbrev k_spec_l16Has : Nat := 29
abbrev k_spec_l4Num : Nat := 30
abbrev k_spec_l4In : Nat := 31
abbrev k_spec_l16RangeOk : Nat := 32
abbrev k_spec_WritesOk : Nat := 33
abbrev k_spec_SharesOk : Nat := 34
abbrev k_spec_RangeOk : Nat := 35
abbrev k_spec_l14Votes : Nat := 36
abbrev k_laws_toRangeS : Nat := 37
abbrev k_laws_toWriteS : Nat := 38
abbrev k_laws_toShareS : Nat := 39
abbrev k_impl_letterHas : Nat := 40
abbrev k_impl_numRight : Nat := 41
abbrev k_impl_has : Nat := 42
abbrev k_impl_RangeOk : Nat := 43
abbrev k_impl_readsOk : Nat := 44
abbrev k_impl_WritesOk : Nat := 45
abbrev k_impl_SharesOk : Nat := 46
abbrev k_impl_votes : Nat := 47
abbrev k_laws_eqRangeS : Nat := 48
abbrev k_laws_eqWriteS : Nat := 49
abbrev k_laws_eqShareS : Nat := 50
abbrev k_spec_l10Key : Nat := 51
abbrev k_spec_l1Whole : Nat := 52
abbrev k_impl_isKey : Nat := 53
abbrev k_impl_isWhole : Nat := 54
abbrev k_laws_szShare : Nat := 58
abbrev k_spec_l1In : Nat := 59
abbrev k_laws_toRange : Nat := 60
abbrev k_laws_toWrite : Nat := 61
abbrev k_laws_toShare : Nat := 62
abbrev k_impl_from : Nat := 63
abbrev k_slices_ContainsFunc___impl_Range_impl_Range_ : Nat := 64
abbrev k_impl_readsOk_1 : Nat := 65
abbrev k_impl_isAnswer : Nat := 66
abbrev k_impl_isGroup : Nat := 67
abbrev k_slices_ContainsFunc___impl_Share_impl_Share_ : Nat := 68
abbrev k_impl_votes_1 : Nat := 69
abbrev k_laws_eqRange : Nat := 70
abbrev k_laws_eqWrite : Nat := 71
abbrev k_laws_eqShare : Nat := 72
abbrev k_slices_IndexFunc___impl_Range_impl_Range_ : Nat := 83
abbrev k_slices_IndexFunc___impl_Share_impl_Share_ : Nat := 84
abbrev r26_0 : List RO := [ro (.mov 4 (c6 0))]
abbrev r26_1 : List RO := [rM 5 1, rM 6 0, ro (.len 7 false (.t 6)), ro (.bin 8 .sub (.t 5) (.t 7)), rM 1 8]
abbrev r26_2 : List RO := [rM 9 1, ro (.bin 10 .lss (.t 9) (c6 0))]
abbrev r26_3 : List RO := [ro (.mov 4 (c6 (-1)))]
abbrev r26_4 : List RO := [rM 11 1, rM 4 11]
def i_laws_szRangeS : IC := (.seq (.reg r26_0) (.seq (.reg r26_1) (.seq (.seq (.reg r26_2) (.cond (.t 10) (.seq (.reg r26_3) .ret) .skip)) (.seq (.reg r26_4) .ret))))
theorem i_laws_szRangeS_ok : (Try.f26.body.bind fun c => toIC Try.prog 12 c []) = some (i_laws_szRangeS, []) := by kernel_rfl
theorem i_laws_szRangeS_fn {ds rs : List D} (hle : ds.length ≤ 12) (h : AW Try.prog 12 i_laws_szRangeS (Ends [.tmp 4] rs) (init ds)) : Fn Try.prog k_laws_szRangeS (lent ds) true rs :=
  Fn.intro' (by kernel_rfl) Try.func26 (by kernel_rfl) i_laws_szRangeS_ok (by kernel_rfl) hle h.h
abbrev r27_0 : List RO := [ro (.mov 4 (c6 0))]
abbrev r27_1 : List RO := [rM 5 1, rM 6 0, ro (.len 7 false (.t 6)), ro (.bin 8 .sub (.t 5) (.t 7)), rM 1 8]
abbrev r27_2 : List RO := [rM 9 1, ro (.bin 10 .lss (.t 9) (c6 0))]
abbrev r27_3 : List RO := [ro (.mov 4 (c6 (-1)))]
abbrev r27_4 : List RO := [rM 11 1, rM 4 11]
def i_laws_szWriteS : IC := (.seq (.reg r27_0) (.seq (.reg r27_1) (.seq (.seq (.reg r27_2) (.cond (.t 10) (.seq (.reg r27_3) .ret) .skip)) (.seq (.reg r27_4) .ret))))
theorem i_laws_szWriteS_ok : (Try.f27.body.bind fun c => toIC Try.prog 12 c []) = some (i_laws_szWriteS, []) := by kernel_rfl
theorem i_laws_szWriteS_fn {ds rs : List D} (hle : ds.length ≤ 12) (h : AW Try.prog 12 i_laws_szWriteS (Ends [.tmp 4] rs) (init ds)) : Fn Try.prog k_laws_szWriteS (lent ds) true rs :=
  Fn.intro' (by kernel_rfl) Try.func27 (by kernel_rfl) i_laws_szWriteS_ok (by kernel_rfl) hle h.h
abbrev r5_0 : List RO := [ro (.mov 4 (c6 0))]
abbrev r5_1 : List RO := [rM 5 1, rM 6 0, ro (.len 7 false (.t 6)), ro (.bin 8 .sub (.t 5) (.t 7)), rM 1 8]
abbrev r5_2 : List RO := [rM 9 1, ro (.bin 10 .lss (.t 9) (c6 0))]
abbrev r5_3 : List RO := [ro (.mov 4 (c6 (-1)))]
abbrev r5_4 : List RO := [rM 11 1, rM 4 11]
def i_laws_szCellS : IC := (.seq (.reg r5_0) (.seq (.reg r5_1) (.seq (.seq (.reg r5_2) (.cond (.t 10) (.seq (.reg r5_3) .ret) .skip)) (.seq (.reg r5_4) .ret))))
theorem i_laws_szCellS_ok : (Try.f5.body.bind fun c => toIC Try.prog 12 c []) = some (i_laws_szCellS, []) := by kernel_rfl
theorem i_laws_szCellS_fn {ds rs : List D} (hle : ds.length ≤ 12) (h : AW Try.prog 12 i_laws_szCellS (Ends [.tmp 4] rs) (init ds)) : Fn Try.prog k_laws_szCellS (lent ds) true rs :=
  Fn.intro' (by kernel_rfl) Try.func5 (by kernel_rfl) i_laws_szCellS_ok (by kernel_rfl) hle h.h
abbrev r58_0 : List RO := [ro (.box 2 (.t 0)), ro (.mov 4 (c6 0))]
abbrev r58_1 : List RO := [rF 5 1 2, rL 6 5, rM 7 1, ro (.callv 8 (.c (.one (.fn k_laws_szRangeS []))) [(.t 6), (.t 7)]), rM 1 8]
abbrev r58_2 : List RO := [rM 9 1, ro (.bin 10 .lss (.t 9) (c6 0))]
abbrev r58_3 : List RO := [ro (.mov 4 (c6 (-1)))]
abbrev r58_4 : List RO := [rF 11 2 2, rL 12 11, rM 13 1, ro (.callv 14 (.c (.one (.fn k_laws_szWriteS []))) [(.t 12), (.t 13)]), rM 1 14]
abbrev r58_5 : List RO := [rM 15 1, ro (.bin 16 .lss (.t 15) (c6 0))]
abbrev r58_6 : List RO := [ro (.mov 4 (c6 (-1)))]
abbrev r58_7 : List RO := [rM 17 1, rM 4 17]
def i_laws_szShare : IC := (.seq (.reg r58_0) (.seq (.reg r58_1) (.seq (.seq (.reg r58_2) (.cond (.t 10) (.seq (.reg r58_3) .ret) .skip)) (.seq (.reg r58_4) (.seq (.seq (.reg r58_5) (.cond (.t 16) (.seq (.reg r58_6) .ret) .skip)) (.seq (.reg r58_7) .ret))))))
theorem i_laws_szShare_ok : (Try.f58.body.bind fun c => toIC Try.prog 18 c []) = some (i_laws_szShare, []) := by kernel_rfl
theorem i_laws_szShare_fn {ds rs : List D} (hle : ds.length ≤ 18) (h : AW Try.prog 18 i_laws_szShare (Ends [.tmp 4] rs) (init ds)) : Fn Try.prog k_laws_szShare (lent ds) true rs :=
  Fn.intro' (by kernel_rfl) Try.func58 (by kernel_rfl) i_laws_szShare_ok (by kernel_rfl) hle h.h
abbrev r28_0 : List RO := [ro (.mov 4 (c6 0))]
abbrev r28_1 : List RO := [rM 6 1, rM 7 0, ro (.len 8 false (.t 7)), ro (.bin 9 .sub (.t 6) (.t 8)), rM 1 9]
abbrev r28_2 : List RO := [rM 10 1, ro (.bin 11 .lss (.t 10) (c6 0))]
abbrev r28_3 : List RO := [ro (.mov 4 (c6 (-1)))]
abbrev r28_4 : List RO := [ro (.mov 5 (c6 0))]
abbrev r28_5 : List RO := [rM 12 5, rM 13 0, ro (.len 14 false (.t 13)), ro (.bin 15 .lss (.t 12) (.t 14))]
abbrev r28_6 : List RO := [rM 18 0, rM 19 5, ro (.iaddr 20 4 (.t 18) (.t 19)), ro (.load 21 (some 4) (.t 20)), rM 22 1, ro (.callv 23 (.c (.one (.fn k_laws_szShare []))) [(.t 21), (.t 22)]), rM 1 23]
abbrev r28_7 : List RO := [rM 24 1, ro (.bin 25 .lss (.t 24) (c6 0))]
abbrev r28_8 : List RO := [ro (.mov 4 (c6 (-1)))]
abbrev r28_9 : List RO := [rM 16 5, ro (.bin 17 .add (.t 16) (c6 1)), rM 5 17]
abbrev r28_10 : List RO := [rM 26 1, rM 4 26]
def i_laws_szShareS : IC := (.seq (.reg r28_0) (.seq (.reg r28_1) (.seq (.seq (.reg r28_2) (.cond (.t 11) (.seq (.reg r28_3) .ret) .skip)) (.seq (.seq (.reg r28_4) (.block 0 (.loop (.seq (.seq (.reg r28_5) (.cond (.t 15) .skip (.exit 0))) (.seq (.block 1 (.seq (.reg r28_6) (.seq (.reg r28_7) (.cond (.t 25) (.seq (.reg r28_8) .ret) .skip)))) (.reg r28_9)))))) (.seq (.reg r28_10) .ret)))))
theorem i_laws_szShareS_ok : (Try.f28.body.bind fun c => toIC Try.prog 27 c []) = some (i_laws_szShareS, []) := by kernel_rfl
theorem i_laws_szShareS_fn {ds rs : List D} (hle : ds.length ≤ 27) (h : AW Try.prog 27 i_laws_szShareS (Ends [.tmp 4] rs) (init ds)) : Fn Try.prog k_laws_szShareS (lent ds) true rs :=
  Fn.intro' (by kernel_rfl) Try.func28 (by kernel_rfl) i_laws_szShareS_ok (by kernel_rfl) hle h.h
abbrev r12_0 : List RO := [ro (.box 2 (.t 0)), ro (.mov 4 (c6 0))]
abbrev r12_1 : List RO := [rF 5 10 2, rL 6 5, rM 7 1, ro (.callv 8 (.c (.one (.fn k_laws_szRangeS []))) [(.t 6), (.t 7)]), rM 1 8]
abbrev r12_2 : List RO := [rM 9 1, ro (.bin 10 .lss (.t 9) (c6 0))]
abbrev r12_3 : List RO := [ro (.mov 4 (c6 (-1)))]
abbrev r12_4 : List RO := [rF 11 11 2, rL 12 11, rM 13 1, ro (.callv 14 (.c (.one (.fn k_laws_szWriteS []))) [(.t 12), (.t 13)]), rM 1 14]
abbrev r12_5 : List RO := [rM 15 1, ro (.bin 16 .lss (.t 15) (c6 0))]
abbrev r12_6 : List RO := [ro (.mov 4 (c6 (-1)))]
abbrev r12_7 : List RO := [rF 17 12 2, rL 18 17, rM 19 1, ro (.callv 20 (.c (.one (.fn k_laws_szCellS []))) [(.t 18), (.t 19)]), rM 1 20]
abbrev r12_8 : List RO := [rM 21 1, ro (.bin 22 .lss (.t 21) (c6 0))]
abbrev r12_9 : List RO := [ro (.mov 4 (c6 (-1)))]
abbrev r12_10 : List RO := [rF 23 13 2, rL 24 23, rM 25 1, ro (.callv 26 (.c (.one (.fn k_laws_szShareS []))) [(.t 24), (.t 25)]), rM 1 26]
abbrev r12_11 : List RO := [rM 27 1, ro (.bin 28 .lss (.t 27) (c6 0))]
abbrev r12_12 : List RO := [ro (.mov 4 (c6 (-1)))]
abbrev r12_13 : List RO := [rM 29 1, rM 4 29]
def i_laws_szLetter : IC := (.seq (.reg r12_0) (.seq (.reg r12_1) (.seq (.seq (.reg r12_2) (.cond (.t 10) (.seq (.reg r12_3) .ret) .skip)) (.seq (.reg r12_4) (.seq (.seq (.reg r12_5) (.cond (.t 16) (.seq (.reg r12_6) .ret) .skip)) (.seq (.reg r12_7) (.seq (.seq (.reg r12_8) (.cond (.t 22) (.seq (.reg r12_9) .ret) .skip)) (.seq (.reg r12_10) (.seq (.seq (.reg r12_11) (.cond (.t 28) (.seq (.reg r12_12) .ret) .skip)) (.seq (.reg r12_13) .ret))))))))))
theorem i_laws_szLetter_ok : (Try.f12.body.bind fun c => toIC Try.prog 30 c []) = some (i_laws_szLetter, []) := by kernel_rfl
theorem i_laws_szLetter_fn {ds rs : List D} (hle : ds.length ≤ 30) (h : AW Try.prog 30 i_laws_szLetter (Ends [.tmp 4] rs) (init ds)) : Fn Try.prog k_laws_szLetter (lent ds) true rs :=
  Fn.intro' (by kernel_rfl) Try.func12 (by kernel_rfl) i_laws_szLetter_ok (by kernel_rfl) hle h.h
abbrev r60_0 : List RO := [ro (.box 1 (.t 0)), ro (.var 2 [(dI 0), (dI 0)])]
abbrev r60_1 : List RO := [ro (.var 3 [(dI 0), (dI 0)])]
abbrev r60_2 : List RO := [rF 4 0 1, rL 5 4, rF 6 0 3, ro (.store 1 [(.int .i64 0)] (.t 6) (.t 5))]
abbrev r60_3 : List RO := [rF 7 1 1, rL 8 7, rF 9 1 3, ro (.store 1 [(.int .i64 0)] (.t 9) (.t 8))]
abbrev r60_4 : List RO := [ro (.load 10 (some 2) (.t 3)), ro (.store 2 [(.int .i64 0), (.int .i64 0)] (.t 2) (.t 10))]
def i_laws_toRange : IC := (.seq (.reg r60_0) (.seq (.reg r60_1) (.seq (.reg r60_2) (.seq (.reg r60_3) (.seq (.reg r60_4) .ret)))))
theorem i_laws_toRange_ok : (Try.f60.body.bind fun c => toIC Try.prog 11 c []) = some (i_laws_toRange, []) := by kernel_rfl
theorem i_laws_toRange_fn {ds rs : List D} (hle : ds.length ≤ 11) (h : AW Try.prog 11 i_laws_toRange (Ends [.cell 2 (some 2)] rs) (init ds)) : Fn Try.prog k_laws_toRange (lent ds) true rs :=
  Fn.intro' (by kernel_rfl) Try.func60 (by kernel_rfl) i_laws_toRange_ok (by kernel_rfl) hle h.h
abbrev r37_0 : List RO := [ro (.mov 2 (.c (.one .zs)))]
abbrev r37_1 : List RO := [rM 5 0, ro (.len 6 false (.t 5)), ro (.mksl 7 2 16 [(.int .i64 0), (.int .i64 0)] (.t 6) (.t 6)), rM 3 7]
abbrev r37_2 : List RO := [ro (.mov 4 (c6 0))]
abbrev r37_3 : List RO := [rM 8 4, rM 9 0, ro (.len 10 false (.t 9)), ro (.bin 11 .lss (.t 8) (.t 10))]
abbrev r37_4 : List RO := [rM 14 3, rM 15 4, rM 16 0, rM 17 4, ro (.iaddr 18 2 (.t 16) (.t 17)), ro (.load 19 (some 2) (.t 18)), ro (.callv 20 (.c (.one (.fn k_laws_toRange []))) [(.t 19)]), ro (.iaddr 21 2 (.t 14) (.t 15)), ro (.store 2 [(.int .i64 0), (.int .i64 0)] (.t 21) (.t 20))]
abbrev r37_5 : List RO := [rM 12 4, ro (.bin 13 .add (.t 12) (c6 1)), rM 4 13]
abbrev r37_6 : List RO := [rM 22 3, rM 2 22]
def i_laws_toRangeS : IC := (.seq (.reg r37_0) (.seq (.reg r37_1) (.seq (.seq (.reg r37_2) (.block 0 (.loop (.seq (.seq (.reg r37_3) (.cond (.t 11) .skip (.exit 0))) (.seq (.block 1 (.reg r37_4)) (.reg r37_5)))))) (.seq (.reg r37_6) .ret))))
theorem i_laws_toRangeS_ok : (Try.f37.body.bind fun c => toIC Try.prog 23 c []) = some (i_laws_toRangeS, []) := by kernel_rfl
theorem i_laws_toRangeS_fn {ds rs : List D} (hle : ds.length ≤ 23) (h : AW Try.prog 23 i_laws_toRangeS (Ends [.tmp 2] rs) (init ds)) : Fn Try.prog k_laws_toRangeS (lent ds) true rs :=
  Fn.intro' (by kernel_rfl) Try.func37 (by kernel_rfl) i_laws_toRangeS_ok (by kernel_rfl) hle h.h
abbrev r61_0 : List RO := [ro (.box 1 (.t 0)), ro (.var 2 [(dI 0), (dI 0)])]
abbrev r61_1 : List RO := [ro (.var 3 [(dI 0), (dI 0)])]
abbrev r61_2 : List RO := [rF 4 0 1, rL 5 4, rF 6 0 3, ro (.store 1 [(.int .i64 0)] (.t 6) (.t 5))]
abbrev r61_3 : List RO := [rF 7 1 1, rL 8 7, rF 9 1 3, ro (.store 1 [(.int .i64 0)] (.t 9) (.t 8))]
abbrev r61_4 : List RO := [ro (.load 10 (some 2) (.t 3)), ro (.store 2 [(.int .i64 0), (.int .i64 0)] (.t 2) (.t 10))]
def i_laws_toWrite : IC := (.seq (.reg r61_0) (.seq (.reg r61_1) (.seq (.reg r61_2) (.seq (.reg r61_3) (.seq (.reg r61_4) .ret)))))
theorem i_laws_toWrite_ok : (Try.f61.body.bind fun c => toIC Try.prog 11 c []) = some (i_laws_toWrite, []) := by kernel_rfl
theorem i_laws_toWrite_fn {ds rs : List D} (hle : ds.length ≤ 11) (h : AW Try.prog 11 i_laws_toWrite (Ends [.cell 2 (some 2)] rs) (init ds)) : Fn Try.prog k_laws_toWrite (lent ds) true rs :=
  Fn.intro' (by kernel_rfl) Try.func61 (by kernel_rfl) i_laws_toWrite_ok (by kernel_rfl) hle h.h
abbrev r38_0 : List RO := [ro (.mov 2 (.c (.one .zs)))]
abbrev r38_1 : List RO := [rM 5 0, ro (.len 6 false (.t 5)), ro (.mksl 7 2 16 [(.int .i64 0), (.int .i64 0)] (.t 6) (.t 6)), rM 3 7]
abbrev r38_2 : List RO := [ro (.mov 4 (c6 0))]
abbrev r38_3 : List RO := [rM 8 4, rM 9 0, ro (.len 10 false (.t 9)), ro (.bin 11 .lss (.t 8) (.t 10))]
abbrev r38_4 : List RO := [rM 14 3, rM 15 4, rM 16 0, rM 17 4, ro (.iaddr 18 2 (.t 16) (.t 17)), ro (.load 19 (some 2) (.t 18)), ro (.callv 20 (.c (.one (.fn k_laws_toWrite []))) [(.t 19)]), ro (.iaddr 21 2 (.t 14) (.t 15)), ro (.store 2 [(.int .i64 0), (.int .i64 0)] (.t 21) (.t 20))]
abbrev r38_5 : List RO := [rM 12 4, ro (.bin 13 .add (.t 12) (c6 1)), rM 4 13]
abbrev r38_6 : List RO := [rM 22 3, rM 2 22]
def i_laws_toWriteS : IC := (.seq (.reg r38_0) (.seq (.reg r38_1) (.seq (.seq (.reg r38_2) (.block 0 (.loop (.seq (.seq (.reg r38_3) (.cond (.t 11) .skip (.exit 0))) (.seq (.block 1 (.reg r38_4)) (.reg r38_5)))))) (.seq (.reg r38_6) .ret))))
theorem i_laws_toWriteS_ok : (Try.f38.body.bind fun c => toIC Try.prog 23 c []) = some (i_laws_toWriteS, []) := by kernel_rfl
theorem i_laws_toWriteS_fn {ds rs : List D} (hle : ds.length ≤ 23) (h : AW Try.prog 23 i_laws_toWriteS (Ends [.tmp 2] rs) (init ds)) : Fn Try.prog k_laws_toWriteS (lent ds) true rs :=
  Fn.intro' (by kernel_rfl) Try.func38 (by kernel_rfl) i_laws_toWriteS_ok (by kernel_rfl) hle h.h
abbrev r20_0 : List RO := [ro (.box 1 (.t 0)), ro (.var 2 [(dI 0), (dI 0)])]
abbrev r20_1 : List RO := [ro (.var 3 [(dI 0), (dI 0)])]
abbrev r20_2 : List RO := [rF 4 0 1, rL 5 4, rF 6 0 3, ro (.store 1 [(.int .i64 0)] (.t 6) (.t 5))]
abbrev r20_3 : List RO := [rF 7 1 1, rL 8 7, rF 9 1 3, ro (.store 1 [(.int .i64 0)] (.t 9) (.t 8))]
abbrev r20_4 : List RO := [ro (.load 10 (some 2) (.t 3)), ro (.store 2 [(.int .i64 0), (.int .i64 0)] (.t 2) (.t 10))]
def i_laws_toCell : IC := (.seq (.reg r20_0) (.seq (.reg r20_1) (.seq (.reg r20_2) (.seq (.reg r20_3) (.seq (.reg r20_4) .ret)))))
theorem i_laws_toCell_ok : (Try.f20.body.bind fun c => toIC Try.prog 11 c []) = some (i_laws_toCell, []) := by kernel_rfl
theorem i_laws_toCell_fn {ds rs : List D} (hle : ds.length ≤ 11) (h : AW Try.prog 11 i_laws_toCell (Ends [.cell 2 (some 2)] rs) (init ds)) : Fn Try.prog k_laws_toCell (lent ds) true rs :=
  Fn.intro' (by kernel_rfl) Try.func20 (by kernel_rfl) i_laws_toCell_ok (by kernel_rfl) hle h.h
abbrev r7_0 : List RO := [ro (.mov 2 (.c (.one .zs)))]
abbrev r7_1 : List RO := [rM 5 0, ro (.len 6 false (.t 5)), ro (.mksl 7 2 16 [(.int .i64 0), (.int .i64 0)] (.t 6) (.t 6)), rM 3 7]
abbrev r7_2 : List RO := [ro (.mov 4 (c6 0))]
abbrev r7_3 : List RO := [rM 8 4, rM 9 0, ro (.len 10 false (.t 9)), ro (.bin 11 .lss (.t 8) (.t 10))]
abbrev r7_4 : List RO := [rM 14 3, rM 15 4, rM 16 0, rM 17 4, ro (.iaddr 18 2 (.t 16) (.t 17)), ro (.load 19 (some 2) (.t 18)), ro (.callv 20 (.c (.one (.fn k_laws_toCell []))) [(.t 19)]), ro (.iaddr 21 2 (.t 14) (.t 15)), ro (.store 2 [(.int .i64 0), (.int .i64 0)] (.t 21) (.t 20))]
abbrev r7_5 : List RO := [rM 12 4, ro (.bin 13 .add (.t 12) (c6 1)), rM 4 13]
abbrev r7_6 : List RO := [rM 22 3, rM 2 22]
def i_laws_toCellS : IC := (.seq (.reg r7_0) (.seq (.reg r7_1) (.seq (.seq (.reg r7_2) (.block 0 (.loop (.seq (.seq (.reg r7_3) (.cond (.t 11) .skip (.exit 0))) (.seq (.block 1 (.reg r7_4)) (.reg r7_5)))))) (.seq (.reg r7_6) .ret))))
theorem i_laws_toCellS_ok : (Try.f7.body.bind fun c => toIC Try.prog 23 c []) = some (i_laws_toCellS, []) := by kernel_rfl
theorem i_laws_toCellS_fn {ds rs : List D} (hle : ds.length ≤ 23) (h : AW Try.prog 23 i_laws_toCellS (Ends [.tmp 2] rs) (init ds)) : Fn Try.prog k_laws_toCellS (lent ds) true rs :=
  Fn.intro' (by kernel_rfl) Try.func7 (by kernel_rfl) i_laws_toCellS_ok (by kernel_rfl) hle h.h
abbrev r62_0 : List RO := [ro (.box 1 (.t 0)), ro (.var 2 [(dI 0), .zs, .zs, (dI 0)])]
abbrev r62_1 : List RO := [ro (.var 3 [(dI 0), .zs, .zs, (dI 0)])]
abbrev r62_2 : List RO := [rF 4 0 1, rL 5 4, rF 6 0 3, ro (.store 1 [(.int .i64 0)] (.t 6) (.t 5))]
abbrev r62_3 : List RO := [rF 7 1 1, rL 8 7, ro (.callv 9 (.c (.one (.fn k_laws_toRangeS []))) [(.t 8)]), rF 10 1 3, ro (.store 1 [(.sl 2 [])] (.t 10) (.t 9))]
abbrev r62_4 : List RO := [rF 11 2 1, rL 12 11, ro (.callv 13 (.c (.one (.fn k_laws_toWriteS []))) [(.t 12)]), rF 14 2 3, ro (.store 1 [(.sl 2 [])] (.t 14) (.t 13))]
abbrev r62_5 : List RO := [rF 15 3 1, rL 16 15, rF 17 3 3, ro (.store 1 [(.int .i64 0)] (.t 17) (.t 16))]
abbrev r62_6 : List RO := [ro (.load 18 (some 4) (.t 3)), ro (.store 4 [(.int .i64 0), (.sl 2 []), (.sl 2 []), (.int .i64 0)] (.t 2) (.t 18))]
def i_laws_toShare : IC := (.seq (.reg r62_0) (.seq (.reg r62_1) (.seq (.reg r62_2) (.seq (.reg r62_3) (.seq (.reg r62_4) (.seq (.reg r62_5) (.seq (.reg r62_6) .ret)))))))
theorem i_laws_toShare_ok : (Try.f62.body.bind fun c => toIC Try.prog 19 c []) = some (i_laws_toShare, []) := by kernel_rfl
theorem i_laws_toShare_fn {ds rs : List D} (hle : ds.length ≤ 19) (h : AW Try.prog 19 i_laws_toShare (Ends [.cell 2 (some 4)] rs) (init ds)) : Fn Try.prog k_laws_toShare (lent ds) true rs :=
  Fn.intro' (by kernel_rfl) Try.func62 (by kernel_rfl) i_laws_toShare_ok (by kernel_rfl) hle h.h
abbrev r39_0 : List RO := [ro (.mov 2 (.c (.one .zs)))]
abbrev r39_1 : List RO := [rM 5 0, ro (.len 6 false (.t 5)), ro (.mksl 7 4 64 [(.int .i64 0), (.sl 2 []), (.sl 2 []), (.int .i64 0)] (.t 6) (.t 6)), rM 3 7]
abbrev r39_2 : List RO := [ro (.mov 4 (c6 0))]
abbrev r39_3 : List RO := [rM 8 4, rM 9 0, ro (.len 10 false (.t 9)), ro (.bin 11 .lss (.t 8) (.t 10))]
abbrev r39_4 : List RO := [rM 14 3, rM 15 4, rM 16 0, rM 17 4, ro (.iaddr 18 4 (.t 16) (.t 17)), ro (.load 19 (some 4) (.t 18)), ro (.callv 20 (.c (.one (.fn k_laws_toShare []))) [(.t 19)]), ro (.iaddr 21 4 (.t 14) (.t 15)), ro (.store 4 [(.int .i64 0), (.sl 2 []), (.sl 2 []), (.int .i64 0)] (.t 21) (.t 20))]
abbrev r39_5 : List RO := [rM 12 4, ro (.bin 13 .add (.t 12) (c6 1)), rM 4 13]
abbrev r39_6 : List RO := [rM 22 3, rM 2 22]
def i_laws_toShareS : IC := (.seq (.reg r39_0) (.seq (.reg r39_1) (.seq (.seq (.reg r39_2) (.block 0 (.loop (.seq (.seq (.reg r39_3) (.cond (.t 11) .skip (.exit 0))) (.seq (.block 1 (.reg r39_4)) (.reg r39_5)))))) (.seq (.reg r39_6) .ret))))
theorem i_laws_toShareS_ok : (Try.f39.body.bind fun c => toIC Try.prog 23 c []) = some (i_laws_toShareS, []) := by kernel_rfl
theorem i_laws_toShareS_fn {ds rs : List D} (hle : ds.length ≤ 23) (h : AW Try.prog 23 i_laws_toShareS (Ends [.tmp 2] rs) (init ds)) : Fn Try.prog k_laws_toShareS (lent ds) true rs :=
  Fn.intro' (by kernel_rfl) Try.func39 (by kernel_rfl) i_laws_toShareS_ok (by kernel_rfl) hle h.h
abbrev r14_0 : List RO := [ro (.box 1 (.t 0)), ro (.var 2 [(dI 0), (dI 0), (dI 0), (dI 0), (dI 0), (dI 0), (dI 0), (dI 0), (dI 0), (.d (.bool false)), .zs, .zs, .zs, .zs])]
abbrev r14_1 : List RO := [ro (.var 3 [(dI 0), (dI 0), (dI 0), (dI 0), (dI 0), (dI 0), (dI 0), (dI 0), (dI 0), (.d (.bool false)), .zs, .zs, .zs, .zs])]
abbrev r14_2 : List RO := [rF 4 0 1, rL 5 4, rF 6 0 3, ro (.store 1 [(.int .i64 0)] (.t 6) (.t 5))]
abbrev r14_3 : List RO := [rF 7 1 1, rL 8 7, rF 9 1 3, ro (.store 1 [(.int .i64 0)] (.t 9) (.t 8))]
abbrev r14_4 : List RO := [rF 10 2 1, rL 11 10, rF 12 2 3, ro (.store 1 [(.int .i64 0)] (.t 12) (.t 11))]
abbrev r14_5 : List RO := [rF 13 3 1, rL 14 13, rF 15 3 3, ro (.store 1 [(.int .i64 0)] (.t 15) (.t 14))]
abbrev r14_6 : List RO := [rF 16 4 1, rL 17 16, rF 18 4 3, ro (.store 1 [(.int .i64 0)] (.t 18) (.t 17))]
abbrev r14_7 : List RO := [rF 19 5 1, rL 20 19, rF 21 5 3, ro (.store 1 [(.int .i64 0)] (.t 21) (.t 20))]
abbrev r14_8 : List RO := [rF 22 6 1, rL 23 22, rF 24 6 3, ro (.store 1 [(.int .i64 0)] (.t 24) (.t 23))]
abbrev r14_9 : List RO := [rF 25 7 1, rL 26 25, rF 27 7 3, ro (.store 1 [(.int .i64 0)] (.t 27) (.t 26))]
abbrev r14_10 : List RO := [rF 28 8 1, rL 29 28, rF 30 8 3, ro (.store 1 [(.int .i64 0)] (.t 30) (.t 29))]
abbrev r14_11 : List RO := [rF 31 9 1, rL 32 31, rF 33 9 3, ro (.store 1 [(.bool false)] (.t 33) (.t 32))]
abbrev r14_12 : List RO := [rF 34 10 1, rL 35 34, ro (.callv 36 (.c (.one (.fn k_laws_toRangeS []))) [(.t 35)]), rF 37 10 3, ro (.store 1 [(.sl 2 [])] (.t 37) (.t 36))]
abbrev r14_13 : List RO := [rF 38 11 1, rL 39 38, ro (.callv 40 (.c (.one (.fn k_laws_toWriteS []))) [(.t 39)]), rF 41 11 3, ro (.store 1 [(.sl 2 [])] (.t 41) (.t 40))]
abbrev r14_14 : List RO := [rF 42 12 1, rL 43 42, ro (.callv 44 (.c (.one (.fn k_laws_toCellS []))) [(.t 43)]), rF 45 12 3, ro (.store 1 [(.sl 2 [])] (.t 45) (.t 44))]
abbrev r14_15 : List RO := [rF 46 13 1, rL 47 46, ro (.callv 48 (.c (.one (.fn k_laws_toShareS []))) [(.t 47)]), rF 49 13 3, ro (.store 1 [(.sl 4 [])] (.t 49) (.t 48))]
abbrev r14_16 : List RO := [ro (.load 50 (some 14) (.t 3)), ro (.store 14 [(.int .i64 0), (.int .i64 0), (.int .i64 0), (.int .i64 0), (.int .i64 0), (.int .i64 0), (.int .i64 0), (.int .i64 0), (.int .i64 0), (.bool false), (.sl 2 []), (.sl 2 []), (.sl 2 []), (.sl 4 [])] (.t 2) (.t 50))]
def i_laws_toLetter : IC := (.seq (.reg r14_0) (.seq (.reg r14_1) (.seq (.reg r14_2) (.seq (.reg r14_3) (.seq (.reg r14_4) (.seq (.reg r14_5) (.seq (.reg r14_6) (.seq (.reg r14_7) (.seq (.reg r14_8) (.seq (.reg r14_9) (.seq (.reg r14_10) (.seq (.reg r14_11) (.seq (.reg r14_12) (.seq (.reg r14_13) (.seq (.reg r14_14) (.seq (.reg r14_15) (.seq (.reg r14_16) .ret)))))))))))))))))
theorem i_laws_toLetter_ok : (Try.f14.body.bind fun c => toIC Try.prog 51 c []) = some (i_laws_toLetter, []) := by kernel_rfl
theorem i_laws_toLetter_fn {ds rs : List D} (hle : ds.length ≤ 51) (h : AW Try.prog 51 i_laws_toLetter (Ends [.cell 2 (some 14)] rs) (init ds)) : Fn Try.prog k_laws_toLetter (lent ds) true rs :=
  Fn.intro' (by kernel_rfl) Try.func14 (by kernel_rfl) i_laws_toLetter_ok (by kernel_rfl) hle h.h
abbrev r59_0 : List RO := [ro (.mov 6 (cB false))]
abbrev r59_1 : List RO := [rM 7 0, rM 8 1, ro (.bin 9 .geq (.t 7) (.t 8)), rM 10 9, rT 10 (.mov 11 (.t 0)), rT 10 (.mov 12 (.t 2)), rT 10 (.bin 13 .leq (.t 11) (.t 12)), ro (.pick 14 (.t 10) (.t 13) (cB false)), rM 6 14]
def i_spec_l1In : IC := (.seq (.reg r59_0) (.seq (.reg r59_1) .ret))
theorem i_spec_l1In_ok : (Try.f59.body.bind fun c => toIC Try.prog 15 c []) = some (i_spec_l1In, []) := by kernel_rfl
theorem i_spec_l1In_fn {ds rs : List D} (hle : ds.length ≤ 15) (h : AW Try.prog 15 i_spec_l1In (Ends [.tmp 6] rs) (init ds)) : Fn Try.prog k_spec_l1In (lent ds) true rs :=
  Fn.intro' (by kernel_rfl) Try.func59 (by kernel_rfl) i_spec_l1In_ok (by kernel_rfl) hle h.h
abbrev r29_0 : List RO := [ro (.mov 2 (.c (.one (.d (.str ByteArray.empty)))))]
abbrev r29_1 : List RO := [rM 3 0, ro (.callv 4 (.c (.one (.fn k_spec_l1In []))) [(.t 3), (c6 1), (c6 17)]), ro (.inv 5 (.t 4))]
abbrev r29_2 : List RO := [ro (.mov 2 (.c (.one (.d (.str ByteArray.empty)))))]
abbrev r29_3 : List RO := [ro (.bslice 6 1 [(.d (.str ByteArray.empty)), (.d (.str ByteArray.empty)), (.d (.str ByteArray.empty)), (.d (.str ByteArray.empty)), (.d (.str ByteArray.empty)), (.d (.str ByteArray.empty)), (.d (.str ByteArray.empty)), (.d (.str ByteArray.empty)), (.d (.str ByteArray.empty)), (.d (.str ByteArray.empty)), (.d (.str ByteArray.empty)), (.d (.str ByteArray.empty)), (.d (.str ByteArray.empty)), (.d (.str ByteArray.empty)), (.d (.str ByteArray.empty)), (.d (.str ByteArray.empty)), (.d (.str ByteArray.empty)), (.d (.str ByteArray.empty))] [(0, 1, (.c (.one (.d (.str ByteArray.empty))))), (1, 1, (.c (.one (.d (.str ⟨#[99, 113]⟩))))), (2, 1, (.c (.one (.d (.str ⟨#[99, 113, 116]⟩))))), (3, 1, (.c (.one (.d (.str ⟨#[103, 99, 113, 116, 114]⟩))))), (4, 1, (.c (.one (.d (.str ⟨#[103, 99, 113, 116, 114, 107, 67]⟩))))), (5, 1, (.c (.one (.d (.str ⟨#[99, 116, 83]⟩))))), (6, 1, (.c (.one (.d (.str ⟨#[99, 116]⟩))))), (7, 1, (.c (.one (.d (.str ⟨#[99, 116, 121]⟩))))), (8, 1, (.c (.one (.d (.str ⟨#[103, 116, 82, 87]⟩))))), (9, 1, (.c (.one (.d (.str ⟨#[103, 116, 121]⟩))))), (10, 1, (.c (.one (.d (.str ⟨#[103, 116, 121]⟩))))), (11, 1, (.c (.one (.d (.str ⟨#[103, 110, 114]⟩))))), (12, 1, (.c (.one (.d (.str ⟨#[110, 67]⟩))))), (13, 1, (.c (.one (.d (.str ⟨#[103, 110, 114, 67]⟩))))), (14, 1, (.c (.one (.d (.str ⟨#[110, 121]⟩))))), (15, 1, (.c (.one (.d (.str ⟨#[103, 110, 114]⟩))))), (16, 1, (.c (.one (.d (.str ⟨#[103, 110, 114]⟩))))), (17, 1, (.c (.one (.d (.str ⟨#[110]⟩)))))]), rM 7 0, ro (.iaddr 8 1 (.t 6) (.t 7)), rL 9 8, rM 2 9]
def i_spec_l16Has : IC := (.seq (.reg r29_0) (.seq (.seq (.reg r29_1) (.cond (.t 5) (.seq (.reg r29_2) .ret) .skip)) (.seq (.reg r29_3) .ret)))
theorem i_spec_l16Has_ok : (Try.f29.body.bind fun c => toIC Try.prog 10 c []) = some (i_spec_l16Has, []) := by kernel_rfl
theorem i_spec_l16Has_fn {ds rs : List D} (hle : ds.length ≤ 10) (h : AW Try.prog 10 i_spec_l16Has (Ends [.tmp 2] rs) (init ds)) : Fn Try.prog k_spec_l16Has (lent ds) true rs :=
  Fn.intro' (by kernel_rfl) Try.func29 (by kernel_rfl) i_spec_l16Has_ok (by kernel_rfl) hle h.h
abbrev r31_0 : List RO := [ro (.mov 4 (cB false))]
abbrev r31_1 : List RO := [ro (.mov 5 (c6 0))]
abbrev r31_2 : List RO := [rM 6 5, rM 7 0, ro (.len 8 true (.t 7)), ro (.bin 9 .lss (.t 6) (.t 8))]
abbrev r31_3 : List RO := [rM 12 0, rM 13 5, ro (.sidx 14 (.t 12) (.t 13)), rM 15 1, ro (.bin 16 .eql (.t 14) (.t 15))]
abbrev r31_4 : List RO := [ro (.mov 4 (cB true))]
abbrev r31_5 : List RO := [rM 10 5, ro (.bin 11 .add (.t 10) (c6 1)), rM 5 11]
abbrev r31_6 : List RO := [ro (.mov 4 (cB false))]
def i_spec_l4In : IC := (.seq (.reg r31_0) (.seq (.seq (.reg r31_1) (.block 0 (.loop (.seq (.seq (.reg r31_2) (.cond (.t 9) .skip (.exit 0))) (.seq (.block 1 (.seq (.reg r31_3) (.cond (.t 16) (.seq (.reg r31_4) .ret) .skip))) (.reg r31_5)))))) (.seq (.reg r31_6) .ret)))
theorem i_spec_l4In_ok : (Try.f31.body.bind fun c => toIC Try.prog 17 c []) = some (i_spec_l4In, []) := by kernel_rfl
theorem i_spec_l4In_fn {ds rs : List D} (hle : ds.length ≤ 17) (h : AW Try.prog 17 i_spec_l4In (Ends [.tmp 4] rs) (init ds)) : Fn Try.prog k_spec_l4In (lent ds) true rs :=
  Fn.intro' (by kernel_rfl) Try.func31 (by kernel_rfl) i_spec_l4In_ok (by kernel_rfl) hle h.h
abbrev r30_0 : List RO := [ro (.mov 8 (cB false))]
abbrev r30_1 : List RO := [rM 9 0, rM 10 9, rT 10 (.mov 11 (.t 1)), rT 10 (.mov 12 (.t 2)), rT 10 (.mov 13 (.t 3)), rT 10 (.callv 14 (.c (.one (.fn k_spec_l1In []))) [(.t 11), (.t 12), (.t 13)]), ro (.pick 15 (.t 10) (.t 14) (cB false)), rM 16 15, rN 16 (.mov 17 (.t 0)), rN 16 (.inv 18 (.t 17)), rN 16 (.mov 19 (.t 18)), rT 19 (.mov 20 (.t 1)), rT 19 (.bin 21 .eql (.t 20) (c6 0)), rN 16 (.pick 22 (.t 19) (.t 21) (cB false)), ro (.pick 23 (.t 16) (cB true) (.t 22)), rM 8 23]
def i_spec_l4Num : IC := (.seq (.reg r30_0) (.seq (.reg r30_1) .ret))
theorem i_spec_l4Num_ok : (Try.f30.body.bind fun c => toIC Try.prog 24 c []) = some (i_spec_l4Num, []) := by kernel_rfl
theorem i_spec_l4Num_fn {ds rs : List D} (hle : ds.length ≤ 24) (h : AW Try.prog 24 i_spec_l4Num (Ends [.tmp 8] rs) (init ds)) : Fn Try.prog k_spec_l4Num (lent ds) true rs :=
  Fn.intro' (by kernel_rfl) Try.func30 (by kernel_rfl) i_spec_l4Num_ok (by kernel_rfl) hle h.h
abbrev r35_0 : List RO := [ro (.box 1 (.t 0)), ro (.mov 2 (cB false))]
abbrev r35_1 : List RO := [rF 3 0 1, rL 4 3, ro (.bin 5 .geq (.t 4) (c6 0)), rM 6 5, rT 6 (.faddr 7 0 (.t 1)), rT 6 (.load 8 none (.t 7)), rT 6 (.faddr 9 1 (.t 1)), rT 6 (.load 10 none (.t 9)), rT 6 (.bin 11 .lss (.t 8) (.t 10)), ro (.pick 12 (.t 6) (.t 11) (cB false)), rM 13 12, rT 13 (.faddr 14 1 (.t 1)), rT 13 (.load 15 none (.t 14)), rT 13 (.bin 16 .leq (.t 15) (c6 1000)), ro (.pick 17 (.t 13) (.t 16) (cB false)), rM 2 17]
def i_spec_RangeOk : IC := (.seq (.reg r35_0) (.seq (.reg r35_1) .ret))
theorem i_spec_RangeOk_ok : (Try.f35.body.bind fun c => toIC Try.prog 18 c []) = some (i_spec_RangeOk, []) := by kernel_rfl
theorem i_spec_RangeOk_fn {ds rs : List D} (hle : ds.length ≤ 18) (h : AW Try.prog 18 i_spec_RangeOk (Ends [.tmp 2] rs) (init ds)) : Fn Try.prog k_spec_RangeOk (lent ds) true rs :=
  Fn.intro' (by kernel_rfl) Try.func35 (by kernel_rfl) i_spec_RangeOk_ok (by kernel_rfl) hle h.h
abbrev r32_0 : List RO := [ro (.mov 4 (cB false))]
abbrev r32_1 : List RO := [rM 5 0, rM 6 1, ro (.build 7 [(dI 0), (dI 0)] [(0, 1, (.t 5)), (1, 1, (.t 6))]), ro (.callv 8 (.c (.one (.fn k_spec_RangeOk []))) [(.t 7)]), rM 4 8]
def i_spec_l16RangeOk : IC := (.seq (.reg r32_0) (.seq (.reg r32_1) .ret))
theorem i_spec_l16RangeOk_ok : (Try.f32.body.bind fun c => toIC Try.prog 9 c []) = some (i_spec_l16RangeOk, []) := by kernel_rfl
theorem i_spec_l16RangeOk_fn {ds rs : List D} (hle : ds.length ≤ 9) (h : AW Try.prog 9 i_spec_l16RangeOk (Ends [.tmp 4] rs) (init ds)) : Fn Try.prog k_spec_l16RangeOk (lent ds) true rs :=
  Fn.intro' (by kernel_rfl) Try.func32 (by kernel_rfl) i_spec_l16RangeOk_ok (by kernel_rfl) hle h.h
abbrev r51_0 : List RO := [ro (.mov 2 (cB false))]
abbrev r51_1 : List RO := [rM 3 0, ro (.callv 4 (.c (.one (.fn k_spec_l1In []))) [(.t 3), (c6 0), (c6 999)]), rM 2 4]
def i_spec_l10Key : IC := (.seq (.reg r51_0) (.seq (.reg r51_1) .ret))
theorem i_spec_l10Key_ok : (Try.f51.body.bind fun c => toIC Try.prog 5 c []) = some (i_spec_l10Key, []) := by kernel_rfl
theorem i_spec_l10Key_fn {ds rs : List D} (hle : ds.length ≤ 5) (h : AW Try.prog 5 i_spec_l10Key (Ends [.tmp 2] rs) (init ds)) : Fn Try.prog k_spec_l10Key (lent ds) true rs :=
  Fn.intro' (by kernel_rfl) Try.func51 (by kernel_rfl) i_spec_l10Key_ok (by kernel_rfl) hle h.h
abbrev r33_0 : List RO := [ro (.mov 2 (cB false))]
abbrev r33_1 : List RO := [rM 4 0, ro (.len 5 false (.t 4)), ro (.bin 6 .gtr (.t 5) (c6 60))]
abbrev r33_2 : List RO := [ro (.mov 2 (cB false))]
abbrev r33_3 : List RO := [ro (.mov 3 (c6 0))]
abbrev r33_4 : List RO := [rM 7 3, rM 8 0, ro (.len 9 false (.t 8)), ro (.bin 10 .lss (.t 7) (.t 9))]
abbrev r33_5 : List RO := [rM 13 0, rM 14 3, ⟨⟨none, .iaddr 15 2 (.t 13) (.t 14)⟩, 3, []⟩, ⟨⟨none, .faddr 16 0 (.t 15)⟩, 7, []⟩, ⟨⟨none, .load 17 none (.t 16)⟩, 15, []⟩, ⟨⟨none, .callv 18 (.c (.one (.fn k_spec_l10Key []))) [(.t 17)]⟩, 31, []⟩, ⟨⟨none, .inv 19 (.t 18)⟩, 63, []⟩, ⟨⟨none, .mov 20 (.t 19)⟩, 127, []⟩, ⟨⟨some (20, false), .mov 21 (.t 0)⟩, 255, []⟩, ⟨⟨some (20, false), .mov 22 (.t 3)⟩, 255, []⟩, ⟨⟨some (20, false), .iaddr 23 2 (.t 21) (.t 22)⟩, 1023, []⟩, ⟨⟨some (20, false), .faddr 24 1 (.t 23)⟩, 2047, []⟩, ⟨⟨some (20, false), .load 25 none (.t 24)⟩, 4095, []⟩, ⟨⟨some (20, false), .callv 26 (.c (.one (.fn k_spec_l1In []))) [(.t 25), (c6 (-1)), (c6 1000000000)]⟩, 8191, []⟩, ⟨⟨some (20, false), .inv 27 (.t 26)⟩, 16383, []⟩, ⟨⟨none, .pick 28 (.t 20) (cB true) (.t 27)⟩, 32767, []⟩, ⟨⟨none, .mov 29 (.t 28)⟩, 65535, []⟩, ⟨⟨some (29, false), .mov 30 (.t 3)⟩, 131071, []⟩, ⟨⟨some (29, false), .bin 31 .gtr (.t 30) (c6 0)⟩, 262143, []⟩, ⟨⟨some (29, false), .mov 32 (.t 31)⟩, 524287, []⟩, ⟨⟨some (32, true), .mov 33 (.t 0)⟩, 1048575, []⟩, ⟨⟨some (32, true), .mov 34 (.t 3)⟩, 1048575, []⟩, ⟨⟨some (32, true), .bin 35 .sub (.t 34) (c6 1)⟩, 3145727, []⟩, ⟨⟨some (32, true), .iaddr 36 2 (.t 33) (.t 35)⟩, 8388607, []⟩, ⟨⟨some (32, true), .faddr 37 0 (.t 36)⟩, 16777215, []⟩, ⟨⟨some (32, true), .load 38 none (.t 37)⟩, 33554431, []⟩, ⟨⟨some (32, true), .mov 39 (.t 0)⟩, 1048575, []⟩, ⟨⟨some (32, true), .mov 40 (.t 3)⟩, 1048575, []⟩, ⟨⟨some (32, true), .iaddr 41 2 (.t 39) (.t 40)⟩, 202375167, []⟩, ⟨⟨some (32, true), .faddr 42 0 (.t 41)⟩, 470810623, []⟩, ⟨⟨some (32, true), .load 43 none (.t 42)⟩, 1007681535, []⟩, ⟨⟨some (32, true), .bin 44 .geq (.t 38) (.t 43)⟩, 2147483647, []⟩, ⟨⟨some (29, false), .pick 45 (.t 32) (.t 44) (cB false)⟩, 4294967295, []⟩, ⟨⟨none, .pick 46 (.t 29) (cB true) (.t 45)⟩, 8589934591, []⟩]
abbrev r33_6 : List RO := [ro (.mov 2 (cB false))]
abbrev r33_7 : List RO := [rM 11 3, ro (.bin 12 .add (.t 11) (c6 1)), rM 3 12]
abbrev r33_8 : List RO := [ro (.mov 2 (cB true))]
def i_spec_WritesOk : IC := (.seq (.reg r33_0) (.seq (.seq (.reg r33_1) (.cond (.t 6) (.seq (.reg r33_2) .ret) .skip)) (.seq (.seq (.reg r33_3) (.block 0 (.loop (.seq (.seq (.reg r33_4) (.cond (.t 10) .skip (.exit 0))) (.seq (.block 1 (.seq (.regd r33_5) (.cond (.t 46) (.seq (.reg r33_6) .ret) .skip))) (.reg r33_7)))))) (.seq (.reg r33_8) .ret))))
theorem i_spec_WritesOk_ok : (Try.f33.body.bind fun c => toIC Try.prog 47 c [[(0, []), (0, []), (3, []), (7, []), (15, []), (31, []), (63, []), (127, []), (255, []), (255, []), (1023, []), (2047, []), (4095, []), (8191, []), (16383, []), (32767, []), (65535, []), (131071, []), (262143, []), (524287, []), (1048575, []), (1048575, []), (3145727, []), (8388607, []), (16777215, []), (33554431, []), (1048575, []), (1048575, []), (202375167, []), (470810623, []), (1007681535, []), (2147483647, []), (4294967295, []), (8589934591, [])]]) = some (i_spec_WritesOk, []) := by kernel_rfl
theorem i_spec_WritesOk_fn {ds rs : List D} (hle : ds.length ≤ 47) (h : AW Try.prog 47 i_spec_WritesOk (Ends [.tmp 2] rs) (init ds)) : Fn Try.prog k_spec_WritesOk (lent ds) true rs :=
  Fn.intro' (by kernel_rfl) Try.func33 (by kernel_rfl) i_spec_WritesOk_ok (by kernel_rfl) hle h.h
abbrev r52_0 : List RO := [ro (.mov 2 (cB false))]
abbrev r52_1 : List RO := [rM 3 0, ro (.callv 4 (.c (.one (.fn k_spec_l1In []))) [(.t 3), (c6 0), (c6 1000000000)]), rM 2 4]
def i_spec_l1Whole : IC := (.seq (.reg r52_0) (.seq (.reg r52_1) .ret))
theorem i_spec_l1Whole_ok : (Try.f52.body.bind fun c => toIC Try.prog 5 c []) = some (i_spec_l1Whole, []) := by kernel_rfl
theorem i_spec_l1Whole_fn {ds rs : List D} (hle : ds.length ≤ 5) (h : AW Try.prog 5 i_spec_l1Whole (Ends [.tmp 2] rs) (init ds)) : Fn Try.prog k_spec_l1Whole (lent ds) true rs :=
  Fn.intro' (by kernel_rfl) Try.func52 (by kernel_rfl) i_spec_l1Whole_ok (by kernel_rfl) hle h.h
abbrev r17_0 : List RO := [ro (.mov 2 (cB false))]
abbrev r17_1 : List RO := [rM 4 0, ro (.len 5 false (.t 4)), ro (.bin 6 .gtr (.t 5) (c6 60))]
abbrev r17_2 : List RO := [ro (.mov 2 (cB false))]
abbrev r17_3 : List RO := [ro (.mov 3 (c6 0))]
abbrev r17_4 : List RO := [rM 7 3, rM 8 0, ro (.len 9 false (.t 8)), ro (.bin 10 .lss (.t 7) (.t 9))]
abbrev r17_5 : List RO := [rM 13 0, rM 14 3, ⟨⟨none, .iaddr 15 2 (.t 13) (.t 14)⟩, 3, []⟩, ⟨⟨none, .faddr 16 0 (.t 15)⟩, 7, []⟩, ⟨⟨none, .load 17 none (.t 16)⟩, 15, []⟩, ⟨⟨none, .callv 18 (.c (.one (.fn k_spec_l10Key []))) [(.t 17)]⟩, 31, []⟩, ⟨⟨none, .inv 19 (.t 18)⟩, 63, []⟩, ⟨⟨none, .mov 20 (.t 19)⟩, 127, []⟩, ⟨⟨some (20, false), .mov 21 (.t 0)⟩, 255, []⟩, ⟨⟨some (20, false), .mov 22 (.t 3)⟩, 255, []⟩, ⟨⟨some (20, false), .iaddr 23 2 (.t 21) (.t 22)⟩, 1023, []⟩, ⟨⟨some (20, false), .faddr 24 1 (.t 23)⟩, 2047, []⟩, ⟨⟨some (20, false), .load 25 none (.t 24)⟩, 4095, []⟩, ⟨⟨some (20, false), .callv 26 (.c (.one (.fn k_spec_l1Whole []))) [(.t 25)]⟩, 8191, []⟩, ⟨⟨some (20, false), .inv 27 (.t 26)⟩, 16383, []⟩, ⟨⟨none, .pick 28 (.t 20) (cB true) (.t 27)⟩, 32767, []⟩, ⟨⟨none, .mov 29 (.t 28)⟩, 65535, []⟩, ⟨⟨some (29, false), .mov 30 (.t 3)⟩, 131071, []⟩, ⟨⟨some (29, false), .bin 31 .gtr (.t 30) (c6 0)⟩, 262143, []⟩, ⟨⟨some (29, false), .mov 32 (.t 31)⟩, 524287, []⟩, ⟨⟨some (32, true), .mov 33 (.t 0)⟩, 1048575, []⟩, ⟨⟨some (32, true), .mov 34 (.t 3)⟩, 1048575, []⟩, ⟨⟨some (32, true), .bin 35 .sub (.t 34) (c6 1)⟩, 3145727, []⟩, ⟨⟨some (32, true), .iaddr 36 2 (.t 33) (.t 35)⟩, 8388607, []⟩, ⟨⟨some (32, true), .faddr 37 0 (.t 36)⟩, 16777215, []⟩, ⟨⟨some (32, true), .load 38 none (.t 37)⟩, 33554431, []⟩, ⟨⟨some (32, true), .mov 39 (.t 0)⟩, 1048575, []⟩, ⟨⟨some (32, true), .mov 40 (.t 3)⟩, 1048575, []⟩, ⟨⟨some (32, true), .iaddr 41 2 (.t 39) (.t 40)⟩, 202375167, []⟩, ⟨⟨some (32, true), .faddr 42 0 (.t 41)⟩, 470810623, []⟩, ⟨⟨some (32, true), .load 43 none (.t 42)⟩, 1007681535, []⟩, ⟨⟨some (32, true), .bin 44 .geq (.t 38) (.t 43)⟩, 2147483647, []⟩, ⟨⟨some (29, false), .pick 45 (.t 32) (.t 44) (cB false)⟩, 4294967295, []⟩, ⟨⟨none, .pick 46 (.t 29) (cB true) (.t 45)⟩, 8589934591, []⟩]
abbrev r17_6 : List RO := [ro (.mov 2 (cB false))]
abbrev r17_7 : List RO := [rM 11 3, ro (.bin 12 .add (.t 11) (c6 1)), rM 3 12]
abbrev r17_8 : List RO := [ro (.mov 2 (cB true))]
def i_spec_StoreOk : IC := (.seq (.reg r17_0) (.seq (.seq (.reg r17_1) (.cond (.t 6) (.seq (.reg r17_2) .ret) .skip)) (.seq (.seq (.reg r17_3) (.block 0 (.loop (.seq (.seq (.reg r17_4) (.cond (.t 10) .skip (.exit 0))) (.seq (.block 1 (.seq (.regd r17_5) (.cond (.t 46) (.seq (.reg r17_6) .ret) .skip))) (.reg r17_7)))))) (.seq (.reg r17_8) .ret))))
theorem i_spec_StoreOk_ok : (Try.f17.body.bind fun c => toIC Try.prog 47 c [[(0, []), (0, []), (3, []), (7, []), (15, []), (31, []), (63, []), (127, []), (255, []), (255, []), (1023, []), (2047, []), (4095, []), (8191, []), (16383, []), (32767, []), (65535, []), (131071, []), (262143, []), (524287, []), (1048575, []), (1048575, []), (3145727, []), (8388607, []), (16777215, []), (33554431, []), (1048575, []), (1048575, []), (202375167, []), (470810623, []), (1007681535, []), (2147483647, []), (4294967295, []), (8589934591, [])]]) = some (i_spec_StoreOk, []) := by kernel_rfl
theorem i_spec_StoreOk_fn {ds rs : List D} (hle : ds.length ≤ 47) (h : AW Try.prog 47 i_spec_StoreOk (Ends [.tmp 2] rs) (init ds)) : Fn Try.prog k_spec_StoreOk (lent ds) true rs :=
  Fn.intro' (by kernel_rfl) Try.func17 (by kernel_rfl) i_spec_StoreOk_ok (by kernel_rfl) hle h.h
abbrev r34_0 : List RO := [ro (.mov 2 (cB false))]
abbrev r34_1 : List RO := [rM 6 0, ro (.len 7 false (.t 6)), ro (.bin 8 .gtr (.t 7) (c6 4))]
abbrev r34_2 : List RO := [ro (.mov 2 (cB false))]
abbrev r34_3 : List RO := [ro (.mov 3 (c6 0))]
abbrev r34_4 : List RO := [rM 9 3, rM 10 0, ro (.len 11 false (.t 10)), ro (.bin 12 .lss (.t 9) (.t 11))]
abbrev r34_5 : List RO := [rM 15 0, rM 16 3, ro (.iaddr 17 4 (.t 15) (.t 16)), ro (.load 18 (some 4) (.t 17)), ro (.var 4 [(dI 0), .zs, .zs, (dI 0)]), ro (.store 4 [(.int .i64 0), (.sl 2 []), (.sl 2 []), (.int .i64 0)] (.t 4) (.t 18))]
abbrev r34_6 : List RO := [rF 19 0 4, ⟨⟨none, .load 20 none (.t 19)⟩, 1, []⟩, ⟨⟨none, .callv 21 (.c (.one (.fn k_spec_l1In []))) [(.t 20), (c6 0), (c6 3)]⟩, 3, []⟩, ⟨⟨none, .inv 22 (.t 21)⟩, 7, []⟩, ⟨⟨none, .mov 23 (.t 22)⟩, 15, []⟩, ⟨⟨some (23, false), .mov 24 (.t 3)⟩, 31, []⟩, ⟨⟨some (23, false), .bin 25 .gtr (.t 24) (c6 0)⟩, 63, []⟩, ⟨⟨some (23, false), .mov 26 (.t 25)⟩, 127, []⟩, ⟨⟨some (26, true), .mov 27 (.t 0)⟩, 255, []⟩, ⟨⟨some (26, true), .mov 28 (.t 3)⟩, 255, []⟩, ⟨⟨some (26, true), .bin 29 .sub (.t 28) (c6 1)⟩, 767, []⟩, ⟨⟨some (26, true), .iaddr 30 4 (.t 27) (.t 29)⟩, 2047, []⟩, ⟨⟨some (26, true), .faddr 31 0 (.t 30)⟩, 4095, []⟩, ⟨⟨some (26, true), .load 32 none (.t 31)⟩, 8191, []⟩, ⟨⟨some (26, true), .faddr 33 0 (.t 4)⟩, 255, []⟩, ⟨⟨some (26, true), .load 34 none (.t 33)⟩, 16639, []⟩, ⟨⟨some (26, true), .bin 35 .geq (.t 32) (.t 34)⟩, 65535, []⟩, ⟨⟨some (23, false), .pick 36 (.t 26) (.t 35) (cB false)⟩, 131071, []⟩, ⟨⟨none, .pick 37 (.t 23) (cB true) (.t 36)⟩, 262143, []⟩, ⟨⟨none, .mov 38 (.t 37)⟩, 524287, []⟩, ⟨⟨some (38, false), .faddr 39 1 (.t 4)⟩, 1048575, []⟩, ⟨⟨some (38, false), .load 40 none (.t 39)⟩, 2097151, []⟩, ⟨⟨some (38, false), .len 41 false (.t 40)⟩, 4194303, []⟩, ⟨⟨some (38, false), .bin 42 .gtr (.t 41) (c6 16)⟩, 8388607, []⟩, ⟨⟨none, .pick 43 (.t 38) (cB true) (.t 42)⟩, 16777215, []⟩, ⟨⟨none, .mov 44 (.t 43)⟩, 33554431, []⟩, ⟨⟨some (44, false), .faddr 45 2 (.t 4)⟩, 67108863, []⟩, ⟨⟨some (44, false), .load 46 none (.t 45)⟩, 134217727, []⟩, ⟨⟨some (44, false), .callv 47 (.c (.one (.fn k_spec_WritesOk []))) [(.t 46)]⟩, 268435455, []⟩, ⟨⟨some (44, false), .inv 48 (.t 47)⟩, 536870911, []⟩, ⟨⟨none, .pick 49 (.t 44) (cB true) (.t 48)⟩, 1073741823, []⟩, ⟨⟨none, .mov 50 (.t 49)⟩, 2147483647, []⟩, ⟨⟨some (50, false), .faddr 51 3 (.t 4)⟩, 4294967295, []⟩, ⟨⟨some (50, false), .load 52 none (.t 51)⟩, 8589934591, []⟩, ⟨⟨some (50, false), .callv 53 (.c (.one (.fn k_spec_l1In []))) [(.t 52), (c6 0), (c6 2)]⟩, 17179869183, []⟩, ⟨⟨some (50, false), .inv 54 (.t 53)⟩, 34359738367, []⟩, ⟨⟨none, .pick 55 (.t 50) (cB true) (.t 54)⟩, 68719476735, []⟩]
abbrev r34_7 : List RO := [ro (.mov 2 (cB false))]
abbrev r34_8 : List RO := [ro (.mov 5 (c6 0))]
abbrev r34_9 : List RO := [rM 56 5, rF 57 1 4, rL 58 57, ro (.len 59 false (.t 58)), ro (.bin 60 .lss (.t 56) (.t 59))]
abbrev r34_10 : List RO := [rF 63 1 4, rL 64 63, rM 65 5, ro (.iaddr 66 2 (.t 64) (.t 65)), ro (.load 67 (some 2) (.t 66)), ro (.callv 68 (.c (.one (.fn k_spec_RangeOk []))) [(.t 67)]), ro (.inv 69 (.t 68))]
abbrev r34_11 : List RO := [ro (.mov 2 (cB false))]
abbrev r34_12 : List RO := [rM 61 5, ro (.bin 62 .add (.t 61) (c6 1)), rM 5 62]
abbrev r34_13 : List RO := [rM 13 3, ro (.bin 14 .add (.t 13) (c6 1)), rM 3 14]
abbrev r34_14 : List RO := [ro (.mov 2 (cB true))]
def i_spec_SharesOk : IC := (.seq (.reg r34_0) (.seq (.seq (.reg r34_1) (.cond (.t 8) (.seq (.reg r34_2) .ret) .skip)) (.seq (.seq (.reg r34_3) (.block 0 (.loop (.seq (.seq (.reg r34_4) (.cond (.t 12) .skip (.exit 0))) (.seq (.block 1 (.seq (.reg r34_5) (.seq (.seq (.regd r34_6) (.cond (.t 55) (.seq (.reg r34_7) .ret) .skip)) (.seq (.reg r34_8) (.block 2 (.loop (.seq (.seq (.reg r34_9) (.cond (.t 60) .skip (.exit 2))) (.seq (.block 3 (.seq (.reg r34_10) (.cond (.t 69) (.seq (.reg r34_11) .ret) .skip))) (.reg r34_12))))))))) (.reg r34_13)))))) (.seq (.reg r34_14) .ret))))
theorem i_spec_SharesOk_ok : (Try.f34.body.bind fun c => toIC Try.prog 70 c [[(0, []), (1, []), (3, []), (7, []), (15, []), (31, []), (63, []), (127, []), (255, []), (255, []), (767, []), (2047, []), (4095, []), (8191, []), (255, []), (16639, []), (65535, []), (131071, []), (262143, []), (524287, []), (1048575, []), (2097151, []), (4194303, []), (8388607, []), (16777215, []), (33554431, []), (67108863, []), (134217727, []), (268435455, []), (536870911, []), (1073741823, []), (2147483647, []), (4294967295, []), (8589934591, []), (17179869183, []), (34359738367, []), (68719476735, [])]]) = some (i_spec_SharesOk, []) := by kernel_rfl
theorem i_spec_SharesOk_fn {ds rs : List D} (hle : ds.length ≤ 70) (h : AW Try.prog 70 i_spec_SharesOk (Ends [.tmp 2] rs) (init ds)) : Fn Try.prog k_spec_SharesOk (lent ds) true rs :=
  Fn.intro' (by kernel_rfl) Try.func34 (by kernel_rfl) i_spec_SharesOk_ok (by kernel_rfl) hle h.h
abbrev r36_0 : List RO := [ro (.mov 4 (c6 0))]
abbrev r36_1 : List RO := [ro (.mov 5 (c6 0))]
abbrev r36_2 : List RO := [ro (.mov 6 (c6 0))]
abbrev r36_3 : List RO := [rM 7 6, rM 8 0, ro (.len 9 false (.t 8)), ro (.bin 10 .lss (.t 7) (.t 9))]
abbrev r36_4 : List RO := [rM 13 0, rM 14 6, ro (.iaddr 15 4 (.t 13) (.t 14)), rF 16 3 15, rL 17 16, rM 18 1, ro (.bin 19 .eql (.t 17) (.t 18))]
abbrev r36_5 : List RO := [rM 20 5, ro (.bin 21 .add (.t 20) (c6 1)), rM 5 21]
abbrev r36_6 : List RO := [rM 11 6, ro (.bin 12 .add (.t 11) (c6 1)), rM 6 12]
abbrev r36_7 : List RO := [rM 22 5, rM 4 22]
def i_spec_l14Votes : IC := (.seq (.reg r36_0) (.seq (.reg r36_1) (.seq (.seq (.reg r36_2) (.block 0 (.loop (.seq (.seq (.reg r36_3) (.cond (.t 10) .skip (.exit 0))) (.seq (.block 1 (.seq (.reg r36_4) (.cond (.t 19) (.reg r36_5) .skip))) (.reg r36_6)))))) (.seq (.reg r36_7) .ret))))
theorem i_spec_l14Votes_ok : (Try.f36.body.bind fun c => toIC Try.prog 23 c []) = some (i_spec_l14Votes, []) := by kernel_rfl
theorem i_spec_l14Votes_fn {ds rs : List D} (hle : ds.length ≤ 23) (h : AW Try.prog 23 i_spec_l14Votes (Ends [.tmp 4] rs) (init ds)) : Fn Try.prog k_spec_l14Votes (lent ds) true rs :=
  Fn.intro' (by kernel_rfl) Try.func36 (by kernel_rfl) i_spec_l14Votes_ok (by kernel_rfl) hle h.h
abbrev r13_0 : List RO := [ro (.box 1 (.t 0)), ro (.mov 2 (cB false))]
abbrev r13_1 : List RO := [rF 5 0 1, rL 6 5, ro (.callv 7 (.c (.one (.fn k_spec_l16Has []))) [(.t 6)]), rM 3 7]
abbrev r13_2 : List RO := [rM 8 3, ⟨⟨none, .bin 9 .eql (.t 8) (.c (.one (.d (.str ByteArray.empty))))⟩, 1, []⟩, ⟨⟨none, .mov 10 (.t 9)⟩, 3, []⟩, ⟨⟨some (10, false), .mov 11 (.t 3)⟩, 7, []⟩, ⟨⟨some (10, false), .callv 12 (.c (.one (.fn k_spec_l4In []))) [(.t 11), (.c (.one (.d (.int .u8 103))))]⟩, 15, []⟩, ⟨⟨some (10, false), .faddr 13 1 (.t 1)⟩, 7, []⟩, ⟨⟨some (10, false), .load 14 none (.t 13)⟩, 39, [12]⟩, ⟨⟨some (10, false), .callv 15 (.c (.one (.fn k_spec_l4Num []))) [(.t 12), (.t 14), (c6 0), (c6 3)]⟩, 127, []⟩, ⟨⟨some (10, false), .inv 16 (.t 15)⟩, 255, []⟩, ⟨⟨none, .pick 17 (.t 10) (cB true) (.t 16)⟩, 511, []⟩, ⟨⟨none, .mov 18 (.t 17)⟩, 1023, []⟩, ⟨⟨some (18, false), .mov 19 (.t 3)⟩, 2047, []⟩, ⟨⟨some (18, false), .callv 20 (.c (.one (.fn k_spec_l4In []))) [(.t 19), (.c (.one (.d (.int .u8 99))))]⟩, 4095, []⟩, ⟨⟨some (18, false), .faddr 21 2 (.t 1)⟩, 2047, []⟩, ⟨⟨some (18, false), .load 22 none (.t 21)⟩, 10239, [20]⟩, ⟨⟨some (18, false), .callv 23 (.c (.one (.fn k_spec_l4Num []))) [(.t 20), (.t 22), (c6 0), (c6 5)]⟩, 32767, []⟩, ⟨⟨some (18, false), .inv 24 (.t 23)⟩, 65535, []⟩, ⟨⟨none, .pick 25 (.t 18) (cB true) (.t 24)⟩, 131071, []⟩, ⟨⟨none, .mov 26 (.t 25)⟩, 262143, []⟩, ⟨⟨some (26, false), .mov 27 (.t 3)⟩, 524287, []⟩, ⟨⟨some (26, false), .callv 28 (.c (.one (.fn k_spec_l4In []))) [(.t 27), (.c (.one (.d (.int .u8 113))))]⟩, 1048575, []⟩, ⟨⟨some (26, false), .faddr 29 3 (.t 1)⟩, 524287, []⟩, ⟨⟨some (26, false), .load 30 none (.t 29)⟩, 2621439, [28]⟩, ⟨⟨some (26, false), .callv 31 (.c (.one (.fn k_spec_l4Num []))) [(.t 28), (.t 30), (c6 1), (c6 1000000000)]⟩, 8388607, []⟩, ⟨⟨some (26, false), .inv 32 (.t 31)⟩, 16777215, []⟩, ⟨⟨none, .pick 33 (.t 26) (cB true) (.t 32)⟩, 33554431, []⟩, ⟨⟨none, .mov 34 (.t 33)⟩, 67108863, []⟩, ⟨⟨some (34, false), .mov 35 (.t 3)⟩, 134217727, []⟩, ⟨⟨some (34, false), .callv 36 (.c (.one (.fn k_spec_l4In []))) [(.t 35), (.c (.one (.d (.int .u8 116))))]⟩, 268435455, []⟩, ⟨⟨some (34, false), .faddr 37 4 (.t 1)⟩, 134217727, []⟩, ⟨⟨some (34, false), .load 38 none (.t 37)⟩, 671088639, [36]⟩, ⟨⟨some (34, false), .callv 39 (.c (.one (.fn k_spec_l4Num []))) [(.t 36), (.t 38), (c6 1), (c6 60)]⟩, 2147483647, []⟩, ⟨⟨some (34, false), .inv 40 (.t 39)⟩, 4294967295, []⟩, ⟨⟨none, .pick 41 (.t 34) (cB true) (.t 40)⟩, 8589934591, []⟩]
abbrev r13_3 : List RO := [ro (.mov 2 (cB false))]
abbrev r13_4 : List RO := [rM 42 3, ⟨⟨none, .callv 43 (.c (.one (.fn k_spec_l4In []))) [(.t 42), (.c (.one (.d (.int .u8 110))))]⟩, 1, []⟩, rF 44 7 1, ⟨⟨none, .load 45 none (.t 44)⟩, 4, [43]⟩, ⟨⟨none, .callv 46 (.c (.one (.fn k_spec_l4Num []))) [(.t 43), (.t 45), (c6 1), (c6 1000000)]⟩, 15, []⟩, ⟨⟨none, .inv 47 (.t 46)⟩, 31, []⟩, ⟨⟨none, .mov 48 (.t 47)⟩, 63, []⟩, ⟨⟨some (48, false), .mov 49 (.t 3)⟩, 127, []⟩, ⟨⟨some (48, false), .callv 50 (.c (.one (.fn k_spec_l4In []))) [(.t 49), (.c (.one (.d (.int .u8 107))))]⟩, 255, []⟩, ⟨⟨some (48, false), .faddr 51 8 (.t 1)⟩, 127, []⟩, ⟨⟨some (48, false), .load 52 none (.t 51)⟩, 639, [50]⟩, ⟨⟨some (48, false), .callv 53 (.c (.one (.fn k_spec_l4Num []))) [(.t 50), (.t 52), (c6 0), (c6 7)]⟩, 2047, []⟩, ⟨⟨some (48, false), .inv 54 (.t 53)⟩, 4095, []⟩, ⟨⟨none, .pick 55 (.t 48) (cB true) (.t 54)⟩, 8191, []⟩, ⟨⟨none, .mov 56 (.t 55)⟩, 16383, []⟩, ⟨⟨some (56, false), .faddr 57 9 (.t 1)⟩, 32767, []⟩, ⟨⟨some (56, false), .load 58 none (.t 57)⟩, 65535, []⟩, ⟨⟨some (56, false), .mov 59 (.t 58)⟩, 131071, []⟩, ⟨⟨some (59, true), .mov 60 (.t 3)⟩, 262143, []⟩, ⟨⟨some (59, true), .callv 61 (.c (.one (.fn k_spec_l4In []))) [(.t 60), (.c (.one (.d (.int .u8 121))))]⟩, 524287, []⟩, ⟨⟨some (59, true), .inv 62 (.t 61)⟩, 1048575, []⟩, ⟨⟨some (56, false), .pick 63 (.t 59) (.t 62) (cB false)⟩, 2097151, []⟩, ⟨⟨none, .pick 64 (.t 56) (cB true) (.t 63)⟩, 4194303, []⟩]
abbrev r13_5 : List RO := [ro (.mov 2 (cB false))]
abbrev r13_6 : List RO := [rM 65 3, ro (.callv 66 (.c (.one (.fn k_spec_l4In []))) [(.t 65), (.c (.one (.d (.int .u8 114))))]), rM 67 66, rT 67 (.faddr 68 5 (.t 1)), rT 67 (.load 69 none (.t 68)), rT 67 (.faddr 70 6 (.t 1)), rT 67 (.load 71 none (.t 70)), rT 67 (.callv 72 (.c (.one (.fn k_spec_l16RangeOk []))) [(.t 69), (.t 71)]), rT 67 (.inv 73 (.t 72)), ro (.pick 74 (.t 67) (.t 73) (cB false)), rM 75 74, rN 75 (.mov 76 (.t 3)), rN 75 (.callv 77 (.c (.one (.fn k_spec_l4In []))) [(.t 76), (.c (.one (.d (.int .u8 114))))]), rN 75 (.inv 78 (.t 77)), rN 75 (.mov 79 (.t 78)), rT 79 (.faddr 80 5 (.t 1)), rT 79 (.load 81 none (.t 80)), rT 79 (.bin 82 .neq (.t 81) (c6 0)), rT 79 (.mov 83 (.t 82)), rN 83 (.faddr 84 6 (.t 1)), rN 83 (.load 85 none (.t 84)), rN 83 (.bin 86 .neq (.t 85) (c6 0)), rT 79 (.pick 87 (.t 83) (cB true) (.t 86)), rN 75 (.pick 88 (.t 79) (.t 87) (cB false)), ro (.pick 89 (.t 75) (cB true) (.t 88))]
abbrev r13_7 : List RO := [ro (.mov 2 (cB false))]
abbrev r13_8 : List RO := [rF 90 10 1, rL 91 90, ro (.len 92 false (.t 91)), ro (.bin 93 .gtr (.t 92) (c6 16)), rM 94 93, rN 94 (.mov 95 (.t 3)), rN 94 (.callv 96 (.c (.one (.fn k_spec_l4In []))) [(.t 95), (.c (.one (.d (.int .u8 82))))]), rN 94 (.inv 97 (.t 96)), rN 94 (.mov 98 (.t 97)), rT 98 (.faddr 99 10 (.t 1)), rT 98 (.load 100 none (.t 99)), rT 98 (.len 101 false (.t 100)), rT 98 (.bin 102 .gtr (.t 101) (c6 0)), rN 94 (.pick 103 (.t 98) (.t 102) (cB false)), ro (.pick 104 (.t 94) (cB true) (.t 103)), rM 105 104, rN 105 (.faddr 106 11 (.t 1)), rN 105 (.load 107 none (.t 106)), rN 105 (.callv 108 (.c (.one (.fn k_spec_WritesOk []))) [(.t 107)]), rN 105 (.inv 109 (.t 108)), ro (.pick 110 (.t 105) (cB true) (.t 109)), rM 111 110, rN 111 (.mov 112 (.t 3)), rN 111 (.callv 113 (.c (.one (.fn k_spec_l4In []))) [(.t 112), (.c (.one (.d (.int .u8 87))))]), rN 111 (.inv 114 (.t 113)), rN 111 (.mov 115 (.t 114)), rT 115 (.faddr 116 11 (.t 1)), rT 115 (.load 117 none (.t 116)), rT 115 (.len 118 false (.t 117)), rT 115 (.bin 119 .gtr (.t 118) (c6 0)), rN 111 (.pick 120 (.t 115) (.t 119) (cB false)), ro (.pick 121 (.t 111) (cB true) (.t 120)), rM 122 121, rN 122 (.faddr 123 12 (.t 1)), rN 122 (.load 124 none (.t 123)), rN 122 (.callv 125 (.c (.one (.fn k_spec_StoreOk []))) [(.t 124)]), rN 122 (.inv 126 (.t 125)), ro (.pick 127 (.t 122) (cB true) (.t 126)), rM 128 127, rN 128 (.mov 129 (.t 3)), rN 128 (.callv 130 (.c (.one (.fn k_spec_l4In []))) [(.t 129), (.c (.one (.d (.int .u8 67))))]), rN 128 (.inv 131 (.t 130)), rN 128 (.mov 132 (.t 131)), rT 132 (.faddr 133 12 (.t 1)), rT 132 (.load 134 none (.t 133)), rT 132 (.len 135 false (.t 134)), rT 132 (.bin 136 .gtr (.t 135) (c6 0)), rN 128 (.pick 137 (.t 132) (.t 136) (cB false)), ro (.pick 138 (.t 128) (cB true) (.t 137)), rM 139 138, rN 139 (.faddr 140 13 (.t 1)), rN 139 (.load 141 none (.t 140)), rN 139 (.callv 142 (.c (.one (.fn k_spec_SharesOk []))) [(.t 141)]), rN 139 (.inv 143 (.t 142)), ro (.pick 144 (.t 139) (cB true) (.t 143)), rM 145 144, rN 145 (.mov 146 (.t 3)), rN 145 (.callv 147 (.c (.one (.fn k_spec_l4In []))) [(.t 146), (.c (.one (.d (.int .u8 83))))]), rN 145 (.inv 148 (.t 147)), rN 145 (.mov 149 (.t 148)), rT 149 (.faddr 150 13 (.t 1)), rT 149 (.load 151 none (.t 150)), rT 149 (.len 152 false (.t 151)), rT 149 (.bin 153 .gtr (.t 152) (c6 0)), rN 145 (.pick 154 (.t 149) (.t 153) (cB false)), ro (.pick 155 (.t 145) (cB true) (.t 154))]
abbrev r13_9 : List RO := [ro (.mov 2 (cB false))]
abbrev r13_10 : List RO := [ro (.mov 4 (c6 0))]
abbrev r13_11 : List RO := [rM 156 4, rF 157 10 1, rL 158 157, ro (.len 159 false (.t 158)), ro (.bin 160 .lss (.t 156) (.t 159))]
abbrev r13_12 : List RO := [rF 163 10 1, rL 164 163, rM 165 4, ro (.iaddr 166 2 (.t 164) (.t 165)), ro (.load 167 (some 2) (.t 166)), ro (.callv 168 (.c (.one (.fn k_spec_RangeOk []))) [(.t 167)]), ro (.inv 169 (.t 168))]
abbrev r13_13 : List RO := [ro (.mov 2 (cB false))]
abbrev r13_14 : List RO := [rM 161 4, ro (.bin 162 .add (.t 161) (c6 1)), rM 4 162]
abbrev r13_15 : List RO := [rF 170 13 1, ⟨⟨none, .load 171 none (.t 170)⟩, 1, []⟩, ⟨⟨none, .callv 172 (.c (.one (.fn k_spec_l14Votes []))) [(.t 171), (c6 0)]⟩, 3, []⟩, rF 173 13 1, ⟨⟨none, .load 174 none (.t 173)⟩, 8, [172]⟩, ⟨⟨none, .len 175 false (.t 174)⟩, 24, []⟩, ⟨⟨none, .bin 176 .eql (.t 172) (.t 175)⟩, 63, []⟩, ⟨⟨none, .mov 2 (.t 176)⟩, 127, []⟩]
def i_spec_LetterOk : IC := (.seq (.reg r13_0) (.seq (.reg r13_1) (.seq (.seq (.regd r13_2) (.cond (.t 41) (.seq (.reg r13_3) .ret) .skip)) (.seq (.seq (.regd r13_4) (.cond (.t 64) (.seq (.reg r13_5) .ret) .skip)) (.seq (.seq (.reg r13_6) (.cond (.t 89) (.seq (.reg r13_7) .ret) .skip)) (.seq (.seq (.reg r13_8) (.cond (.t 155) (.seq (.reg r13_9) .ret) .skip)) (.seq (.seq (.reg r13_10) (.block 0 (.loop (.seq (.seq (.reg r13_11) (.cond (.t 160) .skip (.exit 0))) (.seq (.block 1 (.seq (.reg r13_12) (.cond (.t 169) (.seq (.reg r13_13) .ret) .skip))) (.reg r13_14)))))) (.seq (.regd r13_15) .ret))))))))
theorem i_spec_LetterOk_ok : (Try.f13.body.bind fun c => toIC Try.prog 177 c [[(0, []), (1, []), (3, []), (7, []), (15, []), (7, []), (39, [12]), (127, []), (255, []), (511, []), (1023, []), (2047, []), (4095, []), (2047, []), (10239, [20]), (32767, []), (65535, []), (131071, []), (262143, []), (524287, []), (1048575, []), (524287, []), (2621439, [28]), (8388607, []), (16777215, []), (33554431, []), (67108863, []), (134217727, []), (268435455, []), (134217727, []), (671088639, [36]), (2147483647, []), (4294967295, []), (8589934591, [])], [(0, []), (1, []), (0, []), (4, [43]), (15, []), (31, []), (63, []), (127, []), (255, []), (127, []), (639, [50]), (2047, []), (4095, []), (8191, []), (16383, []), (32767, []), (65535, []), (131071, []), (262143, []), (524287, []), (1048575, []), (2097151, []), (4194303, [])], [(0, []), (1, []), (3, []), (0, []), (8, [172]), (24, []), (63, []), (127, [])]]) = some (i_spec_LetterOk, []) := by kernel_rfl
theorem i_spec_LetterOk_fn {ds rs : List D} (hle : ds.length ≤ 177) (h : AW Try.prog 177 i_spec_LetterOk (Ends [.tmp 2] rs) (init ds)) : Fn Try.prog k_spec_LetterOk (lent ds) true rs :=
  Fn.intro' (by kernel_rfl) Try.func13 (by kernel_rfl) i_spec_LetterOk_ok (by kernel_rfl) hle h.h
abbrev r40_0 : List RO := [ro (.mov 2 (.c (.one (.d (.str ByteArray.empty)))))]
abbrev r40_1 : List RO := [rM 3 0]
abbrev r40_2 : List RO := [ro (.bin 5 .eql (.t 3) (c6 1)), rM 4 5]
abbrev r40_3 : List RO := [ro (.mov 2 (.c (.one (.d (.str ⟨#[67, 82]⟩)))))]
abbrev r40_4 : List RO := [ro (.bin 7 .eql (.t 3) (c6 2)), rM 6 7]
abbrev r40_5 : List RO := [ro (.mov 2 (.c (.one (.d (.str ⟨#[67, 82, 84]⟩)))))]
abbrev r40_6 : List RO := [ro (.bin 9 .eql (.t 3) (c6 3)), rM 8 9]
abbrev r40_7 : List RO := [ro (.mov 2 (.c (.one (.d (.str ⟨#[71, 67, 82, 84, 107]⟩)))))]
abbrev r40_8 : List RO := [ro (.bin 11 .eql (.t 3) (c6 4)), rM 10 11]
abbrev r40_9 : List RO := [ro (.mov 2 (.c (.one (.d (.str ⟨#[71, 67, 82, 84, 107, 99, 108]⟩)))))]
abbrev r40_10 : List RO := [ro (.bin 13 .eql (.t 3) (c6 5)), rM 12 13]
abbrev r40_11 : List RO := [ro (.mov 2 (.c (.one (.d (.str ⟨#[67, 84, 83]⟩)))))]
abbrev r40_12 : List RO := [ro (.bin 15 .eql (.t 3) (c6 6)), rM 14 15]
abbrev r40_13 : List RO := [ro (.mov 2 (.c (.one (.d (.str ⟨#[67, 84]⟩)))))]
abbrev r40_14 : List RO := [ro (.bin 17 .eql (.t 3) (c6 7)), rM 16 17]
abbrev r40_15 : List RO := [ro (.mov 2 (.c (.one (.d (.str ⟨#[67, 84, 89]⟩)))))]
abbrev r40_16 : List RO := [ro (.bin 19 .eql (.t 3) (c6 8)), rM 18 19]
abbrev r40_17 : List RO := [ro (.mov 2 (.c (.one (.d (.str ⟨#[71, 84, 101, 87]⟩)))))]
abbrev r40_18 : List RO := [ro (.bin 21 .eql (.t 3) (c6 9)), rM 20 21]
abbrev r40_19 : List RO := [ro (.bin 22 .eql (.t 3) (c6 10)), rM 20 22]
abbrev r40_20 : List RO := [ro (.mov 2 (.c (.one (.d (.str ⟨#[71, 84, 89]⟩)))))]
abbrev r40_21 : List RO := [ro (.bin 24 .eql (.t 3) (c6 11)), rM 23 24]
abbrev r40_22 : List RO := [ro (.bin 25 .eql (.t 3) (c6 15)), rM 23 25]
abbrev r40_23 : List RO := [ro (.bin 26 .eql (.t 3) (c6 16)), rM 23 26]
abbrev r40_24 : List RO := [ro (.mov 2 (.c (.one (.d (.str ⟨#[71, 78, 107]⟩)))))]
abbrev r40_25 : List RO := [ro (.bin 28 .eql (.t 3) (c6 12)), rM 27 28]
abbrev r40_26 : List RO := [ro (.mov 2 (.c (.one (.d (.str ⟨#[78, 108]⟩)))))]
abbrev r40_27 : List RO := [ro (.bin 30 .eql (.t 3) (c6 13)), rM 29 30]
abbrev r40_28 : List RO := [ro (.mov 2 (.c (.one (.d (.str ⟨#[71, 78, 107, 108]⟩)))))]
abbrev r40_29 : List RO := [ro (.bin 32 .eql (.t 3) (c6 14)), rM 31 32]
abbrev r40_30 : List RO := [ro (.mov 2 (.c (.one (.d (.str ⟨#[78, 89]⟩)))))]
abbrev r40_31 : List RO := [ro (.bin 34 .eql (.t 3) (c6 17)), rM 33 34]
abbrev r40_32 : List RO := [ro (.mov 2 (.c (.one (.d (.str ⟨#[78]⟩)))))]
abbrev r40_33 : List RO := [ro (.mov 2 (.c (.one (.d (.str ByteArray.empty)))))]
def i_impl_letterHas : IC := (.seq (.reg r40_0) (.seq (.seq (.reg r40_1) (.block 0 (.seq (.reg r40_2) (.cond (.t 4) (.seq (.reg r40_3) .ret) (.seq (.reg r40_4) (.cond (.t 6) (.seq (.reg r40_5) .ret) (.seq (.reg r40_6) (.cond (.t 8) (.seq (.reg r40_7) .ret) (.seq (.reg r40_8) (.cond (.t 10) (.seq (.reg r40_9) .ret) (.seq (.reg r40_10) (.cond (.t 12) (.seq (.reg r40_11) .ret) (.seq (.reg r40_12) (.cond (.t 14) (.seq (.reg r40_13) .ret) (.seq (.reg r40_14) (.cond (.t 16) (.seq (.reg r40_15) .ret) (.seq (.reg r40_16) (.cond (.t 18) (.seq (.reg r40_17) .ret) (.seq (.seq (.reg r40_18) (.cond (.t 20) .skip (.reg r40_19))) (.cond (.t 20) (.seq (.reg r40_20) .ret) (.seq (.seq (.reg r40_21) (.cond (.t 23) .skip (.seq (.reg r40_22) (.cond (.t 23) .skip (.reg r40_23))))) (.cond (.t 23) (.seq (.reg r40_24) .ret) (.seq (.reg r40_25) (.cond (.t 27) (.seq (.reg r40_26) .ret) (.seq (.reg r40_27) (.cond (.t 29) (.seq (.reg r40_28) .ret) (.seq (.reg r40_29) (.cond (.t 31) (.seq (.reg r40_30) .ret) (.seq (.reg r40_31) (.cond (.t 33) (.seq (.reg r40_32) .ret) .skip)))))))))))))))))))))))))))))) (.seq (.reg r40_33) .ret)))
theorem i_impl_letterHas_ok : (Try.f40.body.bind fun c => toIC Try.prog 35 c []) = some (i_impl_letterHas, []) := by kernel_rfl
theorem i_impl_letterHas_fn {ds rs : List D} (hle : ds.length ≤ 35) (h : AW Try.prog 35 i_impl_letterHas (Ends [.tmp 2] rs) (init ds)) : Fn Try.prog k_impl_letterHas (lent ds) true rs :=
  Fn.intro' (by kernel_rfl) Try.func40 (by kernel_rfl) i_impl_letterHas_ok (by kernel_rfl) hle h.h
abbrev r42_0 : List RO := [ro (.mov 4 (cB false))]
abbrev r42_1 : List RO := [rM 6 0, ro (.len 7 true (.t 6)), ro (.mov 8 (c6 0))]
abbrev r42_2 : List RO := [ro (.bin 9 .lss (.t 8) (.t 7))]
abbrev r42_3 : List RO := [rM 10 8, rM 5 10]
abbrev r42_4 : List RO := [rM 11 0, rM 12 5, ro (.sidx 13 (.t 11) (.t 12)), rM 14 1, ro (.bin 15 .eql (.t 13) (.t 14))]
abbrev r42_5 : List RO := [ro (.mov 4 (cB true))]
abbrev r42_6 : List RO := [ro (.bin 16 .add (.t 8) (c6 1)), rM 8 16]
abbrev r42_7 : List RO := [ro (.mov 4 (cB false))]
def i_impl_has : IC := (.seq (.reg r42_0) (.seq (.seq (.reg r42_1) (.block 0 (.loop (.seq (.reg r42_2) (.seq (.cond (.t 9) .skip (.exit 0)) (.seq (.block 1 (.seq (.reg r42_3) (.seq (.reg r42_4) (.cond (.t 15) (.seq (.reg r42_5) .ret) .skip)))) (.reg r42_6))))))) (.seq (.reg r42_7) .ret)))
theorem i_impl_has_ok : (Try.f42.body.bind fun c => toIC Try.prog 17 c []) = some (i_impl_has, []) := by kernel_rfl
theorem i_impl_has_fn {ds rs : List D} (hle : ds.length ≤ 17) (h : AW Try.prog 17 i_impl_has (Ends [.tmp 4] rs) (init ds)) : Fn Try.prog k_impl_has (lent ds) true rs :=
  Fn.intro' (by kernel_rfl) Try.func42 (by kernel_rfl) i_impl_has_ok (by kernel_rfl) hle h.h
abbrev r63_0 : List RO := [ro (.mov 6 (cB false))]
abbrev r63_1 : List RO := [rM 7 0, rM 8 1, ro (.bin 9 .geq (.t 7) (.t 8)), rM 10 9, rT 10 (.mov 11 (.t 0)), rT 10 (.mov 12 (.t 2)), rT 10 (.bin 13 .leq (.t 11) (.t 12)), ro (.pick 14 (.t 10) (.t 13) (cB false)), rM 6 14]
def i_impl_from : IC := (.seq (.reg r63_0) (.seq (.reg r63_1) .ret))
theorem i_impl_from_ok : (Try.f63.body.bind fun c => toIC Try.prog 15 c []) = some (i_impl_from, []) := by kernel_rfl
theorem i_impl_from_fn {ds rs : List D} (hle : ds.length ≤ 15) (h : AW Try.prog 15 i_impl_from (Ends [.tmp 6] rs) (init ds)) : Fn Try.prog k_impl_from (lent ds) true rs :=
  Fn.intro' (by kernel_rfl) Try.func63 (by kernel_rfl) i_impl_from_ok (by kernel_rfl) hle h.h
abbrev r41_0 : List RO := [ro (.mov 10 (cB false))]
abbrev r41_1 : List RO := [rM 11 0, rM 12 1, ro (.callv 13 (.c (.one (.fn k_impl_has []))) [(.t 11), (.t 12)])]
abbrev r41_2 : List RO := [rM 14 2, rM 15 3, rM 16 4, ro (.callv 17 (.c (.one (.fn k_impl_from []))) [(.t 14), (.t 15), (.t 16)]), rM 10 17]
abbrev r41_3 : List RO := [rM 18 2, ro (.bin 19 .eql (.t 18) (c6 0)), rM 10 19]
def i_impl_numRight : IC := (.seq (.reg r41_0) (.seq (.seq (.reg r41_1) (.cond (.t 13) (.seq (.reg r41_2) .ret) .skip)) (.seq (.reg r41_3) .ret)))
theorem i_impl_numRight_ok : (Try.f41.body.bind fun c => toIC Try.prog 20 c []) = some (i_impl_numRight, []) := by kernel_rfl
theorem i_impl_numRight_fn {ds rs : List D} (hle : ds.length ≤ 20) (h : AW Try.prog 20 i_impl_numRight (Ends [.tmp 10] rs) (init ds)) : Fn Try.prog k_impl_numRight (lent ds) true rs :=
  Fn.intro' (by kernel_rfl) Try.func41 (by kernel_rfl) i_impl_numRight_ok (by kernel_rfl) hle h.h
abbrev r43_0 : List RO := [ro (.box 1 (.t 0)), ro (.mov 2 (cB false))]
abbrev r43_1 : List RO := [rF 3 0 1, rL 4 3, ro (.bin 5 .geq (.t 4) (c6 0)), rM 6 5, rT 6 (.faddr 7 0 (.t 1)), rT 6 (.load 8 none (.t 7)), rT 6 (.faddr 9 1 (.t 1)), rT 6 (.load 10 none (.t 9)), rT 6 (.bin 11 .lss (.t 8) (.t 10)), ro (.pick 12 (.t 6) (.t 11) (cB false)), rM 13 12, rT 13 (.faddr 14 1 (.t 1)), rT 13 (.load 15 none (.t 14)), rT 13 (.bin 16 .leq (.t 15) (c6 1000)), ro (.pick 17 (.t 13) (.t 16) (cB false)), rM 2 17]
def i_impl_RangeOk : IC := (.seq (.reg r43_0) (.seq (.reg r43_1) .ret))
theorem i_impl_RangeOk_ok : (Try.f43.body.bind fun c => toIC Try.prog 18 c []) = some (i_impl_RangeOk, []) := by kernel_rfl
theorem i_impl_RangeOk_fn {ds rs : List D} (hle : ds.length ≤ 18) (h : AW Try.prog 18 i_impl_RangeOk (Ends [.tmp 2] rs) (init ds)) : Fn Try.prog k_impl_RangeOk (lent ds) true rs :=
  Fn.intro' (by kernel_rfl) Try.func43 (by kernel_rfl) i_impl_RangeOk_ok (by kernel_rfl) hle h.h
abbrev r65_0 : List RO := [ro (.box 1 (.t 0)), ro (.mov 2 (cB false))]
abbrev r65_1 : List RO := [ro (.load 3 (some 2) (.t 1)), ro (.callv 4 (.c (.one (.fn k_impl_RangeOk []))) [(.t 3)]), ro (.inv 5 (.t 4)), rM 2 5]
def i_impl_readsOk_1 : IC := (.seq (.reg r65_0) (.seq (.reg r65_1) .ret))
theorem i_impl_readsOk_1_ok : (Try.f65.body.bind fun c => toIC Try.prog 6 c []) = some (i_impl_readsOk_1, []) := by kernel_rfl
theorem i_impl_readsOk_1_fn {ds rs : List D} (hle : ds.length ≤ 6) (h : AW Try.prog 6 i_impl_readsOk_1 (Ends [.tmp 2] rs) (init ds)) : Fn Try.prog k_impl_readsOk_1 (lent ds) true rs :=
  Fn.intro' (by kernel_rfl) Try.func65 (by kernel_rfl) i_impl_readsOk_1_ok (by kernel_rfl) hle h.h
abbrev r83_0 : List RO := [ro (.mov 4 (c6 0))]
abbrev r83_1 : List RO := [rM 6 0, ro (.len 7 false (.t 6)), ro (.mov 8 (c6 0))]
abbrev r83_2 : List RO := [ro (.bin 9 .lss (.t 8) (.t 7))]
abbrev r83_3 : List RO := [rM 10 8, rM 5 10]
abbrev r83_4 : List RO := [rM 11 1, rM 12 0, rM 13 5, ro (.iaddr 14 2 (.t 12) (.t 13)), ro (.load 15 (some 2) (.t 14)), ro (.callv 16 (.t 11) [(.t 15)])]
abbrev r83_5 : List RO := [rM 17 5, rM 4 17]
abbrev r83_6 : List RO := [ro (.bin 18 .add (.t 8) (c6 1)), rM 8 18]
abbrev r83_7 : List RO := [ro (.mov 4 (c6 (-1)))]
def i_slices_IndexFunc___impl_Range_impl_Range_ : IC := (.seq (.reg r83_0) (.seq (.seq (.reg r83_1) (.block 0 (.loop (.seq (.reg r83_2) (.seq (.cond (.t 9) .skip (.exit 0)) (.seq (.block 1 (.seq (.reg r83_3) (.seq (.reg r83_4) (.cond (.t 16) (.seq (.reg r83_5) .ret) .skip)))) (.reg r83_6))))))) (.seq (.reg r83_7) .ret)))
theorem i_slices_IndexFunc___impl_Range_impl_Range__ok : (Try.f83.body.bind fun c => toIC Try.prog 19 c []) = some (i_slices_IndexFunc___impl_Range_impl_Range_, []) := by kernel_rfl
theorem i_slices_IndexFunc___impl_Range_impl_Range__fn {ds rs : List D} (hle : ds.length ≤ 19) (h : AW Try.prog 19 i_slices_IndexFunc___impl_Range_impl_Range_ (Ends [.tmp 4] rs) (init ds)) : Fn Try.prog k_slices_IndexFunc___impl_Range_impl_Range_ (lent ds) true rs :=
  Fn.intro' (by kernel_rfl) Try.func83 (by kernel_rfl) i_slices_IndexFunc___impl_Range_impl_Range__ok (by kernel_rfl) hle h.h
abbrev r64_0 : List RO := [ro (.mov 4 (cB false))]
abbrev r64_1 : List RO := [rM 5 0, rM 6 1, ro (.callv 7 (.c (.one (.fn k_slices_IndexFunc___impl_Range_impl_Range_ []))) [(.t 5), (.t 6)]), ro (.bin 8 .geq (.t 7) (c6 0)), rM 4 8]
def i_slices_ContainsFunc___impl_Range_impl_Range_ : IC := (.seq (.reg r64_0) (.seq (.reg r64_1) .ret))
theorem i_slices_ContainsFunc___impl_Range_impl_Range__ok : (Try.f64.body.bind fun c => toIC Try.prog 9 c []) = some (i_slices_ContainsFunc___impl_Range_impl_Range_, []) := by kernel_rfl
theorem i_slices_ContainsFunc___impl_Range_impl_Range__fn {ds rs : List D} (hle : ds.length ≤ 9) (h : AW Try.prog 9 i_slices_ContainsFunc___impl_Range_impl_Range_ (Ends [.tmp 4] rs) (init ds)) : Fn Try.prog k_slices_ContainsFunc___impl_Range_impl_Range_ (lent ds) true rs :=
  Fn.intro' (by kernel_rfl) Try.func64 (by kernel_rfl) i_slices_ContainsFunc___impl_Range_impl_Range__ok (by kernel_rfl) hle h.h
abbrev r44_0 : List RO := [ro (.mov 2 (cB false))]
abbrev r44_1 : List RO := [rM 3 0, ro (.len 4 false (.t 3)), ro (.bin 5 .leq (.t 4) (c6 16)), rM 6 5, rT 6 (.mov 7 (.t 0)), rT 6 (.callv 8 (.c (.one (.fn k_slices_ContainsFunc___impl_Range_impl_Range_ []))) [(.t 7), (.c (.one (.fn k_impl_readsOk_1 [])))]), rT 6 (.inv 9 (.t 8)), ro (.pick 10 (.t 6) (.t 9) (cB false)), rM 2 10]
def i_impl_readsOk : IC := (.seq (.reg r44_0) (.seq (.reg r44_1) .ret))
theorem i_impl_readsOk_ok : (Try.f44.body.bind fun c => toIC Try.prog 11 c []) = some (i_impl_readsOk, []) := by kernel_rfl
theorem i_impl_readsOk_fn {ds rs : List D} (hle : ds.length ≤ 11) (h : AW Try.prog 11 i_impl_readsOk (Ends [.tmp 2] rs) (init ds)) : Fn Try.prog k_impl_readsOk (lent ds) true rs :=
  Fn.intro' (by kernel_rfl) Try.func44 (by kernel_rfl) i_impl_readsOk_ok (by kernel_rfl) hle h.h
abbrev r53_0 : List RO := [ro (.mov 2 (cB false))]
abbrev r53_1 : List RO := [rM 3 0, ro (.callv 4 (.c (.one (.fn k_impl_from []))) [(.t 3), (c6 0), (c6 999)]), rM 2 4]
def i_impl_isKey : IC := (.seq (.reg r53_0) (.seq (.reg r53_1) .ret))
theorem i_impl_isKey_ok : (Try.f53.body.bind fun c => toIC Try.prog 5 c []) = some (i_impl_isKey, []) := by kernel_rfl
theorem i_impl_isKey_fn {ds rs : List D} (hle : ds.length ≤ 5) (h : AW Try.prog 5 i_impl_isKey (Ends [.tmp 2] rs) (init ds)) : Fn Try.prog k_impl_isKey (lent ds) true rs :=
  Fn.intro' (by kernel_rfl) Try.func53 (by kernel_rfl) i_impl_isKey_ok (by kernel_rfl) hle h.h
abbrev r66_0 : List RO := [ro (.mov 2 (cB false))]
abbrev r66_1 : List RO := [rM 3 0, ro (.callv 4 (.c (.one (.fn k_impl_from []))) [(.t 3), (c6 (-1)), (c6 1000000000)]), rM 2 4]
def i_impl_isAnswer : IC := (.seq (.reg r66_0) (.seq (.reg r66_1) .ret))
theorem i_impl_isAnswer_ok : (Try.f66.body.bind fun c => toIC Try.prog 5 c []) = some (i_impl_isAnswer, []) := by kernel_rfl
theorem i_impl_isAnswer_fn {ds rs : List D} (hle : ds.length ≤ 5) (h : AW Try.prog 5 i_impl_isAnswer (Ends [.tmp 2] rs) (init ds)) : Fn Try.prog k_impl_isAnswer (lent ds) true rs :=
  Fn.intro' (by kernel_rfl) Try.func66 (by kernel_rfl) i_impl_isAnswer_ok (by kernel_rfl) hle h.h
abbrev r45_0 : List RO := [ro (.mov 2 (cB false))]
abbrev r45_1 : List RO := [rM 5 0, ro (.len 6 false (.t 5)), ro (.mov 7 (c6 0))]
abbrev r45_2 : List RO := [ro (.bin 8 .lss (.t 7) (.t 6))]
abbrev r45_3 : List RO := [rM 9 7, ro (.iaddr 10 2 (.t 5) (.t 7)), ro (.load 11 (some 2) (.t 10)), ro (.var 4 [(dI 0), (dI 0)]), rM 3 9, ro (.store 2 [(.int .i64 0), (.int .i64 0)] (.t 4) (.t 11))]
abbrev r45_4 : List RO := [rF 12 0 4, ⟨⟨none, .load 13 none (.t 12)⟩, 1, []⟩, ⟨⟨none, .callv 14 (.c (.one (.fn k_impl_isKey []))) [(.t 13)]⟩, 3, []⟩, ⟨⟨none, .inv 15 (.t 14)⟩, 7, []⟩, ⟨⟨none, .mov 16 (.t 15)⟩, 15, []⟩, ⟨⟨some (16, false), .faddr 17 1 (.t 4)⟩, 31, []⟩, ⟨⟨some (16, false), .load 18 none (.t 17)⟩, 63, []⟩, ⟨⟨some (16, false), .callv 19 (.c (.one (.fn k_impl_isAnswer []))) [(.t 18)]⟩, 127, []⟩, ⟨⟨some (16, false), .inv 20 (.t 19)⟩, 255, []⟩, ⟨⟨none, .pick 21 (.t 16) (cB true) (.t 20)⟩, 511, []⟩, ⟨⟨none, .mov 22 (.t 21)⟩, 1023, []⟩, ⟨⟨some (22, false), .mov 23 (.t 3)⟩, 2047, []⟩, ⟨⟨some (22, false), .bin 24 .gtr (.t 23) (c6 0)⟩, 4095, []⟩, ⟨⟨some (22, false), .mov 25 (.t 24)⟩, 8191, []⟩, ⟨⟨some (25, true), .mov 26 (.t 0)⟩, 16383, []⟩, ⟨⟨some (25, true), .mov 27 (.t 3)⟩, 16383, []⟩, ⟨⟨some (25, true), .bin 28 .sub (.t 27) (c6 1)⟩, 49151, []⟩, ⟨⟨some (25, true), .iaddr 29 2 (.t 26) (.t 28)⟩, 131071, []⟩, ⟨⟨some (25, true), .faddr 30 0 (.t 29)⟩, 262143, []⟩, ⟨⟨some (25, true), .load 31 none (.t 30)⟩, 524287, []⟩, ⟨⟨some (25, true), .faddr 32 0 (.t 4)⟩, 16383, []⟩, ⟨⟨some (25, true), .load 33 none (.t 32)⟩, 1064959, []⟩, ⟨⟨some (25, true), .bin 34 .geq (.t 31) (.t 33)⟩, 4194303, []⟩, ⟨⟨some (22, false), .pick 35 (.t 25) (.t 34) (cB false)⟩, 8388607, []⟩, ⟨⟨none, .pick 36 (.t 22) (cB true) (.t 35)⟩, 16777215, []⟩]
abbrev r45_5 : List RO := [ro (.mov 2 (cB false))]
abbrev r45_6 : List RO := [ro (.bin 37 .add (.t 7) (c6 1)), rM 7 37]
abbrev r45_7 : List RO := [rM 38 0, ro (.len 39 false (.t 38)), ro (.bin 40 .leq (.t 39) (c6 60)), rM 2 40]
def i_impl_WritesOk : IC := (.seq (.reg r45_0) (.seq (.seq (.reg r45_1) (.block 0 (.loop (.seq (.reg r45_2) (.seq (.cond (.t 8) .skip (.exit 0)) (.seq (.block 1 (.seq (.reg r45_3) (.seq (.regd r45_4) (.cond (.t 36) (.seq (.reg r45_5) .ret) .skip)))) (.reg r45_6))))))) (.seq (.reg r45_7) .ret)))
theorem i_impl_WritesOk_ok : (Try.f45.body.bind fun c => toIC Try.prog 41 c [[(0, []), (1, []), (3, []), (7, []), (15, []), (31, []), (63, []), (127, []), (255, []), (511, []), (1023, []), (2047, []), (4095, []), (8191, []), (16383, []), (16383, []), (49151, []), (131071, []), (262143, []), (524287, []), (16383, []), (1064959, []), (4194303, []), (8388607, []), (16777215, [])]]) = some (i_impl_WritesOk, []) := by kernel_rfl
theorem i_impl_WritesOk_fn {ds rs : List D} (hle : ds.length ≤ 41) (h : AW Try.prog 41 i_impl_WritesOk (Ends [.tmp 2] rs) (init ds)) : Fn Try.prog k_impl_WritesOk (lent ds) true rs :=
  Fn.intro' (by kernel_rfl) Try.func45 (by kernel_rfl) i_impl_WritesOk_ok (by kernel_rfl) hle h.h
abbrev r54_0 : List RO := [ro (.mov 2 (cB false))]
abbrev r54_1 : List RO := [rM 3 0, ro (.callv 4 (.c (.one (.fn k_impl_from []))) [(.t 3), (c6 0), (c6 1000000000)]), rM 2 4]
def i_impl_isWhole : IC := (.seq (.reg r54_0) (.seq (.reg r54_1) .ret))
theorem i_impl_isWhole_ok : (Try.f54.body.bind fun c => toIC Try.prog 5 c []) = some (i_impl_isWhole, []) := by kernel_rfl
theorem i_impl_isWhole_fn {ds rs : List D} (hle : ds.length ≤ 5) (h : AW Try.prog 5 i_impl_isWhole (Ends [.tmp 2] rs) (init ds)) : Fn Try.prog k_impl_isWhole (lent ds) true rs :=
  Fn.intro' (by kernel_rfl) Try.func54 (by kernel_rfl) i_impl_isWhole_ok (by kernel_rfl) hle h.h
abbrev r21_0 : List RO := [ro (.mov 2 (cB false))]
abbrev r21_1 : List RO := [rM 5 0, ro (.len 6 false (.t 5)), ro (.mov 7 (c6 0))]
abbrev r21_2 : List RO := [ro (.bin 8 .lss (.t 7) (.t 6))]
abbrev r21_3 : List RO := [rM 9 7, ro (.iaddr 10 2 (.t 5) (.t 7)), ro (.load 11 (some 2) (.t 10)), ro (.var 4 [(dI 0), (dI 0)]), rM 3 9, ro (.store 2 [(.int .i64 0), (.int .i64 0)] (.t 4) (.t 11))]
abbrev r21_4 : List RO := [rF 12 0 4, ⟨⟨none, .load 13 none (.t 12)⟩, 1, []⟩, ⟨⟨none, .callv 14 (.c (.one (.fn k_impl_isKey []))) [(.t 13)]⟩, 3, []⟩, ⟨⟨none, .inv 15 (.t 14)⟩, 7, []⟩, ⟨⟨none, .mov 16 (.t 15)⟩, 15, []⟩, ⟨⟨some (16, false), .faddr 17 1 (.t 4)⟩, 31, []⟩, ⟨⟨some (16, false), .load 18 none (.t 17)⟩, 63, []⟩, ⟨⟨some (16, false), .callv 19 (.c (.one (.fn k_impl_isWhole []))) [(.t 18)]⟩, 127, []⟩, ⟨⟨some (16, false), .inv 20 (.t 19)⟩, 255, []⟩, ⟨⟨none, .pick 21 (.t 16) (cB true) (.t 20)⟩, 511, []⟩, ⟨⟨none, .mov 22 (.t 21)⟩, 1023, []⟩, ⟨⟨some (22, false), .mov 23 (.t 3)⟩, 2047, []⟩, ⟨⟨some (22, false), .bin 24 .gtr (.t 23) (c6 0)⟩, 4095, []⟩, ⟨⟨some (22, false), .mov 25 (.t 24)⟩, 8191, []⟩, ⟨⟨some (25, true), .mov 26 (.t 0)⟩, 16383, []⟩, ⟨⟨some (25, true), .mov 27 (.t 3)⟩, 16383, []⟩, ⟨⟨some (25, true), .bin 28 .sub (.t 27) (c6 1)⟩, 49151, []⟩, ⟨⟨some (25, true), .iaddr 29 2 (.t 26) (.t 28)⟩, 131071, []⟩, ⟨⟨some (25, true), .faddr 30 0 (.t 29)⟩, 262143, []⟩, ⟨⟨some (25, true), .load 31 none (.t 30)⟩, 524287, []⟩, ⟨⟨some (25, true), .faddr 32 0 (.t 4)⟩, 16383, []⟩, ⟨⟨some (25, true), .load 33 none (.t 32)⟩, 1064959, []⟩, ⟨⟨some (25, true), .bin 34 .geq (.t 31) (.t 33)⟩, 4194303, []⟩, ⟨⟨some (22, false), .pick 35 (.t 25) (.t 34) (cB false)⟩, 8388607, []⟩, ⟨⟨none, .pick 36 (.t 22) (cB true) (.t 35)⟩, 16777215, []⟩]
abbrev r21_5 : List RO := [ro (.mov 2 (cB false))]
abbrev r21_6 : List RO := [ro (.bin 37 .add (.t 7) (c6 1)), rM 7 37]
abbrev r21_7 : List RO := [rM 38 0, ro (.len 39 false (.t 38)), ro (.bin 40 .leq (.t 39) (c6 60)), rM 2 40]
def i_impl_StoreOk : IC := (.seq (.reg r21_0) (.seq (.seq (.reg r21_1) (.block 0 (.loop (.seq (.reg r21_2) (.seq (.cond (.t 8) .skip (.exit 0)) (.seq (.block 1 (.seq (.reg r21_3) (.seq (.regd r21_4) (.cond (.t 36) (.seq (.reg r21_5) .ret) .skip)))) (.reg r21_6))))))) (.seq (.reg r21_7) .ret)))
theorem i_impl_StoreOk_ok : (Try.f21.body.bind fun c => toIC Try.prog 41 c [[(0, []), (1, []), (3, []), (7, []), (15, []), (31, []), (63, []), (127, []), (255, []), (511, []), (1023, []), (2047, []), (4095, []), (8191, []), (16383, []), (16383, []), (49151, []), (131071, []), (262143, []), (524287, []), (16383, []), (1064959, []), (4194303, []), (8388607, []), (16777215, [])]]) = some (i_impl_StoreOk, []) := by kernel_rfl
theorem i_impl_StoreOk_fn {ds rs : List D} (hle : ds.length ≤ 41) (h : AW Try.prog 41 i_impl_StoreOk (Ends [.tmp 2] rs) (init ds)) : Fn Try.prog k_impl_StoreOk (lent ds) true rs :=
  Fn.intro' (by kernel_rfl) Try.func21 (by kernel_rfl) i_impl_StoreOk_ok (by kernel_rfl) hle h.h
abbrev r67_0 : List RO := [ro (.mov 2 (cB false))]
abbrev r67_1 : List RO := [rM 3 0, ro (.callv 4 (.c (.one (.fn k_impl_from []))) [(.t 3), (c6 0), (c6 3)]), rM 2 4]
def i_impl_isGroup : IC := (.seq (.reg r67_0) (.seq (.reg r67_1) .ret))
theorem i_impl_isGroup_ok : (Try.f67.body.bind fun c => toIC Try.prog 5 c []) = some (i_impl_isGroup, []) := by kernel_rfl
theorem i_impl_isGroup_fn {ds rs : List D} (hle : ds.length ≤ 5) (h : AW Try.prog 5 i_impl_isGroup (Ends [.tmp 2] rs) (init ds)) : Fn Try.prog k_impl_isGroup (lent ds) true rs :=
  Fn.intro' (by kernel_rfl) Try.func67 (by kernel_rfl) i_impl_isGroup_ok (by kernel_rfl) hle h.h
abbrev r46_0 : List RO := [ro (.mov 2 (cB false))]
abbrev r46_1 : List RO := [rM 5 0, ro (.len 6 false (.t 5)), ro (.mov 7 (c6 0))]
abbrev r46_2 : List RO := [ro (.bin 8 .lss (.t 7) (.t 6))]
abbrev r46_3 : List RO := [rM 9 7, ro (.iaddr 10 4 (.t 5) (.t 7)), ro (.load 11 (some 4) (.t 10)), ro (.var 4 [(dI 0), .zs, .zs, (dI 0)]), rM 3 9, ro (.store 4 [(.int .i64 0), (.sl 2 []), (.sl 2 []), (.int .i64 0)] (.t 4) (.t 11))]
abbrev r46_4 : List RO := [rF 12 0 4, ⟨⟨none, .load 13 none (.t 12)⟩, 1, []⟩, ⟨⟨none, .callv 14 (.c (.one (.fn k_impl_isGroup []))) [(.t 13)]⟩, 3, []⟩, ⟨⟨none, .inv 15 (.t 14)⟩, 7, []⟩, ⟨⟨none, .mov 16 (.t 15)⟩, 15, []⟩, ⟨⟨some (16, false), .mov 17 (.t 3)⟩, 31, []⟩, ⟨⟨some (16, false), .bin 18 .gtr (.t 17) (c6 0)⟩, 63, []⟩, ⟨⟨some (16, false), .mov 19 (.t 18)⟩, 127, []⟩, ⟨⟨some (19, true), .mov 20 (.t 0)⟩, 255, []⟩, ⟨⟨some (19, true), .mov 21 (.t 3)⟩, 255, []⟩, ⟨⟨some (19, true), .bin 22 .sub (.t 21) (c6 1)⟩, 767, []⟩, ⟨⟨some (19, true), .iaddr 23 4 (.t 20) (.t 22)⟩, 2047, []⟩, ⟨⟨some (19, true), .faddr 24 0 (.t 23)⟩, 4095, []⟩, ⟨⟨some (19, true), .load 25 none (.t 24)⟩, 8191, []⟩, ⟨⟨some (19, true), .faddr 26 0 (.t 4)⟩, 255, []⟩, ⟨⟨some (19, true), .load 27 none (.t 26)⟩, 16639, []⟩, ⟨⟨some (19, true), .bin 28 .geq (.t 25) (.t 27)⟩, 65535, []⟩, ⟨⟨some (16, false), .pick 29 (.t 19) (.t 28) (cB false)⟩, 131071, []⟩, ⟨⟨none, .pick 30 (.t 16) (cB true) (.t 29)⟩, 262143, []⟩, ⟨⟨none, .mov 31 (.t 30)⟩, 524287, []⟩, ⟨⟨some (31, false), .faddr 32 1 (.t 4)⟩, 1048575, []⟩, ⟨⟨some (31, false), .load 33 none (.t 32)⟩, 2097151, []⟩, ⟨⟨some (31, false), .callv 34 (.c (.one (.fn k_impl_readsOk []))) [(.t 33)]⟩, 4194303, []⟩, ⟨⟨some (31, false), .inv 35 (.t 34)⟩, 8388607, []⟩, ⟨⟨none, .pick 36 (.t 31) (cB true) (.t 35)⟩, 16777215, []⟩, ⟨⟨none, .mov 37 (.t 36)⟩, 33554431, []⟩, ⟨⟨some (37, false), .faddr 38 2 (.t 4)⟩, 67108863, []⟩, ⟨⟨some (37, false), .load 39 none (.t 38)⟩, 134217727, []⟩, ⟨⟨some (37, false), .callv 40 (.c (.one (.fn k_impl_WritesOk []))) [(.t 39)]⟩, 268435455, []⟩, ⟨⟨some (37, false), .inv 41 (.t 40)⟩, 536870911, []⟩, ⟨⟨none, .pick 42 (.t 37) (cB true) (.t 41)⟩, 1073741823, []⟩, ⟨⟨none, .mov 43 (.t 42)⟩, 2147483647, []⟩, ⟨⟨some (43, false), .faddr 44 3 (.t 4)⟩, 4294967295, []⟩, ⟨⟨some (43, false), .load 45 none (.t 44)⟩, 8589934591, []⟩, ⟨⟨some (43, false), .callv 46 (.c (.one (.fn k_impl_from []))) [(.t 45), (c6 0), (c6 2)]⟩, 17179869183, []⟩, ⟨⟨some (43, false), .inv 47 (.t 46)⟩, 34359738367, []⟩, ⟨⟨none, .pick 48 (.t 43) (cB true) (.t 47)⟩, 68719476735, []⟩]
abbrev r46_5 : List RO := [ro (.mov 2 (cB false))]
abbrev r46_6 : List RO := [ro (.bin 49 .add (.t 7) (c6 1)), rM 7 49]
abbrev r46_7 : List RO := [rM 50 0, ro (.len 51 false (.t 50)), ro (.bin 52 .leq (.t 51) (c6 4)), rM 2 52]
def i_impl_SharesOk : IC := (.seq (.reg r46_0) (.seq (.seq (.reg r46_1) (.block 0 (.loop (.seq (.reg r46_2) (.seq (.cond (.t 8) .skip (.exit 0)) (.seq (.block 1 (.seq (.reg r46_3) (.seq (.regd r46_4) (.cond (.t 48) (.seq (.reg r46_5) .ret) .skip)))) (.reg r46_6))))))) (.seq (.reg r46_7) .ret)))
theorem i_impl_SharesOk_ok : (Try.f46.body.bind fun c => toIC Try.prog 53 c [[(0, []), (1, []), (3, []), (7, []), (15, []), (31, []), (63, []), (127, []), (255, []), (255, []), (767, []), (2047, []), (4095, []), (8191, []), (255, []), (16639, []), (65535, []), (131071, []), (262143, []), (524287, []), (1048575, []), (2097151, []), (4194303, []), (8388607, []), (16777215, []), (33554431, []), (67108863, []), (134217727, []), (268435455, []), (536870911, []), (1073741823, []), (2147483647, []), (4294967295, []), (8589934591, []), (17179869183, []), (34359738367, []), (68719476735, [])]]) = some (i_impl_SharesOk, []) := by kernel_rfl
theorem i_impl_SharesOk_fn {ds rs : List D} (hle : ds.length ≤ 53) (h : AW Try.prog 53 i_impl_SharesOk (Ends [.tmp 2] rs) (init ds)) : Fn Try.prog k_impl_SharesOk (lent ds) true rs :=
  Fn.intro' (by kernel_rfl) Try.func46 (by kernel_rfl) i_impl_SharesOk_ok (by kernel_rfl) hle h.h
abbrev r69_0 : List RO := [ro (.box 2 (.t 0)), ro (.mov 3 (cB false))]
abbrev r69_1 : List RO := [rF 4 3 2, rL 5 4, rL 6 1, ro (.bin 7 .eql (.t 5) (.t 6)), rM 3 7]
def i_impl_votes_1 : IC := (.seq (.reg r69_0) (.seq (.reg r69_1) .ret))
theorem i_impl_votes_1_ok : (Try.f69.body.bind fun c => toIC Try.prog 8 c []) = some (i_impl_votes_1, []) := by kernel_rfl
theorem i_impl_votes_1_fn {ds rs : List D} (hle : ds.length ≤ 8) (h : AW Try.prog 8 i_impl_votes_1 (Ends [.tmp 3] rs) (init ds)) : Fn Try.prog k_impl_votes_1 (lent ds) true rs :=
  Fn.intro' (by kernel_rfl) Try.func69 (by kernel_rfl) i_impl_votes_1_ok (by kernel_rfl) hle h.h
abbrev r84_0 : List RO := [ro (.mov 4 (c6 0))]
abbrev r84_1 : List RO := [rM 6 0, ro (.len 7 false (.t 6)), ro (.mov 8 (c6 0))]
abbrev r84_2 : List RO := [ro (.bin 9 .lss (.t 8) (.t 7))]
abbrev r84_3 : List RO := [rM 10 8, rM 5 10]
abbrev r84_4 : List RO := [rM 11 1, rM 12 0, rM 13 5, ro (.iaddr 14 4 (.t 12) (.t 13)), ro (.load 15 (some 4) (.t 14)), ro (.callv 16 (.t 11) [(.t 15)])]
abbrev r84_5 : List RO := [rM 17 5, rM 4 17]
abbrev r84_6 : List RO := [ro (.bin 18 .add (.t 8) (c6 1)), rM 8 18]
abbrev r84_7 : List RO := [ro (.mov 4 (c6 (-1)))]
def i_slices_IndexFunc___impl_Share_impl_Share_ : IC := (.seq (.reg r84_0) (.seq (.seq (.reg r84_1) (.block 0 (.loop (.seq (.reg r84_2) (.seq (.cond (.t 9) .skip (.exit 0)) (.seq (.block 1 (.seq (.reg r84_3) (.seq (.reg r84_4) (.cond (.t 16) (.seq (.reg r84_5) .ret) .skip)))) (.reg r84_6))))))) (.seq (.reg r84_7) .ret)))
theorem i_slices_IndexFunc___impl_Share_impl_Share__ok : (Try.f84.body.bind fun c => toIC Try.prog 19 c []) = some (i_slices_IndexFunc___impl_Share_impl_Share_, []) := by kernel_rfl
theorem i_slices_IndexFunc___impl_Share_impl_Share__fn {ds rs : List D} (hle : ds.length ≤ 19) (h : AW Try.prog 19 i_slices_IndexFunc___impl_Share_impl_Share_ (Ends [.tmp 4] rs) (init ds)) : Fn Try.prog k_slices_IndexFunc___impl_Share_impl_Share_ (lent ds) true rs :=
  Fn.intro' (by kernel_rfl) Try.func84 (by kernel_rfl) i_slices_IndexFunc___impl_Share_impl_Share__ok (by kernel_rfl) hle h.h
abbrev r68_0 : List RO := [ro (.mov 4 (cB false))]
abbrev r68_1 : List RO := [rM 5 0, rM 6 1, ro (.callv 7 (.c (.one (.fn k_slices_IndexFunc___impl_Share_impl_Share_ []))) [(.t 5), (.t 6)]), ro (.bin 8 .geq (.t 7) (c6 0)), rM 4 8]
def i_slices_ContainsFunc___impl_Share_impl_Share_ : IC := (.seq (.reg r68_0) (.seq (.reg r68_1) .ret))
theorem i_slices_ContainsFunc___impl_Share_impl_Share__ok : (Try.f68.body.bind fun c => toIC Try.prog 9 c []) = some (i_slices_ContainsFunc___impl_Share_impl_Share_, []) := by kernel_rfl
theorem i_slices_ContainsFunc___impl_Share_impl_Share__fn {ds rs : List D} (hle : ds.length ≤ 9) (h : AW Try.prog 9 i_slices_ContainsFunc___impl_Share_impl_Share_ (Ends [.tmp 4] rs) (init ds)) : Fn Try.prog k_slices_ContainsFunc___impl_Share_impl_Share_ (lent ds) true rs :=
  Fn.intro' (by kernel_rfl) Try.func68 (by kernel_rfl) i_slices_ContainsFunc___impl_Share_impl_Share__ok (by kernel_rfl) hle h.h
abbrev r47_0 : List RO := [ro (.box 3 (.t 1)), ro (.mov 4 (cB false))]
abbrev r47_1 : List RO := [rM 5 0, ro (.mkfn 6 k_impl_votes_1 [(.t 3)]), ro (.callv 7 (.c (.one (.fn k_slices_ContainsFunc___impl_Share_impl_Share_ []))) [(.t 5), (.t 6)]), rM 4 7]
def i_impl_votes : IC := (.seq (.reg r47_0) (.seq (.reg r47_1) .ret))
theorem i_impl_votes_ok : (Try.f47.body.bind fun c => toIC Try.prog 8 c []) = some (i_impl_votes, []) := by kernel_rfl
theorem i_impl_votes_fn {ds rs : List D} (hle : ds.length ≤ 8) (h : AW Try.prog 8 i_impl_votes (Ends [.tmp 4] rs) (init ds)) : Fn Try.prog k_impl_votes (lent ds) true rs :=
  Fn.intro' (by kernel_rfl) Try.func47 (by kernel_rfl) i_impl_votes_ok (by kernel_rfl) hle h.h
abbrev r15_0 : List RO := [ro (.box 1 (.t 0)), ro (.mov 2 (cB false))]
abbrev r15_1 : List RO := [rF 4 0 1, rL 5 4, ro (.callv 6 (.c (.one (.fn k_impl_letterHas []))) [(.t 5)]), rM 3 6]
abbrev r15_2 : List RO := [rM 7 3, ro (.bin 8 .eql (.t 7) (.c (.one (.d (.str ByteArray.empty))))), rM 9 8, rN 9 (.mov 10 (.t 3)), rN 9 (.faddr 11 1 (.t 1)), rN 9 (.load 12 none (.t 11)), rN 9 (.callv 13 (.c (.one (.fn k_impl_numRight []))) [(.t 10), (.c (.one (.d (.int .u8 71)))), (.t 12), (c6 0), (c6 3)]), rN 9 (.inv 14 (.t 13)), ro (.pick 15 (.t 9) (cB true) (.t 14)), rM 16 15, rN 16 (.mov 17 (.t 3)), rN 16 (.faddr 18 2 (.t 1)), rN 16 (.load 19 none (.t 18)), rN 16 (.callv 20 (.c (.one (.fn k_impl_numRight []))) [(.t 17), (.c (.one (.d (.int .u8 67)))), (.t 19), (c6 0), (c6 5)]), rN 16 (.inv 21 (.t 20)), ro (.pick 22 (.t 16) (cB true) (.t 21)), rM 23 22, rN 23 (.mov 24 (.t 3)), rN 23 (.faddr 25 3 (.t 1)), rN 23 (.load 26 none (.t 25)), rN 23 (.callv 27 (.c (.one (.fn k_impl_numRight []))) [(.t 24), (.c (.one (.d (.int .u8 82)))), (.t 26), (c6 1), (c6 1000000000)]), rN 23 (.inv 28 (.t 27)), ro (.pick 29 (.t 23) (cB true) (.t 28)), rM 30 29, rN 30 (.mov 31 (.t 3)), rN 30 (.faddr 32 4 (.t 1)), rN 30 (.load 33 none (.t 32)), rN 30 (.callv 34 (.c (.one (.fn k_impl_numRight []))) [(.t 31), (.c (.one (.d (.int .u8 84)))), (.t 33), (c6 1), (c6 60)]), rN 30 (.inv 35 (.t 34)), ro (.pick 36 (.t 30) (cB true) (.t 35)), rM 37 36, rN 37 (.mov 38 (.t 3)), rN 37 (.faddr 39 7 (.t 1)), rN 37 (.load 40 none (.t 39)), rN 37 (.callv 41 (.c (.one (.fn k_impl_numRight []))) [(.t 38), (.c (.one (.d (.int .u8 78)))), (.t 40), (c6 1), (c6 1000000)]), rN 37 (.inv 42 (.t 41)), ro (.pick 43 (.t 37) (cB true) (.t 42)), rM 44 43, rN 44 (.mov 45 (.t 3)), rN 44 (.faddr 46 8 (.t 1)), rN 44 (.load 47 none (.t 46)), rN 44 (.callv 48 (.c (.one (.fn k_impl_numRight []))) [(.t 45), (.c (.one (.d (.int .u8 99)))), (.t 47), (c6 0), (c6 7)]), rN 44 (.inv 49 (.t 48)), ro (.pick 50 (.t 44) (cB true) (.t 49))]
abbrev r15_3 : List RO := [ro (.mov 2 (cB false))]
abbrev r15_4 : List RO := [rM 51 3, ro (.callv 52 (.c (.one (.fn k_impl_has []))) [(.t 51), (.c (.one (.d (.int .u8 107))))]), rM 53 52, rT 53 (.faddr 54 5 (.t 1)), rT 53 (.load 55 none (.t 54)), rT 53 (.faddr 56 6 (.t 1)), rT 53 (.load 57 none (.t 56)), rT 53 (.build 58 [(dI 0), (dI 0)] [(0, 1, (.t 55)), (1, 1, (.t 57))]), rT 53 (.callv 59 (.c (.one (.fn k_impl_RangeOk []))) [(.t 58)]), rT 53 (.inv 60 (.t 59)), ro (.pick 61 (.t 53) (.t 60) (cB false)), rM 62 61, rN 62 (.mov 63 (.t 3)), rN 62 (.callv 64 (.c (.one (.fn k_impl_has []))) [(.t 63), (.c (.one (.d (.int .u8 107))))]), rN 62 (.inv 65 (.t 64)), rN 62 (.mov 66 (.t 65)), rT 66 (.faddr 67 5 (.t 1)), rT 66 (.load 68 none (.t 67)), rT 66 (.bin 69 .neq (.t 68) (c6 0)), rT 66 (.mov 70 (.t 69)), rN 70 (.faddr 71 6 (.t 1)), rN 70 (.load 72 none (.t 71)), rN 70 (.bin 73 .neq (.t 72) (c6 0)), rT 66 (.pick 74 (.t 70) (cB true) (.t 73)), rN 62 (.pick 75 (.t 66) (.t 74) (cB false)), ro (.pick 76 (.t 62) (cB true) (.t 75)), rM 77 76, rN 77 (.mov 78 (.t 3)), rN 77 (.callv 79 (.c (.one (.fn k_impl_has []))) [(.t 78), (.c (.one (.d (.int .u8 89))))]), rN 77 (.inv 80 (.t 79)), rN 77 (.mov 81 (.t 80)), rT 81 (.faddr 82 9 (.t 1)), rT 81 (.load 83 none (.t 82)), rN 77 (.pick 84 (.t 81) (.t 83) (cB false)), ro (.pick 85 (.t 77) (cB true) (.t 84))]
abbrev r15_5 : List RO := [ro (.mov 2 (cB false))]
abbrev r15_6 : List RO := [rF 86 10 1, rL 87 86, ro (.callv 88 (.c (.one (.fn k_impl_readsOk []))) [(.t 87)]), rM 89 88, rT 89 (.mov 90 (.t 3)), rT 89 (.callv 91 (.c (.one (.fn k_impl_has []))) [(.t 90), (.c (.one (.d (.int .u8 101))))]), rT 89 (.mov 92 (.t 91)), rN 92 (.faddr 93 10 (.t 1)), rN 92 (.load 94 none (.t 93)), rN 92 (.len 95 false (.t 94)), rN 92 (.bin 96 .eql (.t 95) (c6 0)), rT 89 (.pick 97 (.t 92) (cB true) (.t 96)), ro (.pick 98 (.t 89) (.t 97) (cB false)), rM 99 98, rT 99 (.faddr 100 11 (.t 1)), rT 99 (.load 101 none (.t 100)), rT 99 (.callv 102 (.c (.one (.fn k_impl_WritesOk []))) [(.t 101)]), ro (.pick 103 (.t 99) (.t 102) (cB false)), rM 104 103, rT 104 (.mov 105 (.t 3)), rT 104 (.callv 106 (.c (.one (.fn k_impl_has []))) [(.t 105), (.c (.one (.d (.int .u8 87))))]), rT 104 (.mov 107 (.t 106)), rN 107 (.faddr 108 11 (.t 1)), rN 107 (.load 109 none (.t 108)), rN 107 (.len 110 false (.t 109)), rN 107 (.bin 111 .eql (.t 110) (c6 0)), rT 104 (.pick 112 (.t 107) (cB true) (.t 111)), ro (.pick 113 (.t 104) (.t 112) (cB false)), rM 114 113, rT 114 (.faddr 115 12 (.t 1)), rT 114 (.load 116 none (.t 115)), rT 114 (.callv 117 (.c (.one (.fn k_impl_StoreOk []))) [(.t 116)]), ro (.pick 118 (.t 114) (.t 117) (cB false)), rM 119 118, rT 119 (.mov 120 (.t 3)), rT 119 (.callv 121 (.c (.one (.fn k_impl_has []))) [(.t 120), (.c (.one (.d (.int .u8 108))))]), rT 119 (.mov 122 (.t 121)), rN 122 (.faddr 123 12 (.t 1)), rN 122 (.load 124 none (.t 123)), rN 122 (.len 125 false (.t 124)), rN 122 (.bin 126 .eql (.t 125) (c6 0)), rT 119 (.pick 127 (.t 122) (cB true) (.t 126)), ro (.pick 128 (.t 119) (.t 127) (cB false)), rM 129 128, rT 129 (.faddr 130 13 (.t 1)), rT 129 (.load 131 none (.t 130)), rT 129 (.callv 132 (.c (.one (.fn k_impl_SharesOk []))) [(.t 131)]), ro (.pick 133 (.t 129) (.t 132) (cB false)), rM 134 133, rT 134 (.mov 135 (.t 3)), rT 134 (.callv 136 (.c (.one (.fn k_impl_has []))) [(.t 135), (.c (.one (.d (.int .u8 83))))]), rT 134 (.mov 137 (.t 136)), rN 137 (.faddr 138 13 (.t 1)), rN 137 (.load 139 none (.t 138)), rN 137 (.len 140 false (.t 139)), rN 137 (.bin 141 .eql (.t 140) (c6 0)), rT 134 (.pick 142 (.t 137) (cB true) (.t 141)), ro (.pick 143 (.t 134) (.t 142) (cB false)), rM 144 143, rT 144 (.faddr 145 13 (.t 1)), rT 144 (.load 146 none (.t 145)), rT 144 (.callv 147 (.c (.one (.fn k_impl_votes []))) [(.t 146), (c6 1)]), rT 144 (.inv 148 (.t 147)), ro (.pick 149 (.t 144) (.t 148) (cB false)), rM 150 149, rT 150 (.faddr 151 13 (.t 1)), rT 150 (.load 152 none (.t 151)), rT 150 (.callv 153 (.c (.one (.fn k_impl_votes []))) [(.t 152), (c6 2)]), rT 150 (.inv 154 (.t 153)), ro (.pick 155 (.t 150) (.t 154) (cB false)), rM 2 155]
def i_impl_LetterOk : IC := (.seq (.reg r15_0) (.seq (.reg r15_1) (.seq (.seq (.reg r15_2) (.cond (.t 50) (.seq (.reg r15_3) .ret) .skip)) (.seq (.seq (.reg r15_4) (.cond (.t 85) (.seq (.reg r15_5) .ret) .skip)) (.seq (.reg r15_6) .ret)))))
theorem i_impl_LetterOk_ok : (Try.f15.body.bind fun c => toIC Try.prog 156 c []) = some (i_impl_LetterOk, []) := by kernel_rfl
theorem i_impl_LetterOk_fn {ds rs : List D} (hle : ds.length ≤ 156) (h : AW Try.prog 156 i_impl_LetterOk (Ends [.tmp 2] rs) (init ds)) : Fn Try.prog k_impl_LetterOk (lent ds) true rs :=
  Fn.intro' (by kernel_rfl) Try.func15 (by kernel_rfl) i_impl_LetterOk_ok (by kernel_rfl) hle h.h
abbrev r70_0 : List RO := [ro (.box 2 (.t 0)), ro (.box 3 (.t 1)), ro (.mov 4 (cB false))]
abbrev r70_1 : List RO := [rF 5 0 2, rL 6 5, rF 7 0 3, rL 8 7, ro (.bin 9 .neq (.t 6) (.t 8))]
abbrev r70_2 : List RO := [ro (.mov 4 (cB false))]
abbrev r70_3 : List RO := [rF 10 1 2, rL 11 10, rF 12 1 3, rL 13 12, ro (.bin 14 .neq (.t 11) (.t 13))]
abbrev r70_4 : List RO := [ro (.mov 4 (cB false))]
abbrev r70_5 : List RO := [ro (.mov 4 (cB true))]
def i_laws_eqRange : IC := (.seq (.reg r70_0) (.seq (.seq (.reg r70_1) (.cond (.t 9) (.seq (.reg r70_2) .ret) .skip)) (.seq (.seq (.reg r70_3) (.cond (.t 14) (.seq (.reg r70_4) .ret) .skip)) (.seq (.reg r70_5) .ret))))
theorem i_laws_eqRange_ok : (Try.f70.body.bind fun c => toIC Try.prog 15 c []) = some (i_laws_eqRange, []) := by kernel_rfl
theorem i_laws_eqRange_fn {ds rs : List D} (hle : ds.length ≤ 15) (h : AW Try.prog 15 i_laws_eqRange (Ends [.tmp 4] rs) (init ds)) : Fn Try.prog k_laws_eqRange (lent ds) true rs :=
  Fn.intro' (by kernel_rfl) Try.func70 (by kernel_rfl) i_laws_eqRange_ok (by kernel_rfl) hle h.h
abbrev r48_0 : List RO := [ro (.mov 4 (cB false))]
abbrev r48_1 : List RO := [rM 6 0, ro (.len 7 false (.t 6)), rM 8 1, ro (.len 9 false (.t 8)), ro (.bin 10 .neq (.t 7) (.t 9))]
abbrev r48_2 : List RO := [ro (.mov 4 (cB false))]
abbrev r48_3 : List RO := [ro (.mov 5 (c6 0))]
abbrev r48_4 : List RO := [rM 11 5, rM 12 0, ro (.len 13 false (.t 12)), ro (.bin 14 .lss (.t 11) (.t 13))]
abbrev r48_5 : List RO := [rM 17 0, rM 18 5, ⟨⟨none, .iaddr 19 2 (.t 17) (.t 18)⟩, 3, []⟩, ⟨⟨none, .load 20 (some 2) (.t 19)⟩, 7, []⟩, rM 21 1, rM 22 5, ⟨⟨none, .iaddr 23 2 (.t 21) (.t 22)⟩, 48, []⟩, ⟨⟨none, .load 24 (some 2) (.t 23)⟩, 112, []⟩, ⟨⟨none, .callv 25 (.c (.one (.fn k_laws_eqRange []))) [(.t 20), (.t 24)]⟩, 255, []⟩, ⟨⟨none, .inv 26 (.t 25)⟩, 511, []⟩]
abbrev r48_6 : List RO := [ro (.mov 4 (cB false))]
abbrev r48_7 : List RO := [rM 15 5, ro (.bin 16 .add (.t 15) (c6 1)), rM 5 16]
abbrev r48_8 : List RO := [ro (.mov 4 (cB true))]
def i_laws_eqRangeS : IC := (.seq (.reg r48_0) (.seq (.seq (.reg r48_1) (.cond (.t 10) (.seq (.reg r48_2) .ret) .skip)) (.seq (.seq (.reg r48_3) (.block 0 (.loop (.seq (.seq (.reg r48_4) (.cond (.t 14) .skip (.exit 0))) (.seq (.block 1 (.seq (.regd r48_5) (.cond (.t 26) (.seq (.reg r48_6) .ret) .skip))) (.reg r48_7)))))) (.seq (.reg r48_8) .ret))))
theorem i_laws_eqRangeS_ok : (Try.f48.body.bind fun c => toIC Try.prog 27 c [[(0, []), (0, []), (3, []), (7, []), (0, []), (0, []), (48, []), (112, []), (255, []), (511, [])]]) = some (i_laws_eqRangeS, []) := by kernel_rfl
theorem i_laws_eqRangeS_fn {ds rs : List D} (hle : ds.length ≤ 27) (h : AW Try.prog 27 i_laws_eqRangeS (Ends [.tmp 4] rs) (init ds)) : Fn Try.prog k_laws_eqRangeS (lent ds) true rs :=
  Fn.intro' (by kernel_rfl) Try.func48 (by kernel_rfl) i_laws_eqRangeS_ok (by kernel_rfl) hle h.h
abbrev r71_0 : List RO := [ro (.box 2 (.t 0)), ro (.box 3 (.t 1)), ro (.mov 4 (cB false))]
abbrev r71_1 : List RO := [rF 5 0 2, rL 6 5, rF 7 0 3, rL 8 7, ro (.bin 9 .neq (.t 6) (.t 8))]
abbrev r71_2 : List RO := [ro (.mov 4 (cB false))]
abbrev r71_3 : List RO := [rF 10 1 2, rL 11 10, rF 12 1 3, rL 13 12, ro (.bin 14 .neq (.t 11) (.t 13))]
abbrev r71_4 : List RO := [ro (.mov 4 (cB false))]
abbrev r71_5 : List RO := [ro (.mov 4 (cB true))]
def i_laws_eqWrite : IC := (.seq (.reg r71_0) (.seq (.seq (.reg r71_1) (.cond (.t 9) (.seq (.reg r71_2) .ret) .skip)) (.seq (.seq (.reg r71_3) (.cond (.t 14) (.seq (.reg r71_4) .ret) .skip)) (.seq (.reg r71_5) .ret))))
theorem i_laws_eqWrite_ok : (Try.f71.body.bind fun c => toIC Try.prog 15 c []) = some (i_laws_eqWrite, []) := by kernel_rfl
theorem i_laws_eqWrite_fn {ds rs : List D} (hle : ds.length ≤ 15) (h : AW Try.prog 15 i_laws_eqWrite (Ends [.tmp 4] rs) (init ds)) : Fn Try.prog k_laws_eqWrite (lent ds) true rs :=
  Fn.intro' (by kernel_rfl) Try.func71 (by kernel_rfl) i_laws_eqWrite_ok (by kernel_rfl) hle h.h
abbrev r49_0 : List RO := [ro (.mov 4 (cB false))]
abbrev r49_1 : List RO := [rM 6 0, ro (.len 7 false (.t 6)), rM 8 1, ro (.len 9 false (.t 8)), ro (.bin 10 .neq (.t 7) (.t 9))]
abbrev r49_2 : List RO := [ro (.mov 4 (cB false))]
abbrev r49_3 : List RO := [ro (.mov 5 (c6 0))]
abbrev r49_4 : List RO := [rM 11 5, rM 12 0, ro (.len 13 false (.t 12)), ro (.bin 14 .lss (.t 11) (.t 13))]
abbrev r49_5 : List RO := [rM 17 0, rM 18 5, ⟨⟨none, .iaddr 19 2 (.t 17) (.t 18)⟩, 3, []⟩, ⟨⟨none, .load 20 (some 2) (.t 19)⟩, 7, []⟩, rM 21 1, rM 22 5, ⟨⟨none, .iaddr 23 2 (.t 21) (.t 22)⟩, 48, []⟩, ⟨⟨none, .load 24 (some 2) (.t 23)⟩, 112, []⟩, ⟨⟨none, .callv 25 (.c (.one (.fn k_laws_eqWrite []))) [(.t 20), (.t 24)]⟩, 255, []⟩, ⟨⟨none, .inv 26 (.t 25)⟩, 511, []⟩]
abbrev r49_6 : List RO := [ro (.mov 4 (cB false))]
abbrev r49_7 : List RO := [rM 15 5, ro (.bin 16 .add (.t 15) (c6 1)), rM 5 16]
abbrev r49_8 : List RO := [ro (.mov 4 (cB true))]
def i_laws_eqWriteS : IC := (.seq (.reg r49_0) (.seq (.seq (.reg r49_1) (.cond (.t 10) (.seq (.reg r49_2) .ret) .skip)) (.seq (.seq (.reg r49_3) (.block 0 (.loop (.seq (.seq (.reg r49_4) (.cond (.t 14) .skip (.exit 0))) (.seq (.block 1 (.seq (.regd r49_5) (.cond (.t 26) (.seq (.reg r49_6) .ret) .skip))) (.reg r49_7)))))) (.seq (.reg r49_8) .ret))))
theorem i_laws_eqWriteS_ok : (Try.f49.body.bind fun c => toIC Try.prog 27 c [[(0, []), (0, []), (3, []), (7, []), (0, []), (0, []), (48, []), (112, []), (255, []), (511, [])]]) = some (i_laws_eqWriteS, []) := by kernel_rfl
theorem i_laws_eqWriteS_fn {ds rs : List D} (hle : ds.length ≤ 27) (h : AW Try.prog 27 i_laws_eqWriteS (Ends [.tmp 4] rs) (init ds)) : Fn Try.prog k_laws_eqWriteS (lent ds) true rs :=
  Fn.intro' (by kernel_rfl) Try.func49 (by kernel_rfl) i_laws_eqWriteS_ok (by kernel_rfl) hle h.h
abbrev r25_0 : List RO := [ro (.box 2 (.t 0)), ro (.box 3 (.t 1)), ro (.mov 4 (cB false))]
abbrev r25_1 : List RO := [rF 5 0 2, rL 6 5, rF 7 0 3, rL 8 7, ro (.bin 9 .neq (.t 6) (.t 8))]
abbrev r25_2 : List RO := [ro (.mov 4 (cB false))]
abbrev r25_3 : List RO := [rF 10 1 2, rL 11 10, rF 12 1 3, rL 13 12, ro (.bin 14 .neq (.t 11) (.t 13))]
abbrev r25_4 : List RO := [ro (.mov 4 (cB false))]
abbrev r25_5 : List RO := [ro (.mov 4 (cB true))]
def i_laws_eqCell : IC := (.seq (.reg r25_0) (.seq (.seq (.reg r25_1) (.cond (.t 9) (.seq (.reg r25_2) .ret) .skip)) (.seq (.seq (.reg r25_3) (.cond (.t 14) (.seq (.reg r25_4) .ret) .skip)) (.seq (.reg r25_5) .ret))))
theorem i_laws_eqCell_ok : (Try.f25.body.bind fun c => toIC Try.prog 15 c []) = some (i_laws_eqCell, []) := by kernel_rfl
theorem i_laws_eqCell_fn {ds rs : List D} (hle : ds.length ≤ 15) (h : AW Try.prog 15 i_laws_eqCell (Ends [.tmp 4] rs) (init ds)) : Fn Try.prog k_laws_eqCell (lent ds) true rs :=
  Fn.intro' (by kernel_rfl) Try.func25 (by kernel_rfl) i_laws_eqCell_ok (by kernel_rfl) hle h.h
abbrev r9_0 : List RO := [ro (.mov 4 (cB false))]
abbrev r9_1 : List RO := [rM 6 0, ro (.len 7 false (.t 6)), rM 8 1, ro (.len 9 false (.t 8)), ro (.bin 10 .neq (.t 7) (.t 9))]
abbrev r9_2 : List RO := [ro (.mov 4 (cB false))]
abbrev r9_3 : List RO := [ro (.mov 5 (c6 0))]
abbrev r9_4 : List RO := [rM 11 5, rM 12 0, ro (.len 13 false (.t 12)), ro (.bin 14 .lss (.t 11) (.t 13))]
abbrev r9_5 : List RO := [rM 17 0, rM 18 5, ⟨⟨none, .iaddr 19 2 (.t 17) (.t 18)⟩, 3, []⟩, ⟨⟨none, .load 20 (some 2) (.t 19)⟩, 7, []⟩, rM 21 1, rM 22 5, ⟨⟨none, .iaddr 23 2 (.t 21) (.t 22)⟩, 48, []⟩, ⟨⟨none, .load 24 (some 2) (.t 23)⟩, 112, []⟩, ⟨⟨none, .callv 25 (.c (.one (.fn k_laws_eqCell []))) [(.t 20), (.t 24)]⟩, 255, []⟩, ⟨⟨none, .inv 26 (.t 25)⟩, 511, []⟩]
abbrev r9_6 : List RO := [ro (.mov 4 (cB false))]
abbrev r9_7 : List RO := [rM 15 5, ro (.bin 16 .add (.t 15) (c6 1)), rM 5 16]
abbrev r9_8 : List RO := [ro (.mov 4 (cB true))]
def i_laws_eqCellS : IC := (.seq (.reg r9_0) (.seq (.seq (.reg r9_1) (.cond (.t 10) (.seq (.reg r9_2) .ret) .skip)) (.seq (.seq (.reg r9_3) (.block 0 (.loop (.seq (.seq (.reg r9_4) (.cond (.t 14) .skip (.exit 0))) (.seq (.block 1 (.seq (.regd r9_5) (.cond (.t 26) (.seq (.reg r9_6) .ret) .skip))) (.reg r9_7)))))) (.seq (.reg r9_8) .ret))))
theorem i_laws_eqCellS_ok : (Try.f9.body.bind fun c => toIC Try.prog 27 c [[(0, []), (0, []), (3, []), (7, []), (0, []), (0, []), (48, []), (112, []), (255, []), (511, [])]]) = some (i_laws_eqCellS, []) := by kernel_rfl
theorem i_laws_eqCellS_fn {ds rs : List D} (hle : ds.length ≤ 27) (h : AW Try.prog 27 i_laws_eqCellS (Ends [.tmp 4] rs) (init ds)) : Fn Try.prog k_laws_eqCellS (lent ds) true rs :=
  Fn.intro' (by kernel_rfl) Try.func9 (by kernel_rfl) i_laws_eqCellS_ok (by kernel_rfl) hle h.h
abbrev r72_0 : List RO := [ro (.box 2 (.t 0)), ro (.box 3 (.t 1)), ro (.mov 4 (cB false))]
abbrev r72_1 : List RO := [rF 5 0 2, rL 6 5, rF 7 0 3, rL 8 7, ro (.bin 9 .neq (.t 6) (.t 8))]
abbrev r72_2 : List RO := [ro (.mov 4 (cB false))]
abbrev r72_3 : List RO := [rF 10 1 2, rL 11 10, rF 12 1 3, rL 13 12, ro (.callv 14 (.c (.one (.fn k_laws_eqRangeS []))) [(.t 11), (.t 13)]), ro (.inv 15 (.t 14))]
abbrev r72_4 : List RO := [ro (.mov 4 (cB false))]
abbrev r72_5 : List RO := [rF 16 2 2, rL 17 16, rF 18 2 3, rL 19 18, ro (.callv 20 (.c (.one (.fn k_laws_eqWriteS []))) [(.t 17), (.t 19)]), ro (.inv 21 (.t 20))]
abbrev r72_6 : List RO := [ro (.mov 4 (cB false))]
abbrev r72_7 : List RO := [rF 22 3 2, rL 23 22, rF 24 3 3, rL 25 24, ro (.bin 26 .neq (.t 23) (.t 25))]
abbrev r72_8 : List RO := [ro (.mov 4 (cB false))]
abbrev r72_9 : List RO := [ro (.mov 4 (cB true))]
def i_laws_eqShare : IC := (.seq (.reg r72_0) (.seq (.seq (.reg r72_1) (.cond (.t 9) (.seq (.reg r72_2) .ret) .skip)) (.seq (.seq (.reg r72_3) (.cond (.t 15) (.seq (.reg r72_4) .ret) .skip)) (.seq (.seq (.reg r72_5) (.cond (.t 21) (.seq (.reg r72_6) .ret) .skip)) (.seq (.seq (.reg r72_7) (.cond (.t 26) (.seq (.reg r72_8) .ret) .skip)) (.seq (.reg r72_9) .ret))))))
theorem i_laws_eqShare_ok : (Try.f72.body.bind fun c => toIC Try.prog 27 c []) = some (i_laws_eqShare, []) := by kernel_rfl
theorem i_laws_eqShare_fn {ds rs : List D} (hle : ds.length ≤ 27) (h : AW Try.prog 27 i_laws_eqShare (Ends [.tmp 4] rs) (init ds)) : Fn Try.prog k_laws_eqShare (lent ds) true rs :=
  Fn.intro' (by kernel_rfl) Try.func72 (by kernel_rfl) i_laws_eqShare_ok (by kernel_rfl) hle h.h
abbrev r50_0 : List RO := [ro (.mov 4 (cB false))]
abbrev r50_1 : List RO := [rM 6 0, ro (.len 7 false (.t 6)), rM 8 1, ro (.len 9 false (.t 8)), ro (.bin 10 .neq (.t 7) (.t 9))]
abbrev r50_2 : List RO := [ro (.mov 4 (cB false))]
abbrev r50_3 : List RO := [ro (.mov 5 (c6 0))]
abbrev r50_4 : List RO := [rM 11 5, rM 12 0, ro (.len 13 false (.t 12)), ro (.bin 14 .lss (.t 11) (.t 13))]
abbrev r50_5 : List RO := [rM 17 0, rM 18 5, ⟨⟨none, .iaddr 19 4 (.t 17) (.t 18)⟩, 3, []⟩, ⟨⟨none, .load 20 (some 4) (.t 19)⟩, 7, []⟩, rM 21 1, rM 22 5, ⟨⟨none, .iaddr 23 4 (.t 21) (.t 22)⟩, 48, []⟩, ⟨⟨none, .load 24 (some 4) (.t 23)⟩, 112, []⟩, ⟨⟨none, .callv 25 (.c (.one (.fn k_laws_eqShare []))) [(.t 20), (.t 24)]⟩, 255, []⟩, ⟨⟨none, .inv 26 (.t 25)⟩, 511, []⟩]
abbrev r50_6 : List RO := [ro (.mov 4 (cB false))]
abbrev r50_7 : List RO := [rM 15 5, ro (.bin 16 .add (.t 15) (c6 1)), rM 5 16]
abbrev r50_8 : List RO := [ro (.mov 4 (cB true))]
def i_laws_eqShareS : IC := (.seq (.reg r50_0) (.seq (.seq (.reg r50_1) (.cond (.t 10) (.seq (.reg r50_2) .ret) .skip)) (.seq (.seq (.reg r50_3) (.block 0 (.loop (.seq (.seq (.reg r50_4) (.cond (.t 14) .skip (.exit 0))) (.seq (.block 1 (.seq (.regd r50_5) (.cond (.t 26) (.seq (.reg r50_6) .ret) .skip))) (.reg r50_7)))))) (.seq (.reg r50_8) .ret))))
theorem i_laws_eqShareS_ok : (Try.f50.body.bind fun c => toIC Try.prog 27 c [[(0, []), (0, []), (3, []), (7, []), (0, []), (0, []), (48, []), (112, []), (255, []), (511, [])]]) = some (i_laws_eqShareS, []) := by kernel_rfl
theorem i_laws_eqShareS_fn {ds rs : List D} (hle : ds.length ≤ 27) (h : AW Try.prog 27 i_laws_eqShareS (Ends [.tmp 4] rs) (init ds)) : Fn Try.prog k_laws_eqShareS (lent ds) true rs :=
  Fn.intro' (by kernel_rfl) Try.func50 (by kernel_rfl) i_laws_eqShareS_ok (by kernel_rfl) hle h.h
abbrev r16_0 : List RO := [ro (.box 2 (.t 0)), ro (.box 3 (.t 1)), ro (.mov 4 (cB false))]
abbrev r16_1 : List RO := [rF 5 0 2, rL 6 5, rF 7 0 3, rL 8 7, ro (.bin 9 .neq (.t 6) (.t 8))]
abbrev r16_2 : List RO := [ro (.mov 4 (cB false))]
abbrev r16_3 : List RO := [rF 10 1 2, rL 11 10, rF 12 1 3, rL 13 12, ro (.bin 14 .neq (.t 11) (.t 13))]
abbrev r16_4 : List RO := [ro (.mov 4 (cB false))]
abbrev r16_5 : List RO := [rF 15 2 2, rL 16 15, rF 17 2 3, rL 18 17, ro (.bin 19 .neq (.t 16) (.t 18))]
abbrev r16_6 : List RO := [ro (.mov 4 (cB false))]
abbrev r16_7 : List RO := [rF 20 3 2, rL 21 20, rF 22 3 3, rL 23 22, ro (.bin 24 .neq (.t 21) (.t 23))]
abbrev r16_8 : List RO := [ro (.mov 4 (cB false))]
abbrev r16_9 : List RO := [rF 25 4 2, rL 26 25, rF 27 4 3, rL 28 27, ro (.bin 29 .neq (.t 26) (.t 28))]
abbrev r16_10 : List RO := [ro (.mov 4 (cB false))]
abbrev r16_11 : List RO := [rF 30 5 2, rL 31 30, rF 32 5 3, rL 33 32, ro (.bin 34 .neq (.t 31) (.t 33))]
abbrev r16_12 : List RO := [ro (.mov 4 (cB false))]
abbrev r16_13 : List RO := [rF 35 6 2, rL 36 35, rF 37 6 3, rL 38 37, ro (.bin 39 .neq (.t 36) (.t 38))]
abbrev r16_14 : List RO := [ro (.mov 4 (cB false))]
abbrev r16_15 : List RO := [rF 40 7 2, rL 41 40, rF 42 7 3, rL 43 42, ro (.bin 44 .neq (.t 41) (.t 43))]
abbrev r16_16 : List RO := [ro (.mov 4 (cB false))]
abbrev r16_17 : List RO := [rF 45 8 2, rL 46 45, rF 47 8 3, rL 48 47, ro (.bin 49 .neq (.t 46) (.t 48))]
abbrev r16_18 : List RO := [ro (.mov 4 (cB false))]
abbrev r16_19 : List RO := [rF 50 9 2, rL 51 50, rF 52 9 3, rL 53 52, ro (.beq 54 true (.t 51) (.t 53))]
abbrev r16_20 : List RO := [ro (.mov 4 (cB false))]
abbrev r16_21 : List RO := [rF 55 10 2, rL 56 55, rF 57 10 3, rL 58 57, ro (.callv 59 (.c (.one (.fn k_laws_eqRangeS []))) [(.t 56), (.t 58)]), ro (.inv 60 (.t 59))]
abbrev r16_22 : List RO := [ro (.mov 4 (cB false))]
abbrev r16_23 : List RO := [rF 61 11 2, rL 62 61, rF 63 11 3, rL 64 63, ro (.callv 65 (.c (.one (.fn k_laws_eqWriteS []))) [(.t 62), (.t 64)]), ro (.inv 66 (.t 65))]
abbrev r16_24 : List RO := [ro (.mov 4 (cB false))]
abbrev r16_25 : List RO := [rF 67 12 2, rL 68 67, rF 69 12 3, rL 70 69, ro (.callv 71 (.c (.one (.fn k_laws_eqCellS []))) [(.t 68), (.t 70)]), ro (.inv 72 (.t 71))]
abbrev r16_26 : List RO := [ro (.mov 4 (cB false))]
abbrev r16_27 : List RO := [rF 73 13 2, rL 74 73, rF 75 13 3, rL 76 75, ro (.callv 77 (.c (.one (.fn k_laws_eqShareS []))) [(.t 74), (.t 76)]), ro (.inv 78 (.t 77))]
abbrev r16_28 : List RO := [ro (.mov 4 (cB false))]
abbrev r16_29 : List RO := [ro (.mov 4 (cB true))]
def i_laws_eqLetter : IC := (.seq (.reg r16_0) (.seq (.seq (.reg r16_1) (.cond (.t 9) (.seq (.reg r16_2) .ret) .skip)) (.seq (.seq (.reg r16_3) (.cond (.t 14) (.seq (.reg r16_4) .ret) .skip)) (.seq (.seq (.reg r16_5) (.cond (.t 19) (.seq (.reg r16_6) .ret) .skip)) (.seq (.seq (.reg r16_7) (.cond (.t 24) (.seq (.reg r16_8) .ret) .skip)) (.seq (.seq (.reg r16_9) (.cond (.t 29) (.seq (.reg r16_10) .ret) .skip)) (.seq (.seq (.reg r16_11) (.cond (.t 34) (.seq (.reg r16_12) .ret) .skip)) (.seq (.seq (.reg r16_13) (.cond (.t 39) (.seq (.reg r16_14) .ret) .skip)) (.seq (.seq (.reg r16_15) (.cond (.t 44) (.seq (.reg r16_16) .ret) .skip)) (.seq (.seq (.reg r16_17) (.cond (.t 49) (.seq (.reg r16_18) .ret) .skip)) (.seq (.seq (.reg r16_19) (.cond (.t 54) (.seq (.reg r16_20) .ret) .skip)) (.seq (.seq (.reg r16_21) (.cond (.t 60) (.seq (.reg r16_22) .ret) .skip)) (.seq (.seq (.reg r16_23) (.cond (.t 66) (.seq (.reg r16_24) .ret) .skip)) (.seq (.seq (.reg r16_25) (.cond (.t 72) (.seq (.reg r16_26) .ret) .skip)) (.seq (.seq (.reg r16_27) (.cond (.t 78) (.seq (.reg r16_28) .ret) .skip)) (.seq (.reg r16_29) .ret))))))))))))))))
theorem i_laws_eqLetter_ok : (Try.f16.body.bind fun c => toIC Try.prog 79 c []) = some (i_laws_eqLetter, []) := by kernel_rfl
theorem i_laws_eqLetter_fn {ds rs : List D} (hle : ds.length ≤ 79) (h : AW Try.prog 79 i_laws_eqLetter (Ends [.tmp 4] rs) (init ds)) : Fn Try.prog k_laws_eqLetter (lent ds) true rs :=
  Fn.intro' (by kernel_rfl) Try.func16 (by kernel_rfl) i_laws_eqLetter_ok (by kernel_rfl) hle h.h
abbrev r4_0 : List RO := [ro (.box 1 (.t 0)), ro (.mov 2 (cB false))]
abbrev r4_1 : List RO := [ro (.mov 3 (c6 1048576))]
abbrev r4_2 : List RO := [ro (.load 7 (some 14) (.t 1)), rM 8 3, ro (.callv 9 (.c (.one (.fn k_laws_szLetter []))) [(.t 7), (.t 8)]), rM 3 9]
abbrev r4_3 : List RO := [rM 10 3, ro (.bin 11 .lss (.t 10) (c6 0))]
abbrev r4_4 : List RO := [ro (.mov 2 (cB true))]
abbrev r4_5 : List RO := [ro (.load 12 (some 14) (.t 1)), ro (.callv 13 (.c (.one (.fn k_laws_toLetter []))) [(.t 12)]), ro (.callv 14 (.c (.one (.fn k_spec_LetterOk []))) [(.t 13)]), rM 4 14]
abbrev r4_6 : List RO := [ro (.load 15 (some 14) (.t 1)), ro (.callv 16 (.c (.one (.fn k_laws_toLetter []))) [(.t 15)]), ro (.var 5 [(dI 0), (dI 0), (dI 0), (dI 0), (dI 0), (dI 0), (dI 0), (dI 0), (dI 0), (.d (.bool false)), .zs, .zs, .zs, .zs]), ro (.store 14 [(.int .i64 0), (.int .i64 0), (.int .i64 0), (.int .i64 0), (.int .i64 0), (.int .i64 0), (.int .i64 0), (.int .i64 0), (.int .i64 0), (.bool false), (.sl 2 []), (.sl 2 []), (.sl 2 []), (.sl 4 [])] (.t 5) (.t 16))]
abbrev r4_7 : List RO := [ro (.load 17 (some 14) (.t 5)), ro (.callv 18 (.c (.one (.fn k_impl_LetterOk []))) [(.t 17)]), rM 6 18]
abbrev r4_8 : List RO := [rM 19 6, rM 20 4, ro (.beq 21 true (.t 19) (.t 20))]
abbrev r4_9 : List RO := [ro (.mov 2 (cB false))]
abbrev r4_10 : List RO := [⟨⟨none, .load 22 (some 14) (.t 5)⟩, 0, [24]⟩, ro (.load 23 (some 14) (.t 1)), ⟨⟨none, .callv 24 (.c (.one (.fn k_laws_toLetter []))) [(.t 23)]⟩, 2, []⟩, ⟨⟨none, .callv 25 (.c (.one (.fn k_laws_eqLetter []))) [(.t 22), (.t 24)]⟩, 7, []⟩, ⟨⟨none, .inv 26 (.t 25)⟩, 15, []⟩]
abbrev r4_11 : List RO := [ro (.mov 2 (cB false))]
abbrev r4_12 : List RO := [ro (.mov 2 (cB true))]
def i_laws_FnExactLetterOk : IC := (.seq (.reg r4_0) (.seq (.reg r4_1) (.seq (.reg r4_2) (.seq (.seq (.reg r4_3) (.cond (.t 11) (.seq (.reg r4_4) .ret) .skip)) (.seq (.reg r4_5) (.seq (.reg r4_6) (.seq (.reg r4_7) (.seq (.seq (.reg r4_8) (.cond (.t 21) (.seq (.reg r4_9) .ret) .skip)) (.seq (.seq (.regd r4_10) (.cond (.t 26) (.seq (.reg r4_11) .ret) .skip)) (.seq (.reg r4_12) .ret))))))))))
theorem i_laws_FnExactLetterOk_ok : (Try.f4.body.bind fun c => toIC Try.prog 27 c [[(0, [24]), (0, []), (2, []), (7, []), (15, [])]]) = some (i_laws_FnExactLetterOk, []) := by kernel_rfl
theorem i_laws_FnExactLetterOk_fn {ds rs : List D} (hle : ds.length ≤ 27) (h : AW Try.prog 27 i_laws_FnExactLetterOk (Ends [.tmp 2] rs) (init ds)) : Fn Try.prog k_laws_FnExactLetterOk (lent ds) true rs :=
  Fn.intro' (by kernel_rfl) Try.func4 (by kernel_rfl) i_laws_FnExactLetterOk_ok (by kernel_rfl) hle h.h
end Go.AW
