/- The compact code of functions of the program, and that it is the program's: made by a program of the prover's own (tool/GenIC.lean). Conditions: none. -/
import Derived.Test.YtfmjgpdjjkjcaaaYi
import Derived.Test.YtfmjgpdjjkjcaaaRows
import Derived.KernelRfl
set_option linter.unusedVariables false
set_option maxRecDepth 100000
namespace Go.AW
open Go.Proofs
abbrev k_laws_FnExactCoordBegin : Nat := 6
abbrev k_laws_szCoord : Nat := 8
abbrev k_laws_toCoord : Nat := 10
abbrev k_laws_eqIntS : Nat := 12
abbrev k_laws_eqCoord : Nat := 13
abbrev k_laws_markCoord : Nat := 14
abbrev k_laws_markIntS : Nat := 15
abbrev k_laws_heldIntS : Nat := 16
abbrev k_laws_heldCoord : Nat := 19
abbrev k_laws_szShareS : Nat := 20
abbrev k_laws_toShareS : Nat := 22
abbrev k_laws_eqShareS : Nat := 24
abbrev k_laws_markShareS : Nat := 25
abbrev k_spec_CoordBegin : Nat := 26
abbrev k_impl_CoordBegin : Nat := 27
abbrev k_laws_szRecS : Nat := 30
abbrev k_laws_szIntS : Nat := 31
abbrev k_laws_toRecS : Nat := 33
abbrev k_laws_toIntS : Nat := 34
abbrev k_laws_eqRecS : Nat := 36
abbrev k_laws_markRecS : Nat := 37
abbrev k_spec_CoordOk : Nat := 38
abbrev k_spec_l14Copy : Nat := 39
abbrev k_spec_l1In : Nat := 40
abbrev k_impl_CoordOk : Nat := 41
abbrev k_impl_copyCoord : Nat := 42
abbrev k_laws_heldRecS : Nat := 45
abbrev k_laws_szShare : Nat := 46
abbrev k_spec_SharesOk : Nat := 47
abbrev k_spec_l14Votes : Nat := 48
abbrev k_spec_l14Shares : Nat := 49
abbrev k_laws_toShare : Nat := 50
abbrev k_impl_SharesOk : Nat := 51
abbrev k_impl_votes : Nat := 52
abbrev k_impl_copyShares : Nat := 53
abbrev k_laws_eqShare : Nat := 54
abbrev k_laws_markRangeS : Nat := 55
abbrev k_laws_markWriteS : Nat := 56
abbrev k_spec_l1Whole : Nat := 57
abbrev k_spec_CoordFind : Nat := 58
abbrev k_impl_isWhole : Nat := 59
abbrev k_impl_isReq : Nat := 60
abbrev k_impl_CoordFind : Nat := 61
abbrev k_slices_IndexFunc___impl_Share_impl_Share_ : Nat := 62
abbrev k_laws_szRec : Nat := 64
abbrev k_laws_toRec : Nat := 65
abbrev k_laws_eqRec : Nat := 66
abbrev k_spec_l14RecOk : Nat := 67
abbrev k_spec_l12Has : Nat := 68
abbrev k_impl_recOk : Nat := 69
abbrev k_slices_ContainsFunc___impl_Rec_impl_Rec_ : Nat := 70
abbrev k_impl_CoordOk_1 : Nat := 71
abbrev k_impl_from : Nat := 72
abbrev k_slices_Contains___int_int_ : Nat := 73
abbrev k_slices_Clone___int_int_ : Nat := 74
abbrev k_laws_heldShareS : Nat := 75
abbrev k_laws_szRangeS : Nat := 76
abbrev k_laws_szWriteS : Nat := 77
abbrev k_spec_WritesOk : Nat := 78
abbrev k_spec_RangeOk : Nat := 79
abbrev k_laws_toRangeS : Nat := 80
abbrev k_laws_toWriteS : Nat := 81
abbrev k_impl_isGroup : Nat := 82
abbrev k_impl_readsOk : Nat := 83
abbrev k_impl_WritesOk : Nat := 84
abbrev k_slices_ContainsFunc___impl_Share_impl_Share_ : Nat := 85
abbrev k_impl_votes_1 : Nat := 86
abbrev k_slices_Clone___impl_Range_impl_Range_ : Nat := 87
abbrev k_slices_Clone___impl_Write_impl_Write_ : Nat := 88
abbrev k_laws_eqRangeS : Nat := 89
abbrev k_laws_eqWriteS : Nat := 90
abbrev k_slices_IndexFunc___impl_Rec_impl_Rec_ : Nat := 91
abbrev k_impl_CoordFind_1 : Nat := 92
abbrev k_slices_Index___int_int_ : Nat := 93
abbrev k_laws_heldRangeS : Nat := 94
abbrev k_laws_heldWriteS : Nat := 95
abbrev k_spec_l10Key : Nat := 96
abbrev k_laws_toRange : Nat := 97
abbrev k_laws_toWrite : Nat := 98
abbrev k_slices_ContainsFunc___impl_Range_impl_Range_ : Nat := 99
abbrev k_impl_readsOk_1 : Nat := 100
abbrev k_impl_RangeOk : Nat := 101
abbrev k_impl_isKey : Nat := 102
abbrev k_impl_isAnswer : Nat := 103
abbrev k_laws_eqRange : Nat := 104
abbrev k_laws_eqWrite : Nat := 105
abbrev k_slices_IndexFunc___impl_Range_impl_Range_ : Nat := 106
abbrev r76_0 : List RO := [ro (.mov 4 (c6 0))]
abbrev r76_1 : List RO := [rM 5 1, rM 6 0, ro (.len 7 false (.t 6)), ro (.bin 8 .sub (.t 5) (.t 7)), rM 1 8]
abbrev r76_2 : List RO := [rM 9 1, ro (.bin 10 .lss (.t 9) (c6 0))]
abbrev r76_3 : List RO := [ro (.mov 4 (c6 (-1)))]
abbrev r76_4 : List RO := [rM 11 1, rM 4 11]
def i_laws_szRangeS : IC := (.seq (.reg r76_0) (.seq (.reg r76_1) (.seq (.seq (.reg r76_2) (.cond (.t 10) (.seq (.reg r76_3) .ret) .skip)) (.seq (.reg r76_4) .ret))))
theorem i_laws_szRangeS_ok : (Try.f76.body.bind fun c => toIC Try.prog 12 c []) = some (i_laws_szRangeS, []) := by kernel_rfl
theorem i_laws_szRangeS_fn {ds rs : List D} (hle : ds.length ≤ 12) (h : AW Try.prog 12 i_laws_szRangeS (Ends [.tmp 4] rs) (init ds)) : Fn Try.prog k_laws_szRangeS (lent ds) true rs :=
  Fn.intro' (by kernel_rfl) Try.func76 (by kernel_rfl) i_laws_szRangeS_ok (by kernel_rfl) hle h.h
abbrev r77_0 : List RO := [ro (.mov 4 (c6 0))]
abbrev r77_1 : List RO := [rM 5 1, rM 6 0, ro (.len 7 false (.t 6)), ro (.bin 8 .sub (.t 5) (.t 7)), rM 1 8]
abbrev r77_2 : List RO := [rM 9 1, ro (.bin 10 .lss (.t 9) (c6 0))]
abbrev r77_3 : List RO := [ro (.mov 4 (c6 (-1)))]
abbrev r77_4 : List RO := [rM 11 1, rM 4 11]
def i_laws_szWriteS : IC := (.seq (.reg r77_0) (.seq (.reg r77_1) (.seq (.seq (.reg r77_2) (.cond (.t 10) (.seq (.reg r77_3) .ret) .skip)) (.seq (.reg r77_4) .ret))))
theorem i_laws_szWriteS_ok : (Try.f77.body.bind fun c => toIC Try.prog 12 c []) = some (i_laws_szWriteS, []) := by kernel_rfl
theorem i_laws_szWriteS_fn {ds rs : List D} (hle : ds.length ≤ 12) (h : AW Try.prog 12 i_laws_szWriteS (Ends [.tmp 4] rs) (init ds)) : Fn Try.prog k_laws_szWriteS (lent ds) true rs :=
  Fn.intro' (by kernel_rfl) Try.func77 (by kernel_rfl) i_laws_szWriteS_ok (by kernel_rfl) hle h.h
abbrev r46_0 : List RO := [ro (.box 2 (.t 0)), ro (.mov 4 (c6 0))]
abbrev r46_1 : List RO := [rF 5 1 2, rL 6 5, rM 7 1, ro (.callv 8 (.c (.one (.fn k_laws_szRangeS []))) [(.t 6), (.t 7)]), rM 1 8]
abbrev r46_2 : List RO := [rM 9 1, ro (.bin 10 .lss (.t 9) (c6 0))]
abbrev r46_3 : List RO := [ro (.mov 4 (c6 (-1)))]
abbrev r46_4 : List RO := [rF 11 2 2, rL 12 11, rM 13 1, ro (.callv 14 (.c (.one (.fn k_laws_szWriteS []))) [(.t 12), (.t 13)]), rM 1 14]
abbrev r46_5 : List RO := [rM 15 1, ro (.bin 16 .lss (.t 15) (c6 0))]
abbrev r46_6 : List RO := [ro (.mov 4 (c6 (-1)))]
abbrev r46_7 : List RO := [rM 17 1, rM 4 17]
def i_laws_szShare : IC := (.seq (.reg r46_0) (.seq (.reg r46_1) (.seq (.seq (.reg r46_2) (.cond (.t 10) (.seq (.reg r46_3) .ret) .skip)) (.seq (.reg r46_4) (.seq (.seq (.reg r46_5) (.cond (.t 16) (.seq (.reg r46_6) .ret) .skip)) (.seq (.reg r46_7) .ret))))))
theorem i_laws_szShare_ok : (Try.f46.body.bind fun c => toIC Try.prog 18 c []) = some (i_laws_szShare, []) := by kernel_rfl
theorem i_laws_szShare_fn {ds rs : List D} (hle : ds.length ≤ 18) (h : AW Try.prog 18 i_laws_szShare (Ends [.tmp 4] rs) (init ds)) : Fn Try.prog k_laws_szShare (lent ds) true rs :=
  Fn.intro' (by kernel_rfl) Try.func46 (by kernel_rfl) i_laws_szShare_ok (by kernel_rfl) hle h.h
abbrev r20_0 : List RO := [ro (.mov 4 (c6 0))]
abbrev r20_1 : List RO := [rM 6 1, rM 7 0, ro (.len 8 false (.t 7)), ro (.bin 9 .sub (.t 6) (.t 8)), rM 1 9]
abbrev r20_2 : List RO := [rM 10 1, ro (.bin 11 .lss (.t 10) (c6 0))]
abbrev r20_3 : List RO := [ro (.mov 4 (c6 (-1)))]
abbrev r20_4 : List RO := [ro (.mov 5 (c6 0))]
abbrev r20_5 : List RO := [rM 12 5, rM 13 0, ro (.len 14 false (.t 13)), ro (.bin 15 .lss (.t 12) (.t 14))]
abbrev r20_6 : List RO := [rM 18 0, rM 19 5, ro (.iaddr 20 4 (.t 18) (.t 19)), ro (.load 21 (some 4) (.t 20)), rM 22 1, ro (.callv 23 (.c (.one (.fn k_laws_szShare []))) [(.t 21), (.t 22)]), rM 1 23]
abbrev r20_7 : List RO := [rM 24 1, ro (.bin 25 .lss (.t 24) (c6 0))]
abbrev r20_8 : List RO := [ro (.mov 4 (c6 (-1)))]
abbrev r20_9 : List RO := [rM 16 5, ro (.bin 17 .add (.t 16) (c6 1)), rM 5 17]
abbrev r20_10 : List RO := [rM 26 1, rM 4 26]
def i_laws_szShareS : IC := (.seq (.reg r20_0) (.seq (.reg r20_1) (.seq (.seq (.reg r20_2) (.cond (.t 11) (.seq (.reg r20_3) .ret) .skip)) (.seq (.seq (.reg r20_4) (.block 0 (.loop (.seq (.seq (.reg r20_5) (.cond (.t 15) .skip (.exit 0))) (.seq (.block 1 (.seq (.reg r20_6) (.seq (.reg r20_7) (.cond (.t 25) (.seq (.reg r20_8) .ret) .skip)))) (.reg r20_9)))))) (.seq (.reg r20_10) .ret)))))
theorem i_laws_szShareS_ok : (Try.f20.body.bind fun c => toIC Try.prog 27 c []) = some (i_laws_szShareS, []) := by kernel_rfl
theorem i_laws_szShareS_fn {ds rs : List D} (hle : ds.length ≤ 27) (h : AW Try.prog 27 i_laws_szShareS (Ends [.tmp 4] rs) (init ds)) : Fn Try.prog k_laws_szShareS (lent ds) true rs :=
  Fn.intro' (by kernel_rfl) Try.func20 (by kernel_rfl) i_laws_szShareS_ok (by kernel_rfl) hle h.h
abbrev r64_0 : List RO := [ro (.box 2 (.t 0)), ro (.mov 4 (c6 0))]
abbrev r64_1 : List RO := [rF 5 4 2, rL 6 5, rM 7 1, ro (.callv 8 (.c (.one (.fn k_laws_szShareS []))) [(.t 6), (.t 7)]), rM 1 8]
abbrev r64_2 : List RO := [rM 9 1, ro (.bin 10 .lss (.t 9) (c6 0))]
abbrev r64_3 : List RO := [ro (.mov 4 (c6 (-1)))]
abbrev r64_4 : List RO := [rM 11 1, rM 4 11]
def i_laws_szRec : IC := (.seq (.reg r64_0) (.seq (.reg r64_1) (.seq (.seq (.reg r64_2) (.cond (.t 10) (.seq (.reg r64_3) .ret) .skip)) (.seq (.reg r64_4) .ret))))
theorem i_laws_szRec_ok : (Try.f64.body.bind fun c => toIC Try.prog 12 c []) = some (i_laws_szRec, []) := by kernel_rfl
theorem i_laws_szRec_fn {ds rs : List D} (hle : ds.length ≤ 12) (h : AW Try.prog 12 i_laws_szRec (Ends [.tmp 4] rs) (init ds)) : Fn Try.prog k_laws_szRec (lent ds) true rs :=
  Fn.intro' (by kernel_rfl) Try.func64 (by kernel_rfl) i_laws_szRec_ok (by kernel_rfl) hle h.h
abbrev r30_0 : List RO := [ro (.mov 4 (c6 0))]
abbrev r30_1 : List RO := [rM 6 1, rM 7 0, ro (.len 8 false (.t 7)), ro (.bin 9 .sub (.t 6) (.t 8)), rM 1 9]
abbrev r30_2 : List RO := [rM 10 1, ro (.bin 11 .lss (.t 10) (c6 0))]
abbrev r30_3 : List RO := [ro (.mov 4 (c6 (-1)))]
abbrev r30_4 : List RO := [ro (.mov 5 (c6 0))]
abbrev r30_5 : List RO := [rM 12 5, rM 13 0, ro (.len 14 false (.t 13)), ro (.bin 15 .lss (.t 12) (.t 14))]
abbrev r30_6 : List RO := [rM 18 0, rM 19 5, ro (.iaddr 20 5 (.t 18) (.t 19)), ro (.load 21 (some 5) (.t 20)), rM 22 1, ro (.callv 23 (.c (.one (.fn k_laws_szRec []))) [(.t 21), (.t 22)]), rM 1 23]
abbrev r30_7 : List RO := [rM 24 1, ro (.bin 25 .lss (.t 24) (c6 0))]
abbrev r30_8 : List RO := [ro (.mov 4 (c6 (-1)))]
abbrev r30_9 : List RO := [rM 16 5, ro (.bin 17 .add (.t 16) (c6 1)), rM 5 17]
abbrev r30_10 : List RO := [rM 26 1, rM 4 26]
def i_laws_szRecS : IC := (.seq (.reg r30_0) (.seq (.reg r30_1) (.seq (.seq (.reg r30_2) (.cond (.t 11) (.seq (.reg r30_3) .ret) .skip)) (.seq (.seq (.reg r30_4) (.block 0 (.loop (.seq (.seq (.reg r30_5) (.cond (.t 15) .skip (.exit 0))) (.seq (.block 1 (.seq (.reg r30_6) (.seq (.reg r30_7) (.cond (.t 25) (.seq (.reg r30_8) .ret) .skip)))) (.reg r30_9)))))) (.seq (.reg r30_10) .ret)))))
theorem i_laws_szRecS_ok : (Try.f30.body.bind fun c => toIC Try.prog 27 c []) = some (i_laws_szRecS, []) := by kernel_rfl
theorem i_laws_szRecS_fn {ds rs : List D} (hle : ds.length ≤ 27) (h : AW Try.prog 27 i_laws_szRecS (Ends [.tmp 4] rs) (init ds)) : Fn Try.prog k_laws_szRecS (lent ds) true rs :=
  Fn.intro' (by kernel_rfl) Try.func30 (by kernel_rfl) i_laws_szRecS_ok (by kernel_rfl) hle h.h
abbrev r31_0 : List RO := [ro (.mov 4 (c6 0))]
abbrev r31_1 : List RO := [rM 5 1, rM 6 0, ro (.len 7 false (.t 6)), ro (.bin 8 .sub (.t 5) (.t 7)), rM 1 8]
abbrev r31_2 : List RO := [rM 9 1, ro (.bin 10 .lss (.t 9) (c6 0))]
abbrev r31_3 : List RO := [ro (.mov 4 (c6 (-1)))]
abbrev r31_4 : List RO := [rM 11 1, rM 4 11]
def i_laws_szIntS : IC := (.seq (.reg r31_0) (.seq (.reg r31_1) (.seq (.seq (.reg r31_2) (.cond (.t 10) (.seq (.reg r31_3) .ret) .skip)) (.seq (.reg r31_4) .ret))))
theorem i_laws_szIntS_ok : (Try.f31.body.bind fun c => toIC Try.prog 12 c []) = some (i_laws_szIntS, []) := by kernel_rfl
theorem i_laws_szIntS_fn {ds rs : List D} (hle : ds.length ≤ 12) (h : AW Try.prog 12 i_laws_szIntS (Ends [.tmp 4] rs) (init ds)) : Fn Try.prog k_laws_szIntS (lent ds) true rs :=
  Fn.intro' (by kernel_rfl) Try.func31 (by kernel_rfl) i_laws_szIntS_ok (by kernel_rfl) hle h.h
abbrev r8_0 : List RO := [ro (.box 2 (.t 0)), ro (.mov 4 (c6 0))]
abbrev r8_1 : List RO := [rF 5 0 2, rL 6 5, rM 7 1, ro (.callv 8 (.c (.one (.fn k_laws_szRecS []))) [(.t 6), (.t 7)]), rM 1 8]
abbrev r8_2 : List RO := [rM 9 1, ro (.bin 10 .lss (.t 9) (c6 0))]
abbrev r8_3 : List RO := [ro (.mov 4 (c6 (-1)))]
abbrev r8_4 : List RO := [rF 11 1 2, rL 12 11, rM 13 1, ro (.callv 14 (.c (.one (.fn k_laws_szIntS []))) [(.t 12), (.t 13)]), rM 1 14]
abbrev r8_5 : List RO := [rM 15 1, ro (.bin 16 .lss (.t 15) (c6 0))]
abbrev r8_6 : List RO := [ro (.mov 4 (c6 (-1)))]
abbrev r8_7 : List RO := [rM 17 1, rM 4 17]
def i_laws_szCoord : IC := (.seq (.reg r8_0) (.seq (.reg r8_1) (.seq (.seq (.reg r8_2) (.cond (.t 10) (.seq (.reg r8_3) .ret) .skip)) (.seq (.reg r8_4) (.seq (.seq (.reg r8_5) (.cond (.t 16) (.seq (.reg r8_6) .ret) .skip)) (.seq (.reg r8_7) .ret))))))
theorem i_laws_szCoord_ok : (Try.f8.body.bind fun c => toIC Try.prog 18 c []) = some (i_laws_szCoord, []) := by kernel_rfl
theorem i_laws_szCoord_fn {ds rs : List D} (hle : ds.length ≤ 18) (h : AW Try.prog 18 i_laws_szCoord (Ends [.tmp 4] rs) (init ds)) : Fn Try.prog k_laws_szCoord (lent ds) true rs :=
  Fn.intro' (by kernel_rfl) Try.func8 (by kernel_rfl) i_laws_szCoord_ok (by kernel_rfl) hle h.h
abbrev r97_0 : List RO := [ro (.box 1 (.t 0)), ro (.var 2 [(dI 0), (dI 0)])]
abbrev r97_1 : List RO := [ro (.var 3 [(dI 0), (dI 0)])]
abbrev r97_2 : List RO := [rF 4 0 1, rL 5 4, rF 6 0 3, ro (.store 1 [(.int .i64 0)] (.t 6) (.t 5))]
abbrev r97_3 : List RO := [rF 7 1 1, rL 8 7, rF 9 1 3, ro (.store 1 [(.int .i64 0)] (.t 9) (.t 8))]
abbrev r97_4 : List RO := [ro (.load 10 (some 2) (.t 3)), ro (.store 2 [(.int .i64 0), (.int .i64 0)] (.t 2) (.t 10))]
def i_laws_toRange : IC := (.seq (.reg r97_0) (.seq (.reg r97_1) (.seq (.reg r97_2) (.seq (.reg r97_3) (.seq (.reg r97_4) .ret)))))
theorem i_laws_toRange_ok : (Try.f97.body.bind fun c => toIC Try.prog 11 c []) = some (i_laws_toRange, []) := by kernel_rfl
theorem i_laws_toRange_fn {ds rs : List D} (hle : ds.length ≤ 11) (h : AW Try.prog 11 i_laws_toRange (Ends [.cell 2 (some 2)] rs) (init ds)) : Fn Try.prog k_laws_toRange (lent ds) true rs :=
  Fn.intro' (by kernel_rfl) Try.func97 (by kernel_rfl) i_laws_toRange_ok (by kernel_rfl) hle h.h
abbrev r80_0 : List RO := [ro (.mov 2 (.c (.one .zs)))]
abbrev r80_1 : List RO := [rM 5 0, ro (.len 6 false (.t 5)), ro (.mksl 7 2 16 [(.int .i64 0), (.int .i64 0)] (.t 6) (.t 6)), rM 3 7]
abbrev r80_2 : List RO := [ro (.mov 4 (c6 0))]
abbrev r80_3 : List RO := [rM 8 4, rM 9 0, ro (.len 10 false (.t 9)), ro (.bin 11 .lss (.t 8) (.t 10))]
abbrev r80_4 : List RO := [rM 14 3, rM 15 4, rM 16 0, rM 17 4, ro (.iaddr 18 2 (.t 16) (.t 17)), ro (.load 19 (some 2) (.t 18)), ro (.callv 20 (.c (.one (.fn k_laws_toRange []))) [(.t 19)]), ro (.iaddr 21 2 (.t 14) (.t 15)), ro (.store 2 [(.int .i64 0), (.int .i64 0)] (.t 21) (.t 20))]
abbrev r80_5 : List RO := [rM 12 4, ro (.bin 13 .add (.t 12) (c6 1)), rM 4 13]
abbrev r80_6 : List RO := [rM 22 3, rM 2 22]
def i_laws_toRangeS : IC := (.seq (.reg r80_0) (.seq (.reg r80_1) (.seq (.seq (.reg r80_2) (.block 0 (.loop (.seq (.seq (.reg r80_3) (.cond (.t 11) .skip (.exit 0))) (.seq (.block 1 (.reg r80_4)) (.reg r80_5)))))) (.seq (.reg r80_6) .ret))))
theorem i_laws_toRangeS_ok : (Try.f80.body.bind fun c => toIC Try.prog 23 c []) = some (i_laws_toRangeS, []) := by kernel_rfl
theorem i_laws_toRangeS_fn {ds rs : List D} (hle : ds.length ≤ 23) (h : AW Try.prog 23 i_laws_toRangeS (Ends [.tmp 2] rs) (init ds)) : Fn Try.prog k_laws_toRangeS (lent ds) true rs :=
  Fn.intro' (by kernel_rfl) Try.func80 (by kernel_rfl) i_laws_toRangeS_ok (by kernel_rfl) hle h.h
abbrev r98_0 : List RO := [ro (.box 1 (.t 0)), ro (.var 2 [(dI 0), (dI 0)])]
abbrev r98_1 : List RO := [ro (.var 3 [(dI 0), (dI 0)])]
abbrev r98_2 : List RO := [rF 4 0 1, rL 5 4, rF 6 0 3, ro (.store 1 [(.int .i64 0)] (.t 6) (.t 5))]
abbrev r98_3 : List RO := [rF 7 1 1, rL 8 7, rF 9 1 3, ro (.store 1 [(.int .i64 0)] (.t 9) (.t 8))]
abbrev r98_4 : List RO := [ro (.load 10 (some 2) (.t 3)), ro (.store 2 [(.int .i64 0), (.int .i64 0)] (.t 2) (.t 10))]
def i_laws_toWrite : IC := (.seq (.reg r98_0) (.seq (.reg r98_1) (.seq (.reg r98_2) (.seq (.reg r98_3) (.seq (.reg r98_4) .ret)))))
theorem i_laws_toWrite_ok : (Try.f98.body.bind fun c => toIC Try.prog 11 c []) = some (i_laws_toWrite, []) := by kernel_rfl
theorem i_laws_toWrite_fn {ds rs : List D} (hle : ds.length ≤ 11) (h : AW Try.prog 11 i_laws_toWrite (Ends [.cell 2 (some 2)] rs) (init ds)) : Fn Try.prog k_laws_toWrite (lent ds) true rs :=
  Fn.intro' (by kernel_rfl) Try.func98 (by kernel_rfl) i_laws_toWrite_ok (by kernel_rfl) hle h.h
abbrev r81_0 : List RO := [ro (.mov 2 (.c (.one .zs)))]
abbrev r81_1 : List RO := [rM 5 0, ro (.len 6 false (.t 5)), ro (.mksl 7 2 16 [(.int .i64 0), (.int .i64 0)] (.t 6) (.t 6)), rM 3 7]
abbrev r81_2 : List RO := [ro (.mov 4 (c6 0))]
abbrev r81_3 : List RO := [rM 8 4, rM 9 0, ro (.len 10 false (.t 9)), ro (.bin 11 .lss (.t 8) (.t 10))]
abbrev r81_4 : List RO := [rM 14 3, rM 15 4, rM 16 0, rM 17 4, ro (.iaddr 18 2 (.t 16) (.t 17)), ro (.load 19 (some 2) (.t 18)), ro (.callv 20 (.c (.one (.fn k_laws_toWrite []))) [(.t 19)]), ro (.iaddr 21 2 (.t 14) (.t 15)), ro (.store 2 [(.int .i64 0), (.int .i64 0)] (.t 21) (.t 20))]
abbrev r81_5 : List RO := [rM 12 4, ro (.bin 13 .add (.t 12) (c6 1)), rM 4 13]
abbrev r81_6 : List RO := [rM 22 3, rM 2 22]
def i_laws_toWriteS : IC := (.seq (.reg r81_0) (.seq (.reg r81_1) (.seq (.seq (.reg r81_2) (.block 0 (.loop (.seq (.seq (.reg r81_3) (.cond (.t 11) .skip (.exit 0))) (.seq (.block 1 (.reg r81_4)) (.reg r81_5)))))) (.seq (.reg r81_6) .ret))))
theorem i_laws_toWriteS_ok : (Try.f81.body.bind fun c => toIC Try.prog 23 c []) = some (i_laws_toWriteS, []) := by kernel_rfl
theorem i_laws_toWriteS_fn {ds rs : List D} (hle : ds.length ≤ 23) (h : AW Try.prog 23 i_laws_toWriteS (Ends [.tmp 2] rs) (init ds)) : Fn Try.prog k_laws_toWriteS (lent ds) true rs :=
  Fn.intro' (by kernel_rfl) Try.func81 (by kernel_rfl) i_laws_toWriteS_ok (by kernel_rfl) hle h.h
abbrev r50_0 : List RO := [ro (.box 1 (.t 0)), ro (.var 2 [(dI 0), .zs, .zs, (dI 0)])]
abbrev r50_1 : List RO := [ro (.var 3 [(dI 0), .zs, .zs, (dI 0)])]
abbrev r50_2 : List RO := [rF 4 0 1, rL 5 4, rF 6 0 3, ro (.store 1 [(.int .i64 0)] (.t 6) (.t 5))]
abbrev r50_3 : List RO := [rF 7 1 1, rL 8 7, ro (.callv 9 (.c (.one (.fn k_laws_toRangeS []))) [(.t 8)]), rF 10 1 3, ro (.store 1 [(.sl 2 [])] (.t 10) (.t 9))]
abbrev r50_4 : List RO := [rF 11 2 1, rL 12 11, ro (.callv 13 (.c (.one (.fn k_laws_toWriteS []))) [(.t 12)]), rF 14 2 3, ro (.store 1 [(.sl 2 [])] (.t 14) (.t 13))]
abbrev r50_5 : List RO := [rF 15 3 1, rL 16 15, rF 17 3 3, ro (.store 1 [(.int .i64 0)] (.t 17) (.t 16))]
abbrev r50_6 : List RO := [ro (.load 18 (some 4) (.t 3)), ro (.store 4 [(.int .i64 0), (.sl 2 []), (.sl 2 []), (.int .i64 0)] (.t 2) (.t 18))]
def i_laws_toShare : IC := (.seq (.reg r50_0) (.seq (.reg r50_1) (.seq (.reg r50_2) (.seq (.reg r50_3) (.seq (.reg r50_4) (.seq (.reg r50_5) (.seq (.reg r50_6) .ret)))))))
theorem i_laws_toShare_ok : (Try.f50.body.bind fun c => toIC Try.prog 19 c []) = some (i_laws_toShare, []) := by kernel_rfl
theorem i_laws_toShare_fn {ds rs : List D} (hle : ds.length ≤ 19) (h : AW Try.prog 19 i_laws_toShare (Ends [.cell 2 (some 4)] rs) (init ds)) : Fn Try.prog k_laws_toShare (lent ds) true rs :=
  Fn.intro' (by kernel_rfl) Try.func50 (by kernel_rfl) i_laws_toShare_ok (by kernel_rfl) hle h.h
abbrev r22_0 : List RO := [ro (.mov 2 (.c (.one .zs)))]
abbrev r22_1 : List RO := [rM 5 0, ro (.len 6 false (.t 5)), ro (.mksl 7 4 64 [(.int .i64 0), (.sl 2 []), (.sl 2 []), (.int .i64 0)] (.t 6) (.t 6)), rM 3 7]
abbrev r22_2 : List RO := [ro (.mov 4 (c6 0))]
abbrev r22_3 : List RO := [rM 8 4, rM 9 0, ro (.len 10 false (.t 9)), ro (.bin 11 .lss (.t 8) (.t 10))]
abbrev r22_4 : List RO := [rM 14 3, rM 15 4, rM 16 0, rM 17 4, ro (.iaddr 18 4 (.t 16) (.t 17)), ro (.load 19 (some 4) (.t 18)), ro (.callv 20 (.c (.one (.fn k_laws_toShare []))) [(.t 19)]), ro (.iaddr 21 4 (.t 14) (.t 15)), ro (.store 4 [(.int .i64 0), (.sl 2 []), (.sl 2 []), (.int .i64 0)] (.t 21) (.t 20))]
abbrev r22_5 : List RO := [rM 12 4, ro (.bin 13 .add (.t 12) (c6 1)), rM 4 13]
abbrev r22_6 : List RO := [rM 22 3, rM 2 22]
def i_laws_toShareS : IC := (.seq (.reg r22_0) (.seq (.reg r22_1) (.seq (.seq (.reg r22_2) (.block 0 (.loop (.seq (.seq (.reg r22_3) (.cond (.t 11) .skip (.exit 0))) (.seq (.block 1 (.reg r22_4)) (.reg r22_5)))))) (.seq (.reg r22_6) .ret))))
theorem i_laws_toShareS_ok : (Try.f22.body.bind fun c => toIC Try.prog 23 c []) = some (i_laws_toShareS, []) := by kernel_rfl
theorem i_laws_toShareS_fn {ds rs : List D} (hle : ds.length ≤ 23) (h : AW Try.prog 23 i_laws_toShareS (Ends [.tmp 2] rs) (init ds)) : Fn Try.prog k_laws_toShareS (lent ds) true rs :=
  Fn.intro' (by kernel_rfl) Try.func22 (by kernel_rfl) i_laws_toShareS_ok (by kernel_rfl) hle h.h
abbrev r65_0 : List RO := [ro (.box 1 (.t 0)), ro (.var 2 [(dI 0), (dI 0), (dI 0), (dI 0), .zs])]
abbrev r65_1 : List RO := [ro (.var 3 [(dI 0), (dI 0), (dI 0), (dI 0), .zs])]
abbrev r65_2 : List RO := [rF 4 0 1, rL 5 4, rF 6 0 3, ro (.store 1 [(.int .i64 0)] (.t 6) (.t 5))]
abbrev r65_3 : List RO := [rF 7 1 1, rL 8 7, rF 9 1 3, ro (.store 1 [(.int .i64 0)] (.t 9) (.t 8))]
abbrev r65_4 : List RO := [rF 10 2 1, rL 11 10, rF 12 2 3, ro (.store 1 [(.int .i64 0)] (.t 12) (.t 11))]
abbrev r65_5 : List RO := [rF 13 3 1, rL 14 13, rF 15 3 3, ro (.store 1 [(.int .i64 0)] (.t 15) (.t 14))]
abbrev r65_6 : List RO := [rF 16 4 1, rL 17 16, ro (.callv 18 (.c (.one (.fn k_laws_toShareS []))) [(.t 17)]), rF 19 4 3, ro (.store 1 [(.sl 4 [])] (.t 19) (.t 18))]
abbrev r65_7 : List RO := [ro (.load 20 (some 5) (.t 3)), ro (.store 5 [(.int .i64 0), (.int .i64 0), (.int .i64 0), (.int .i64 0), (.sl 4 [])] (.t 2) (.t 20))]
def i_laws_toRec : IC := (.seq (.reg r65_0) (.seq (.reg r65_1) (.seq (.reg r65_2) (.seq (.reg r65_3) (.seq (.reg r65_4) (.seq (.reg r65_5) (.seq (.reg r65_6) (.seq (.reg r65_7) .ret))))))))
theorem i_laws_toRec_ok : (Try.f65.body.bind fun c => toIC Try.prog 21 c []) = some (i_laws_toRec, []) := by kernel_rfl
theorem i_laws_toRec_fn {ds rs : List D} (hle : ds.length ≤ 21) (h : AW Try.prog 21 i_laws_toRec (Ends [.cell 2 (some 5)] rs) (init ds)) : Fn Try.prog k_laws_toRec (lent ds) true rs :=
  Fn.intro' (by kernel_rfl) Try.func65 (by kernel_rfl) i_laws_toRec_ok (by kernel_rfl) hle h.h
abbrev r33_0 : List RO := [ro (.mov 2 (.c (.one .zs)))]
abbrev r33_1 : List RO := [rM 5 0, ro (.len 6 false (.t 5)), ro (.mksl 7 5 56 [(.int .i64 0), (.int .i64 0), (.int .i64 0), (.int .i64 0), (.sl 4 [])] (.t 6) (.t 6)), rM 3 7]
abbrev r33_2 : List RO := [ro (.mov 4 (c6 0))]
abbrev r33_3 : List RO := [rM 8 4, rM 9 0, ro (.len 10 false (.t 9)), ro (.bin 11 .lss (.t 8) (.t 10))]
abbrev r33_4 : List RO := [rM 14 3, rM 15 4, rM 16 0, rM 17 4, ro (.iaddr 18 5 (.t 16) (.t 17)), ro (.load 19 (some 5) (.t 18)), ro (.callv 20 (.c (.one (.fn k_laws_toRec []))) [(.t 19)]), ro (.iaddr 21 5 (.t 14) (.t 15)), ro (.store 5 [(.int .i64 0), (.int .i64 0), (.int .i64 0), (.int .i64 0), (.sl 4 [])] (.t 21) (.t 20))]
abbrev r33_5 : List RO := [rM 12 4, ro (.bin 13 .add (.t 12) (c6 1)), rM 4 13]
abbrev r33_6 : List RO := [rM 22 3, rM 2 22]
def i_laws_toRecS : IC := (.seq (.reg r33_0) (.seq (.reg r33_1) (.seq (.seq (.reg r33_2) (.block 0 (.loop (.seq (.seq (.reg r33_3) (.cond (.t 11) .skip (.exit 0))) (.seq (.block 1 (.reg r33_4)) (.reg r33_5)))))) (.seq (.reg r33_6) .ret))))
theorem i_laws_toRecS_ok : (Try.f33.body.bind fun c => toIC Try.prog 23 c []) = some (i_laws_toRecS, []) := by kernel_rfl
theorem i_laws_toRecS_fn {ds rs : List D} (hle : ds.length ≤ 23) (h : AW Try.prog 23 i_laws_toRecS (Ends [.tmp 2] rs) (init ds)) : Fn Try.prog k_laws_toRecS (lent ds) true rs :=
  Fn.intro' (by kernel_rfl) Try.func33 (by kernel_rfl) i_laws_toRecS_ok (by kernel_rfl) hle h.h
abbrev r34_0 : List RO := [ro (.mov 2 (.c (.one .zs)))]
abbrev r34_1 : List RO := [rM 5 0, ro (.len 6 false (.t 5)), ro (.mksl 7 1 8 [(.int .i64 0)] (.t 6) (.t 6)), rM 3 7]
abbrev r34_2 : List RO := [ro (.mov 4 (c6 0))]
abbrev r34_3 : List RO := [rM 8 4, rM 9 0, ro (.len 10 false (.t 9)), ro (.bin 11 .lss (.t 8) (.t 10))]
abbrev r34_4 : List RO := [rM 14 3, rM 15 4, rM 16 0, rM 17 4, ro (.iaddr 18 1 (.t 16) (.t 17)), rL 19 18, ro (.iaddr 20 1 (.t 14) (.t 15)), ro (.store 1 [(.int .i64 0)] (.t 20) (.t 19))]
abbrev r34_5 : List RO := [rM 12 4, ro (.bin 13 .add (.t 12) (c6 1)), rM 4 13]
abbrev r34_6 : List RO := [rM 21 3, rM 2 21]
def i_laws_toIntS : IC := (.seq (.reg r34_0) (.seq (.reg r34_1) (.seq (.seq (.reg r34_2) (.block 0 (.loop (.seq (.seq (.reg r34_3) (.cond (.t 11) .skip (.exit 0))) (.seq (.block 1 (.reg r34_4)) (.reg r34_5)))))) (.seq (.reg r34_6) .ret))))
theorem i_laws_toIntS_ok : (Try.f34.body.bind fun c => toIC Try.prog 22 c []) = some (i_laws_toIntS, []) := by kernel_rfl
theorem i_laws_toIntS_fn {ds rs : List D} (hle : ds.length ≤ 22) (h : AW Try.prog 22 i_laws_toIntS (Ends [.tmp 2] rs) (init ds)) : Fn Try.prog k_laws_toIntS (lent ds) true rs :=
  Fn.intro' (by kernel_rfl) Try.func34 (by kernel_rfl) i_laws_toIntS_ok (by kernel_rfl) hle h.h
abbrev r10_0 : List RO := [ro (.box 1 (.t 0)), ro (.var 2 [.zs, .zs])]
abbrev r10_1 : List RO := [ro (.var 3 [.zs, .zs])]
abbrev r10_2 : List RO := [rF 4 0 1, rL 5 4, ro (.callv 6 (.c (.one (.fn k_laws_toRecS []))) [(.t 5)]), rF 7 0 3, ro (.store 1 [(.sl 5 [])] (.t 7) (.t 6))]
abbrev r10_3 : List RO := [rF 8 1 1, rL 9 8, ro (.callv 10 (.c (.one (.fn k_laws_toIntS []))) [(.t 9)]), rF 11 1 3, ro (.store 1 [(.sl 1 [])] (.t 11) (.t 10))]
abbrev r10_4 : List RO := [ro (.load 12 (some 2) (.t 3)), ro (.store 2 [(.sl 5 []), (.sl 1 [])] (.t 2) (.t 12))]
def i_laws_toCoord : IC := (.seq (.reg r10_0) (.seq (.reg r10_1) (.seq (.reg r10_2) (.seq (.reg r10_3) (.seq (.reg r10_4) .ret)))))
theorem i_laws_toCoord_ok : (Try.f10.body.bind fun c => toIC Try.prog 13 c []) = some (i_laws_toCoord, []) := by kernel_rfl
theorem i_laws_toCoord_fn {ds rs : List D} (hle : ds.length ≤ 13) (h : AW Try.prog 13 i_laws_toCoord (Ends [.cell 2 (some 2)] rs) (init ds)) : Fn Try.prog k_laws_toCoord (lent ds) true rs :=
  Fn.intro' (by kernel_rfl) Try.func10 (by kernel_rfl) i_laws_toCoord_ok (by kernel_rfl) hle h.h
abbrev r40_0 : List RO := [ro (.mov 6 (cB false))]
abbrev r40_1 : List RO := [rM 7 0, rM 8 1, ro (.bin 9 .geq (.t 7) (.t 8)), rM 10 9, rT 10 (.mov 11 (.t 0)), rT 10 (.mov 12 (.t 2)), rT 10 (.bin 13 .leq (.t 11) (.t 12)), ro (.pick 14 (.t 10) (.t 13) (cB false)), rM 6 14]
def i_spec_l1In : IC := (.seq (.reg r40_0) (.seq (.reg r40_1) .ret))
theorem i_spec_l1In_ok : (Try.f40.body.bind fun c => toIC Try.prog 15 c []) = some (i_spec_l1In, []) := by kernel_rfl
theorem i_spec_l1In_fn {ds rs : List D} (hle : ds.length ≤ 15) (h : AW Try.prog 15 i_spec_l1In (Ends [.tmp 6] rs) (init ds)) : Fn Try.prog k_spec_l1In (lent ds) true rs :=
  Fn.intro' (by kernel_rfl) Try.func40 (by kernel_rfl) i_spec_l1In_ok (by kernel_rfl) hle h.h
abbrev r57_0 : List RO := [ro (.mov 2 (cB false))]
abbrev r57_1 : List RO := [rM 3 0, ro (.callv 4 (.c (.one (.fn k_spec_l1In []))) [(.t 3), (c6 0), (c6 1000000000)]), rM 2 4]
def i_spec_l1Whole : IC := (.seq (.reg r57_0) (.seq (.reg r57_1) .ret))
theorem i_spec_l1Whole_ok : (Try.f57.body.bind fun c => toIC Try.prog 5 c []) = some (i_spec_l1Whole, []) := by kernel_rfl
theorem i_spec_l1Whole_fn {ds rs : List D} (hle : ds.length ≤ 5) (h : AW Try.prog 5 i_spec_l1Whole (Ends [.tmp 2] rs) (init ds)) : Fn Try.prog k_spec_l1Whole (lent ds) true rs :=
  Fn.intro' (by kernel_rfl) Try.func57 (by kernel_rfl) i_spec_l1Whole_ok (by kernel_rfl) hle h.h
abbrev r96_0 : List RO := [ro (.mov 2 (cB false))]
abbrev r96_1 : List RO := [rM 3 0, ro (.callv 4 (.c (.one (.fn k_spec_l1In []))) [(.t 3), (c6 0), (c6 999)]), rM 2 4]
def i_spec_l10Key : IC := (.seq (.reg r96_0) (.seq (.reg r96_1) .ret))
theorem i_spec_l10Key_ok : (Try.f96.body.bind fun c => toIC Try.prog 5 c []) = some (i_spec_l10Key, []) := by kernel_rfl
theorem i_spec_l10Key_fn {ds rs : List D} (hle : ds.length ≤ 5) (h : AW Try.prog 5 i_spec_l10Key (Ends [.tmp 2] rs) (init ds)) : Fn Try.prog k_spec_l10Key (lent ds) true rs :=
  Fn.intro' (by kernel_rfl) Try.func96 (by kernel_rfl) i_spec_l10Key_ok (by kernel_rfl) hle h.h
abbrev r78_0 : List RO := [ro (.mov 2 (cB false))]
abbrev r78_1 : List RO := [rM 4 0, ro (.len 5 false (.t 4)), ro (.bin 6 .gtr (.t 5) (c6 60))]
abbrev r78_2 : List RO := [ro (.mov 2 (cB false))]
abbrev r78_3 : List RO := [ro (.mov 3 (c6 0))]
abbrev r78_4 : List RO := [rM 7 3, rM 8 0, ro (.len 9 false (.t 8)), ro (.bin 10 .lss (.t 7) (.t 9))]
abbrev r78_5 : List RO := [rM 13 0, rM 14 3, ⟨⟨none, .iaddr 15 2 (.t 13) (.t 14)⟩, 3, []⟩, ⟨⟨none, .faddr 16 0 (.t 15)⟩, 7, []⟩, ⟨⟨none, .load 17 none (.t 16)⟩, 15, []⟩, ⟨⟨none, .callv 18 (.c (.one (.fn k_spec_l10Key []))) [(.t 17)]⟩, 31, []⟩, ⟨⟨none, .inv 19 (.t 18)⟩, 63, []⟩, ⟨⟨none, .mov 20 (.t 19)⟩, 127, []⟩, ⟨⟨some (20, false), .mov 21 (.t 0)⟩, 255, []⟩, ⟨⟨some (20, false), .mov 22 (.t 3)⟩, 255, []⟩, ⟨⟨some (20, false), .iaddr 23 2 (.t 21) (.t 22)⟩, 1023, []⟩, ⟨⟨some (20, false), .faddr 24 1 (.t 23)⟩, 2047, []⟩, ⟨⟨some (20, false), .load 25 none (.t 24)⟩, 4095, []⟩, ⟨⟨some (20, false), .callv 26 (.c (.one (.fn k_spec_l1In []))) [(.t 25), (c6 (-1)), (c6 1000000000)]⟩, 8191, []⟩, ⟨⟨some (20, false), .inv 27 (.t 26)⟩, 16383, []⟩, ⟨⟨none, .pick 28 (.t 20) (cB true) (.t 27)⟩, 32767, []⟩, ⟨⟨none, .mov 29 (.t 28)⟩, 65535, []⟩, ⟨⟨some (29, false), .mov 30 (.t 3)⟩, 131071, []⟩, ⟨⟨some (29, false), .bin 31 .gtr (.t 30) (c6 0)⟩, 262143, []⟩, ⟨⟨some (29, false), .mov 32 (.t 31)⟩, 524287, []⟩, ⟨⟨some (32, true), .mov 33 (.t 0)⟩, 1048575, []⟩, ⟨⟨some (32, true), .mov 34 (.t 3)⟩, 1048575, []⟩, ⟨⟨some (32, true), .bin 35 .sub (.t 34) (c6 1)⟩, 3145727, []⟩, ⟨⟨some (32, true), .iaddr 36 2 (.t 33) (.t 35)⟩, 8388607, []⟩, ⟨⟨some (32, true), .faddr 37 0 (.t 36)⟩, 16777215, []⟩, ⟨⟨some (32, true), .load 38 none (.t 37)⟩, 33554431, []⟩, ⟨⟨some (32, true), .mov 39 (.t 0)⟩, 1048575, []⟩, ⟨⟨some (32, true), .mov 40 (.t 3)⟩, 1048575, []⟩, ⟨⟨some (32, true), .iaddr 41 2 (.t 39) (.t 40)⟩, 202375167, []⟩, ⟨⟨some (32, true), .faddr 42 0 (.t 41)⟩, 470810623, []⟩, ⟨⟨some (32, true), .load 43 none (.t 42)⟩, 1007681535, []⟩, ⟨⟨some (32, true), .bin 44 .geq (.t 38) (.t 43)⟩, 2147483647, []⟩, ⟨⟨some (29, false), .pick 45 (.t 32) (.t 44) (cB false)⟩, 4294967295, []⟩, ⟨⟨none, .pick 46 (.t 29) (cB true) (.t 45)⟩, 8589934591, []⟩]
abbrev r78_6 : List RO := [ro (.mov 2 (cB false))]
abbrev r78_7 : List RO := [rM 11 3, ro (.bin 12 .add (.t 11) (c6 1)), rM 3 12]
abbrev r78_8 : List RO := [ro (.mov 2 (cB true))]
def i_spec_WritesOk : IC := (.seq (.reg r78_0) (.seq (.seq (.reg r78_1) (.cond (.t 6) (.seq (.reg r78_2) .ret) .skip)) (.seq (.seq (.reg r78_3) (.block 0 (.loop (.seq (.seq (.reg r78_4) (.cond (.t 10) .skip (.exit 0))) (.seq (.block 1 (.seq (.regd r78_5) (.cond (.t 46) (.seq (.reg r78_6) .ret) .skip))) (.reg r78_7)))))) (.seq (.reg r78_8) .ret))))
theorem i_spec_WritesOk_ok : (Try.f78.body.bind fun c => toIC Try.prog 47 c [[(0, []), (0, []), (3, []), (7, []), (15, []), (31, []), (63, []), (127, []), (255, []), (255, []), (1023, []), (2047, []), (4095, []), (8191, []), (16383, []), (32767, []), (65535, []), (131071, []), (262143, []), (524287, []), (1048575, []), (1048575, []), (3145727, []), (8388607, []), (16777215, []), (33554431, []), (1048575, []), (1048575, []), (202375167, []), (470810623, []), (1007681535, []), (2147483647, []), (4294967295, []), (8589934591, [])]]) = some (i_spec_WritesOk, []) := by kernel_rfl
theorem i_spec_WritesOk_fn {ds rs : List D} (hle : ds.length ≤ 47) (h : AW Try.prog 47 i_spec_WritesOk (Ends [.tmp 2] rs) (init ds)) : Fn Try.prog k_spec_WritesOk (lent ds) true rs :=
  Fn.intro' (by kernel_rfl) Try.func78 (by kernel_rfl) i_spec_WritesOk_ok (by kernel_rfl) hle h.h
abbrev r79_0 : List RO := [ro (.box 1 (.t 0)), ro (.mov 2 (cB false))]
abbrev r79_1 : List RO := [rF 3 0 1, rL 4 3, ro (.bin 5 .geq (.t 4) (c6 0)), rM 6 5, rT 6 (.faddr 7 0 (.t 1)), rT 6 (.load 8 none (.t 7)), rT 6 (.faddr 9 1 (.t 1)), rT 6 (.load 10 none (.t 9)), rT 6 (.bin 11 .lss (.t 8) (.t 10)), ro (.pick 12 (.t 6) (.t 11) (cB false)), rM 13 12, rT 13 (.faddr 14 1 (.t 1)), rT 13 (.load 15 none (.t 14)), rT 13 (.bin 16 .leq (.t 15) (c6 1000)), ro (.pick 17 (.t 13) (.t 16) (cB false)), rM 2 17]
def i_spec_RangeOk : IC := (.seq (.reg r79_0) (.seq (.reg r79_1) .ret))
theorem i_spec_RangeOk_ok : (Try.f79.body.bind fun c => toIC Try.prog 18 c []) = some (i_spec_RangeOk, []) := by kernel_rfl
theorem i_spec_RangeOk_fn {ds rs : List D} (hle : ds.length ≤ 18) (h : AW Try.prog 18 i_spec_RangeOk (Ends [.tmp 2] rs) (init ds)) : Fn Try.prog k_spec_RangeOk (lent ds) true rs :=
  Fn.intro' (by kernel_rfl) Try.func79 (by kernel_rfl) i_spec_RangeOk_ok (by kernel_rfl) hle h.h
abbrev r47_0 : List RO := [ro (.mov 2 (cB false))]
abbrev r47_1 : List RO := [rM 6 0, ro (.len 7 false (.t 6)), ro (.bin 8 .gtr (.t 7) (c6 4))]
abbrev r47_2 : List RO := [ro (.mov 2 (cB false))]
abbrev r47_3 : List RO := [ro (.mov 3 (c6 0))]
abbrev r47_4 : List RO := [rM 9 3, rM 10 0, ro (.len 11 false (.t 10)), ro (.bin 12 .lss (.t 9) (.t 11))]
abbrev r47_5 : List RO := [rM 15 0, rM 16 3, ro (.iaddr 17 4 (.t 15) (.t 16)), ro (.load 18 (some 4) (.t 17)), ro (.var 4 [(dI 0), .zs, .zs, (dI 0)]), ro (.store 4 [(.int .i64 0), (.sl 2 []), (.sl 2 []), (.int .i64 0)] (.t 4) (.t 18))]
abbrev r47_6 : List RO := [rF 19 0 4, ⟨⟨none, .load 20 none (.t 19)⟩, 1, []⟩, ⟨⟨none, .callv 21 (.c (.one (.fn k_spec_l1In []))) [(.t 20), (c6 0), (c6 3)]⟩, 3, []⟩, ⟨⟨none, .inv 22 (.t 21)⟩, 7, []⟩, ⟨⟨none, .mov 23 (.t 22)⟩, 15, []⟩, ⟨⟨some (23, false), .mov 24 (.t 3)⟩, 31, []⟩, ⟨⟨some (23, false), .bin 25 .gtr (.t 24) (c6 0)⟩, 63, []⟩, ⟨⟨some (23, false), .mov 26 (.t 25)⟩, 127, []⟩, ⟨⟨some (26, true), .mov 27 (.t 0)⟩, 255, []⟩, ⟨⟨some (26, true), .mov 28 (.t 3)⟩, 255, []⟩, ⟨⟨some (26, true), .bin 29 .sub (.t 28) (c6 1)⟩, 767, []⟩, ⟨⟨some (26, true), .iaddr 30 4 (.t 27) (.t 29)⟩, 2047, []⟩, ⟨⟨some (26, true), .faddr 31 0 (.t 30)⟩, 4095, []⟩, ⟨⟨some (26, true), .load 32 none (.t 31)⟩, 8191, []⟩, ⟨⟨some (26, true), .faddr 33 0 (.t 4)⟩, 255, []⟩, ⟨⟨some (26, true), .load 34 none (.t 33)⟩, 16639, []⟩, ⟨⟨some (26, true), .bin 35 .geq (.t 32) (.t 34)⟩, 65535, []⟩, ⟨⟨some (23, false), .pick 36 (.t 26) (.t 35) (cB false)⟩, 131071, []⟩, ⟨⟨none, .pick 37 (.t 23) (cB true) (.t 36)⟩, 262143, []⟩, ⟨⟨none, .mov 38 (.t 37)⟩, 524287, []⟩, ⟨⟨some (38, false), .faddr 39 1 (.t 4)⟩, 1048575, []⟩, ⟨⟨some (38, false), .load 40 none (.t 39)⟩, 2097151, []⟩, ⟨⟨some (38, false), .len 41 false (.t 40)⟩, 4194303, []⟩, ⟨⟨some (38, false), .bin 42 .gtr (.t 41) (c6 16)⟩, 8388607, []⟩, ⟨⟨none, .pick 43 (.t 38) (cB true) (.t 42)⟩, 16777215, []⟩, ⟨⟨none, .mov 44 (.t 43)⟩, 33554431, []⟩, ⟨⟨some (44, false), .faddr 45 2 (.t 4)⟩, 67108863, []⟩, ⟨⟨some (44, false), .load 46 none (.t 45)⟩, 134217727, []⟩, ⟨⟨some (44, false), .callv 47 (.c (.one (.fn k_spec_WritesOk []))) [(.t 46)]⟩, 268435455, []⟩, ⟨⟨some (44, false), .inv 48 (.t 47)⟩, 536870911, []⟩, ⟨⟨none, .pick 49 (.t 44) (cB true) (.t 48)⟩, 1073741823, []⟩, ⟨⟨none, .mov 50 (.t 49)⟩, 2147483647, []⟩, ⟨⟨some (50, false), .faddr 51 3 (.t 4)⟩, 4294967295, []⟩, ⟨⟨some (50, false), .load 52 none (.t 51)⟩, 8589934591, []⟩, ⟨⟨some (50, false), .callv 53 (.c (.one (.fn k_spec_l1In []))) [(.t 52), (c6 0), (c6 2)]⟩, 17179869183, []⟩, ⟨⟨some (50, false), .inv 54 (.t 53)⟩, 34359738367, []⟩, ⟨⟨none, .pick 55 (.t 50) (cB true) (.t 54)⟩, 68719476735, []⟩]
abbrev r47_7 : List RO := [ro (.mov 2 (cB false))]
abbrev r47_8 : List RO := [ro (.mov 5 (c6 0))]
abbrev r47_9 : List RO := [rM 56 5, rF 57 1 4, rL 58 57, ro (.len 59 false (.t 58)), ro (.bin 60 .lss (.t 56) (.t 59))]
abbrev r47_10 : List RO := [rF 63 1 4, rL 64 63, rM 65 5, ro (.iaddr 66 2 (.t 64) (.t 65)), ro (.load 67 (some 2) (.t 66)), ro (.callv 68 (.c (.one (.fn k_spec_RangeOk []))) [(.t 67)]), ro (.inv 69 (.t 68))]
abbrev r47_11 : List RO := [ro (.mov 2 (cB false))]
abbrev r47_12 : List RO := [rM 61 5, ro (.bin 62 .add (.t 61) (c6 1)), rM 5 62]
abbrev r47_13 : List RO := [rM 13 3, ro (.bin 14 .add (.t 13) (c6 1)), rM 3 14]
abbrev r47_14 : List RO := [ro (.mov 2 (cB true))]
def i_spec_SharesOk : IC := (.seq (.reg r47_0) (.seq (.seq (.reg r47_1) (.cond (.t 8) (.seq (.reg r47_2) .ret) .skip)) (.seq (.seq (.reg r47_3) (.block 0 (.loop (.seq (.seq (.reg r47_4) (.cond (.t 12) .skip (.exit 0))) (.seq (.block 1 (.seq (.reg r47_5) (.seq (.seq (.regd r47_6) (.cond (.t 55) (.seq (.reg r47_7) .ret) .skip)) (.seq (.reg r47_8) (.block 2 (.loop (.seq (.seq (.reg r47_9) (.cond (.t 60) .skip (.exit 2))) (.seq (.block 3 (.seq (.reg r47_10) (.cond (.t 69) (.seq (.reg r47_11) .ret) .skip))) (.reg r47_12))))))))) (.reg r47_13)))))) (.seq (.reg r47_14) .ret))))
theorem i_spec_SharesOk_ok : (Try.f47.body.bind fun c => toIC Try.prog 70 c [[(0, []), (1, []), (3, []), (7, []), (15, []), (31, []), (63, []), (127, []), (255, []), (255, []), (767, []), (2047, []), (4095, []), (8191, []), (255, []), (16639, []), (65535, []), (131071, []), (262143, []), (524287, []), (1048575, []), (2097151, []), (4194303, []), (8388607, []), (16777215, []), (33554431, []), (67108863, []), (134217727, []), (268435455, []), (536870911, []), (1073741823, []), (2147483647, []), (4294967295, []), (8589934591, []), (17179869183, []), (34359738367, []), (68719476735, [])]]) = some (i_spec_SharesOk, []) := by kernel_rfl
theorem i_spec_SharesOk_fn {ds rs : List D} (hle : ds.length ≤ 70) (h : AW Try.prog 70 i_spec_SharesOk (Ends [.tmp 2] rs) (init ds)) : Fn Try.prog k_spec_SharesOk (lent ds) true rs :=
  Fn.intro' (by kernel_rfl) Try.func47 (by kernel_rfl) i_spec_SharesOk_ok (by kernel_rfl) hle h.h
abbrev r48_0 : List RO := [ro (.mov 4 (c6 0))]
abbrev r48_1 : List RO := [ro (.mov 5 (c6 0))]
abbrev r48_2 : List RO := [ro (.mov 6 (c6 0))]
abbrev r48_3 : List RO := [rM 7 6, rM 8 0, ro (.len 9 false (.t 8)), ro (.bin 10 .lss (.t 7) (.t 9))]
abbrev r48_4 : List RO := [rM 13 0, rM 14 6, ro (.iaddr 15 4 (.t 13) (.t 14)), rF 16 3 15, rL 17 16, rM 18 1, ro (.bin 19 .eql (.t 17) (.t 18))]
abbrev r48_5 : List RO := [rM 20 5, ro (.bin 21 .add (.t 20) (c6 1)), rM 5 21]
abbrev r48_6 : List RO := [rM 11 6, ro (.bin 12 .add (.t 11) (c6 1)), rM 6 12]
abbrev r48_7 : List RO := [rM 22 5, rM 4 22]
def i_spec_l14Votes : IC := (.seq (.reg r48_0) (.seq (.reg r48_1) (.seq (.seq (.reg r48_2) (.block 0 (.loop (.seq (.seq (.reg r48_3) (.cond (.t 10) .skip (.exit 0))) (.seq (.block 1 (.seq (.reg r48_4) (.cond (.t 19) (.reg r48_5) .skip))) (.reg r48_6)))))) (.seq (.reg r48_7) .ret))))
theorem i_spec_l14Votes_ok : (Try.f48.body.bind fun c => toIC Try.prog 23 c []) = some (i_spec_l14Votes, []) := by kernel_rfl
theorem i_spec_l14Votes_fn {ds rs : List D} (hle : ds.length ≤ 23) (h : AW Try.prog 23 i_spec_l14Votes (Ends [.tmp 4] rs) (init ds)) : Fn Try.prog k_spec_l14Votes (lent ds) true rs :=
  Fn.intro' (by kernel_rfl) Try.func48 (by kernel_rfl) i_spec_l14Votes_ok (by kernel_rfl) hle h.h
abbrev r67_0 : List RO := [ro (.box 1 (.t 0)), ro (.mov 2 (cB false))]
abbrev r67_1 : List RO := [rF 3 1 1, rL 4 3, ro (.callv 5 (.c (.one (.fn k_spec_l1Whole []))) [(.t 4)]), ro (.inv 6 (.t 5)), rM 7 6, rN 7 (.faddr 8 2 (.t 1)), rN 7 (.load 9 none (.t 8)), rN 7 (.callv 10 (.c (.one (.fn k_spec_l1In []))) [(.t 9), (c6 1), (c6 1000000000)]), rN 7 (.inv 11 (.t 10)), ro (.pick 12 (.t 7) (cB true) (.t 11)), rM 13 12, rN 13 (.faddr 14 4 (.t 1)), rN 13 (.load 15 none (.t 14)), rN 13 (.callv 16 (.c (.one (.fn k_spec_SharesOk []))) [(.t 15)]), rN 13 (.inv 17 (.t 16)), ro (.pick 18 (.t 13) (cB true) (.t 17))]
abbrev r67_2 : List RO := [ro (.mov 2 (cB false))]
abbrev r67_3 : List RO := [rF 19 3 1, rL 20 19]
abbrev r67_4 : List RO := [ro (.bin 22 .eql (.t 20) (c6 1)), rM 21 22]
abbrev r67_5 : List RO := [rF 23 4 1, rL 24 23, ro (.len 25 false (.t 24)), ro (.bin 26 .eql (.t 25) (c6 0)), rM 2 26]
abbrev r67_6 : List RO := [ro (.bin 28 .eql (.t 20) (c6 2)), rM 27 28]
abbrev r67_7 : List RO := [rF 29 4 1, rL 30 29, ro (.callv 31 (.c (.one (.fn k_spec_l14Votes []))) [(.t 30), (c6 0)]), ro (.bin 32 .gtr (.t 31) (c6 0)), rM 33 32, rT 33 (.faddr 34 4 (.t 1)), rT 33 (.load 35 none (.t 34)), rT 33 (.callv 36 (.c (.one (.fn k_spec_l14Votes []))) [(.t 35), (c6 2)]), rT 33 (.bin 37 .eql (.t 36) (c6 0)), ro (.pick 38 (.t 33) (.t 37) (cB false)), rM 2 38]
abbrev r67_8 : List RO := [ro (.bin 40 .eql (.t 20) (c6 3)), rM 39 40]
abbrev r67_9 : List RO := [rF 41 4 1, ⟨⟨none, .load 42 none (.t 41)⟩, 1, []⟩, ⟨⟨none, .callv 43 (.c (.one (.fn k_spec_l14Votes []))) [(.t 42), (c6 1)]⟩, 3, []⟩, rF 44 4 1, ⟨⟨none, .load 45 none (.t 44)⟩, 8, [43]⟩, ⟨⟨none, .len 46 false (.t 45)⟩, 24, []⟩, ⟨⟨none, .bin 47 .eql (.t 43) (.t 46)⟩, 63, []⟩, ⟨⟨none, .mov 2 (.t 47)⟩, 127, []⟩]
abbrev r67_10 : List RO := [rF 48 3 1, rL 49 48, ro (.bin 50 .eql (.t 49) (c6 4)), rM 2 50]
def i_spec_l14RecOk : IC := (.seq (.reg r67_0) (.seq (.seq (.reg r67_1) (.cond (.t 18) (.seq (.reg r67_2) .ret) .skip)) (.seq (.seq (.reg r67_3) (.block 0 (.seq (.reg r67_4) (.cond (.t 21) (.seq (.reg r67_5) .ret) (.seq (.reg r67_6) (.cond (.t 27) (.seq (.reg r67_7) .ret) (.seq (.reg r67_8) (.cond (.t 39) (.seq (.regd r67_9) .ret) .skip)))))))) (.seq (.reg r67_10) .ret))))
theorem i_spec_l14RecOk_ok : (Try.f67.body.bind fun c => toIC Try.prog 51 c [[(0, []), (1, []), (3, []), (0, []), (8, [43]), (24, []), (63, []), (127, [])]]) = some (i_spec_l14RecOk, []) := by kernel_rfl
theorem i_spec_l14RecOk_fn {ds rs : List D} (hle : ds.length ≤ 51) (h : AW Try.prog 51 i_spec_l14RecOk (Ends [.tmp 2] rs) (init ds)) : Fn Try.prog k_spec_l14RecOk (lent ds) true rs :=
  Fn.intro' (by kernel_rfl) Try.func67 (by kernel_rfl) i_spec_l14RecOk_ok (by kernel_rfl) hle h.h
abbrev r68_0 : List RO := [ro (.mov 4 (cB false))]
abbrev r68_1 : List RO := [ro (.mov 5 (c6 0))]
abbrev r68_2 : List RO := [rM 6 5, rM 7 0, ro (.len 8 false (.t 7)), ro (.bin 9 .lss (.t 6) (.t 8))]
abbrev r68_3 : List RO := [rM 12 0, rM 13 5, ro (.iaddr 14 1 (.t 12) (.t 13)), rL 15 14, rM 16 1, ro (.bin 17 .eql (.t 15) (.t 16))]
abbrev r68_4 : List RO := [ro (.mov 4 (cB true))]
abbrev r68_5 : List RO := [rM 10 5, ro (.bin 11 .add (.t 10) (c6 1)), rM 5 11]
abbrev r68_6 : List RO := [ro (.mov 4 (cB false))]
def i_spec_l12Has : IC := (.seq (.reg r68_0) (.seq (.seq (.reg r68_1) (.block 0 (.loop (.seq (.seq (.reg r68_2) (.cond (.t 9) .skip (.exit 0))) (.seq (.block 1 (.seq (.reg r68_3) (.cond (.t 17) (.seq (.reg r68_4) .ret) .skip))) (.reg r68_5)))))) (.seq (.reg r68_6) .ret)))
theorem i_spec_l12Has_ok : (Try.f68.body.bind fun c => toIC Try.prog 18 c []) = some (i_spec_l12Has, []) := by kernel_rfl
theorem i_spec_l12Has_fn {ds rs : List D} (hle : ds.length ≤ 18) (h : AW Try.prog 18 i_spec_l12Has (Ends [.tmp 4] rs) (init ds)) : Fn Try.prog k_spec_l12Has (lent ds) true rs :=
  Fn.intro' (by kernel_rfl) Try.func68 (by kernel_rfl) i_spec_l12Has_ok (by kernel_rfl) hle h.h
abbrev r38_0 : List RO := [ro (.box 1 (.t 0)), ro (.mov 2 (cB false))]
abbrev r38_1 : List RO := [rF 9 0 1, rL 10 9, ro (.len 11 false (.t 10)), ro (.bin 12 .gtr (.t 11) (c6 60)), rM 13 12, rN 13 (.faddr 14 1 (.t 1)), rN 13 (.load 15 none (.t 14)), rN 13 (.len 16 false (.t 15)), rN 13 (.bin 17 .gtr (.t 16) (c6 60)), ro (.pick 18 (.t 13) (cB true) (.t 17))]
abbrev r38_2 : List RO := [ro (.mov 2 (cB false))]
abbrev r38_3 : List RO := [ro (.mov 3 (c6 0))]
abbrev r38_4 : List RO := [ro (.mov 4 (c6 0))]
abbrev r38_5 : List RO := [rM 19 4, rF 20 0 1, rL 21 20, ro (.len 22 false (.t 21)), ro (.bin 23 .lss (.t 19) (.t 22))]
abbrev r38_6 : List RO := [rF 26 0 1, rL 27 26, rM 28 4, ro (.iaddr 29 5 (.t 27) (.t 28)), ro (.load 30 (some 5) (.t 29)), ro (.var 5 [(dI 0), (dI 0), (dI 0), (dI 0), .zs]), ro (.store 5 [(.int .i64 0), (.int .i64 0), (.int .i64 0), (.int .i64 0), (.sl 4 [])] (.t 5) (.t 30))]
abbrev r38_7 : List RO := [rF 31 0 5, rL 32 31, rM 33 4, ro (.bin 34 .add (.t 33) (c6 1)), ro (.bin 35 .neq (.t 32) (.t 34)), rM 36 35, rN 36 (.load 37 (some 5) (.t 5)), rN 36 (.callv 38 (.c (.one (.fn k_spec_l14RecOk []))) [(.t 37)]), rN 36 (.inv 39 (.t 38)), ro (.pick 40 (.t 36) (cB true) (.t 39))]
abbrev r38_8 : List RO := [ro (.mov 2 (cB false))]
abbrev r38_9 : List RO := [ro (.mov 6 (c6 0))]
abbrev r38_10 : List RO := [rM 41 6, rM 42 4, ro (.bin 43 .lss (.t 41) (.t 42))]
abbrev r38_11 : List RO := [rF 46 0 1, ⟨⟨none, .load 47 none (.t 46)⟩, 1, []⟩, rM 48 6, ⟨⟨none, .iaddr 49 5 (.t 47) (.t 48)⟩, 7, []⟩, ⟨⟨none, .faddr 50 1 (.t 49)⟩, 15, []⟩, ⟨⟨none, .load 51 none (.t 50)⟩, 31, []⟩, rF 52 1 5, ⟨⟨none, .load 53 none (.t 52)⟩, 64, []⟩, ⟨⟨none, .bin 54 .eql (.t 51) (.t 53)⟩, 255, []⟩, ⟨⟨none, .mov 55 (.t 54)⟩, 511, []⟩, ⟨⟨some (55, true), .faddr 56 0 (.t 1)⟩, 1023, []⟩, ⟨⟨some (55, true), .load 57 none (.t 56)⟩, 2047, []⟩, ⟨⟨some (55, true), .mov 58 (.t 6)⟩, 1023, []⟩, ⟨⟨some (55, true), .iaddr 59 5 (.t 57) (.t 58)⟩, 8191, []⟩, ⟨⟨some (55, true), .faddr 60 2 (.t 59)⟩, 16383, []⟩, ⟨⟨some (55, true), .load 61 none (.t 60)⟩, 32767, []⟩, ⟨⟨some (55, true), .faddr 62 2 (.t 5)⟩, 1023, []⟩, ⟨⟨some (55, true), .load 63 none (.t 62)⟩, 66559, []⟩, ⟨⟨some (55, true), .bin 64 .eql (.t 61) (.t 63)⟩, 262143, []⟩, ⟨⟨none, .pick 65 (.t 55) (.t 64) (cB false)⟩, 524287, []⟩]
abbrev r38_12 : List RO := [ro (.mov 2 (cB false))]
abbrev r38_13 : List RO := [rM 44 6, ro (.bin 45 .add (.t 44) (c6 1)), rM 6 45]
abbrev r38_14 : List RO := [rF 66 3 5, rL 67 66, ro (.bin 68 .eql (.t 67) (c6 3))]
abbrev r38_15 : List RO := [rM 69 3, ro (.bin 70 .add (.t 69) (c6 1)), rM 3 70]
abbrev r38_16 : List RO := [rM 24 4, ro (.bin 25 .add (.t 24) (c6 1)), rM 4 25]
abbrev r38_17 : List RO := [ro (.mov 7 (c6 0))]
abbrev r38_18 : List RO := [rM 71 7, rF 72 1 1, rL 73 72, ro (.len 74 false (.t 73)), ro (.bin 75 .lss (.t 71) (.t 74))]
abbrev r38_19 : List RO := [rF 78 1 1, rL 79 78, rM 80 7, ro (.iaddr 81 1 (.t 79) (.t 80)), rL 82 81, rM 8 82]
abbrev r38_20 : List RO := [rM 83 8, rF 84 0 1, rL 85 84, ro (.len 86 false (.t 85)), ro (.callv 87 (.c (.one (.fn k_spec_l1In []))) [(.t 83), (c6 1), (.t 86)]), ro (.inv 88 (.t 87)), rM 89 88, rN 89 (.faddr 90 0 (.t 1)), rN 89 (.load 91 none (.t 90)), rN 89 (.mov 92 (.t 8)), rN 89 (.bin 93 .sub (.t 92) (c6 1)), rN 89 (.iaddr 94 5 (.t 91) (.t 93)), rN 89 (.faddr 95 3 (.t 94)), rN 89 (.load 96 none (.t 95)), rN 89 (.bin 97 .neq (.t 96) (c6 3)), ro (.pick 98 (.t 89) (cB true) (.t 97)), rM 99 98, rN 99 (.faddr 100 1 (.t 1)), rN 99 (.load 101 none (.t 100)), rN 99 (.mov 102 (.t 7)), rN 99 (.slice 103 1 (.t 101) none (some (.t 102)) none), rN 99 (.mov 104 (.t 8)), rN 99 (.callv 105 (.c (.one (.fn k_spec_l12Has []))) [(.t 103), (.t 104)]), ro (.pick 106 (.t 99) (cB true) (.t 105))]
abbrev r38_21 : List RO := [ro (.mov 2 (cB false))]
abbrev r38_22 : List RO := [rM 76 7, ro (.bin 77 .add (.t 76) (c6 1)), rM 7 77]
abbrev r38_23 : List RO := [rM 107 3, rF 108 1 1, rL 109 108, ro (.len 110 false (.t 109)), ro (.bin 111 .eql (.t 107) (.t 110)), rM 2 111]
def i_spec_CoordOk : IC := (.seq (.reg r38_0) (.seq (.seq (.reg r38_1) (.cond (.t 18) (.seq (.reg r38_2) .ret) .skip)) (.seq (.reg r38_3) (.seq (.seq (.reg r38_4) (.block 0 (.loop (.seq (.seq (.reg r38_5) (.cond (.t 23) .skip (.exit 0))) (.seq (.block 1 (.seq (.reg r38_6) (.seq (.seq (.reg r38_7) (.cond (.t 40) (.seq (.reg r38_8) .ret) .skip)) (.seq (.seq (.reg r38_9) (.block 2 (.loop (.seq (.seq (.reg r38_10) (.cond (.t 43) .skip (.exit 2))) (.seq (.block 3 (.seq (.regd r38_11) (.cond (.t 65) (.seq (.reg r38_12) .ret) .skip))) (.reg r38_13)))))) (.seq (.reg r38_14) (.cond (.t 68) (.reg r38_15) .skip)))))) (.reg r38_16)))))) (.seq (.seq (.reg r38_17) (.block 4 (.loop (.seq (.seq (.reg r38_18) (.cond (.t 75) .skip (.exit 4))) (.seq (.block 5 (.seq (.reg r38_19) (.seq (.reg r38_20) (.cond (.t 106) (.seq (.reg r38_21) .ret) .skip)))) (.reg r38_22)))))) (.seq (.reg r38_23) .ret))))))
theorem i_spec_CoordOk_ok : (Try.f38.body.bind fun c => toIC Try.prog 112 c [[(0, []), (1, []), (0, []), (7, []), (15, []), (31, []), (0, []), (64, []), (255, []), (511, []), (1023, []), (2047, []), (1023, []), (8191, []), (16383, []), (32767, []), (1023, []), (66559, []), (262143, []), (524287, [])]]) = some (i_spec_CoordOk, []) := by kernel_rfl
theorem i_spec_CoordOk_fn {ds rs : List D} (hle : ds.length ≤ 112) (h : AW Try.prog 112 i_spec_CoordOk (Ends [.tmp 2] rs) (init ds)) : Fn Try.prog k_spec_CoordOk (lent ds) true rs :=
  Fn.intro' (by kernel_rfl) Try.func38 (by kernel_rfl) i_spec_CoordOk_ok (by kernel_rfl) hle h.h
abbrev r49_0 : List RO := [ro (.mov 2 (.c (.one .zs)))]
abbrev r49_1 : List RO := [ro (.bslice 6 4 [] []), rM 3 6]
abbrev r49_2 : List RO := [ro (.mov 4 (c6 0))]
abbrev r49_3 : List RO := [rM 7 4, rM 8 0, ro (.len 9 false (.t 8)), ro (.bin 10 .lss (.t 7) (.t 9))]
abbrev r49_4 : List RO := [rM 13 0, rM 14 4, ro (.iaddr 15 4 (.t 13) (.t 14)), ro (.load 16 (some 4) (.t 15)), ro (.var 5 [(dI 0), .zs, .zs, (dI 0)]), ro (.store 4 [(.int .i64 0), (.sl 2 []), (.sl 2 []), (.int .i64 0)] (.t 5) (.t 16))]
abbrev r49_5 : List RO := [ro (.bslice 17 2 [] []), rF 18 1 5, rL 19 18, ro (.app 20 2 16 [(.int .i64 0), (.int .i64 0)] (.t 17) (.t 19)), rF 21 1 5, ro (.store 1 [(.sl 2 [])] (.t 21) (.t 20))]
abbrev r49_6 : List RO := [ro (.bslice 22 2 [] []), rF 23 2 5, rL 24 23, ro (.app 25 2 16 [(.int .i64 0), (.int .i64 0)] (.t 22) (.t 24)), rF 26 2 5, ro (.store 1 [(.sl 2 [])] (.t 26) (.t 25))]
abbrev r49_7 : List RO := [rM 27 3, ro (.load 28 (some 4) (.t 5)), ro (.bslice 29 4 [(dI 0), .zs, .zs, (dI 0)] [(0, 4, (.t 28))]), ro (.app 30 4 64 [(.int .i64 0), (.sl 2 []), (.sl 2 []), (.int .i64 0)] (.t 27) (.t 29)), rM 3 30]
abbrev r49_8 : List RO := [rM 11 4, ro (.bin 12 .add (.t 11) (c6 1)), rM 4 12]
abbrev r49_9 : List RO := [rM 31 3, rM 2 31]
def i_spec_l14Shares : IC := (.seq (.reg r49_0) (.seq (.reg r49_1) (.seq (.seq (.reg r49_2) (.block 0 (.loop (.seq (.seq (.reg r49_3) (.cond (.t 10) .skip (.exit 0))) (.seq (.block 1 (.seq (.reg r49_4) (.seq (.reg r49_5) (.seq (.reg r49_6) (.reg r49_7))))) (.reg r49_8)))))) (.seq (.reg r49_9) .ret))))
theorem i_spec_l14Shares_ok : (Try.f49.body.bind fun c => toIC Try.prog 32 c []) = some (i_spec_l14Shares, []) := by kernel_rfl
theorem i_spec_l14Shares_fn {ds rs : List D} (hle : ds.length ≤ 32) (h : AW Try.prog 32 i_spec_l14Shares (Ends [.tmp 2] rs) (init ds)) : Fn Try.prog k_spec_l14Shares (lent ds) true rs :=
  Fn.intro' (by kernel_rfl) Try.func49 (by kernel_rfl) i_spec_l14Shares_ok (by kernel_rfl) hle h.h
abbrev r39_0 : List RO := [ro (.box 1 (.t 0)), ro (.var 2 [.zs, .zs])]
abbrev r39_1 : List RO := [ro (.bslice 6 1 [] []), rF 7 1 1, rL 8 7, ro (.app 9 1 8 [(.int .i64 0)] (.t 6) (.t 8)), ro (.build 10 [.zs, .zs] [(1, 1, (.t 9))]), ro (.var 3 [.zs, .zs]), ro (.store 2 [(.sl 5 []), (.sl 1 [])] (.t 3) (.t 10))]
abbrev r39_2 : List RO := [ro (.mov 4 (c6 0))]
abbrev r39_3 : List RO := [rM 11 4, rF 12 0 1, rL 13 12, ro (.len 14 false (.t 13)), ro (.bin 15 .lss (.t 11) (.t 14))]
abbrev r39_4 : List RO := [rF 18 0 1, rL 19 18, rM 20 4, ro (.iaddr 21 5 (.t 19) (.t 20)), ro (.load 22 (some 5) (.t 21)), ro (.var 5 [(dI 0), (dI 0), (dI 0), (dI 0), .zs]), ro (.store 5 [(.int .i64 0), (.int .i64 0), (.int .i64 0), (.int .i64 0), (.sl 4 [])] (.t 5) (.t 22))]
abbrev r39_5 : List RO := [rF 23 4 5, rL 24 23, ro (.callv 25 (.c (.one (.fn k_spec_l14Shares []))) [(.t 24)]), rF 26 4 5, ro (.store 1 [(.sl 4 [])] (.t 26) (.t 25))]
abbrev r39_6 : List RO := [rF 27 0 3, rL 28 27, ro (.load 29 (some 5) (.t 5)), ro (.bslice 30 5 [(dI 0), (dI 0), (dI 0), (dI 0), .zs] [(0, 5, (.t 29))]), ro (.app 31 5 56 [(.int .i64 0), (.int .i64 0), (.int .i64 0), (.int .i64 0), (.sl 4 [])] (.t 28) (.t 30)), rF 32 0 3, ro (.store 1 [(.sl 5 [])] (.t 32) (.t 31))]
abbrev r39_7 : List RO := [rM 16 4, ro (.bin 17 .add (.t 16) (c6 1)), rM 4 17]
abbrev r39_8 : List RO := [ro (.load 33 (some 2) (.t 3)), ro (.store 2 [(.sl 5 []), (.sl 1 [])] (.t 2) (.t 33))]
def i_spec_l14Copy : IC := (.seq (.reg r39_0) (.seq (.reg r39_1) (.seq (.seq (.reg r39_2) (.block 0 (.loop (.seq (.seq (.reg r39_3) (.cond (.t 15) .skip (.exit 0))) (.seq (.block 1 (.seq (.reg r39_4) (.seq (.reg r39_5) (.reg r39_6)))) (.reg r39_7)))))) (.seq (.reg r39_8) .ret))))
theorem i_spec_l14Copy_ok : (Try.f39.body.bind fun c => toIC Try.prog 34 c []) = some (i_spec_l14Copy, []) := by kernel_rfl
theorem i_spec_l14Copy_fn {ds rs : List D} (hle : ds.length ≤ 34) (h : AW Try.prog 34 i_spec_l14Copy (Ends [.cell 2 (some 2)] rs) (init ds)) : Fn Try.prog k_spec_l14Copy (lent ds) true rs :=
  Fn.intro' (by kernel_rfl) Try.func39 (by kernel_rfl) i_spec_l14Copy_ok (by kernel_rfl) hle h.h
abbrev r58_0 : List RO := [ro (.box 3 (.t 0)), ro (.mov 6 (c6 0))]
abbrev r58_1 : List RO := [ro (.mov 7 (c6 0))]
abbrev r58_2 : List RO := [rM 8 7, rF 9 0 3, rL 10 9, ro (.len 11 false (.t 10)), ro (.bin 12 .lss (.t 8) (.t 11)), rM 13 12, rT 13 (.load 14 (some 2) (.t 3)), rT 13 (.callv 15 (.c (.one (.fn k_spec_CoordOk []))) [(.t 14)]), ro (.pick 16 (.t 13) (.t 15) (cB false))]
abbrev r58_3 : List RO := [rF 19 0 3, rL 20 19, rM 21 7, ro (.iaddr 22 5 (.t 20) (.t 21)), rF 23 1 22, rL 24 23, rM 25 1, ro (.bin 26 .eql (.t 24) (.t 25)), rM 27 26, rT 27 (.faddr 28 0 (.t 3)), rT 27 (.load 29 none (.t 28)), rT 27 (.mov 30 (.t 7)), rT 27 (.iaddr 31 5 (.t 29) (.t 30)), rT 27 (.faddr 32 2 (.t 31)), rT 27 (.load 33 none (.t 32)), rT 27 (.mov 34 (.t 2)), rT 27 (.bin 35 .eql (.t 33) (.t 34)), ro (.pick 36 (.t 27) (.t 35) (cB false))]
abbrev r58_4 : List RO := [rF 37 0 3, rL 38 37, rM 39 7, ro (.iaddr 40 5 (.t 38) (.t 39)), rF 41 0 40, rL 42 41, rM 6 42]
abbrev r58_5 : List RO := [rM 17 7, ro (.bin 18 .add (.t 17) (c6 1)), rM 7 18]
abbrev r58_6 : List RO := [ro (.mov 6 (c6 0))]
def i_spec_CoordFind : IC := (.seq (.reg r58_0) (.seq (.seq (.reg r58_1) (.block 0 (.loop (.seq (.seq (.reg r58_2) (.cond (.t 16) .skip (.exit 0))) (.seq (.block 1 (.seq (.reg r58_3) (.cond (.t 36) (.seq (.reg r58_4) .ret) .skip))) (.reg r58_5)))))) (.seq (.reg r58_6) .ret)))
theorem i_spec_CoordFind_ok : (Try.f58.body.bind fun c => toIC Try.prog 43 c []) = some (i_spec_CoordFind, []) := by kernel_rfl
theorem i_spec_CoordFind_fn {ds rs : List D} (hle : ds.length ≤ 43) (h : AW Try.prog 43 i_spec_CoordFind (Ends [.tmp 6] rs) (init ds)) : Fn Try.prog k_spec_CoordFind (lent ds) true rs :=
  Fn.intro' (by kernel_rfl) Try.func58 (by kernel_rfl) i_spec_CoordFind_ok (by kernel_rfl) hle h.h
abbrev r26_0 : List RO := [ro (.box 3 (.t 0)), ro (.var 6 [.zs, .zs]), ro (.mov 7 (c6 0)), ro (.mov 8 (c6 0))]
abbrev r26_1 : List RO := [ro (.load 11 (some 2) (.t 3)), ro (.callv 12 (.c (.one (.fn k_spec_CoordOk []))) [(.t 11)]), ro (.inv 13 (.t 12)), rM 14 13, rN 14 (.mov 15 (.t 1)), rN 14 (.callv 16 (.c (.one (.fn k_spec_l1Whole []))) [(.t 15)]), rN 14 (.inv 17 (.t 16)), ro (.pick 18 (.t 14) (cB true) (.t 17)), rM 19 18, rN 19 (.mov 20 (.t 2)), rN 19 (.callv 21 (.c (.one (.fn k_spec_l1In []))) [(.t 20), (c6 1), (c6 1000000000)]), rN 19 (.inv 22 (.t 21)), ro (.pick 23 (.t 19) (cB true) (.t 22))]
abbrev r26_2 : List RO := [ro (.build 24 [.zs, .zs] []), ro (.store 2 [(.sl 5 []), (.sl 1 [])] (.t 6) (.t 24)), ro (.mov 7 (c6 0)), ro (.mov 8 (c6 1))]
abbrev r26_3 : List RO := [ro (.load 25 (some 2) (.t 3)), ro (.callv 26 (.c (.one (.fn k_spec_l14Copy []))) [(.t 25)]), ro (.var 9 [.zs, .zs]), ro (.store 2 [(.sl 5 []), (.sl 1 [])] (.t 9) (.t 26))]
abbrev r26_4 : List RO := [ro (.load 27 (some 2) (.t 3)), rM 28 1, rM 29 2, ro (.callv 30 (.c (.one (.fn k_spec_CoordFind []))) [(.t 27), (.t 28), (.t 29)]), rM 10 30]
abbrev r26_5 : List RO := [rM 32 10, ro (.bin 33 .gtr (.t 32) (c6 0)), rM 31 33]
abbrev r26_6 : List RO := [ro (.load 34 (some 2) (.t 9)), rM 35 10, ro (.store 2 [(.sl 5 []), (.sl 1 [])] (.t 6) (.t 34)), rM 7 35, ro (.mov 8 (c6 0))]
abbrev r26_7 : List RO := [rF 37 0 3, rL 38 37, ro (.len 39 false (.t 38)), ro (.bin 40 .eql (.t 39) (c6 60)), rM 36 40]
abbrev r26_8 : List RO := [ro (.load 41 (some 2) (.t 9)), ro (.store 2 [(.sl 5 []), (.sl 1 [])] (.t 6) (.t 41)), ro (.mov 7 (c6 0)), ro (.mov 8 (c6 4))]
abbrev r26_9 : List RO := [rF 42 0 3, rL 43 42, ro (.len 44 false (.t 43)), ro (.bin 45 .add (.t 44) (c6 1)), rM 10 45]
abbrev r26_10 : List RO := [rF 46 0 9, rL 47 46, rM 48 10, rM 49 1, rM 50 2, ro (.build 51 [(dI 0), (dI 0), (dI 0), (dI 0), .zs] [(0, 1, (.t 48)), (1, 1, (.t 49)), (2, 1, (.t 50)), (3, 1, (c6 1))]), ro (.bslice 52 5 [(dI 0), (dI 0), (dI 0), (dI 0), .zs] [(0, 5, (.t 51))]), ro (.app 53 5 56 [(.int .i64 0), (.int .i64 0), (.int .i64 0), (.int .i64 0), (.sl 4 [])] (.t 47) (.t 52)), rF 54 0 9, ro (.store 1 [(.sl 5 [])] (.t 54) (.t 53))]
abbrev r26_11 : List RO := [ro (.load 55 (some 2) (.t 9)), rM 56 10, ro (.store 2 [(.sl 5 []), (.sl 1 [])] (.t 6) (.t 55)), rM 7 56, ro (.mov 8 (c6 0))]
def i_spec_CoordBegin : IC := (.seq (.reg r26_0) (.seq (.seq (.reg r26_1) (.cond (.t 23) (.seq (.reg r26_2) .ret) .skip)) (.seq (.reg r26_3) (.seq (.reg r26_4) (.seq (.block 0 (.seq (.reg r26_5) (.cond (.t 31) (.seq (.reg r26_6) .ret) (.seq (.reg r26_7) (.cond (.t 36) (.seq (.reg r26_8) .ret) .skip))))) (.seq (.reg r26_9) (.seq (.reg r26_10) (.seq (.reg r26_11) .ret))))))))
theorem i_spec_CoordBegin_ok : (Try.f26.body.bind fun c => toIC Try.prog 57 c []) = some (i_spec_CoordBegin, []) := by kernel_rfl
theorem i_spec_CoordBegin_fn {ds rs : List D} (hle : ds.length ≤ 57) (h : AW Try.prog 57 i_spec_CoordBegin (Ends [.cell 6 (some 2), .tmp 7, .tmp 8] rs) (init ds)) : Fn Try.prog k_spec_CoordBegin (lent ds) true rs :=
  Fn.intro' (by kernel_rfl) Try.func26 (by kernel_rfl) i_spec_CoordBegin_ok (by kernel_rfl) hle h.h
abbrev r72_0 : List RO := [ro (.mov 6 (cB false))]
abbrev r72_1 : List RO := [rM 7 0, rM 8 1, ro (.bin 9 .geq (.t 7) (.t 8)), rM 10 9, rT 10 (.mov 11 (.t 0)), rT 10 (.mov 12 (.t 2)), rT 10 (.bin 13 .leq (.t 11) (.t 12)), ro (.pick 14 (.t 10) (.t 13) (cB false)), rM 6 14]
def i_impl_from : IC := (.seq (.reg r72_0) (.seq (.reg r72_1) .ret))
theorem i_impl_from_ok : (Try.f72.body.bind fun c => toIC Try.prog 15 c []) = some (i_impl_from, []) := by kernel_rfl
theorem i_impl_from_fn {ds rs : List D} (hle : ds.length ≤ 15) (h : AW Try.prog 15 i_impl_from (Ends [.tmp 6] rs) (init ds)) : Fn Try.prog k_impl_from (lent ds) true rs :=
  Fn.intro' (by kernel_rfl) Try.func72 (by kernel_rfl) i_impl_from_ok (by kernel_rfl) hle h.h
abbrev r59_0 : List RO := [ro (.mov 2 (cB false))]
abbrev r59_1 : List RO := [rM 3 0, ro (.callv 4 (.c (.one (.fn k_impl_from []))) [(.t 3), (c6 0), (c6 1000000000)]), rM 2 4]
def i_impl_isWhole : IC := (.seq (.reg r59_0) (.seq (.reg r59_1) .ret))
theorem i_impl_isWhole_ok : (Try.f59.body.bind fun c => toIC Try.prog 5 c []) = some (i_impl_isWhole, []) := by kernel_rfl
theorem i_impl_isWhole_fn {ds rs : List D} (hle : ds.length ≤ 5) (h : AW Try.prog 5 i_impl_isWhole (Ends [.tmp 2] rs) (init ds)) : Fn Try.prog k_impl_isWhole (lent ds) true rs :=
  Fn.intro' (by kernel_rfl) Try.func59 (by kernel_rfl) i_impl_isWhole_ok (by kernel_rfl) hle h.h
abbrev r60_0 : List RO := [ro (.mov 2 (cB false))]
abbrev r60_1 : List RO := [rM 3 0, ro (.callv 4 (.c (.one (.fn k_impl_from []))) [(.t 3), (c6 1), (c6 1000000000)]), rM 2 4]
def i_impl_isReq : IC := (.seq (.reg r60_0) (.seq (.reg r60_1) .ret))
theorem i_impl_isReq_ok : (Try.f60.body.bind fun c => toIC Try.prog 5 c []) = some (i_impl_isReq, []) := by kernel_rfl
theorem i_impl_isReq_fn {ds rs : List D} (hle : ds.length ≤ 5) (h : AW Try.prog 5 i_impl_isReq (Ends [.tmp 2] rs) (init ds)) : Fn Try.prog k_impl_isReq (lent ds) true rs :=
  Fn.intro' (by kernel_rfl) Try.func60 (by kernel_rfl) i_impl_isReq_ok (by kernel_rfl) hle h.h
abbrev r82_0 : List RO := [ro (.mov 2 (cB false))]
abbrev r82_1 : List RO := [rM 3 0, ro (.callv 4 (.c (.one (.fn k_impl_from []))) [(.t 3), (c6 0), (c6 3)]), rM 2 4]
def i_impl_isGroup : IC := (.seq (.reg r82_0) (.seq (.reg r82_1) .ret))
theorem i_impl_isGroup_ok : (Try.f82.body.bind fun c => toIC Try.prog 5 c []) = some (i_impl_isGroup, []) := by kernel_rfl
theorem i_impl_isGroup_fn {ds rs : List D} (hle : ds.length ≤ 5) (h : AW Try.prog 5 i_impl_isGroup (Ends [.tmp 2] rs) (init ds)) : Fn Try.prog k_impl_isGroup (lent ds) true rs :=
  Fn.intro' (by kernel_rfl) Try.func82 (by kernel_rfl) i_impl_isGroup_ok (by kernel_rfl) hle h.h
abbrev r101_0 : List RO := [ro (.box 1 (.t 0)), ro (.mov 2 (cB false))]
abbrev r101_1 : List RO := [rF 3 0 1, rL 4 3, ro (.bin 5 .geq (.t 4) (c6 0)), rM 6 5, rT 6 (.faddr 7 0 (.t 1)), rT 6 (.load 8 none (.t 7)), rT 6 (.faddr 9 1 (.t 1)), rT 6 (.load 10 none (.t 9)), rT 6 (.bin 11 .lss (.t 8) (.t 10)), ro (.pick 12 (.t 6) (.t 11) (cB false)), rM 13 12, rT 13 (.faddr 14 1 (.t 1)), rT 13 (.load 15 none (.t 14)), rT 13 (.bin 16 .leq (.t 15) (c6 1000)), ro (.pick 17 (.t 13) (.t 16) (cB false)), rM 2 17]
def i_impl_RangeOk : IC := (.seq (.reg r101_0) (.seq (.reg r101_1) .ret))
theorem i_impl_RangeOk_ok : (Try.f101.body.bind fun c => toIC Try.prog 18 c []) = some (i_impl_RangeOk, []) := by kernel_rfl
theorem i_impl_RangeOk_fn {ds rs : List D} (hle : ds.length ≤ 18) (h : AW Try.prog 18 i_impl_RangeOk (Ends [.tmp 2] rs) (init ds)) : Fn Try.prog k_impl_RangeOk (lent ds) true rs :=
  Fn.intro' (by kernel_rfl) Try.func101 (by kernel_rfl) i_impl_RangeOk_ok (by kernel_rfl) hle h.h
abbrev r100_0 : List RO := [ro (.box 1 (.t 0)), ro (.mov 2 (cB false))]
abbrev r100_1 : List RO := [ro (.load 3 (some 2) (.t 1)), ro (.callv 4 (.c (.one (.fn k_impl_RangeOk []))) [(.t 3)]), ro (.inv 5 (.t 4)), rM 2 5]
def i_impl_readsOk_1 : IC := (.seq (.reg r100_0) (.seq (.reg r100_1) .ret))
theorem i_impl_readsOk_1_ok : (Try.f100.body.bind fun c => toIC Try.prog 6 c []) = some (i_impl_readsOk_1, []) := by kernel_rfl
theorem i_impl_readsOk_1_fn {ds rs : List D} (hle : ds.length ≤ 6) (h : AW Try.prog 6 i_impl_readsOk_1 (Ends [.tmp 2] rs) (init ds)) : Fn Try.prog k_impl_readsOk_1 (lent ds) true rs :=
  Fn.intro' (by kernel_rfl) Try.func100 (by kernel_rfl) i_impl_readsOk_1_ok (by kernel_rfl) hle h.h
abbrev r106_0 : List RO := [ro (.mov 4 (c6 0))]
abbrev r106_1 : List RO := [rM 6 0, ro (.len 7 false (.t 6)), ro (.mov 8 (c6 0))]
abbrev r106_2 : List RO := [ro (.bin 9 .lss (.t 8) (.t 7))]
abbrev r106_3 : List RO := [rM 10 8, rM 5 10]
abbrev r106_4 : List RO := [rM 11 1, rM 12 0, rM 13 5, ro (.iaddr 14 2 (.t 12) (.t 13)), ro (.load 15 (some 2) (.t 14)), ro (.callv 16 (.t 11) [(.t 15)])]
abbrev r106_5 : List RO := [rM 17 5, rM 4 17]
abbrev r106_6 : List RO := [ro (.bin 18 .add (.t 8) (c6 1)), rM 8 18]
abbrev r106_7 : List RO := [ro (.mov 4 (c6 (-1)))]
def i_slices_IndexFunc___impl_Range_impl_Range_ : IC := (.seq (.reg r106_0) (.seq (.seq (.reg r106_1) (.block 0 (.loop (.seq (.reg r106_2) (.seq (.cond (.t 9) .skip (.exit 0)) (.seq (.block 1 (.seq (.reg r106_3) (.seq (.reg r106_4) (.cond (.t 16) (.seq (.reg r106_5) .ret) .skip)))) (.reg r106_6))))))) (.seq (.reg r106_7) .ret)))
theorem i_slices_IndexFunc___impl_Range_impl_Range__ok : (Try.f106.body.bind fun c => toIC Try.prog 19 c []) = some (i_slices_IndexFunc___impl_Range_impl_Range_, []) := by kernel_rfl
theorem i_slices_IndexFunc___impl_Range_impl_Range__fn {ds rs : List D} (hle : ds.length ≤ 19) (h : AW Try.prog 19 i_slices_IndexFunc___impl_Range_impl_Range_ (Ends [.tmp 4] rs) (init ds)) : Fn Try.prog k_slices_IndexFunc___impl_Range_impl_Range_ (lent ds) true rs :=
  Fn.intro' (by kernel_rfl) Try.func106 (by kernel_rfl) i_slices_IndexFunc___impl_Range_impl_Range__ok (by kernel_rfl) hle h.h
abbrev r99_0 : List RO := [ro (.mov 4 (cB false))]
abbrev r99_1 : List RO := [rM 5 0, rM 6 1, ro (.callv 7 (.c (.one (.fn k_slices_IndexFunc___impl_Range_impl_Range_ []))) [(.t 5), (.t 6)]), ro (.bin 8 .geq (.t 7) (c6 0)), rM 4 8]
def i_slices_ContainsFunc___impl_Range_impl_Range_ : IC := (.seq (.reg r99_0) (.seq (.reg r99_1) .ret))
theorem i_slices_ContainsFunc___impl_Range_impl_Range__ok : (Try.f99.body.bind fun c => toIC Try.prog 9 c []) = some (i_slices_ContainsFunc___impl_Range_impl_Range_, []) := by kernel_rfl
theorem i_slices_ContainsFunc___impl_Range_impl_Range__fn {ds rs : List D} (hle : ds.length ≤ 9) (h : AW Try.prog 9 i_slices_ContainsFunc___impl_Range_impl_Range_ (Ends [.tmp 4] rs) (init ds)) : Fn Try.prog k_slices_ContainsFunc___impl_Range_impl_Range_ (lent ds) true rs :=
  Fn.intro' (by kernel_rfl) Try.func99 (by kernel_rfl) i_slices_ContainsFunc___impl_Range_impl_Range__ok (by kernel_rfl) hle h.h
abbrev r83_0 : List RO := [ro (.mov 2 (cB false))]
abbrev r83_1 : List RO := [rM 3 0, ro (.len 4 false (.t 3)), ro (.bin 5 .leq (.t 4) (c6 16)), rM 6 5, rT 6 (.mov 7 (.t 0)), rT 6 (.callv 8 (.c (.one (.fn k_slices_ContainsFunc___impl_Range_impl_Range_ []))) [(.t 7), (.c (.one (.fn k_impl_readsOk_1 [])))]), rT 6 (.inv 9 (.t 8)), ro (.pick 10 (.t 6) (.t 9) (cB false)), rM 2 10]
def i_impl_readsOk : IC := (.seq (.reg r83_0) (.seq (.reg r83_1) .ret))
theorem i_impl_readsOk_ok : (Try.f83.body.bind fun c => toIC Try.prog 11 c []) = some (i_impl_readsOk, []) := by kernel_rfl
theorem i_impl_readsOk_fn {ds rs : List D} (hle : ds.length ≤ 11) (h : AW Try.prog 11 i_impl_readsOk (Ends [.tmp 2] rs) (init ds)) : Fn Try.prog k_impl_readsOk (lent ds) true rs :=
  Fn.intro' (by kernel_rfl) Try.func83 (by kernel_rfl) i_impl_readsOk_ok (by kernel_rfl) hle h.h
abbrev r102_0 : List RO := [ro (.mov 2 (cB false))]
abbrev r102_1 : List RO := [rM 3 0, ro (.callv 4 (.c (.one (.fn k_impl_from []))) [(.t 3), (c6 0), (c6 999)]), rM 2 4]
def i_impl_isKey : IC := (.seq (.reg r102_0) (.seq (.reg r102_1) .ret))
theorem i_impl_isKey_ok : (Try.f102.body.bind fun c => toIC Try.prog 5 c []) = some (i_impl_isKey, []) := by kernel_rfl
theorem i_impl_isKey_fn {ds rs : List D} (hle : ds.length ≤ 5) (h : AW Try.prog 5 i_impl_isKey (Ends [.tmp 2] rs) (init ds)) : Fn Try.prog k_impl_isKey (lent ds) true rs :=
  Fn.intro' (by kernel_rfl) Try.func102 (by kernel_rfl) i_impl_isKey_ok (by kernel_rfl) hle h.h
abbrev r103_0 : List RO := [ro (.mov 2 (cB false))]
abbrev r103_1 : List RO := [rM 3 0, ro (.callv 4 (.c (.one (.fn k_impl_from []))) [(.t 3), (c6 (-1)), (c6 1000000000)]), rM 2 4]
def i_impl_isAnswer : IC := (.seq (.reg r103_0) (.seq (.reg r103_1) .ret))
theorem i_impl_isAnswer_ok : (Try.f103.body.bind fun c => toIC Try.prog 5 c []) = some (i_impl_isAnswer, []) := by kernel_rfl
theorem i_impl_isAnswer_fn {ds rs : List D} (hle : ds.length ≤ 5) (h : AW Try.prog 5 i_impl_isAnswer (Ends [.tmp 2] rs) (init ds)) : Fn Try.prog k_impl_isAnswer (lent ds) true rs :=
  Fn.intro' (by kernel_rfl) Try.func103 (by kernel_rfl) i_impl_isAnswer_ok (by kernel_rfl) hle h.h
abbrev r84_0 : List RO := [ro (.mov 2 (cB false))]
abbrev r84_1 : List RO := [rM 5 0, ro (.len 6 false (.t 5)), ro (.mov 7 (c6 0))]
abbrev r84_2 : List RO := [ro (.bin 8 .lss (.t 7) (.t 6))]
abbrev r84_3 : List RO := [rM 9 7, ro (.iaddr 10 2 (.t 5) (.t 7)), ro (.load 11 (some 2) (.t 10)), ro (.var 4 [(dI 0), (dI 0)]), rM 3 9, ro (.store 2 [(.int .i64 0), (.int .i64 0)] (.t 4) (.t 11))]
abbrev r84_4 : List RO := [rF 12 0 4, ⟨⟨none, .load 13 none (.t 12)⟩, 1, []⟩, ⟨⟨none, .callv 14 (.c (.one (.fn k_impl_isKey []))) [(.t 13)]⟩, 3, []⟩, ⟨⟨none, .inv 15 (.t 14)⟩, 7, []⟩, ⟨⟨none, .mov 16 (.t 15)⟩, 15, []⟩, ⟨⟨some (16, false), .faddr 17 1 (.t 4)⟩, 31, []⟩, ⟨⟨some (16, false), .load 18 none (.t 17)⟩, 63, []⟩, ⟨⟨some (16, false), .callv 19 (.c (.one (.fn k_impl_isAnswer []))) [(.t 18)]⟩, 127, []⟩, ⟨⟨some (16, false), .inv 20 (.t 19)⟩, 255, []⟩, ⟨⟨none, .pick 21 (.t 16) (cB true) (.t 20)⟩, 511, []⟩, ⟨⟨none, .mov 22 (.t 21)⟩, 1023, []⟩, ⟨⟨some (22, false), .mov 23 (.t 3)⟩, 2047, []⟩, ⟨⟨some (22, false), .bin 24 .gtr (.t 23) (c6 0)⟩, 4095, []⟩, ⟨⟨some (22, false), .mov 25 (.t 24)⟩, 8191, []⟩, ⟨⟨some (25, true), .mov 26 (.t 0)⟩, 16383, []⟩, ⟨⟨some (25, true), .mov 27 (.t 3)⟩, 16383, []⟩, ⟨⟨some (25, true), .bin 28 .sub (.t 27) (c6 1)⟩, 49151, []⟩, ⟨⟨some (25, true), .iaddr 29 2 (.t 26) (.t 28)⟩, 131071, []⟩, ⟨⟨some (25, true), .faddr 30 0 (.t 29)⟩, 262143, []⟩, ⟨⟨some (25, true), .load 31 none (.t 30)⟩, 524287, []⟩, ⟨⟨some (25, true), .faddr 32 0 (.t 4)⟩, 16383, []⟩, ⟨⟨some (25, true), .load 33 none (.t 32)⟩, 1064959, []⟩, ⟨⟨some (25, true), .bin 34 .geq (.t 31) (.t 33)⟩, 4194303, []⟩, ⟨⟨some (22, false), .pick 35 (.t 25) (.t 34) (cB false)⟩, 8388607, []⟩, ⟨⟨none, .pick 36 (.t 22) (cB true) (.t 35)⟩, 16777215, []⟩]
abbrev r84_5 : List RO := [ro (.mov 2 (cB false))]
abbrev r84_6 : List RO := [ro (.bin 37 .add (.t 7) (c6 1)), rM 7 37]
abbrev r84_7 : List RO := [rM 38 0, ro (.len 39 false (.t 38)), ro (.bin 40 .leq (.t 39) (c6 60)), rM 2 40]
def i_impl_WritesOk : IC := (.seq (.reg r84_0) (.seq (.seq (.reg r84_1) (.block 0 (.loop (.seq (.reg r84_2) (.seq (.cond (.t 8) .skip (.exit 0)) (.seq (.block 1 (.seq (.reg r84_3) (.seq (.regd r84_4) (.cond (.t 36) (.seq (.reg r84_5) .ret) .skip)))) (.reg r84_6))))))) (.seq (.reg r84_7) .ret)))
theorem i_impl_WritesOk_ok : (Try.f84.body.bind fun c => toIC Try.prog 41 c [[(0, []), (1, []), (3, []), (7, []), (15, []), (31, []), (63, []), (127, []), (255, []), (511, []), (1023, []), (2047, []), (4095, []), (8191, []), (16383, []), (16383, []), (49151, []), (131071, []), (262143, []), (524287, []), (16383, []), (1064959, []), (4194303, []), (8388607, []), (16777215, [])]]) = some (i_impl_WritesOk, []) := by kernel_rfl
theorem i_impl_WritesOk_fn {ds rs : List D} (hle : ds.length ≤ 41) (h : AW Try.prog 41 i_impl_WritesOk (Ends [.tmp 2] rs) (init ds)) : Fn Try.prog k_impl_WritesOk (lent ds) true rs :=
  Fn.intro' (by kernel_rfl) Try.func84 (by kernel_rfl) i_impl_WritesOk_ok (by kernel_rfl) hle h.h
abbrev r51_0 : List RO := [ro (.mov 2 (cB false))]
abbrev r51_1 : List RO := [rM 5 0, ro (.len 6 false (.t 5)), ro (.mov 7 (c6 0))]
abbrev r51_2 : List RO := [ro (.bin 8 .lss (.t 7) (.t 6))]
abbrev r51_3 : List RO := [rM 9 7, ro (.iaddr 10 4 (.t 5) (.t 7)), ro (.load 11 (some 4) (.t 10)), ro (.var 4 [(dI 0), .zs, .zs, (dI 0)]), rM 3 9, ro (.store 4 [(.int .i64 0), (.sl 2 []), (.sl 2 []), (.int .i64 0)] (.t 4) (.t 11))]
abbrev r51_4 : List RO := [rF 12 0 4, ⟨⟨none, .load 13 none (.t 12)⟩, 1, []⟩, ⟨⟨none, .callv 14 (.c (.one (.fn k_impl_isGroup []))) [(.t 13)]⟩, 3, []⟩, ⟨⟨none, .inv 15 (.t 14)⟩, 7, []⟩, ⟨⟨none, .mov 16 (.t 15)⟩, 15, []⟩, ⟨⟨some (16, false), .mov 17 (.t 3)⟩, 31, []⟩, ⟨⟨some (16, false), .bin 18 .gtr (.t 17) (c6 0)⟩, 63, []⟩, ⟨⟨some (16, false), .mov 19 (.t 18)⟩, 127, []⟩, ⟨⟨some (19, true), .mov 20 (.t 0)⟩, 255, []⟩, ⟨⟨some (19, true), .mov 21 (.t 3)⟩, 255, []⟩, ⟨⟨some (19, true), .bin 22 .sub (.t 21) (c6 1)⟩, 767, []⟩, ⟨⟨some (19, true), .iaddr 23 4 (.t 20) (.t 22)⟩, 2047, []⟩, ⟨⟨some (19, true), .faddr 24 0 (.t 23)⟩, 4095, []⟩, ⟨⟨some (19, true), .load 25 none (.t 24)⟩, 8191, []⟩, ⟨⟨some (19, true), .faddr 26 0 (.t 4)⟩, 255, []⟩, ⟨⟨some (19, true), .load 27 none (.t 26)⟩, 16639, []⟩, ⟨⟨some (19, true), .bin 28 .geq (.t 25) (.t 27)⟩, 65535, []⟩, ⟨⟨some (16, false), .pick 29 (.t 19) (.t 28) (cB false)⟩, 131071, []⟩, ⟨⟨none, .pick 30 (.t 16) (cB true) (.t 29)⟩, 262143, []⟩, ⟨⟨none, .mov 31 (.t 30)⟩, 524287, []⟩, ⟨⟨some (31, false), .faddr 32 1 (.t 4)⟩, 1048575, []⟩, ⟨⟨some (31, false), .load 33 none (.t 32)⟩, 2097151, []⟩, ⟨⟨some (31, false), .callv 34 (.c (.one (.fn k_impl_readsOk []))) [(.t 33)]⟩, 4194303, []⟩, ⟨⟨some (31, false), .inv 35 (.t 34)⟩, 8388607, []⟩, ⟨⟨none, .pick 36 (.t 31) (cB true) (.t 35)⟩, 16777215, []⟩, ⟨⟨none, .mov 37 (.t 36)⟩, 33554431, []⟩, ⟨⟨some (37, false), .faddr 38 2 (.t 4)⟩, 67108863, []⟩, ⟨⟨some (37, false), .load 39 none (.t 38)⟩, 134217727, []⟩, ⟨⟨some (37, false), .callv 40 (.c (.one (.fn k_impl_WritesOk []))) [(.t 39)]⟩, 268435455, []⟩, ⟨⟨some (37, false), .inv 41 (.t 40)⟩, 536870911, []⟩, ⟨⟨none, .pick 42 (.t 37) (cB true) (.t 41)⟩, 1073741823, []⟩, ⟨⟨none, .mov 43 (.t 42)⟩, 2147483647, []⟩, ⟨⟨some (43, false), .faddr 44 3 (.t 4)⟩, 4294967295, []⟩, ⟨⟨some (43, false), .load 45 none (.t 44)⟩, 8589934591, []⟩, ⟨⟨some (43, false), .callv 46 (.c (.one (.fn k_impl_from []))) [(.t 45), (c6 0), (c6 2)]⟩, 17179869183, []⟩, ⟨⟨some (43, false), .inv 47 (.t 46)⟩, 34359738367, []⟩, ⟨⟨none, .pick 48 (.t 43) (cB true) (.t 47)⟩, 68719476735, []⟩]
abbrev r51_5 : List RO := [ro (.mov 2 (cB false))]
abbrev r51_6 : List RO := [ro (.bin 49 .add (.t 7) (c6 1)), rM 7 49]
abbrev r51_7 : List RO := [rM 50 0, ro (.len 51 false (.t 50)), ro (.bin 52 .leq (.t 51) (c6 4)), rM 2 52]
def i_impl_SharesOk : IC := (.seq (.reg r51_0) (.seq (.seq (.reg r51_1) (.block 0 (.loop (.seq (.reg r51_2) (.seq (.cond (.t 8) .skip (.exit 0)) (.seq (.block 1 (.seq (.reg r51_3) (.seq (.regd r51_4) (.cond (.t 48) (.seq (.reg r51_5) .ret) .skip)))) (.reg r51_6))))))) (.seq (.reg r51_7) .ret)))
theorem i_impl_SharesOk_ok : (Try.f51.body.bind fun c => toIC Try.prog 53 c [[(0, []), (1, []), (3, []), (7, []), (15, []), (31, []), (63, []), (127, []), (255, []), (255, []), (767, []), (2047, []), (4095, []), (8191, []), (255, []), (16639, []), (65535, []), (131071, []), (262143, []), (524287, []), (1048575, []), (2097151, []), (4194303, []), (8388607, []), (16777215, []), (33554431, []), (67108863, []), (134217727, []), (268435455, []), (536870911, []), (1073741823, []), (2147483647, []), (4294967295, []), (8589934591, []), (17179869183, []), (34359738367, []), (68719476735, [])]]) = some (i_impl_SharesOk, []) := by kernel_rfl
theorem i_impl_SharesOk_fn {ds rs : List D} (hle : ds.length ≤ 53) (h : AW Try.prog 53 i_impl_SharesOk (Ends [.tmp 2] rs) (init ds)) : Fn Try.prog k_impl_SharesOk (lent ds) true rs :=
  Fn.intro' (by kernel_rfl) Try.func51 (by kernel_rfl) i_impl_SharesOk_ok (by kernel_rfl) hle h.h
abbrev r86_0 : List RO := [ro (.box 2 (.t 0)), ro (.mov 3 (cB false))]
abbrev r86_1 : List RO := [rF 4 3 2, rL 5 4, rL 6 1, ro (.bin 7 .eql (.t 5) (.t 6)), rM 3 7]
def i_impl_votes_1 : IC := (.seq (.reg r86_0) (.seq (.reg r86_1) .ret))
theorem i_impl_votes_1_ok : (Try.f86.body.bind fun c => toIC Try.prog 8 c []) = some (i_impl_votes_1, []) := by kernel_rfl
theorem i_impl_votes_1_fn {ds rs : List D} (hle : ds.length ≤ 8) (h : AW Try.prog 8 i_impl_votes_1 (Ends [.tmp 3] rs) (init ds)) : Fn Try.prog k_impl_votes_1 (lent ds) true rs :=
  Fn.intro' (by kernel_rfl) Try.func86 (by kernel_rfl) i_impl_votes_1_ok (by kernel_rfl) hle h.h
abbrev r62_0 : List RO := [ro (.mov 4 (c6 0))]
abbrev r62_1 : List RO := [rM 6 0, ro (.len 7 false (.t 6)), ro (.mov 8 (c6 0))]
abbrev r62_2 : List RO := [ro (.bin 9 .lss (.t 8) (.t 7))]
abbrev r62_3 : List RO := [rM 10 8, rM 5 10]
abbrev r62_4 : List RO := [rM 11 1, rM 12 0, rM 13 5, ro (.iaddr 14 4 (.t 12) (.t 13)), ro (.load 15 (some 4) (.t 14)), ro (.callv 16 (.t 11) [(.t 15)])]
abbrev r62_5 : List RO := [rM 17 5, rM 4 17]
abbrev r62_6 : List RO := [ro (.bin 18 .add (.t 8) (c6 1)), rM 8 18]
abbrev r62_7 : List RO := [ro (.mov 4 (c6 (-1)))]
def i_slices_IndexFunc___impl_Share_impl_Share_ : IC := (.seq (.reg r62_0) (.seq (.seq (.reg r62_1) (.block 0 (.loop (.seq (.reg r62_2) (.seq (.cond (.t 9) .skip (.exit 0)) (.seq (.block 1 (.seq (.reg r62_3) (.seq (.reg r62_4) (.cond (.t 16) (.seq (.reg r62_5) .ret) .skip)))) (.reg r62_6))))))) (.seq (.reg r62_7) .ret)))
theorem i_slices_IndexFunc___impl_Share_impl_Share__ok : (Try.f62.body.bind fun c => toIC Try.prog 19 c []) = some (i_slices_IndexFunc___impl_Share_impl_Share_, []) := by kernel_rfl
theorem i_slices_IndexFunc___impl_Share_impl_Share__fn {ds rs : List D} (hle : ds.length ≤ 19) (h : AW Try.prog 19 i_slices_IndexFunc___impl_Share_impl_Share_ (Ends [.tmp 4] rs) (init ds)) : Fn Try.prog k_slices_IndexFunc___impl_Share_impl_Share_ (lent ds) true rs :=
  Fn.intro' (by kernel_rfl) Try.func62 (by kernel_rfl) i_slices_IndexFunc___impl_Share_impl_Share__ok (by kernel_rfl) hle h.h
abbrev r85_0 : List RO := [ro (.mov 4 (cB false))]
abbrev r85_1 : List RO := [rM 5 0, rM 6 1, ro (.callv 7 (.c (.one (.fn k_slices_IndexFunc___impl_Share_impl_Share_ []))) [(.t 5), (.t 6)]), ro (.bin 8 .geq (.t 7) (c6 0)), rM 4 8]
def i_slices_ContainsFunc___impl_Share_impl_Share_ : IC := (.seq (.reg r85_0) (.seq (.reg r85_1) .ret))
theorem i_slices_ContainsFunc___impl_Share_impl_Share__ok : (Try.f85.body.bind fun c => toIC Try.prog 9 c []) = some (i_slices_ContainsFunc___impl_Share_impl_Share_, []) := by kernel_rfl
theorem i_slices_ContainsFunc___impl_Share_impl_Share__fn {ds rs : List D} (hle : ds.length ≤ 9) (h : AW Try.prog 9 i_slices_ContainsFunc___impl_Share_impl_Share_ (Ends [.tmp 4] rs) (init ds)) : Fn Try.prog k_slices_ContainsFunc___impl_Share_impl_Share_ (lent ds) true rs :=
  Fn.intro' (by kernel_rfl) Try.func85 (by kernel_rfl) i_slices_ContainsFunc___impl_Share_impl_Share__ok (by kernel_rfl) hle h.h
abbrev r52_0 : List RO := [ro (.box 3 (.t 1)), ro (.mov 4 (cB false))]
abbrev r52_1 : List RO := [rM 5 0, ro (.mkfn 6 k_impl_votes_1 [(.t 3)]), ro (.callv 7 (.c (.one (.fn k_slices_ContainsFunc___impl_Share_impl_Share_ []))) [(.t 5), (.t 6)]), rM 4 7]
def i_impl_votes : IC := (.seq (.reg r52_0) (.seq (.reg r52_1) .ret))
theorem i_impl_votes_ok : (Try.f52.body.bind fun c => toIC Try.prog 8 c []) = some (i_impl_votes, []) := by kernel_rfl
theorem i_impl_votes_fn {ds rs : List D} (hle : ds.length ≤ 8) (h : AW Try.prog 8 i_impl_votes (Ends [.tmp 4] rs) (init ds)) : Fn Try.prog k_impl_votes (lent ds) true rs :=
  Fn.intro' (by kernel_rfl) Try.func52 (by kernel_rfl) i_impl_votes_ok (by kernel_rfl) hle h.h
abbrev r69_0 : List RO := [ro (.box 1 (.t 0)), ro (.mov 2 (cB false))]
abbrev r69_1 : List RO := [rF 3 1 1, rL 4 3, ro (.callv 5 (.c (.one (.fn k_impl_isWhole []))) [(.t 4)]), ro (.inv 6 (.t 5)), rM 7 6, rN 7 (.faddr 8 2 (.t 1)), rN 7 (.load 9 none (.t 8)), rN 7 (.callv 10 (.c (.one (.fn k_impl_isReq []))) [(.t 9)]), rN 7 (.inv 11 (.t 10)), ro (.pick 12 (.t 7) (cB true) (.t 11)), rM 13 12, rN 13 (.faddr 14 4 (.t 1)), rN 13 (.load 15 none (.t 14)), rN 13 (.callv 16 (.c (.one (.fn k_impl_SharesOk []))) [(.t 15)]), rN 13 (.inv 17 (.t 16)), ro (.pick 18 (.t 13) (cB true) (.t 17))]
abbrev r69_2 : List RO := [ro (.mov 2 (cB false))]
abbrev r69_3 : List RO := [rF 19 3 1, rL 20 19]
abbrev r69_4 : List RO := [ro (.bin 22 .eql (.t 20) (c6 1)), rM 21 22]
abbrev r69_5 : List RO := [rF 23 4 1, rL 24 23, ro (.len 25 false (.t 24)), ro (.bin 26 .eql (.t 25) (c6 0)), rM 2 26]
abbrev r69_6 : List RO := [ro (.bin 28 .eql (.t 20) (c6 2)), rM 27 28]
abbrev r69_7 : List RO := [rF 29 4 1, rL 30 29, ro (.callv 31 (.c (.one (.fn k_impl_votes []))) [(.t 30), (c6 0)]), rM 32 31, rT 32 (.faddr 33 4 (.t 1)), rT 32 (.load 34 none (.t 33)), rT 32 (.callv 35 (.c (.one (.fn k_impl_votes []))) [(.t 34), (c6 2)]), rT 32 (.inv 36 (.t 35)), ro (.pick 37 (.t 32) (.t 36) (cB false)), rM 2 37]
abbrev r69_8 : List RO := [ro (.bin 39 .eql (.t 20) (c6 3)), rM 38 39]
abbrev r69_9 : List RO := [rF 40 4 1, rL 41 40, ro (.callv 42 (.c (.one (.fn k_impl_votes []))) [(.t 41), (c6 0)]), ro (.inv 43 (.t 42)), rM 44 43, rT 44 (.faddr 45 4 (.t 1)), rT 44 (.load 46 none (.t 45)), rT 44 (.callv 47 (.c (.one (.fn k_impl_votes []))) [(.t 46), (c6 2)]), rT 44 (.inv 48 (.t 47)), ro (.pick 49 (.t 44) (.t 48) (cB false)), rM 2 49]
abbrev r69_10 : List RO := [rF 50 3 1, rL 51 50, ro (.bin 52 .eql (.t 51) (c6 4)), rM 2 52]
def i_impl_recOk : IC := (.seq (.reg r69_0) (.seq (.seq (.reg r69_1) (.cond (.t 18) (.seq (.reg r69_2) .ret) .skip)) (.seq (.seq (.reg r69_3) (.block 0 (.seq (.reg r69_4) (.cond (.t 21) (.seq (.reg r69_5) .ret) (.seq (.reg r69_6) (.cond (.t 27) (.seq (.reg r69_7) .ret) (.seq (.reg r69_8) (.cond (.t 38) (.seq (.reg r69_9) .ret) .skip)))))))) (.seq (.reg r69_10) .ret))))
theorem i_impl_recOk_ok : (Try.f69.body.bind fun c => toIC Try.prog 53 c []) = some (i_impl_recOk, []) := by kernel_rfl
theorem i_impl_recOk_fn {ds rs : List D} (hle : ds.length ≤ 53) (h : AW Try.prog 53 i_impl_recOk (Ends [.tmp 2] rs) (init ds)) : Fn Try.prog k_impl_recOk (lent ds) true rs :=
  Fn.intro' (by kernel_rfl) Try.func69 (by kernel_rfl) i_impl_recOk_ok (by kernel_rfl) hle h.h
abbrev r71_0 : List RO := [ro (.box 2 (.t 0)), ro (.mov 3 (cB false))]
abbrev r71_1 : List RO := [rF 4 1 2, rL 5 4, rF 6 1 1, rL 7 6, ro (.bin 8 .eql (.t 5) (.t 7)), rM 9 8, rT 9 (.faddr 10 2 (.t 2)), rT 9 (.load 11 none (.t 10)), rT 9 (.faddr 12 2 (.t 1)), rT 9 (.load 13 none (.t 12)), rT 9 (.bin 14 .eql (.t 11) (.t 13)), ro (.pick 15 (.t 9) (.t 14) (cB false)), rM 3 15]
def i_impl_CoordOk_1 : IC := (.seq (.reg r71_0) (.seq (.reg r71_1) .ret))
theorem i_impl_CoordOk_1_ok : (Try.f71.body.bind fun c => toIC Try.prog 16 c []) = some (i_impl_CoordOk_1, []) := by kernel_rfl
theorem i_impl_CoordOk_1_fn {ds rs : List D} (hle : ds.length ≤ 16) (h : AW Try.prog 16 i_impl_CoordOk_1 (Ends [.tmp 3] rs) (init ds)) : Fn Try.prog k_impl_CoordOk_1 (lent ds) true rs :=
  Fn.intro' (by kernel_rfl) Try.func71 (by kernel_rfl) i_impl_CoordOk_1_ok (by kernel_rfl) hle h.h
abbrev r91_0 : List RO := [ro (.mov 4 (c6 0))]
abbrev r91_1 : List RO := [rM 6 0, ro (.len 7 false (.t 6)), ro (.mov 8 (c6 0))]
abbrev r91_2 : List RO := [ro (.bin 9 .lss (.t 8) (.t 7))]
abbrev r91_3 : List RO := [rM 10 8, rM 5 10]
abbrev r91_4 : List RO := [rM 11 1, rM 12 0, rM 13 5, ro (.iaddr 14 5 (.t 12) (.t 13)), ro (.load 15 (some 5) (.t 14)), ro (.callv 16 (.t 11) [(.t 15)])]
abbrev r91_5 : List RO := [rM 17 5, rM 4 17]
abbrev r91_6 : List RO := [ro (.bin 18 .add (.t 8) (c6 1)), rM 8 18]
abbrev r91_7 : List RO := [ro (.mov 4 (c6 (-1)))]
def i_slices_IndexFunc___impl_Rec_impl_Rec_ : IC := (.seq (.reg r91_0) (.seq (.seq (.reg r91_1) (.block 0 (.loop (.seq (.reg r91_2) (.seq (.cond (.t 9) .skip (.exit 0)) (.seq (.block 1 (.seq (.reg r91_3) (.seq (.reg r91_4) (.cond (.t 16) (.seq (.reg r91_5) .ret) .skip)))) (.reg r91_6))))))) (.seq (.reg r91_7) .ret)))
theorem i_slices_IndexFunc___impl_Rec_impl_Rec__ok : (Try.f91.body.bind fun c => toIC Try.prog 19 c []) = some (i_slices_IndexFunc___impl_Rec_impl_Rec_, []) := by kernel_rfl
theorem i_slices_IndexFunc___impl_Rec_impl_Rec__fn {ds rs : List D} (hle : ds.length ≤ 19) (h : AW Try.prog 19 i_slices_IndexFunc___impl_Rec_impl_Rec_ (Ends [.tmp 4] rs) (init ds)) : Fn Try.prog k_slices_IndexFunc___impl_Rec_impl_Rec_ (lent ds) true rs :=
  Fn.intro' (by kernel_rfl) Try.func91 (by kernel_rfl) i_slices_IndexFunc___impl_Rec_impl_Rec__ok (by kernel_rfl) hle h.h
abbrev r70_0 : List RO := [ro (.mov 4 (cB false))]
abbrev r70_1 : List RO := [rM 5 0, rM 6 1, ro (.callv 7 (.c (.one (.fn k_slices_IndexFunc___impl_Rec_impl_Rec_ []))) [(.t 5), (.t 6)]), ro (.bin 8 .geq (.t 7) (c6 0)), rM 4 8]
def i_slices_ContainsFunc___impl_Rec_impl_Rec_ : IC := (.seq (.reg r70_0) (.seq (.reg r70_1) .ret))
theorem i_slices_ContainsFunc___impl_Rec_impl_Rec__ok : (Try.f70.body.bind fun c => toIC Try.prog 9 c []) = some (i_slices_ContainsFunc___impl_Rec_impl_Rec_, []) := by kernel_rfl
theorem i_slices_ContainsFunc___impl_Rec_impl_Rec__fn {ds rs : List D} (hle : ds.length ≤ 9) (h : AW Try.prog 9 i_slices_ContainsFunc___impl_Rec_impl_Rec_ (Ends [.tmp 4] rs) (init ds)) : Fn Try.prog k_slices_ContainsFunc___impl_Rec_impl_Rec_ (lent ds) true rs :=
  Fn.intro' (by kernel_rfl) Try.func70 (by kernel_rfl) i_slices_ContainsFunc___impl_Rec_impl_Rec__ok (by kernel_rfl) hle h.h
abbrev r93_0 : List RO := [ro (.mov 4 (c6 0))]
abbrev r93_1 : List RO := [rM 6 0, ro (.len 7 false (.t 6)), ro (.mov 8 (c6 0))]
abbrev r93_2 : List RO := [ro (.bin 9 .lss (.t 8) (.t 7))]
abbrev r93_3 : List RO := [rM 10 8, rM 5 10]
abbrev r93_4 : List RO := [rM 11 1, rM 12 0, rM 13 5, ro (.iaddr 14 1 (.t 12) (.t 13)), rL 15 14, ro (.bin 16 .eql (.t 11) (.t 15))]
abbrev r93_5 : List RO := [rM 17 5, rM 4 17]
abbrev r93_6 : List RO := [ro (.bin 18 .add (.t 8) (c6 1)), rM 8 18]
abbrev r93_7 : List RO := [ro (.mov 4 (c6 (-1)))]
def i_slices_Index___int_int_ : IC := (.seq (.reg r93_0) (.seq (.seq (.reg r93_1) (.block 0 (.loop (.seq (.reg r93_2) (.seq (.cond (.t 9) .skip (.exit 0)) (.seq (.block 1 (.seq (.reg r93_3) (.seq (.reg r93_4) (.cond (.t 16) (.seq (.reg r93_5) .ret) .skip)))) (.reg r93_6))))))) (.seq (.reg r93_7) .ret)))
theorem i_slices_Index___int_int__ok : (Try.f93.body.bind fun c => toIC Try.prog 19 c []) = some (i_slices_Index___int_int_, []) := by kernel_rfl
theorem i_slices_Index___int_int__fn {ds rs : List D} (hle : ds.length ≤ 19) (h : AW Try.prog 19 i_slices_Index___int_int_ (Ends [.tmp 4] rs) (init ds)) : Fn Try.prog k_slices_Index___int_int_ (lent ds) true rs :=
  Fn.intro' (by kernel_rfl) Try.func93 (by kernel_rfl) i_slices_Index___int_int__ok (by kernel_rfl) hle h.h
abbrev r73_0 : List RO := [ro (.mov 4 (cB false))]
abbrev r73_1 : List RO := [rM 5 0, rM 6 1, ro (.callv 7 (.c (.one (.fn k_slices_Index___int_int_ []))) [(.t 5), (.t 6)]), ro (.bin 8 .geq (.t 7) (c6 0)), rM 4 8]
def i_slices_Contains___int_int_ : IC := (.seq (.reg r73_0) (.seq (.reg r73_1) .ret))
theorem i_slices_Contains___int_int__ok : (Try.f73.body.bind fun c => toIC Try.prog 9 c []) = some (i_slices_Contains___int_int_, []) := by kernel_rfl
theorem i_slices_Contains___int_int__fn {ds rs : List D} (hle : ds.length ≤ 9) (h : AW Try.prog 9 i_slices_Contains___int_int_ (Ends [.tmp 4] rs) (init ds)) : Fn Try.prog k_slices_Contains___int_int_ (lent ds) true rs :=
  Fn.intro' (by kernel_rfl) Try.func73 (by kernel_rfl) i_slices_Contains___int_int__ok (by kernel_rfl) hle h.h
abbrev r41_0 : List RO := [ro (.box 1 (.t 0)), ro (.mov 2 (cB false))]
abbrev r41_1 : List RO := [rF 8 0 1, rL 9 8, ro (.len 10 false (.t 9)), ro (.bin 11 .gtr (.t 10) (c6 60))]
abbrev r41_2 : List RO := [ro (.mov 2 (cB false))]
abbrev r41_3 : List RO := [ro (.mov 3 (c6 0))]
abbrev r41_4 : List RO := [rF 12 0 1, rL 13 12, ro (.len 14 false (.t 13)), ro (.mov 15 (c6 0))]
abbrev r41_5 : List RO := [ro (.bin 16 .lss (.t 15) (.t 14))]
abbrev r41_6 : List RO := [rM 17 15, ro (.iaddr 18 5 (.t 13) (.t 15)), ro (.load 19 (some 5) (.t 18)), ro (.var 5 [(dI 0), (dI 0), (dI 0), (dI 0), .zs]), rM 4 17, ro (.store 5 [(.int .i64 0), (.int .i64 0), (.int .i64 0), (.int .i64 0), (.sl 4 [])] (.t 5) (.t 19))]
abbrev r41_7 : List RO := [rF 20 0 5, rL 21 20, rM 22 4, ro (.bin 23 .add (.t 22) (c6 1)), ro (.bin 24 .neq (.t 21) (.t 23)), rM 25 24, rN 25 (.load 26 (some 5) (.t 5)), rN 25 (.callv 27 (.c (.one (.fn k_impl_recOk []))) [(.t 26)]), rN 25 (.inv 28 (.t 27)), ro (.pick 29 (.t 25) (cB true) (.t 28)), rM 30 29, rN 30 (.faddr 31 0 (.t 1)), rN 30 (.load 32 none (.t 31)), rN 30 (.mov 33 (.t 4)), rN 30 (.slice 34 5 (.t 32) none (some (.t 33)) none), rN 30 (.mkfn 35 k_impl_CoordOk_1 [(.t 5)]), rN 30 (.callv 36 (.c (.one (.fn k_slices_ContainsFunc___impl_Rec_impl_Rec_ []))) [(.t 34), (.t 35)]), ro (.pick 37 (.t 30) (cB true) (.t 36))]
abbrev r41_8 : List RO := [ro (.mov 2 (cB false))]
abbrev r41_9 : List RO := [rF 38 3 5, rL 39 38, ro (.bin 40 .eql (.t 39) (c6 3))]
abbrev r41_10 : List RO := [rM 41 3, ro (.bin 42 .add (.t 41) (c6 1)), rM 3 42]
abbrev r41_11 : List RO := [ro (.bin 43 .add (.t 15) (c6 1)), rM 15 43]
abbrev r41_12 : List RO := [rF 44 1 1, rL 45 44, ro (.len 46 false (.t 45)), ro (.mov 47 (c6 0))]
abbrev r41_13 : List RO := [ro (.bin 48 .lss (.t 47) (.t 46))]
abbrev r41_14 : List RO := [rM 49 47, ro (.iaddr 50 1 (.t 45) (.t 47)), rL 51 50, rM 6 49, rM 7 51]
abbrev r41_15 : List RO := [rM 52 7, rF 53 0 1, rL 54 53, ro (.len 55 false (.t 54)), ro (.callv 56 (.c (.one (.fn k_impl_from []))) [(.t 52), (c6 1), (.t 55)]), ro (.inv 57 (.t 56)), rM 58 57, rN 58 (.faddr 59 0 (.t 1)), rN 58 (.load 60 none (.t 59)), rN 58 (.mov 61 (.t 7)), rN 58 (.bin 62 .sub (.t 61) (c6 1)), rN 58 (.iaddr 63 5 (.t 60) (.t 62)), rN 58 (.faddr 64 3 (.t 63)), rN 58 (.load 65 none (.t 64)), rN 58 (.bin 66 .neq (.t 65) (c6 3)), ro (.pick 67 (.t 58) (cB true) (.t 66)), rM 68 67, rN 68 (.faddr 69 1 (.t 1)), rN 68 (.load 70 none (.t 69)), rN 68 (.mov 71 (.t 6)), rN 68 (.slice 72 1 (.t 70) none (some (.t 71)) none), rN 68 (.mov 73 (.t 7)), rN 68 (.callv 74 (.c (.one (.fn k_slices_Contains___int_int_ []))) [(.t 72), (.t 73)]), ro (.pick 75 (.t 68) (cB true) (.t 74))]
abbrev r41_16 : List RO := [ro (.mov 2 (cB false))]
abbrev r41_17 : List RO := [ro (.bin 76 .add (.t 47) (c6 1)), rM 47 76]
abbrev r41_18 : List RO := [rM 77 3, rF 78 1 1, rL 79 78, ro (.len 80 false (.t 79)), ro (.bin 81 .eql (.t 77) (.t 80)), rM 2 81]
def i_impl_CoordOk : IC := (.seq (.reg r41_0) (.seq (.seq (.reg r41_1) (.cond (.t 11) (.seq (.reg r41_2) .ret) .skip)) (.seq (.reg r41_3) (.seq (.seq (.reg r41_4) (.block 0 (.loop (.seq (.reg r41_5) (.seq (.cond (.t 16) .skip (.exit 0)) (.seq (.block 1 (.seq (.reg r41_6) (.seq (.seq (.reg r41_7) (.cond (.t 37) (.seq (.reg r41_8) .ret) .skip)) (.seq (.reg r41_9) (.cond (.t 40) (.reg r41_10) .skip))))) (.reg r41_11))))))) (.seq (.seq (.reg r41_12) (.block 2 (.loop (.seq (.reg r41_13) (.seq (.cond (.t 48) .skip (.exit 2)) (.seq (.block 3 (.seq (.reg r41_14) (.seq (.reg r41_15) (.cond (.t 75) (.seq (.reg r41_16) .ret) .skip)))) (.reg r41_17))))))) (.seq (.reg r41_18) .ret))))))
theorem i_impl_CoordOk_ok : (Try.f41.body.bind fun c => toIC Try.prog 82 c []) = some (i_impl_CoordOk, []) := by kernel_rfl
theorem i_impl_CoordOk_fn {ds rs : List D} (hle : ds.length ≤ 82) (h : AW Try.prog 82 i_impl_CoordOk (Ends [.tmp 2] rs) (init ds)) : Fn Try.prog k_impl_CoordOk (lent ds) true rs :=
  Fn.intro' (by kernel_rfl) Try.func41 (by kernel_rfl) i_impl_CoordOk_ok (by kernel_rfl) hle h.h
abbrev r74_0 : List RO := [ro (.mov 2 (.c (.one .zs)))]
abbrev r74_1 : List RO := [rM 3 0, ro (.isnil 4 false (.t 3))]
abbrev r74_2 : List RO := [ro (.mov 2 (.c (.one .zs)))]
abbrev r74_3 : List RO := [ro (.bslice 5 1 [] []), rM 6 0, ro (.app 7 1 8 [(.int .i64 0)] (.t 5) (.t 6)), rM 2 7]
def i_slices_Clone___int_int_ : IC := (.seq (.reg r74_0) (.seq (.seq (.reg r74_1) (.cond (.t 4) (.seq (.reg r74_2) .ret) .skip)) (.seq (.reg r74_3) .ret)))
theorem i_slices_Clone___int_int__ok : (Try.f74.body.bind fun c => toIC Try.prog 8 c []) = some (i_slices_Clone___int_int_, []) := by kernel_rfl
theorem i_slices_Clone___int_int__fn {ds rs : List D} (hle : ds.length ≤ 8) (h : AW Try.prog 8 i_slices_Clone___int_int_ (Ends [.tmp 2] rs) (init ds)) : Fn Try.prog k_slices_Clone___int_int_ (lent ds) true rs :=
  Fn.intro' (by kernel_rfl) Try.func74 (by kernel_rfl) i_slices_Clone___int_int__ok (by kernel_rfl) hle h.h
abbrev r87_0 : List RO := [ro (.mov 2 (.c (.one .zs)))]
abbrev r87_1 : List RO := [rM 3 0, ro (.isnil 4 false (.t 3))]
abbrev r87_2 : List RO := [ro (.mov 2 (.c (.one .zs)))]
abbrev r87_3 : List RO := [ro (.bslice 5 2 [] []), rM 6 0, ro (.app 7 2 16 [(.int .i64 0), (.int .i64 0)] (.t 5) (.t 6)), rM 2 7]
def i_slices_Clone___impl_Range_impl_Range_ : IC := (.seq (.reg r87_0) (.seq (.seq (.reg r87_1) (.cond (.t 4) (.seq (.reg r87_2) .ret) .skip)) (.seq (.reg r87_3) .ret)))
theorem i_slices_Clone___impl_Range_impl_Range__ok : (Try.f87.body.bind fun c => toIC Try.prog 8 c []) = some (i_slices_Clone___impl_Range_impl_Range_, []) := by kernel_rfl
theorem i_slices_Clone___impl_Range_impl_Range__fn {ds rs : List D} (hle : ds.length ≤ 8) (h : AW Try.prog 8 i_slices_Clone___impl_Range_impl_Range_ (Ends [.tmp 2] rs) (init ds)) : Fn Try.prog k_slices_Clone___impl_Range_impl_Range_ (lent ds) true rs :=
  Fn.intro' (by kernel_rfl) Try.func87 (by kernel_rfl) i_slices_Clone___impl_Range_impl_Range__ok (by kernel_rfl) hle h.h
abbrev r88_0 : List RO := [ro (.mov 2 (.c (.one .zs)))]
abbrev r88_1 : List RO := [rM 3 0, ro (.isnil 4 false (.t 3))]
abbrev r88_2 : List RO := [ro (.mov 2 (.c (.one .zs)))]
abbrev r88_3 : List RO := [ro (.bslice 5 2 [] []), rM 6 0, ro (.app 7 2 16 [(.int .i64 0), (.int .i64 0)] (.t 5) (.t 6)), rM 2 7]
def i_slices_Clone___impl_Write_impl_Write_ : IC := (.seq (.reg r88_0) (.seq (.seq (.reg r88_1) (.cond (.t 4) (.seq (.reg r88_2) .ret) .skip)) (.seq (.reg r88_3) .ret)))
theorem i_slices_Clone___impl_Write_impl_Write__ok : (Try.f88.body.bind fun c => toIC Try.prog 8 c []) = some (i_slices_Clone___impl_Write_impl_Write_, []) := by kernel_rfl
theorem i_slices_Clone___impl_Write_impl_Write__fn {ds rs : List D} (hle : ds.length ≤ 8) (h : AW Try.prog 8 i_slices_Clone___impl_Write_impl_Write_ (Ends [.tmp 2] rs) (init ds)) : Fn Try.prog k_slices_Clone___impl_Write_impl_Write_ (lent ds) true rs :=
  Fn.intro' (by kernel_rfl) Try.func88 (by kernel_rfl) i_slices_Clone___impl_Write_impl_Write__ok (by kernel_rfl) hle h.h
abbrev r53_0 : List RO := [ro (.mov 2 (.c (.one .zs)))]
abbrev r53_1 : List RO := [ro (.bslice 6 4 [] []), rM 3 6]
abbrev r53_2 : List RO := [rM 7 0, ro (.len 8 false (.t 7)), ro (.mov 9 (c6 0))]
abbrev r53_3 : List RO := [ro (.bin 10 .lss (.t 9) (.t 8))]
abbrev r53_4 : List RO := [ro (.iaddr 11 4 (.t 7) (.t 9)), ro (.load 12 (some 4) (.t 11)), ro (.var 5 [(dI 0), .zs, .zs, (dI 0)]), ro (.store 4 [(.int .i64 0), (.sl 2 []), (.sl 2 []), (.int .i64 0)] (.t 5) (.t 12))]
abbrev r53_5 : List RO := [rM 13 3, rF 14 0 5, ⟨⟨none, .load 15 none (.t 14)⟩, 2, [18, 21]⟩, rF 16 1 5, ⟨⟨none, .load 17 none (.t 16)⟩, 8, []⟩, ⟨⟨none, .callv 18 (.c (.one (.fn k_slices_Clone___impl_Range_impl_Range_ []))) [(.t 17)]⟩, 24, []⟩, rF 19 2 5, ⟨⟨none, .load 20 none (.t 19)⟩, 64, [18]⟩, ⟨⟨none, .callv 21 (.c (.one (.fn k_slices_Clone___impl_Write_impl_Write_ []))) [(.t 20)]⟩, 248, []⟩, rF 22 3 5, ⟨⟨none, .load 23 none (.t 22)⟩, 512, [18, 21]⟩, ⟨⟨none, .build 24 [(dI 0), .zs, .zs, (dI 0)] [(0, 1, (.t 15)), (1, 1, (.t 18)), (2, 1, (.t 21)), (3, 1, (.t 23))]⟩, 2046, []⟩, ⟨⟨none, .bslice 25 4 [(dI 0), .zs, .zs, (dI 0)] [(0, 4, (.t 24))]⟩, 4094, []⟩]
abbrev r53_6 : List RO := [ro (.app 26 4 64 [(.int .i64 0), (.sl 2 []), (.sl 2 []), (.int .i64 0)] (.t 13) (.t 25)), rM 3 26]
abbrev r53_7 : List RO := [ro (.bin 27 .add (.t 9) (c6 1)), rM 9 27]
abbrev r53_8 : List RO := [rM 28 3, rM 2 28]
def i_impl_copyShares : IC := (.seq (.reg r53_0) (.seq (.reg r53_1) (.seq (.seq (.reg r53_2) (.block 0 (.loop (.seq (.reg r53_3) (.seq (.cond (.t 10) .skip (.exit 0)) (.seq (.block 1 (.seq (.reg r53_4) (.regt r53_5 r53_6))) (.reg r53_7))))))) (.seq (.reg r53_8) .ret))))
theorem i_impl_copyShares_ok : (Try.f53.body.bind fun c => toIC Try.prog 29 c [[(0, []), (0, []), (2, [18, 21]), (0, []), (8, []), (24, []), (0, []), (64, [18]), (248, []), (0, []), (512, [18, 21]), (2046, []), (4094, []), (8191, [2000005]), (16383, [2000005])]]) = some (i_impl_copyShares, []) := by kernel_rfl
theorem i_impl_copyShares_fn {ds rs : List D} (hle : ds.length ≤ 29) (h : AW Try.prog 29 i_impl_copyShares (Ends [.tmp 2] rs) (init ds)) : Fn Try.prog k_impl_copyShares (lent ds) true rs :=
  Fn.intro' (by kernel_rfl) Try.func53 (by kernel_rfl) i_impl_copyShares_ok (by kernel_rfl) hle h.h
abbrev r42_0 : List RO := [ro (.box 1 (.t 0)), ro (.var 2 [.zs, .zs])]
abbrev r42_1 : List RO := [rF 6 1 1, rL 7 6, ro (.callv 8 (.c (.one (.fn k_slices_Clone___int_int_ []))) [(.t 7)]), ro (.build 9 [.zs, .zs] [(1, 1, (.t 8))]), ro (.var 3 [.zs, .zs]), ro (.store 2 [(.sl 5 []), (.sl 1 [])] (.t 3) (.t 9))]
abbrev r42_2 : List RO := [rF 10 0 1, rL 11 10, ro (.len 12 false (.t 11)), ro (.mov 13 (c6 0))]
abbrev r42_3 : List RO := [ro (.bin 14 .lss (.t 13) (.t 12))]
abbrev r42_4 : List RO := [ro (.iaddr 15 5 (.t 11) (.t 13)), ro (.load 16 (some 5) (.t 15)), ro (.var 5 [(dI 0), (dI 0), (dI 0), (dI 0), .zs]), ro (.store 5 [(.int .i64 0), (.int .i64 0), (.int .i64 0), (.int .i64 0), (.sl 4 [])] (.t 5) (.t 16))]
abbrev r42_5 : List RO := [rF 17 4 5, rL 18 17, ro (.callv 19 (.c (.one (.fn k_impl_copyShares []))) [(.t 18)]), rF 20 4 5, ro (.store 1 [(.sl 4 [])] (.t 20) (.t 19))]
abbrev r42_6 : List RO := [rF 21 0 3, rL 22 21, ro (.load 23 (some 5) (.t 5)), ro (.bslice 24 5 [(dI 0), (dI 0), (dI 0), (dI 0), .zs] [(0, 5, (.t 23))]), ro (.app 25 5 56 [(.int .i64 0), (.int .i64 0), (.int .i64 0), (.int .i64 0), (.sl 4 [])] (.t 22) (.t 24)), rF 26 0 3, ro (.store 1 [(.sl 5 [])] (.t 26) (.t 25))]
abbrev r42_7 : List RO := [ro (.bin 27 .add (.t 13) (c6 1)), rM 13 27]
abbrev r42_8 : List RO := [ro (.load 28 (some 2) (.t 3)), ro (.store 2 [(.sl 5 []), (.sl 1 [])] (.t 2) (.t 28))]
def i_impl_copyCoord : IC := (.seq (.reg r42_0) (.seq (.reg r42_1) (.seq (.seq (.reg r42_2) (.block 0 (.loop (.seq (.reg r42_3) (.seq (.cond (.t 14) .skip (.exit 0)) (.seq (.block 1 (.seq (.reg r42_4) (.seq (.reg r42_5) (.reg r42_6)))) (.reg r42_7))))))) (.seq (.reg r42_8) .ret))))
theorem i_impl_copyCoord_ok : (Try.f42.body.bind fun c => toIC Try.prog 29 c []) = some (i_impl_copyCoord, []) := by kernel_rfl
theorem i_impl_copyCoord_fn {ds rs : List D} (hle : ds.length ≤ 29) (h : AW Try.prog 29 i_impl_copyCoord (Ends [.cell 2 (some 2)] rs) (init ds)) : Fn Try.prog k_impl_copyCoord (lent ds) true rs :=
  Fn.intro' (by kernel_rfl) Try.func42 (by kernel_rfl) i_impl_copyCoord_ok (by kernel_rfl) hle h.h
abbrev r92_0 : List RO := [ro (.box 3 (.t 0)), ro (.mov 4 (cB false))]
abbrev r92_1 : List RO := [rF 5 1 3, rL 6 5, rL 7 1, ro (.bin 8 .eql (.t 6) (.t 7)), rM 9 8, rT 9 (.faddr 10 2 (.t 3)), rT 9 (.load 11 none (.t 10)), rT 9 (.load 12 none (.t 2)), rT 9 (.bin 13 .eql (.t 11) (.t 12)), ro (.pick 14 (.t 9) (.t 13) (cB false)), rM 4 14]
def i_impl_CoordFind_1 : IC := (.seq (.reg r92_0) (.seq (.reg r92_1) .ret))
theorem i_impl_CoordFind_1_ok : (Try.f92.body.bind fun c => toIC Try.prog 15 c []) = some (i_impl_CoordFind_1, []) := by kernel_rfl
theorem i_impl_CoordFind_1_fn {ds rs : List D} (hle : ds.length ≤ 15) (h : AW Try.prog 15 i_impl_CoordFind_1 (Ends [.tmp 4] rs) (init ds)) : Fn Try.prog k_impl_CoordFind_1 (lent ds) true rs :=
  Fn.intro' (by kernel_rfl) Try.func92 (by kernel_rfl) i_impl_CoordFind_1_ok (by kernel_rfl) hle h.h
abbrev r61_0 : List RO := [ro (.box 3 (.t 0)), ro (.box 4 (.t 1)), ro (.box 5 (.t 2)), ro (.mov 6 (c6 0))]
abbrev r61_1 : List RO := [ro (.load 7 (some 2) (.t 3)), ro (.callv 8 (.c (.one (.fn k_impl_CoordOk []))) [(.t 7)]), ro (.inv 9 (.t 8))]
abbrev r61_2 : List RO := [ro (.mov 6 (c6 0))]
abbrev r61_3 : List RO := [rF 10 0 3, rL 11 10, ro (.mkfn 12 k_impl_CoordFind_1 [(.t 4), (.t 5)]), ro (.callv 13 (.c (.one (.fn k_slices_IndexFunc___impl_Rec_impl_Rec_ []))) [(.t 11), (.t 12)]), ro (.bin 14 .add (c6 1) (.t 13)), rM 6 14]
def i_impl_CoordFind : IC := (.seq (.reg r61_0) (.seq (.seq (.reg r61_1) (.cond (.t 9) (.seq (.reg r61_2) .ret) .skip)) (.seq (.reg r61_3) .ret)))
theorem i_impl_CoordFind_ok : (Try.f61.body.bind fun c => toIC Try.prog 15 c []) = some (i_impl_CoordFind, []) := by kernel_rfl
theorem i_impl_CoordFind_fn {ds rs : List D} (hle : ds.length ≤ 15) (h : AW Try.prog 15 i_impl_CoordFind (Ends [.tmp 6] rs) (init ds)) : Fn Try.prog k_impl_CoordFind (lent ds) true rs :=
  Fn.intro' (by kernel_rfl) Try.func61 (by kernel_rfl) i_impl_CoordFind_ok (by kernel_rfl) hle h.h
abbrev r27_0 : List RO := [ro (.box 3 (.t 0)), ro (.var 6 [.zs, .zs]), ro (.mov 7 (c6 0)), ro (.mov 8 (c6 0))]
abbrev r27_1 : List RO := [ro (.load 12 (some 2) (.t 3)), ro (.callv 13 (.c (.one (.fn k_impl_CoordOk []))) [(.t 12)]), ro (.inv 14 (.t 13)), rM 15 14, rN 15 (.mov 16 (.t 1)), rN 15 (.callv 17 (.c (.one (.fn k_impl_isWhole []))) [(.t 16)]), rN 15 (.inv 18 (.t 17)), ro (.pick 19 (.t 15) (cB true) (.t 18)), rM 20 19, rN 20 (.mov 21 (.t 2)), rN 20 (.callv 22 (.c (.one (.fn k_impl_isReq []))) [(.t 21)]), rN 20 (.inv 23 (.t 22)), ro (.pick 24 (.t 20) (cB true) (.t 23))]
abbrev r27_2 : List RO := [ro (.build 25 [.zs, .zs] []), ro (.store 2 [(.sl 5 []), (.sl 1 [])] (.t 6) (.t 25)), ro (.mov 7 (c6 0)), ro (.mov 8 (c6 1))]
abbrev r27_3 : List RO := [ro (.load 26 (some 2) (.t 3)), ro (.callv 27 (.c (.one (.fn k_impl_copyCoord []))) [(.t 26)]), ro (.var 9 [.zs, .zs]), ro (.store 2 [(.sl 5 []), (.sl 1 [])] (.t 9) (.t 27))]
abbrev r27_4 : List RO := [ro (.load 28 (some 2) (.t 3)), rM 29 1, rM 30 2, ro (.callv 31 (.c (.one (.fn k_impl_CoordFind []))) [(.t 28), (.t 29), (.t 30)]), rM 10 31]
abbrev r27_5 : List RO := [rM 32 10, ro (.bin 33 .gtr (.t 32) (c6 0))]
abbrev r27_6 : List RO := [ro (.load 34 (some 2) (.t 9)), rM 35 10, ro (.store 2 [(.sl 5 []), (.sl 1 [])] (.t 6) (.t 34)), rM 7 35, ro (.mov 8 (c6 0))]
abbrev r27_7 : List RO := [rF 36 0 3, rL 37 36, ro (.len 38 false (.t 37)), ro (.bin 39 .eql (.t 38) (c6 60))]
abbrev r27_8 : List RO := [ro (.load 40 (some 2) (.t 9)), ro (.store 2 [(.sl 5 []), (.sl 1 [])] (.t 6) (.t 40)), ro (.mov 7 (c6 0)), ro (.mov 8 (c6 4))]
abbrev r27_9 : List RO := [rF 41 0 3, rL 42 41, ro (.len 43 false (.t 42)), ro (.bin 44 .add (.t 43) (c6 1)), rM 11 44]
abbrev r27_10 : List RO := [rF 45 0 9, rL 46 45, rM 47 11, rM 48 1, rM 49 2, ro (.build 50 [(dI 0), (dI 0), (dI 0), (dI 0), .zs] [(0, 1, (.t 47)), (1, 1, (.t 48)), (2, 1, (.t 49)), (3, 1, (c6 1))]), ro (.bslice 51 5 [(dI 0), (dI 0), (dI 0), (dI 0), .zs] [(0, 5, (.t 50))]), ro (.app 52 5 56 [(.int .i64 0), (.int .i64 0), (.int .i64 0), (.int .i64 0), (.sl 4 [])] (.t 46) (.t 51)), rF 53 0 9, ro (.store 1 [(.sl 5 [])] (.t 53) (.t 52))]
abbrev r27_11 : List RO := [ro (.load 54 (some 2) (.t 9)), rM 55 11, ro (.store 2 [(.sl 5 []), (.sl 1 [])] (.t 6) (.t 54)), rM 7 55, ro (.mov 8 (c6 0))]
def i_impl_CoordBegin : IC := (.seq (.reg r27_0) (.seq (.seq (.reg r27_1) (.cond (.t 24) (.seq (.reg r27_2) .ret) .skip)) (.seq (.reg r27_3) (.seq (.seq (.reg r27_4) (.seq (.reg r27_5) (.cond (.t 33) (.seq (.reg r27_6) .ret) .skip))) (.seq (.seq (.reg r27_7) (.cond (.t 39) (.seq (.reg r27_8) .ret) .skip)) (.seq (.reg r27_9) (.seq (.reg r27_10) (.seq (.reg r27_11) .ret))))))))
theorem i_impl_CoordBegin_ok : (Try.f27.body.bind fun c => toIC Try.prog 56 c []) = some (i_impl_CoordBegin, []) := by kernel_rfl
theorem i_impl_CoordBegin_fn {ds rs : List D} (hle : ds.length ≤ 56) (h : AW Try.prog 56 i_impl_CoordBegin (Ends [.cell 6 (some 2), .tmp 7, .tmp 8] rs) (init ds)) : Fn Try.prog k_impl_CoordBegin (lent ds) true rs :=
  Fn.intro' (by kernel_rfl) Try.func27 (by kernel_rfl) i_impl_CoordBegin_ok (by kernel_rfl) hle h.h
abbrev r104_0 : List RO := [ro (.box 2 (.t 0)), ro (.box 3 (.t 1)), ro (.mov 4 (cB false))]
abbrev r104_1 : List RO := [rF 5 0 2, rL 6 5, rF 7 0 3, rL 8 7, ro (.bin 9 .neq (.t 6) (.t 8))]
abbrev r104_2 : List RO := [ro (.mov 4 (cB false))]
abbrev r104_3 : List RO := [rF 10 1 2, rL 11 10, rF 12 1 3, rL 13 12, ro (.bin 14 .neq (.t 11) (.t 13))]
abbrev r104_4 : List RO := [ro (.mov 4 (cB false))]
abbrev r104_5 : List RO := [ro (.mov 4 (cB true))]
def i_laws_eqRange : IC := (.seq (.reg r104_0) (.seq (.seq (.reg r104_1) (.cond (.t 9) (.seq (.reg r104_2) .ret) .skip)) (.seq (.seq (.reg r104_3) (.cond (.t 14) (.seq (.reg r104_4) .ret) .skip)) (.seq (.reg r104_5) .ret))))
theorem i_laws_eqRange_ok : (Try.f104.body.bind fun c => toIC Try.prog 15 c []) = some (i_laws_eqRange, []) := by kernel_rfl
theorem i_laws_eqRange_fn {ds rs : List D} (hle : ds.length ≤ 15) (h : AW Try.prog 15 i_laws_eqRange (Ends [.tmp 4] rs) (init ds)) : Fn Try.prog k_laws_eqRange (lent ds) true rs :=
  Fn.intro' (by kernel_rfl) Try.func104 (by kernel_rfl) i_laws_eqRange_ok (by kernel_rfl) hle h.h
abbrev r89_0 : List RO := [ro (.mov 4 (cB false))]
abbrev r89_1 : List RO := [rM 6 0, ro (.len 7 false (.t 6)), rM 8 1, ro (.len 9 false (.t 8)), ro (.bin 10 .neq (.t 7) (.t 9))]
abbrev r89_2 : List RO := [ro (.mov 4 (cB false))]
abbrev r89_3 : List RO := [ro (.mov 5 (c6 0))]
abbrev r89_4 : List RO := [rM 11 5, rM 12 0, ro (.len 13 false (.t 12)), ro (.bin 14 .lss (.t 11) (.t 13))]
abbrev r89_5 : List RO := [rM 17 0, rM 18 5, ⟨⟨none, .iaddr 19 2 (.t 17) (.t 18)⟩, 3, []⟩, ⟨⟨none, .load 20 (some 2) (.t 19)⟩, 7, []⟩, rM 21 1, rM 22 5, ⟨⟨none, .iaddr 23 2 (.t 21) (.t 22)⟩, 48, []⟩, ⟨⟨none, .load 24 (some 2) (.t 23)⟩, 112, []⟩, ⟨⟨none, .callv 25 (.c (.one (.fn k_laws_eqRange []))) [(.t 20), (.t 24)]⟩, 255, []⟩, ⟨⟨none, .inv 26 (.t 25)⟩, 511, []⟩]
abbrev r89_6 : List RO := [ro (.mov 4 (cB false))]
abbrev r89_7 : List RO := [rM 15 5, ro (.bin 16 .add (.t 15) (c6 1)), rM 5 16]
abbrev r89_8 : List RO := [ro (.mov 4 (cB true))]
def i_laws_eqRangeS : IC := (.seq (.reg r89_0) (.seq (.seq (.reg r89_1) (.cond (.t 10) (.seq (.reg r89_2) .ret) .skip)) (.seq (.seq (.reg r89_3) (.block 0 (.loop (.seq (.seq (.reg r89_4) (.cond (.t 14) .skip (.exit 0))) (.seq (.block 1 (.seq (.regd r89_5) (.cond (.t 26) (.seq (.reg r89_6) .ret) .skip))) (.reg r89_7)))))) (.seq (.reg r89_8) .ret))))
theorem i_laws_eqRangeS_ok : (Try.f89.body.bind fun c => toIC Try.prog 27 c [[(0, []), (0, []), (3, []), (7, []), (0, []), (0, []), (48, []), (112, []), (255, []), (511, [])]]) = some (i_laws_eqRangeS, []) := by kernel_rfl
theorem i_laws_eqRangeS_fn {ds rs : List D} (hle : ds.length ≤ 27) (h : AW Try.prog 27 i_laws_eqRangeS (Ends [.tmp 4] rs) (init ds)) : Fn Try.prog k_laws_eqRangeS (lent ds) true rs :=
  Fn.intro' (by kernel_rfl) Try.func89 (by kernel_rfl) i_laws_eqRangeS_ok (by kernel_rfl) hle h.h
abbrev r105_0 : List RO := [ro (.box 2 (.t 0)), ro (.box 3 (.t 1)), ro (.mov 4 (cB false))]
abbrev r105_1 : List RO := [rF 5 0 2, rL 6 5, rF 7 0 3, rL 8 7, ro (.bin 9 .neq (.t 6) (.t 8))]
abbrev r105_2 : List RO := [ro (.mov 4 (cB false))]
abbrev r105_3 : List RO := [rF 10 1 2, rL 11 10, rF 12 1 3, rL 13 12, ro (.bin 14 .neq (.t 11) (.t 13))]
abbrev r105_4 : List RO := [ro (.mov 4 (cB false))]
abbrev r105_5 : List RO := [ro (.mov 4 (cB true))]
def i_laws_eqWrite : IC := (.seq (.reg r105_0) (.seq (.seq (.reg r105_1) (.cond (.t 9) (.seq (.reg r105_2) .ret) .skip)) (.seq (.seq (.reg r105_3) (.cond (.t 14) (.seq (.reg r105_4) .ret) .skip)) (.seq (.reg r105_5) .ret))))
theorem i_laws_eqWrite_ok : (Try.f105.body.bind fun c => toIC Try.prog 15 c []) = some (i_laws_eqWrite, []) := by kernel_rfl
theorem i_laws_eqWrite_fn {ds rs : List D} (hle : ds.length ≤ 15) (h : AW Try.prog 15 i_laws_eqWrite (Ends [.tmp 4] rs) (init ds)) : Fn Try.prog k_laws_eqWrite (lent ds) true rs :=
  Fn.intro' (by kernel_rfl) Try.func105 (by kernel_rfl) i_laws_eqWrite_ok (by kernel_rfl) hle h.h
abbrev r90_0 : List RO := [ro (.mov 4 (cB false))]
abbrev r90_1 : List RO := [rM 6 0, ro (.len 7 false (.t 6)), rM 8 1, ro (.len 9 false (.t 8)), ro (.bin 10 .neq (.t 7) (.t 9))]
abbrev r90_2 : List RO := [ro (.mov 4 (cB false))]
abbrev r90_3 : List RO := [ro (.mov 5 (c6 0))]
abbrev r90_4 : List RO := [rM 11 5, rM 12 0, ro (.len 13 false (.t 12)), ro (.bin 14 .lss (.t 11) (.t 13))]
abbrev r90_5 : List RO := [rM 17 0, rM 18 5, ⟨⟨none, .iaddr 19 2 (.t 17) (.t 18)⟩, 3, []⟩, ⟨⟨none, .load 20 (some 2) (.t 19)⟩, 7, []⟩, rM 21 1, rM 22 5, ⟨⟨none, .iaddr 23 2 (.t 21) (.t 22)⟩, 48, []⟩, ⟨⟨none, .load 24 (some 2) (.t 23)⟩, 112, []⟩, ⟨⟨none, .callv 25 (.c (.one (.fn k_laws_eqWrite []))) [(.t 20), (.t 24)]⟩, 255, []⟩, ⟨⟨none, .inv 26 (.t 25)⟩, 511, []⟩]
abbrev r90_6 : List RO := [ro (.mov 4 (cB false))]
abbrev r90_7 : List RO := [rM 15 5, ro (.bin 16 .add (.t 15) (c6 1)), rM 5 16]
abbrev r90_8 : List RO := [ro (.mov 4 (cB true))]
def i_laws_eqWriteS : IC := (.seq (.reg r90_0) (.seq (.seq (.reg r90_1) (.cond (.t 10) (.seq (.reg r90_2) .ret) .skip)) (.seq (.seq (.reg r90_3) (.block 0 (.loop (.seq (.seq (.reg r90_4) (.cond (.t 14) .skip (.exit 0))) (.seq (.block 1 (.seq (.regd r90_5) (.cond (.t 26) (.seq (.reg r90_6) .ret) .skip))) (.reg r90_7)))))) (.seq (.reg r90_8) .ret))))
theorem i_laws_eqWriteS_ok : (Try.f90.body.bind fun c => toIC Try.prog 27 c [[(0, []), (0, []), (3, []), (7, []), (0, []), (0, []), (48, []), (112, []), (255, []), (511, [])]]) = some (i_laws_eqWriteS, []) := by kernel_rfl
theorem i_laws_eqWriteS_fn {ds rs : List D} (hle : ds.length ≤ 27) (h : AW Try.prog 27 i_laws_eqWriteS (Ends [.tmp 4] rs) (init ds)) : Fn Try.prog k_laws_eqWriteS (lent ds) true rs :=
  Fn.intro' (by kernel_rfl) Try.func90 (by kernel_rfl) i_laws_eqWriteS_ok (by kernel_rfl) hle h.h
abbrev r54_0 : List RO := [ro (.box 2 (.t 0)), ro (.box 3 (.t 1)), ro (.mov 4 (cB false))]
abbrev r54_1 : List RO := [rF 5 0 2, rL 6 5, rF 7 0 3, rL 8 7, ro (.bin 9 .neq (.t 6) (.t 8))]
abbrev r54_2 : List RO := [ro (.mov 4 (cB false))]
abbrev r54_3 : List RO := [rF 10 1 2, rL 11 10, rF 12 1 3, rL 13 12, ro (.callv 14 (.c (.one (.fn k_laws_eqRangeS []))) [(.t 11), (.t 13)]), ro (.inv 15 (.t 14))]
abbrev r54_4 : List RO := [ro (.mov 4 (cB false))]
abbrev r54_5 : List RO := [rF 16 2 2, rL 17 16, rF 18 2 3, rL 19 18, ro (.callv 20 (.c (.one (.fn k_laws_eqWriteS []))) [(.t 17), (.t 19)]), ro (.inv 21 (.t 20))]
abbrev r54_6 : List RO := [ro (.mov 4 (cB false))]
abbrev r54_7 : List RO := [rF 22 3 2, rL 23 22, rF 24 3 3, rL 25 24, ro (.bin 26 .neq (.t 23) (.t 25))]
abbrev r54_8 : List RO := [ro (.mov 4 (cB false))]
abbrev r54_9 : List RO := [ro (.mov 4 (cB true))]
def i_laws_eqShare : IC := (.seq (.reg r54_0) (.seq (.seq (.reg r54_1) (.cond (.t 9) (.seq (.reg r54_2) .ret) .skip)) (.seq (.seq (.reg r54_3) (.cond (.t 15) (.seq (.reg r54_4) .ret) .skip)) (.seq (.seq (.reg r54_5) (.cond (.t 21) (.seq (.reg r54_6) .ret) .skip)) (.seq (.seq (.reg r54_7) (.cond (.t 26) (.seq (.reg r54_8) .ret) .skip)) (.seq (.reg r54_9) .ret))))))
theorem i_laws_eqShare_ok : (Try.f54.body.bind fun c => toIC Try.prog 27 c []) = some (i_laws_eqShare, []) := by kernel_rfl
theorem i_laws_eqShare_fn {ds rs : List D} (hle : ds.length ≤ 27) (h : AW Try.prog 27 i_laws_eqShare (Ends [.tmp 4] rs) (init ds)) : Fn Try.prog k_laws_eqShare (lent ds) true rs :=
  Fn.intro' (by kernel_rfl) Try.func54 (by kernel_rfl) i_laws_eqShare_ok (by kernel_rfl) hle h.h
abbrev r24_0 : List RO := [ro (.mov 4 (cB false))]
abbrev r24_1 : List RO := [rM 6 0, ro (.len 7 false (.t 6)), rM 8 1, ro (.len 9 false (.t 8)), ro (.bin 10 .neq (.t 7) (.t 9))]
abbrev r24_2 : List RO := [ro (.mov 4 (cB false))]
abbrev r24_3 : List RO := [ro (.mov 5 (c6 0))]
abbrev r24_4 : List RO := [rM 11 5, rM 12 0, ro (.len 13 false (.t 12)), ro (.bin 14 .lss (.t 11) (.t 13))]
abbrev r24_5 : List RO := [rM 17 0, rM 18 5, ⟨⟨none, .iaddr 19 4 (.t 17) (.t 18)⟩, 3, []⟩, ⟨⟨none, .load 20 (some 4) (.t 19)⟩, 7, []⟩, rM 21 1, rM 22 5, ⟨⟨none, .iaddr 23 4 (.t 21) (.t 22)⟩, 48, []⟩, ⟨⟨none, .load 24 (some 4) (.t 23)⟩, 112, []⟩, ⟨⟨none, .callv 25 (.c (.one (.fn k_laws_eqShare []))) [(.t 20), (.t 24)]⟩, 255, []⟩, ⟨⟨none, .inv 26 (.t 25)⟩, 511, []⟩]
abbrev r24_6 : List RO := [ro (.mov 4 (cB false))]
abbrev r24_7 : List RO := [rM 15 5, ro (.bin 16 .add (.t 15) (c6 1)), rM 5 16]
abbrev r24_8 : List RO := [ro (.mov 4 (cB true))]
def i_laws_eqShareS : IC := (.seq (.reg r24_0) (.seq (.seq (.reg r24_1) (.cond (.t 10) (.seq (.reg r24_2) .ret) .skip)) (.seq (.seq (.reg r24_3) (.block 0 (.loop (.seq (.seq (.reg r24_4) (.cond (.t 14) .skip (.exit 0))) (.seq (.block 1 (.seq (.regd r24_5) (.cond (.t 26) (.seq (.reg r24_6) .ret) .skip))) (.reg r24_7)))))) (.seq (.reg r24_8) .ret))))
theorem i_laws_eqShareS_ok : (Try.f24.body.bind fun c => toIC Try.prog 27 c [[(0, []), (0, []), (3, []), (7, []), (0, []), (0, []), (48, []), (112, []), (255, []), (511, [])]]) = some (i_laws_eqShareS, []) := by kernel_rfl
theorem i_laws_eqShareS_fn {ds rs : List D} (hle : ds.length ≤ 27) (h : AW Try.prog 27 i_laws_eqShareS (Ends [.tmp 4] rs) (init ds)) : Fn Try.prog k_laws_eqShareS (lent ds) true rs :=
  Fn.intro' (by kernel_rfl) Try.func24 (by kernel_rfl) i_laws_eqShareS_ok (by kernel_rfl) hle h.h
abbrev r66_0 : List RO := [ro (.box 2 (.t 0)), ro (.box 3 (.t 1)), ro (.mov 4 (cB false))]
abbrev r66_1 : List RO := [rF 5 0 2, rL 6 5, rF 7 0 3, rL 8 7, ro (.bin 9 .neq (.t 6) (.t 8))]
abbrev r66_2 : List RO := [ro (.mov 4 (cB false))]
abbrev r66_3 : List RO := [rF 10 1 2, rL 11 10, rF 12 1 3, rL 13 12, ro (.bin 14 .neq (.t 11) (.t 13))]
abbrev r66_4 : List RO := [ro (.mov 4 (cB false))]
abbrev r66_5 : List RO := [rF 15 2 2, rL 16 15, rF 17 2 3, rL 18 17, ro (.bin 19 .neq (.t 16) (.t 18))]
abbrev r66_6 : List RO := [ro (.mov 4 (cB false))]
abbrev r66_7 : List RO := [rF 20 3 2, rL 21 20, rF 22 3 3, rL 23 22, ro (.bin 24 .neq (.t 21) (.t 23))]
abbrev r66_8 : List RO := [ro (.mov 4 (cB false))]
abbrev r66_9 : List RO := [rF 25 4 2, rL 26 25, rF 27 4 3, rL 28 27, ro (.callv 29 (.c (.one (.fn k_laws_eqShareS []))) [(.t 26), (.t 28)]), ro (.inv 30 (.t 29))]
abbrev r66_10 : List RO := [ro (.mov 4 (cB false))]
abbrev r66_11 : List RO := [ro (.mov 4 (cB true))]
def i_laws_eqRec : IC := (.seq (.reg r66_0) (.seq (.seq (.reg r66_1) (.cond (.t 9) (.seq (.reg r66_2) .ret) .skip)) (.seq (.seq (.reg r66_3) (.cond (.t 14) (.seq (.reg r66_4) .ret) .skip)) (.seq (.seq (.reg r66_5) (.cond (.t 19) (.seq (.reg r66_6) .ret) .skip)) (.seq (.seq (.reg r66_7) (.cond (.t 24) (.seq (.reg r66_8) .ret) .skip)) (.seq (.seq (.reg r66_9) (.cond (.t 30) (.seq (.reg r66_10) .ret) .skip)) (.seq (.reg r66_11) .ret)))))))
theorem i_laws_eqRec_ok : (Try.f66.body.bind fun c => toIC Try.prog 31 c []) = some (i_laws_eqRec, []) := by kernel_rfl
theorem i_laws_eqRec_fn {ds rs : List D} (hle : ds.length ≤ 31) (h : AW Try.prog 31 i_laws_eqRec (Ends [.tmp 4] rs) (init ds)) : Fn Try.prog k_laws_eqRec (lent ds) true rs :=
  Fn.intro' (by kernel_rfl) Try.func66 (by kernel_rfl) i_laws_eqRec_ok (by kernel_rfl) hle h.h
abbrev r36_0 : List RO := [ro (.mov 4 (cB false))]
abbrev r36_1 : List RO := [rM 6 0, ro (.len 7 false (.t 6)), rM 8 1, ro (.len 9 false (.t 8)), ro (.bin 10 .neq (.t 7) (.t 9))]
abbrev r36_2 : List RO := [ro (.mov 4 (cB false))]
abbrev r36_3 : List RO := [ro (.mov 5 (c6 0))]
abbrev r36_4 : List RO := [rM 11 5, rM 12 0, ro (.len 13 false (.t 12)), ro (.bin 14 .lss (.t 11) (.t 13))]
abbrev r36_5 : List RO := [rM 17 0, rM 18 5, ⟨⟨none, .iaddr 19 5 (.t 17) (.t 18)⟩, 3, []⟩, ⟨⟨none, .load 20 (some 5) (.t 19)⟩, 7, []⟩, rM 21 1, rM 22 5, ⟨⟨none, .iaddr 23 5 (.t 21) (.t 22)⟩, 48, []⟩, ⟨⟨none, .load 24 (some 5) (.t 23)⟩, 112, []⟩, ⟨⟨none, .callv 25 (.c (.one (.fn k_laws_eqRec []))) [(.t 20), (.t 24)]⟩, 255, []⟩, ⟨⟨none, .inv 26 (.t 25)⟩, 511, []⟩]
abbrev r36_6 : List RO := [ro (.mov 4 (cB false))]
abbrev r36_7 : List RO := [rM 15 5, ro (.bin 16 .add (.t 15) (c6 1)), rM 5 16]
abbrev r36_8 : List RO := [ro (.mov 4 (cB true))]
def i_laws_eqRecS : IC := (.seq (.reg r36_0) (.seq (.seq (.reg r36_1) (.cond (.t 10) (.seq (.reg r36_2) .ret) .skip)) (.seq (.seq (.reg r36_3) (.block 0 (.loop (.seq (.seq (.reg r36_4) (.cond (.t 14) .skip (.exit 0))) (.seq (.block 1 (.seq (.regd r36_5) (.cond (.t 26) (.seq (.reg r36_6) .ret) .skip))) (.reg r36_7)))))) (.seq (.reg r36_8) .ret))))
theorem i_laws_eqRecS_ok : (Try.f36.body.bind fun c => toIC Try.prog 27 c [[(0, []), (0, []), (3, []), (7, []), (0, []), (0, []), (48, []), (112, []), (255, []), (511, [])]]) = some (i_laws_eqRecS, []) := by kernel_rfl
theorem i_laws_eqRecS_fn {ds rs : List D} (hle : ds.length ≤ 27) (h : AW Try.prog 27 i_laws_eqRecS (Ends [.tmp 4] rs) (init ds)) : Fn Try.prog k_laws_eqRecS (lent ds) true rs :=
  Fn.intro' (by kernel_rfl) Try.func36 (by kernel_rfl) i_laws_eqRecS_ok (by kernel_rfl) hle h.h
abbrev r12_0 : List RO := [ro (.mov 4 (cB false))]
abbrev r12_1 : List RO := [rM 6 0, ro (.len 7 false (.t 6)), rM 8 1, ro (.len 9 false (.t 8)), ro (.bin 10 .neq (.t 7) (.t 9))]
abbrev r12_2 : List RO := [ro (.mov 4 (cB false))]
abbrev r12_3 : List RO := [ro (.mov 5 (c6 0))]
abbrev r12_4 : List RO := [rM 11 5, rM 12 0, ro (.len 13 false (.t 12)), ro (.bin 14 .lss (.t 11) (.t 13))]
abbrev r12_5 : List RO := [rM 17 0, rM 18 5, ⟨⟨none, .iaddr 19 1 (.t 17) (.t 18)⟩, 3, []⟩, ⟨⟨none, .load 20 none (.t 19)⟩, 7, []⟩, rM 21 1, rM 22 5, ⟨⟨none, .iaddr 23 1 (.t 21) (.t 22)⟩, 48, []⟩, ⟨⟨none, .load 24 none (.t 23)⟩, 112, []⟩, ⟨⟨none, .bin 25 .neq (.t 20) (.t 24)⟩, 255, []⟩]
abbrev r12_6 : List RO := [ro (.mov 4 (cB false))]
abbrev r12_7 : List RO := [rM 15 5, ro (.bin 16 .add (.t 15) (c6 1)), rM 5 16]
abbrev r12_8 : List RO := [ro (.mov 4 (cB true))]
def i_laws_eqIntS : IC := (.seq (.reg r12_0) (.seq (.seq (.reg r12_1) (.cond (.t 10) (.seq (.reg r12_2) .ret) .skip)) (.seq (.seq (.reg r12_3) (.block 0 (.loop (.seq (.seq (.reg r12_4) (.cond (.t 14) .skip (.exit 0))) (.seq (.block 1 (.seq (.regd r12_5) (.cond (.t 25) (.seq (.reg r12_6) .ret) .skip))) (.reg r12_7)))))) (.seq (.reg r12_8) .ret))))
theorem i_laws_eqIntS_ok : (Try.f12.body.bind fun c => toIC Try.prog 26 c [[(0, []), (0, []), (3, []), (7, []), (0, []), (0, []), (48, []), (112, []), (255, [])]]) = some (i_laws_eqIntS, []) := by kernel_rfl
theorem i_laws_eqIntS_fn {ds rs : List D} (hle : ds.length ≤ 26) (h : AW Try.prog 26 i_laws_eqIntS (Ends [.tmp 4] rs) (init ds)) : Fn Try.prog k_laws_eqIntS (lent ds) true rs :=
  Fn.intro' (by kernel_rfl) Try.func12 (by kernel_rfl) i_laws_eqIntS_ok (by kernel_rfl) hle h.h
abbrev r13_0 : List RO := [ro (.box 2 (.t 0)), ro (.box 3 (.t 1)), ro (.mov 4 (cB false))]
abbrev r13_1 : List RO := [rF 5 0 2, rL 6 5, rF 7 0 3, rL 8 7, ro (.callv 9 (.c (.one (.fn k_laws_eqRecS []))) [(.t 6), (.t 8)]), ro (.inv 10 (.t 9))]
abbrev r13_2 : List RO := [ro (.mov 4 (cB false))]
abbrev r13_3 : List RO := [rF 11 1 2, rL 12 11, rF 13 1 3, rL 14 13, ro (.callv 15 (.c (.one (.fn k_laws_eqIntS []))) [(.t 12), (.t 14)]), ro (.inv 16 (.t 15))]
abbrev r13_4 : List RO := [ro (.mov 4 (cB false))]
abbrev r13_5 : List RO := [ro (.mov 4 (cB true))]
def i_laws_eqCoord : IC := (.seq (.reg r13_0) (.seq (.seq (.reg r13_1) (.cond (.t 10) (.seq (.reg r13_2) .ret) .skip)) (.seq (.seq (.reg r13_3) (.cond (.t 16) (.seq (.reg r13_4) .ret) .skip)) (.seq (.reg r13_5) .ret))))
theorem i_laws_eqCoord_ok : (Try.f13.body.bind fun c => toIC Try.prog 17 c []) = some (i_laws_eqCoord, []) := by kernel_rfl
theorem i_laws_eqCoord_fn {ds rs : List D} (hle : ds.length ≤ 17) (h : AW Try.prog 17 i_laws_eqCoord (Ends [.tmp 4] rs) (init ds)) : Fn Try.prog k_laws_eqCoord (lent ds) true rs :=
  Fn.intro' (by kernel_rfl) Try.func13 (by kernel_rfl) i_laws_eqCoord_ok (by kernel_rfl) hle h.h
abbrev r55_0 : List RO := [ro (.mov 4 (c6 0))]
abbrev r55_1 : List RO := [ro (.mov 5 (c6 0))]
abbrev r55_2 : List RO := [rM 6 5, rM 7 0, ro (.len 8 false (.t 7)), ro (.bin 9 .lss (.t 6) (.t 8))]
abbrev r55_3 : List RO := [rM 12 0, rM 13 5, rM 14 1, ro (.iaddr 15 2 (.t 12) (.t 13)), rF 16 0 15, ro (.store 1 [(.int .i64 0)] (.t 16) (.t 14))]
abbrev r55_4 : List RO := [rM 17 1, ro (.bin 18 .add (.t 17) (c6 1)), rM 1 18]
abbrev r55_5 : List RO := [rM 19 0, rM 20 5, rM 21 1, ro (.iaddr 22 2 (.t 19) (.t 20)), rF 23 1 22, ro (.store 1 [(.int .i64 0)] (.t 23) (.t 21))]
abbrev r55_6 : List RO := [rM 24 1, ro (.bin 25 .add (.t 24) (c6 1)), rM 1 25]
abbrev r55_7 : List RO := [rM 10 5, ro (.bin 11 .add (.t 10) (c6 1)), rM 5 11]
abbrev r55_8 : List RO := [rM 26 1, rM 4 26]
def i_laws_markRangeS : IC := (.seq (.reg r55_0) (.seq (.seq (.reg r55_1) (.block 0 (.loop (.seq (.seq (.reg r55_2) (.cond (.t 9) .skip (.exit 0))) (.seq (.block 1 (.seq (.reg r55_3) (.seq (.reg r55_4) (.seq (.reg r55_5) (.reg r55_6))))) (.reg r55_7)))))) (.seq (.reg r55_8) .ret)))
theorem i_laws_markRangeS_ok : (Try.f55.body.bind fun c => toIC Try.prog 27 c []) = some (i_laws_markRangeS, []) := by kernel_rfl
theorem i_laws_markRangeS_fnM {ars : List Ar} {rs : List D} (hle : ars.length ≤ 27) (hfr : freshL ⟨fun _ => .top, fun _ => none, fun _ => .top⟩ ((argB 0 ars).2.map (·.1))) (hlt : ((argB 0 ars).2.map (·.1)).all (fun n => Nat.ble n 1999999) = true) (h : AW Try.prog 27 i_laws_markRangeS (EndsM ars [.tmp 4] rs) (initM ars)) : Fn Try.prog k_laws_markRangeS ars true rs :=
  Fn.introM' (by kernel_rfl) Try.func55 (by kernel_rfl) i_laws_markRangeS_ok (by kernel_rfl) hle hfr hlt h.h
abbrev r56_0 : List RO := [ro (.mov 4 (c6 0))]
abbrev r56_1 : List RO := [ro (.mov 5 (c6 0))]
abbrev r56_2 : List RO := [rM 6 5, rM 7 0, ro (.len 8 false (.t 7)), ro (.bin 9 .lss (.t 6) (.t 8))]
abbrev r56_3 : List RO := [rM 12 0, rM 13 5, rM 14 1, ro (.iaddr 15 2 (.t 12) (.t 13)), rF 16 0 15, ro (.store 1 [(.int .i64 0)] (.t 16) (.t 14))]
abbrev r56_4 : List RO := [rM 17 1, ro (.bin 18 .add (.t 17) (c6 1)), rM 1 18]
abbrev r56_5 : List RO := [rM 19 0, rM 20 5, rM 21 1, ro (.iaddr 22 2 (.t 19) (.t 20)), rF 23 1 22, ro (.store 1 [(.int .i64 0)] (.t 23) (.t 21))]
abbrev r56_6 : List RO := [rM 24 1, ro (.bin 25 .add (.t 24) (c6 1)), rM 1 25]
abbrev r56_7 : List RO := [rM 10 5, ro (.bin 11 .add (.t 10) (c6 1)), rM 5 11]
abbrev r56_8 : List RO := [rM 26 1, rM 4 26]
def i_laws_markWriteS : IC := (.seq (.reg r56_0) (.seq (.seq (.reg r56_1) (.block 0 (.loop (.seq (.seq (.reg r56_2) (.cond (.t 9) .skip (.exit 0))) (.seq (.block 1 (.seq (.reg r56_3) (.seq (.reg r56_4) (.seq (.reg r56_5) (.reg r56_6))))) (.reg r56_7)))))) (.seq (.reg r56_8) .ret)))
theorem i_laws_markWriteS_ok : (Try.f56.body.bind fun c => toIC Try.prog 27 c []) = some (i_laws_markWriteS, []) := by kernel_rfl
theorem i_laws_markWriteS_fnM {ars : List Ar} {rs : List D} (hle : ars.length ≤ 27) (hfr : freshL ⟨fun _ => .top, fun _ => none, fun _ => .top⟩ ((argB 0 ars).2.map (·.1))) (hlt : ((argB 0 ars).2.map (·.1)).all (fun n => Nat.ble n 1999999) = true) (h : AW Try.prog 27 i_laws_markWriteS (EndsM ars [.tmp 4] rs) (initM ars)) : Fn Try.prog k_laws_markWriteS ars true rs :=
  Fn.introM' (by kernel_rfl) Try.func56 (by kernel_rfl) i_laws_markWriteS_ok (by kernel_rfl) hle hfr hlt h.h
abbrev r25_0 : List RO := [ro (.mov 4 (c6 0))]
abbrev r25_1 : List RO := [ro (.mov 5 (c6 0))]
abbrev r25_2 : List RO := [rM 6 5, rM 7 0, ro (.len 8 false (.t 7)), ro (.bin 9 .lss (.t 6) (.t 8))]
abbrev r25_3 : List RO := [rM 12 0, rM 13 5, rM 14 1, ro (.iaddr 15 4 (.t 12) (.t 13)), rF 16 0 15, ro (.store 1 [(.int .i64 0)] (.t 16) (.t 14))]
abbrev r25_4 : List RO := [rM 17 1, ro (.bin 18 .add (.t 17) (c6 1)), rM 1 18]
abbrev r25_5 : List RO := [rM 19 0, rM 20 5, ro (.iaddr 21 4 (.t 19) (.t 20)), rF 22 1 21, rL 23 22, rM 24 1, ro (.callv 25 (.c (.one (.fn k_laws_markRangeS []))) [(.t 23), (.t 24)]), rM 1 25]
abbrev r25_6 : List RO := [rM 26 0, rM 27 5, ro (.iaddr 28 4 (.t 26) (.t 27)), rF 29 2 28, rL 30 29, rM 31 1, ro (.callv 32 (.c (.one (.fn k_laws_markWriteS []))) [(.t 30), (.t 31)]), rM 1 32]
abbrev r25_7 : List RO := [rM 33 0, rM 34 5, rM 35 1, ro (.iaddr 36 4 (.t 33) (.t 34)), rF 37 3 36, ro (.store 1 [(.int .i64 0)] (.t 37) (.t 35))]
abbrev r25_8 : List RO := [rM 38 1, ro (.bin 39 .add (.t 38) (c6 1)), rM 1 39]
abbrev r25_9 : List RO := [rM 10 5, ro (.bin 11 .add (.t 10) (c6 1)), rM 5 11]
abbrev r25_10 : List RO := [rM 40 1, rM 4 40]
def i_laws_markShareS : IC := (.seq (.reg r25_0) (.seq (.seq (.reg r25_1) (.block 0 (.loop (.seq (.seq (.reg r25_2) (.cond (.t 9) .skip (.exit 0))) (.seq (.block 1 (.seq (.reg r25_3) (.seq (.reg r25_4) (.seq (.reg r25_5) (.seq (.reg r25_6) (.seq (.reg r25_7) (.reg r25_8))))))) (.reg r25_9)))))) (.seq (.reg r25_10) .ret)))
theorem i_laws_markShareS_ok : (Try.f25.body.bind fun c => toIC Try.prog 41 c []) = some (i_laws_markShareS, []) := by kernel_rfl
theorem i_laws_markShareS_fnM {ars : List Ar} {rs : List D} (hle : ars.length ≤ 41) (hfr : freshL ⟨fun _ => .top, fun _ => none, fun _ => .top⟩ ((argB 0 ars).2.map (·.1))) (hlt : ((argB 0 ars).2.map (·.1)).all (fun n => Nat.ble n 1999999) = true) (h : AW Try.prog 41 i_laws_markShareS (EndsM ars [.tmp 4] rs) (initM ars)) : Fn Try.prog k_laws_markShareS ars true rs :=
  Fn.introM' (by kernel_rfl) Try.func25 (by kernel_rfl) i_laws_markShareS_ok (by kernel_rfl) hle hfr hlt h.h
abbrev r37_0 : List RO := [ro (.mov 4 (c6 0))]
abbrev r37_1 : List RO := [ro (.mov 5 (c6 0))]
abbrev r37_2 : List RO := [rM 6 5, rM 7 0, ro (.len 8 false (.t 7)), ro (.bin 9 .lss (.t 6) (.t 8))]
abbrev r37_3 : List RO := [rM 12 0, rM 13 5, rM 14 1, ro (.iaddr 15 5 (.t 12) (.t 13)), rF 16 0 15, ro (.store 1 [(.int .i64 0)] (.t 16) (.t 14))]
abbrev r37_4 : List RO := [rM 17 1, ro (.bin 18 .add (.t 17) (c6 1)), rM 1 18]
abbrev r37_5 : List RO := [rM 19 0, rM 20 5, rM 21 1, ro (.iaddr 22 5 (.t 19) (.t 20)), rF 23 1 22, ro (.store 1 [(.int .i64 0)] (.t 23) (.t 21))]
abbrev r37_6 : List RO := [rM 24 1, ro (.bin 25 .add (.t 24) (c6 1)), rM 1 25]
abbrev r37_7 : List RO := [rM 26 0, rM 27 5, rM 28 1, ro (.iaddr 29 5 (.t 26) (.t 27)), rF 30 2 29, ro (.store 1 [(.int .i64 0)] (.t 30) (.t 28))]
abbrev r37_8 : List RO := [rM 31 1, ro (.bin 32 .add (.t 31) (c6 1)), rM 1 32]
abbrev r37_9 : List RO := [rM 33 0, rM 34 5, rM 35 1, ro (.iaddr 36 5 (.t 33) (.t 34)), rF 37 3 36, ro (.store 1 [(.int .i64 0)] (.t 37) (.t 35))]
abbrev r37_10 : List RO := [rM 38 1, ro (.bin 39 .add (.t 38) (c6 1)), rM 1 39]
abbrev r37_11 : List RO := [rM 40 0, rM 41 5, ro (.iaddr 42 5 (.t 40) (.t 41)), rF 43 4 42, rL 44 43, rM 45 1, ro (.callv 46 (.c (.one (.fn k_laws_markShareS []))) [(.t 44), (.t 45)]), rM 1 46]
abbrev r37_12 : List RO := [rM 10 5, ro (.bin 11 .add (.t 10) (c6 1)), rM 5 11]
abbrev r37_13 : List RO := [rM 47 1, rM 4 47]
def i_laws_markRecS : IC := (.seq (.reg r37_0) (.seq (.seq (.reg r37_1) (.block 0 (.loop (.seq (.seq (.reg r37_2) (.cond (.t 9) .skip (.exit 0))) (.seq (.block 1 (.seq (.reg r37_3) (.seq (.reg r37_4) (.seq (.reg r37_5) (.seq (.reg r37_6) (.seq (.reg r37_7) (.seq (.reg r37_8) (.seq (.reg r37_9) (.seq (.reg r37_10) (.reg r37_11)))))))))) (.reg r37_12)))))) (.seq (.reg r37_13) .ret)))
theorem i_laws_markRecS_ok : (Try.f37.body.bind fun c => toIC Try.prog 48 c []) = some (i_laws_markRecS, []) := by kernel_rfl
theorem i_laws_markRecS_fnM {ars : List Ar} {rs : List D} (hle : ars.length ≤ 48) (hfr : freshL ⟨fun _ => .top, fun _ => none, fun _ => .top⟩ ((argB 0 ars).2.map (·.1))) (hlt : ((argB 0 ars).2.map (·.1)).all (fun n => Nat.ble n 1999999) = true) (h : AW Try.prog 48 i_laws_markRecS (EndsM ars [.tmp 4] rs) (initM ars)) : Fn Try.prog k_laws_markRecS ars true rs :=
  Fn.introM' (by kernel_rfl) Try.func37 (by kernel_rfl) i_laws_markRecS_ok (by kernel_rfl) hle hfr hlt h.h
abbrev r15_0 : List RO := [ro (.mov 4 (c6 0))]
abbrev r15_1 : List RO := [ro (.mov 5 (c6 0))]
abbrev r15_2 : List RO := [rM 6 5, rM 7 0, ro (.len 8 false (.t 7)), ro (.bin 9 .lss (.t 6) (.t 8))]
abbrev r15_3 : List RO := [rM 12 0, rM 13 5, rM 14 1, ro (.iaddr 15 1 (.t 12) (.t 13)), ro (.store 1 [(.int .i64 0)] (.t 15) (.t 14))]
abbrev r15_4 : List RO := [rM 16 1, ro (.bin 17 .add (.t 16) (c6 1)), rM 1 17]
abbrev r15_5 : List RO := [rM 10 5, ro (.bin 11 .add (.t 10) (c6 1)), rM 5 11]
abbrev r15_6 : List RO := [rM 18 1, rM 4 18]
def i_laws_markIntS : IC := (.seq (.reg r15_0) (.seq (.seq (.reg r15_1) (.block 0 (.loop (.seq (.seq (.reg r15_2) (.cond (.t 9) .skip (.exit 0))) (.seq (.block 1 (.seq (.reg r15_3) (.reg r15_4))) (.reg r15_5)))))) (.seq (.reg r15_6) .ret)))
theorem i_laws_markIntS_ok : (Try.f15.body.bind fun c => toIC Try.prog 19 c []) = some (i_laws_markIntS, []) := by kernel_rfl
theorem i_laws_markIntS_fnM {ars : List Ar} {rs : List D} (hle : ars.length ≤ 19) (hfr : freshL ⟨fun _ => .top, fun _ => none, fun _ => .top⟩ ((argB 0 ars).2.map (·.1))) (hlt : ((argB 0 ars).2.map (·.1)).all (fun n => Nat.ble n 1999999) = true) (h : AW Try.prog 19 i_laws_markIntS (EndsM ars [.tmp 4] rs) (initM ars)) : Fn Try.prog k_laws_markIntS ars true rs :=
  Fn.introM' (by kernel_rfl) Try.func15 (by kernel_rfl) i_laws_markIntS_ok (by kernel_rfl) hle hfr hlt h.h
abbrev r14_0 : List RO := [ro (.box 2 (.t 0)), ro (.mov 4 (c6 0))]
abbrev r14_1 : List RO := [rF 5 0 2, rL 6 5, rM 7 1, ro (.callv 8 (.c (.one (.fn k_laws_markRecS []))) [(.t 6), (.t 7)]), rM 1 8]
abbrev r14_2 : List RO := [rF 9 1 2, rL 10 9, rM 11 1, ro (.callv 12 (.c (.one (.fn k_laws_markIntS []))) [(.t 10), (.t 11)]), rM 1 12]
abbrev r14_3 : List RO := [rM 13 1, rM 4 13]
def i_laws_markCoord : IC := (.seq (.reg r14_0) (.seq (.reg r14_1) (.seq (.reg r14_2) (.seq (.reg r14_3) .ret))))
theorem i_laws_markCoord_ok : (Try.f14.body.bind fun c => toIC Try.prog 14 c []) = some (i_laws_markCoord, []) := by kernel_rfl
theorem i_laws_markCoord_fnM {ars : List Ar} {rs : List D} (hle : ars.length ≤ 14) (hfr : freshL ⟨fun _ => .top, fun _ => none, fun _ => .top⟩ ((argB 0 ars).2.map (·.1))) (hlt : ((argB 0 ars).2.map (·.1)).all (fun n => Nat.ble n 1999999) = true) (h : AW Try.prog 14 i_laws_markCoord (EndsM ars [.tmp 4] rs) (initM ars)) : Fn Try.prog k_laws_markCoord ars true rs :=
  Fn.introM' (by kernel_rfl) Try.func14 (by kernel_rfl) i_laws_markCoord_ok (by kernel_rfl) hle hfr hlt h.h
abbrev r94_0 : List RO := [ro (.mov 4 (c6 0))]
abbrev r94_1 : List RO := [ro (.mov 5 (c6 0))]
abbrev r94_2 : List RO := [rM 6 5, rM 7 0, ro (.len 8 false (.t 7)), ro (.bin 9 .lss (.t 6) (.t 8))]
abbrev r94_3 : List RO := [rM 12 0, rM 13 5, ro (.iaddr 14 2 (.t 12) (.t 13)), rF 15 0 14, rL 16 15, rM 17 1, ro (.bin 18 .neq (.t 16) (.t 17))]
abbrev r94_4 : List RO := [ro (.mov 4 (c6 (-1)))]
abbrev r94_5 : List RO := [rM 19 1, ro (.bin 20 .add (.t 19) (c6 1)), rM 1 20]
abbrev r94_6 : List RO := [rM 21 0, rM 22 5, ro (.iaddr 23 2 (.t 21) (.t 22)), rF 24 1 23, rL 25 24, rM 26 1, ro (.bin 27 .neq (.t 25) (.t 26))]
abbrev r94_7 : List RO := [ro (.mov 4 (c6 (-1)))]
abbrev r94_8 : List RO := [rM 28 1, ro (.bin 29 .add (.t 28) (c6 1)), rM 1 29]
abbrev r94_9 : List RO := [rM 10 5, ro (.bin 11 .add (.t 10) (c6 1)), rM 5 11]
abbrev r94_10 : List RO := [rM 30 1, rM 4 30]
def i_laws_heldRangeS : IC := (.seq (.reg r94_0) (.seq (.seq (.reg r94_1) (.block 0 (.loop (.seq (.seq (.reg r94_2) (.cond (.t 9) .skip (.exit 0))) (.seq (.block 1 (.seq (.seq (.reg r94_3) (.cond (.t 18) (.seq (.reg r94_4) .ret) .skip)) (.seq (.reg r94_5) (.seq (.seq (.reg r94_6) (.cond (.t 27) (.seq (.reg r94_7) .ret) .skip)) (.reg r94_8))))) (.reg r94_9)))))) (.seq (.reg r94_10) .ret)))
theorem i_laws_heldRangeS_ok : (Try.f94.body.bind fun c => toIC Try.prog 31 c []) = some (i_laws_heldRangeS, []) := by kernel_rfl
theorem i_laws_heldRangeS_fn {ds rs : List D} (hle : ds.length ≤ 31) (h : AW Try.prog 31 i_laws_heldRangeS (Ends [.tmp 4] rs) (init ds)) : Fn Try.prog k_laws_heldRangeS (lent ds) true rs :=
  Fn.intro' (by kernel_rfl) Try.func94 (by kernel_rfl) i_laws_heldRangeS_ok (by kernel_rfl) hle h.h
abbrev r95_0 : List RO := [ro (.mov 4 (c6 0))]
abbrev r95_1 : List RO := [ro (.mov 5 (c6 0))]
abbrev r95_2 : List RO := [rM 6 5, rM 7 0, ro (.len 8 false (.t 7)), ro (.bin 9 .lss (.t 6) (.t 8))]
abbrev r95_3 : List RO := [rM 12 0, rM 13 5, ro (.iaddr 14 2 (.t 12) (.t 13)), rF 15 0 14, rL 16 15, rM 17 1, ro (.bin 18 .neq (.t 16) (.t 17))]
abbrev r95_4 : List RO := [ro (.mov 4 (c6 (-1)))]
abbrev r95_5 : List RO := [rM 19 1, ro (.bin 20 .add (.t 19) (c6 1)), rM 1 20]
abbrev r95_6 : List RO := [rM 21 0, rM 22 5, ro (.iaddr 23 2 (.t 21) (.t 22)), rF 24 1 23, rL 25 24, rM 26 1, ro (.bin 27 .neq (.t 25) (.t 26))]
abbrev r95_7 : List RO := [ro (.mov 4 (c6 (-1)))]
abbrev r95_8 : List RO := [rM 28 1, ro (.bin 29 .add (.t 28) (c6 1)), rM 1 29]
abbrev r95_9 : List RO := [rM 10 5, ro (.bin 11 .add (.t 10) (c6 1)), rM 5 11]
abbrev r95_10 : List RO := [rM 30 1, rM 4 30]
def i_laws_heldWriteS : IC := (.seq (.reg r95_0) (.seq (.seq (.reg r95_1) (.block 0 (.loop (.seq (.seq (.reg r95_2) (.cond (.t 9) .skip (.exit 0))) (.seq (.block 1 (.seq (.seq (.reg r95_3) (.cond (.t 18) (.seq (.reg r95_4) .ret) .skip)) (.seq (.reg r95_5) (.seq (.seq (.reg r95_6) (.cond (.t 27) (.seq (.reg r95_7) .ret) .skip)) (.reg r95_8))))) (.reg r95_9)))))) (.seq (.reg r95_10) .ret)))
theorem i_laws_heldWriteS_ok : (Try.f95.body.bind fun c => toIC Try.prog 31 c []) = some (i_laws_heldWriteS, []) := by kernel_rfl
theorem i_laws_heldWriteS_fn {ds rs : List D} (hle : ds.length ≤ 31) (h : AW Try.prog 31 i_laws_heldWriteS (Ends [.tmp 4] rs) (init ds)) : Fn Try.prog k_laws_heldWriteS (lent ds) true rs :=
  Fn.intro' (by kernel_rfl) Try.func95 (by kernel_rfl) i_laws_heldWriteS_ok (by kernel_rfl) hle h.h
abbrev r75_0 : List RO := [ro (.mov 4 (c6 0))]
abbrev r75_1 : List RO := [ro (.mov 5 (c6 0))]
abbrev r75_2 : List RO := [rM 6 5, rM 7 0, ro (.len 8 false (.t 7)), ro (.bin 9 .lss (.t 6) (.t 8))]
abbrev r75_3 : List RO := [rM 12 0, rM 13 5, ro (.iaddr 14 4 (.t 12) (.t 13)), rF 15 0 14, rL 16 15, rM 17 1, ro (.bin 18 .neq (.t 16) (.t 17))]
abbrev r75_4 : List RO := [ro (.mov 4 (c6 (-1)))]
abbrev r75_5 : List RO := [rM 19 1, ro (.bin 20 .add (.t 19) (c6 1)), rM 1 20]
abbrev r75_6 : List RO := [rM 21 0, rM 22 5, ro (.iaddr 23 4 (.t 21) (.t 22)), rF 24 1 23, rL 25 24, rM 26 1, ro (.callv 27 (.c (.one (.fn k_laws_heldRangeS []))) [(.t 25), (.t 26)]), rM 1 27]
abbrev r75_7 : List RO := [rM 28 1, ro (.bin 29 .lss (.t 28) (c6 0))]
abbrev r75_8 : List RO := [ro (.mov 4 (c6 (-1)))]
abbrev r75_9 : List RO := [rM 30 0, rM 31 5, ro (.iaddr 32 4 (.t 30) (.t 31)), rF 33 2 32, rL 34 33, rM 35 1, ro (.callv 36 (.c (.one (.fn k_laws_heldWriteS []))) [(.t 34), (.t 35)]), rM 1 36]
abbrev r75_10 : List RO := [rM 37 1, ro (.bin 38 .lss (.t 37) (c6 0))]
abbrev r75_11 : List RO := [ro (.mov 4 (c6 (-1)))]
abbrev r75_12 : List RO := [rM 39 0, rM 40 5, ro (.iaddr 41 4 (.t 39) (.t 40)), rF 42 3 41, rL 43 42, rM 44 1, ro (.bin 45 .neq (.t 43) (.t 44))]
abbrev r75_13 : List RO := [ro (.mov 4 (c6 (-1)))]
abbrev r75_14 : List RO := [rM 46 1, ro (.bin 47 .add (.t 46) (c6 1)), rM 1 47]
abbrev r75_15 : List RO := [rM 10 5, ro (.bin 11 .add (.t 10) (c6 1)), rM 5 11]
abbrev r75_16 : List RO := [rM 48 1, rM 4 48]
def i_laws_heldShareS : IC := (.seq (.reg r75_0) (.seq (.seq (.reg r75_1) (.block 0 (.loop (.seq (.seq (.reg r75_2) (.cond (.t 9) .skip (.exit 0))) (.seq (.block 1 (.seq (.seq (.reg r75_3) (.cond (.t 18) (.seq (.reg r75_4) .ret) .skip)) (.seq (.reg r75_5) (.seq (.reg r75_6) (.seq (.seq (.reg r75_7) (.cond (.t 29) (.seq (.reg r75_8) .ret) .skip)) (.seq (.reg r75_9) (.seq (.seq (.reg r75_10) (.cond (.t 38) (.seq (.reg r75_11) .ret) .skip)) (.seq (.seq (.reg r75_12) (.cond (.t 45) (.seq (.reg r75_13) .ret) .skip)) (.reg r75_14))))))))) (.reg r75_15)))))) (.seq (.reg r75_16) .ret)))
theorem i_laws_heldShareS_ok : (Try.f75.body.bind fun c => toIC Try.prog 49 c []) = some (i_laws_heldShareS, []) := by kernel_rfl
theorem i_laws_heldShareS_fn {ds rs : List D} (hle : ds.length ≤ 49) (h : AW Try.prog 49 i_laws_heldShareS (Ends [.tmp 4] rs) (init ds)) : Fn Try.prog k_laws_heldShareS (lent ds) true rs :=
  Fn.intro' (by kernel_rfl) Try.func75 (by kernel_rfl) i_laws_heldShareS_ok (by kernel_rfl) hle h.h
abbrev r45_0 : List RO := [ro (.mov 4 (c6 0))]
abbrev r45_1 : List RO := [ro (.mov 5 (c6 0))]
abbrev r45_2 : List RO := [rM 6 5, rM 7 0, ro (.len 8 false (.t 7)), ro (.bin 9 .lss (.t 6) (.t 8))]
abbrev r45_3 : List RO := [rM 12 0, rM 13 5, ro (.iaddr 14 5 (.t 12) (.t 13)), rF 15 0 14, rL 16 15, rM 17 1, ro (.bin 18 .neq (.t 16) (.t 17))]
abbrev r45_4 : List RO := [ro (.mov 4 (c6 (-1)))]
abbrev r45_5 : List RO := [rM 19 1, ro (.bin 20 .add (.t 19) (c6 1)), rM 1 20]
abbrev r45_6 : List RO := [rM 21 0, rM 22 5, ro (.iaddr 23 5 (.t 21) (.t 22)), rF 24 1 23, rL 25 24, rM 26 1, ro (.bin 27 .neq (.t 25) (.t 26))]
abbrev r45_7 : List RO := [ro (.mov 4 (c6 (-1)))]
abbrev r45_8 : List RO := [rM 28 1, ro (.bin 29 .add (.t 28) (c6 1)), rM 1 29]
abbrev r45_9 : List RO := [rM 30 0, rM 31 5, ro (.iaddr 32 5 (.t 30) (.t 31)), rF 33 2 32, rL 34 33, rM 35 1, ro (.bin 36 .neq (.t 34) (.t 35))]
abbrev r45_10 : List RO := [ro (.mov 4 (c6 (-1)))]
abbrev r45_11 : List RO := [rM 37 1, ro (.bin 38 .add (.t 37) (c6 1)), rM 1 38]
abbrev r45_12 : List RO := [rM 39 0, rM 40 5, ro (.iaddr 41 5 (.t 39) (.t 40)), rF 42 3 41, rL 43 42, rM 44 1, ro (.bin 45 .neq (.t 43) (.t 44))]
abbrev r45_13 : List RO := [ro (.mov 4 (c6 (-1)))]
abbrev r45_14 : List RO := [rM 46 1, ro (.bin 47 .add (.t 46) (c6 1)), rM 1 47]
abbrev r45_15 : List RO := [rM 48 0, rM 49 5, ro (.iaddr 50 5 (.t 48) (.t 49)), rF 51 4 50, rL 52 51, rM 53 1, ro (.callv 54 (.c (.one (.fn k_laws_heldShareS []))) [(.t 52), (.t 53)]), rM 1 54]
abbrev r45_16 : List RO := [rM 55 1, ro (.bin 56 .lss (.t 55) (c6 0))]
abbrev r45_17 : List RO := [ro (.mov 4 (c6 (-1)))]
abbrev r45_18 : List RO := [rM 10 5, ro (.bin 11 .add (.t 10) (c6 1)), rM 5 11]
abbrev r45_19 : List RO := [rM 57 1, rM 4 57]
def i_laws_heldRecS : IC := (.seq (.reg r45_0) (.seq (.seq (.reg r45_1) (.block 0 (.loop (.seq (.seq (.reg r45_2) (.cond (.t 9) .skip (.exit 0))) (.seq (.block 1 (.seq (.seq (.reg r45_3) (.cond (.t 18) (.seq (.reg r45_4) .ret) .skip)) (.seq (.reg r45_5) (.seq (.seq (.reg r45_6) (.cond (.t 27) (.seq (.reg r45_7) .ret) .skip)) (.seq (.reg r45_8) (.seq (.seq (.reg r45_9) (.cond (.t 36) (.seq (.reg r45_10) .ret) .skip)) (.seq (.reg r45_11) (.seq (.seq (.reg r45_12) (.cond (.t 45) (.seq (.reg r45_13) .ret) .skip)) (.seq (.reg r45_14) (.seq (.reg r45_15) (.seq (.reg r45_16) (.cond (.t 56) (.seq (.reg r45_17) .ret) .skip)))))))))))) (.reg r45_18)))))) (.seq (.reg r45_19) .ret)))
theorem i_laws_heldRecS_ok : (Try.f45.body.bind fun c => toIC Try.prog 58 c []) = some (i_laws_heldRecS, []) := by kernel_rfl
theorem i_laws_heldRecS_fn {ds rs : List D} (hle : ds.length ≤ 58) (h : AW Try.prog 58 i_laws_heldRecS (Ends [.tmp 4] rs) (init ds)) : Fn Try.prog k_laws_heldRecS (lent ds) true rs :=
  Fn.intro' (by kernel_rfl) Try.func45 (by kernel_rfl) i_laws_heldRecS_ok (by kernel_rfl) hle h.h
abbrev r16_0 : List RO := [ro (.mov 4 (c6 0))]
abbrev r16_1 : List RO := [ro (.mov 5 (c6 0))]
abbrev r16_2 : List RO := [rM 6 5, rM 7 0, ro (.len 8 false (.t 7)), ro (.bin 9 .lss (.t 6) (.t 8))]
abbrev r16_3 : List RO := [rM 12 0, rM 13 5, ro (.iaddr 14 1 (.t 12) (.t 13)), rL 15 14, rM 16 1, ro (.bin 17 .neq (.t 15) (.t 16))]
abbrev r16_4 : List RO := [ro (.mov 4 (c6 (-1)))]
abbrev r16_5 : List RO := [rM 18 1, ro (.bin 19 .add (.t 18) (c6 1)), rM 1 19]
abbrev r16_6 : List RO := [rM 10 5, ro (.bin 11 .add (.t 10) (c6 1)), rM 5 11]
abbrev r16_7 : List RO := [rM 20 1, rM 4 20]
def i_laws_heldIntS : IC := (.seq (.reg r16_0) (.seq (.seq (.reg r16_1) (.block 0 (.loop (.seq (.seq (.reg r16_2) (.cond (.t 9) .skip (.exit 0))) (.seq (.block 1 (.seq (.seq (.reg r16_3) (.cond (.t 17) (.seq (.reg r16_4) .ret) .skip)) (.reg r16_5))) (.reg r16_6)))))) (.seq (.reg r16_7) .ret)))
theorem i_laws_heldIntS_ok : (Try.f16.body.bind fun c => toIC Try.prog 21 c []) = some (i_laws_heldIntS, []) := by kernel_rfl
theorem i_laws_heldIntS_fn {ds rs : List D} (hle : ds.length ≤ 21) (h : AW Try.prog 21 i_laws_heldIntS (Ends [.tmp 4] rs) (init ds)) : Fn Try.prog k_laws_heldIntS (lent ds) true rs :=
  Fn.intro' (by kernel_rfl) Try.func16 (by kernel_rfl) i_laws_heldIntS_ok (by kernel_rfl) hle h.h
abbrev r19_0 : List RO := [ro (.box 2 (.t 0)), ro (.mov 4 (c6 0))]
abbrev r19_1 : List RO := [rF 5 0 2, rL 6 5, rM 7 1, ro (.callv 8 (.c (.one (.fn k_laws_heldRecS []))) [(.t 6), (.t 7)]), rM 1 8]
abbrev r19_2 : List RO := [rM 9 1, ro (.bin 10 .lss (.t 9) (c6 0))]
abbrev r19_3 : List RO := [ro (.mov 4 (c6 (-1)))]
abbrev r19_4 : List RO := [rF 11 1 2, rL 12 11, rM 13 1, ro (.callv 14 (.c (.one (.fn k_laws_heldIntS []))) [(.t 12), (.t 13)]), rM 1 14]
abbrev r19_5 : List RO := [rM 15 1, ro (.bin 16 .lss (.t 15) (c6 0))]
abbrev r19_6 : List RO := [ro (.mov 4 (c6 (-1)))]
abbrev r19_7 : List RO := [rM 17 1, rM 4 17]
def i_laws_heldCoord : IC := (.seq (.reg r19_0) (.seq (.reg r19_1) (.seq (.seq (.reg r19_2) (.cond (.t 10) (.seq (.reg r19_3) .ret) .skip)) (.seq (.reg r19_4) (.seq (.seq (.reg r19_5) (.cond (.t 16) (.seq (.reg r19_6) .ret) .skip)) (.seq (.reg r19_7) .ret))))))
theorem i_laws_heldCoord_ok : (Try.f19.body.bind fun c => toIC Try.prog 18 c []) = some (i_laws_heldCoord, []) := by kernel_rfl
theorem i_laws_heldCoord_fn {ds rs : List D} (hle : ds.length ≤ 18) (h : AW Try.prog 18 i_laws_heldCoord (Ends [.tmp 4] rs) (init ds)) : Fn Try.prog k_laws_heldCoord (lent ds) true rs :=
  Fn.intro' (by kernel_rfl) Try.func19 (by kernel_rfl) i_laws_heldCoord_ok (by kernel_rfl) hle h.h
abbrev r6_0 : List RO := [ro (.box 3 (.t 0)), ro (.mov 6 (cB false))]
abbrev r6_1 : List RO := [ro (.mov 7 (c6 1048576))]
abbrev r6_2 : List RO := [ro (.load 21 (some 2) (.t 3)), rM 22 7, ro (.callv 23 (.c (.one (.fn k_laws_szCoord []))) [(.t 21), (.t 22)]), rM 7 23]
abbrev r6_3 : List RO := [rM 24 7, ro (.bin 25 .lss (.t 24) (c6 0))]
abbrev r6_4 : List RO := [ro (.mov 6 (cB true))]
abbrev r6_5 : List RO := [ro (.load 27 (some 2) (.t 3)), ro (.callv 28 (.c (.one (.fn k_laws_toCoord []))) [(.t 27)]), rM 29 1, rM 30 2, ro (.callv 31 (.c (.one (.fn k_spec_CoordBegin []))) [(.t 28), (.t 29), (.t 30)]), rM 26 31, ro (.ext 32 (.t 26) 0), ro (.ext 33 (.t 26) 1), ro (.ext 34 (.t 26) 2), ro (.var 8 [.zs, .zs]), ro (.store 2 [(.sl 5 []), (.sl 1 [])] (.t 8) (.t 32)), rM 9 33, rM 10 34]
abbrev r6_6 : List RO := [ro (.load 35 (some 2) (.t 3)), ro (.callv 36 (.c (.one (.fn k_laws_toCoord []))) [(.t 35)]), ro (.var 11 [.zs, .zs]), ro (.store 2 [(.sl 5 []), (.sl 1 [])] (.t 11) (.t 36))]
abbrev r6_7 : List RO := [ro (.load 38 (some 2) (.t 11)), rM 39 1, rM 40 2, ro (.callv 41 (.c (.one (.fn k_impl_CoordBegin []))) [(.t 38), (.t 39), (.t 40)]), rM 37 41, ro (.ext 42 (.t 37) 0), ro (.ext 43 (.t 37) 1), ro (.ext 44 (.t 37) 2), ro (.var 12 [.zs, .zs]), ro (.store 2 [(.sl 5 []), (.sl 1 [])] (.t 12) (.t 42)), rM 13 43, rM 14 44]
abbrev r6_8 : List RO := [ro (.load 45 (some 2) (.t 12)), ro (.load 46 (some 2) (.t 8)), ro (.callv 47 (.c (.one (.fn k_laws_eqCoord []))) [(.t 45), (.t 46)]), ro (.inv 48 (.t 47)), rM 49 48, rN 49 (.mov 50 (.t 13)), rN 49 (.mov 51 (.t 9)), rN 49 (.bin 52 .neq (.t 50) (.t 51)), ro (.pick 53 (.t 49) (cB true) (.t 52)), rM 54 53, rN 54 (.mov 55 (.t 14)), rN 54 (.mov 56 (.t 10)), rN 54 (.bin 57 .neq (.t 55) (.t 56)), ro (.pick 58 (.t 54) (cB true) (.t 57))]
abbrev r6_9 : List RO := [ro (.mov 6 (cB false))]
abbrev r6_10 : List RO := [⟨⟨none, .load 59 (some 2) (.t 11)⟩, 0, [61]⟩, ro (.load 60 (some 2) (.t 3)), ⟨⟨none, .callv 61 (.c (.one (.fn k_laws_toCoord []))) [(.t 60)]⟩, 2, []⟩, ⟨⟨none, .callv 62 (.c (.one (.fn k_laws_eqCoord []))) [(.t 59), (.t 61)]⟩, 7, []⟩, ⟨⟨none, .inv 63 (.t 62)⟩, 15, []⟩]
abbrev r6_11 : List RO := [ro (.mov 6 (cB false))]
abbrev r6_12 : List RO := [ro (.mov 15 (c6 1))]
abbrev r6_13 : List RO := [ro (.load 64 (some 2) (.t 11)), rM 65 15, ro (.callv 66 (.c (.one (.fn k_laws_markCoord []))) [(.t 64), (.t 65)]), rM 15 66]
abbrev r6_14 : List RO := [rM 67 15, ro (.bin 68 .lss (.t 67) (c6 0)), rM 69 68, rN 69 (.load 70 (some 2) (.t 12)), rN 69 (.load 71 (some 2) (.t 8)), rN 69 (.callv 72 (.c (.one (.fn k_laws_eqCoord []))) [(.t 70), (.t 71)]), rN 69 (.inv 73 (.t 72)), ro (.pick 74 (.t 69) (cB true) (.t 73)), rM 75 74, rN 75 (.mov 76 (.t 13)), rN 75 (.mov 77 (.t 9)), rN 75 (.bin 78 .neq (.t 76) (.t 77)), ro (.pick 79 (.t 75) (cB true) (.t 78)), rM 80 79, rN 80 (.mov 81 (.t 14)), rN 80 (.mov 82 (.t 10)), rN 80 (.bin 83 .neq (.t 81) (.t 82)), ro (.pick 84 (.t 80) (cB true) (.t 83))]
abbrev r6_15 : List RO := [ro (.mov 6 (cB false))]
abbrev r6_16 : List RO := [ro (.mov 16 (c6 1))]
abbrev r6_17 : List RO := [ro (.load 85 (some 2) (.t 12)), rM 86 16, ro (.callv 87 (.c (.one (.fn k_laws_markCoord []))) [(.t 85), (.t 86)]), rM 16 87]
abbrev r6_18 : List RO := [ro (.mov 17 (c6 1))]
abbrev r6_19 : List RO := [ro (.load 88 (some 2) (.t 12)), rM 89 17, ro (.callv 90 (.c (.one (.fn k_laws_heldCoord []))) [(.t 88), (.t 89)]), rM 17 90]
abbrev r6_20 : List RO := [rM 91 17, ro (.bin 92 .lss (.t 91) (c6 0))]
abbrev r6_21 : List RO := [ro (.mov 6 (cB false))]
abbrev r6_22 : List RO := [rM 93 17, rM 94 16, ro (.bin 95 .neq (.t 93) (.t 94))]
abbrev r6_23 : List RO := [ro (.mov 6 (cB false))]
abbrev r6_24 : List RO := [ro (.load 97 (some 2) (.t 3)), ro (.callv 98 (.c (.one (.fn k_laws_toCoord []))) [(.t 97)]), rM 99 1, rM 100 2, ro (.callv 101 (.c (.one (.fn k_impl_CoordBegin []))) [(.t 98), (.t 99), (.t 100)]), rM 96 101, ro (.ext 102 (.t 96) 0), ro (.ext 103 (.t 96) 1), ro (.ext 104 (.t 96) 2), ro (.var 18 [.zs, .zs]), ro (.store 2 [(.sl 5 []), (.sl 1 [])] (.t 18) (.t 102)), rM 19 103, rM 20 104]
abbrev r6_25 : List RO := [ro (.load 105 (some 2) (.t 18)), ro (.load 106 (some 2) (.t 8)), ro (.callv 107 (.c (.one (.fn k_laws_eqCoord []))) [(.t 105), (.t 106)]), ro (.inv 108 (.t 107)), rM 109 108, rN 109 (.mov 110 (.t 19)), rN 109 (.mov 111 (.t 9)), rN 109 (.bin 112 .neq (.t 110) (.t 111)), ro (.pick 113 (.t 109) (cB true) (.t 112)), rM 114 113, rN 114 (.mov 115 (.t 20)), rN 114 (.mov 116 (.t 10)), rN 114 (.bin 117 .neq (.t 115) (.t 116)), ro (.pick 118 (.t 114) (cB true) (.t 117))]
abbrev r6_26 : List RO := [ro (.mov 6 (cB false))]
abbrev r6_27 : List RO := [ro (.mov 17 (c6 1))]
abbrev r6_28 : List RO := [ro (.load 119 (some 2) (.t 12)), rM 120 17, ro (.callv 121 (.c (.one (.fn k_laws_heldCoord []))) [(.t 119), (.t 120)]), rM 17 121]
abbrev r6_29 : List RO := [rM 122 17, ro (.bin 123 .lss (.t 122) (c6 0))]
abbrev r6_30 : List RO := [ro (.mov 6 (cB false))]
abbrev r6_31 : List RO := [rM 124 17, rM 125 16, ro (.bin 126 .neq (.t 124) (.t 125))]
abbrev r6_32 : List RO := [ro (.mov 6 (cB false))]
abbrev r6_33 : List RO := [ro (.mov 6 (cB true))]
def i_laws_FnExactCoordBegin : IC := (.seq (.reg r6_0) (.seq (.reg r6_1) (.seq (.reg r6_2) (.seq (.seq (.reg r6_3) (.cond (.t 25) (.seq (.reg r6_4) .ret) .skip)) (.seq (.reg r6_5) (.seq (.reg r6_6) (.seq (.reg r6_7) (.seq (.seq (.reg r6_8) (.cond (.t 58) (.seq (.reg r6_9) .ret) .skip)) (.seq (.seq (.regd r6_10) (.cond (.t 63) (.seq (.reg r6_11) .ret) .skip)) (.seq (.reg r6_12) (.seq (.reg r6_13) (.seq (.seq (.reg r6_14) (.cond (.t 84) (.seq (.reg r6_15) .ret) .skip)) (.seq (.reg r6_16) (.seq (.reg r6_17) (.seq (.reg r6_18) (.seq (.reg r6_19) (.seq (.seq (.reg r6_20) (.cond (.t 92) (.seq (.reg r6_21) .ret) .skip)) (.seq (.seq (.reg r6_22) (.cond (.t 95) (.seq (.reg r6_23) .ret) .skip)) (.seq (.reg r6_24) (.seq (.seq (.reg r6_25) (.cond (.t 118) (.seq (.reg r6_26) .ret) .skip)) (.seq (.reg r6_27) (.seq (.reg r6_28) (.seq (.seq (.reg r6_29) (.cond (.t 123) (.seq (.reg r6_30) .ret) .skip)) (.seq (.seq (.reg r6_31) (.cond (.t 126) (.seq (.reg r6_32) .ret) .skip)) (.seq (.reg r6_33) .ret)))))))))))))))))))))))))
theorem i_laws_FnExactCoordBegin_ok : (Try.f6.body.bind fun c => toIC Try.prog 127 c [[(0, [61]), (0, []), (2, []), (7, []), (15, [])]]) = some (i_laws_FnExactCoordBegin, []) := by kernel_rfl
theorem i_laws_FnExactCoordBegin_fn {ds rs : List D} (hle : ds.length ≤ 127) (h : AW Try.prog 127 i_laws_FnExactCoordBegin (Ends [.tmp 6] rs) (init ds)) : Fn Try.prog k_laws_FnExactCoordBegin (lent ds) true rs :=
  Fn.intro' (by kernel_rfl) Try.func6 (by kernel_rfl) i_laws_FnExactCoordBegin_ok (by kernel_rfl) hle h.h
end Go.AW
