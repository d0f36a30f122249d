/- The compact code of functions of the program, and that it is the program's: made by a program of the prover's own (tool/GenIC.lean). Conditions: none. -/
import Derived.Test.YtcicokdmnhbjjaaGreatYi
import Derived.Test.YtcicokdmnhbjjaaGreatRows
import Derived.KernelRfl
set_option linter.unusedVariables false
set_option maxRecDepth 100000
namespace Go.AW
open Go.Proofs
abbrev k_laws_FnExactShardOk : Nat := 3
abbrev k_laws_szShard : Nat := 5
abbrev k_spec_ShardOk : Nat := 6
abbrev k_laws_toShard : Nat := 7
abbrev k_impl_ShardOk : Nat := 8
abbrev k_laws_eqShard : Nat := 9
abbrev k_laws_szRangeS : Nat := 10
abbrev k_laws_toRangeS : Nat := 12
abbrev k_laws_eqRangeS : Nat := 14
abbrev k_laws_szCellS : Nat := 18
abbrev k_laws_szLockS : Nat := 19
abbrev k_laws_szHeldS : Nat := 20
abbrev k_laws_szIntS : Nat := 21
abbrev k_spec_l1In : Nat := 22
abbrev k_spec_RangesOk : Nat := 23
abbrev k_spec_StoreOk : Nat := 24
abbrev k_spec_LocksOk : Nat := 25
abbrev k_spec_l13Txs : Nat := 26
abbrev k_spec_RangesHave : Nat := 27
abbrev k_spec_l10One : Nat := 28
abbrev k_spec_l12Range : Nat := 29
abbrev k_spec_l12Has : Nat := 30
abbrev k_spec_l13HeldsOk : Nat := 31
abbrev k_spec_l13New : Nat := 32
abbrev k_laws_toCellS : Nat := 33
abbrev k_laws_toLockS : Nat := 34
abbrev k_laws_toHeldS : Nat := 35
abbrev k_laws_toIntS : Nat := 36
abbrev k_impl_isGroup : Nat := 37
abbrev k_impl_RangesOk : Nat := 38
abbrev k_impl_StoreOk : Nat := 39
abbrev k_impl_LocksOk : Nat := 40
abbrev k_impl_heldsOk : Nat := 41
abbrev k_impl_ascending : Nat := 42
abbrev k_impl_from : Nat := 43
abbrev k_slices_ContainsFunc___impl_Range_impl_Range_ : Nat := 44
abbrev k_impl_ShardOk_1 : Nat := 45
abbrev k_impl_haveAll : Nat := 46
abbrev k_slices_ContainsFunc___impl_Cell_impl_Cell_ : Nat := 47
abbrev k_impl_ShardOk_2 : Nat := 48
abbrev k_impl_one : Nat := 49
abbrev k_slices_Concat___int_int_ : Nat := 50
abbrev k_slices_ContainsFunc___impl_Lock_impl_Lock_ : Nat := 51
abbrev k_impl_ShardOk_3 : Nat := 52
abbrev k__impl_Lock_keys : Nat := 53
abbrev k_slices_Contains___int_int_ : Nat := 54
abbrev k_impl_txsOf : Nat := 55
abbrev k_slices_Sort___int_int_ : Nat := 56
abbrev k_slices_Compact___int_int_ : Nat := 57
abbrev k_slices_Clone___int_int_ : Nat := 58
abbrev k_impl_room : Nat := 59
abbrev k_laws_eqCellS : Nat := 60
abbrev k_laws_eqLockS : Nat := 61
abbrev k_laws_eqHeldS : Nat := 62
abbrev k_laws_eqIntS : Nat := 63
abbrev k_laws_toRange : Nat := 64
abbrev k_laws_eqRange : Nat := 66
abbrev k_laws_szHeld : Nat := 76
abbrev k_spec_RangeOk : Nat := 77
abbrev k_spec_l10Key : Nat := 78
abbrev k_spec_l1Whole : Nat := 79
abbrev k_spec_l12Tx : Nat := 80
abbrev k_spec_l12Mode : Nat := 81
abbrev k_spec_l12Clash : Nat := 82
abbrev k_spec_WritesOk : Nat := 83
abbrev k_spec_l12Holds : Nat := 84
abbrev k_spec_StoreNew : Nat := 85
abbrev k_laws_toCell : Nat := 86
abbrev k_laws_toLock : Nat := 87
abbrev k_laws_toHeld : Nat := 88
abbrev k_impl_RangeOk : Nat := 89
abbrev k_impl_isKey : Nat := 90
abbrev k_impl_isWhole : Nat := 91
abbrev k_impl_isTx : Nat := 92
abbrev k_impl_isMode : Nat := 93
abbrev k_impl_LocksOk_1 : Nat := 94
abbrev k_impl_clash : Nat := 95
abbrev k_impl_WritesOk : Nat := 96
abbrev k_slices_ContainsFunc___impl_Write_impl_Write_ : Nat := 97
abbrev k_impl_heldsOk_1 : Nat := 98
abbrev k_impl_LocksHold : Nat := 99
abbrev k_slices_IndexFunc___impl_Range_impl_Range_ : Nat := 100
abbrev k_slices_IndexFunc___impl_Cell_impl_Cell_ : Nat := 101
abbrev k_slices_Grow___int_int_ : Nat := 102
abbrev k_slices_IndexFunc___impl_Lock_impl_Lock_ : Nat := 103
abbrev k_slices_Index___int_int_ : Nat := 104
abbrev k_impl_StoreNew : Nat := 107
abbrev k_laws_eqCell : Nat := 108
abbrev k_laws_eqLock : Nat := 109
abbrev k_laws_eqHeld : Nat := 110
abbrev k_laws_szWriteS : Nat := 113
abbrev k_spec_RangeMeet : Nat := 114
abbrev k_spec_RangeIn : Nat := 115
abbrev k_spec_l11Get : Nat := 116
abbrev k_laws_toWriteS : Nat := 117
abbrev k_impl_meets : Nat := 118
abbrev k_impl_isAnswer : Nat := 119
abbrev k_slices_IndexFunc___impl_Write_impl_Write_ : Nat := 120
abbrev k_impl_LocksHold_1 : Nat := 121
abbrev k_impl_valueOf : Nat := 133
abbrev k_laws_eqWriteS : Nat := 134
abbrev k_spec_l1Max : Nat := 135
abbrev k_spec_l1Min : Nat := 136
abbrev k_laws_toWrite : Nat := 137
abbrev k_impl_cellFor : Nat := 144
abbrev k_laws_eqWrite : Nat := 145
abbrev k_slices_BinarySearchFunc___impl_Cell_impl_Cell_int_ : Nat := 147
abbrev k_impl_cellFor_1 : Nat := 148
abbrev r10_0 : List RO := [ro (.mov 4 (c6 0))]
abbrev r10_1 : List RO := [rM 5 1, rM 6 0, ro (.len 7 false (.t 6)), ro (.bin 8 .sub (.t 5) (.t 7)), rM 1 8]
abbrev r10_2 : List RO := [rM 9 1, ro (.bin 10 .lss (.t 9) (c6 0))]
abbrev r10_3 : List RO := [ro (.mov 4 (c6 (-1)))]
abbrev r10_4 : List RO := [rM 11 1, rM 4 11]
def i_laws_szRangeS : IC := (.seq (.reg r10_0) (.seq (.reg r10_1) (.seq (.seq (.reg r10_2) (.cond (.t 10) (.seq (.reg r10_3) .ret) .skip)) (.seq (.reg r10_4) .ret))))
theorem i_laws_szRangeS_ok : (Tryz.f10.body.bind fun c => toIC Tryz.prog 12 c []) = some (i_laws_szRangeS, []) := by kernel_rfl
theorem i_laws_szRangeS_fn {ds rs : List D} (hle : ds.length ≤ 12) (h : AW Tryz.prog 12 i_laws_szRangeS (Ends [.tmp 4] rs) (init ds)) : Fn Tryz.prog k_laws_szRangeS (lent ds) true rs :=
  Fn.intro' (by kernel_rfl) Tryz.func10 (by kernel_rfl) i_laws_szRangeS_ok (by kernel_rfl) hle h.h
abbrev r18_0 : List RO := [ro (.mov 4 (c6 0))]
abbrev r18_1 : List RO := [rM 5 1, rM 6 0, ro (.len 7 false (.t 6)), ro (.bin 8 .sub (.t 5) (.t 7)), rM 1 8]
abbrev r18_2 : List RO := [rM 9 1, ro (.bin 10 .lss (.t 9) (c6 0))]
abbrev r18_3 : List RO := [ro (.mov 4 (c6 (-1)))]
abbrev r18_4 : List RO := [rM 11 1, rM 4 11]
def i_laws_szCellS : IC := (.seq (.reg r18_0) (.seq (.reg r18_1) (.seq (.seq (.reg r18_2) (.cond (.t 10) (.seq (.reg r18_3) .ret) .skip)) (.seq (.reg r18_4) .ret))))
theorem i_laws_szCellS_ok : (Tryz.f18.body.bind fun c => toIC Tryz.prog 12 c []) = some (i_laws_szCellS, []) := by kernel_rfl
theorem i_laws_szCellS_fn {ds rs : List D} (hle : ds.length ≤ 12) (h : AW Tryz.prog 12 i_laws_szCellS (Ends [.tmp 4] rs) (init ds)) : Fn Tryz.prog k_laws_szCellS (lent ds) true rs :=
  Fn.intro' (by kernel_rfl) Tryz.func18 (by kernel_rfl) i_laws_szCellS_ok (by kernel_rfl) hle h.h
abbrev r19_0 : List RO := [ro (.mov 4 (c6 0))]
abbrev r19_1 : List RO := [rM 5 1, rM 6 0, ro (.len 7 false (.t 6)), ro (.bin 8 .sub (.t 5) (.t 7)), rM 1 8]
abbrev r19_2 : List RO := [rM 9 1, ro (.bin 10 .lss (.t 9) (c6 0))]
abbrev r19_3 : List RO := [ro (.mov 4 (c6 (-1)))]
abbrev r19_4 : List RO := [rM 11 1, rM 4 11]
def i_laws_szLockS : IC := (.seq (.reg r19_0) (.seq (.reg r19_1) (.seq (.seq (.reg r19_2) (.cond (.t 10) (.seq (.reg r19_3) .ret) .skip)) (.seq (.reg r19_4) .ret))))
theorem i_laws_szLockS_ok : (Tryz.f19.body.bind fun c => toIC Tryz.prog 12 c []) = some (i_laws_szLockS, []) := by kernel_rfl
theorem i_laws_szLockS_fn {ds rs : List D} (hle : ds.length ≤ 12) (h : AW Tryz.prog 12 i_laws_szLockS (Ends [.tmp 4] rs) (init ds)) : Fn Tryz.prog k_laws_szLockS (lent ds) true rs :=
  Fn.intro' (by kernel_rfl) Tryz.func19 (by kernel_rfl) i_laws_szLockS_ok (by kernel_rfl) hle h.h
abbrev r113_0 : List RO := [ro (.mov 4 (c6 0))]
abbrev r113_1 : List RO := [rM 5 1, rM 6 0, ro (.len 7 false (.t 6)), ro (.bin 8 .sub (.t 5) (.t 7)), rM 1 8]
abbrev r113_2 : List RO := [rM 9 1, ro (.bin 10 .lss (.t 9) (c6 0))]
abbrev r113_3 : List RO := [ro (.mov 4 (c6 (-1)))]
abbrev r113_4 : List RO := [rM 11 1, rM 4 11]
def i_laws_szWriteS : IC := (.seq (.reg r113_0) (.seq (.reg r113_1) (.seq (.seq (.reg r113_2) (.cond (.t 10) (.seq (.reg r113_3) .ret) .skip)) (.seq (.reg r113_4) .ret))))
theorem i_laws_szWriteS_ok : (Tryz.f113.body.bind fun c => toIC Tryz.prog 12 c []) = some (i_laws_szWriteS, []) := by kernel_rfl
theorem i_laws_szWriteS_fn {ds rs : List D} (hle : ds.length ≤ 12) (h : AW Tryz.prog 12 i_laws_szWriteS (Ends [.tmp 4] rs) (init ds)) : Fn Tryz.prog k_laws_szWriteS (lent ds) true rs :=
  Fn.intro' (by kernel_rfl) Tryz.func113 (by kernel_rfl) i_laws_szWriteS_ok (by kernel_rfl) hle h.h
abbrev r76_0 : List RO := [ro (.box 2 (.t 0)), ro (.mov 4 (c6 0))]
abbrev r76_1 : List RO := [rF 5 1 2, rL 6 5, rM 7 1, ro (.callv 8 (.c (.one (.fn k_laws_szWriteS []))) [(.t 6), (.t 7)]), rM 1 8]
abbrev r76_2 : List RO := [rM 9 1, ro (.bin 10 .lss (.t 9) (c6 0))]
abbrev r76_3 : List RO := [ro (.mov 4 (c6 (-1)))]
abbrev r76_4 : List RO := [rM 11 1, rM 4 11]
def i_laws_szHeld : IC := (.seq (.reg r76_0) (.seq (.reg r76_1) (.seq (.seq (.reg r76_2) (.cond (.t 10) (.seq (.reg r76_3) .ret) .skip)) (.seq (.reg r76_4) .ret))))
theorem i_laws_szHeld_ok : (Tryz.f76.body.bind fun c => toIC Tryz.prog 12 c []) = some (i_laws_szHeld, []) := by kernel_rfl
theorem i_laws_szHeld_fn {ds rs : List D} (hle : ds.length ≤ 12) (h : AW Tryz.prog 12 i_laws_szHeld (Ends [.tmp 4] rs) (init ds)) : Fn Tryz.prog k_laws_szHeld (lent ds) true rs :=
  Fn.intro' (by kernel_rfl) Tryz.func76 (by kernel_rfl) i_laws_szHeld_ok (by kernel_rfl) hle h.h
abbrev r20_0 : List RO := [ro (.mov 4 (c6 0))]
abbrev r20_1 : List RO := [rM 6 1, rM 7 0, ro (.len 8 false (.t 7)), ro (.bin 9 .sub (.t 6) (.t 8)), rM 1 9]
abbrev r20_2 : List RO := [rM 10 1, ro (.bin 11 .lss (.t 10) (c6 0))]
abbrev r20_3 : List RO := [ro (.mov 4 (c6 (-1)))]
abbrev r20_4 : List RO := [ro (.mov 5 (c6 0))]
abbrev r20_5 : List RO := [rM 12 5, rM 13 0, ro (.len 14 false (.t 13)), ro (.bin 15 .lss (.t 12) (.t 14))]
abbrev r20_6 : List RO := [rM 18 0, rM 19 5, ro (.iaddr 20 2 (.t 18) (.t 19)), ro (.load 21 (some 2) (.t 20)), rM 22 1, ro (.callv 23 (.c (.one (.fn k_laws_szHeld []))) [(.t 21), (.t 22)]), rM 1 23]
abbrev r20_7 : List RO := [rM 24 1, ro (.bin 25 .lss (.t 24) (c6 0))]
abbrev r20_8 : List RO := [ro (.mov 4 (c6 (-1)))]
abbrev r20_9 : List RO := [rM 16 5, ro (.bin 17 .add (.t 16) (c6 1)), rM 5 17]
abbrev r20_10 : List RO := [rM 26 1, rM 4 26]
def i_laws_szHeldS : IC := (.seq (.reg r20_0) (.seq (.reg r20_1) (.seq (.seq (.reg r20_2) (.cond (.t 11) (.seq (.reg r20_3) .ret) .skip)) (.seq (.seq (.reg r20_4) (.block 0 (.loop (.seq (.seq (.reg r20_5) (.cond (.t 15) .skip (.exit 0))) (.seq (.block 1 (.seq (.reg r20_6) (.seq (.reg r20_7) (.cond (.t 25) (.seq (.reg r20_8) .ret) .skip)))) (.reg r20_9)))))) (.seq (.reg r20_10) .ret)))))
theorem i_laws_szHeldS_ok : (Tryz.f20.body.bind fun c => toIC Tryz.prog 27 c []) = some (i_laws_szHeldS, []) := by kernel_rfl
theorem i_laws_szHeldS_fn {ds rs : List D} (hle : ds.length ≤ 27) (h : AW Tryz.prog 27 i_laws_szHeldS (Ends [.tmp 4] rs) (init ds)) : Fn Tryz.prog k_laws_szHeldS (lent ds) true rs :=
  Fn.intro' (by kernel_rfl) Tryz.func20 (by kernel_rfl) i_laws_szHeldS_ok (by kernel_rfl) hle h.h
abbrev r21_0 : List RO := [ro (.mov 4 (c6 0))]
abbrev r21_1 : List RO := [rM 5 1, rM 6 0, ro (.len 7 false (.t 6)), ro (.bin 8 .sub (.t 5) (.t 7)), rM 1 8]
abbrev r21_2 : List RO := [rM 9 1, ro (.bin 10 .lss (.t 9) (c6 0))]
abbrev r21_3 : List RO := [ro (.mov 4 (c6 (-1)))]
abbrev r21_4 : List RO := [rM 11 1, rM 4 11]
def i_laws_szIntS : IC := (.seq (.reg r21_0) (.seq (.reg r21_1) (.seq (.seq (.reg r21_2) (.cond (.t 10) (.seq (.reg r21_3) .ret) .skip)) (.seq (.reg r21_4) .ret))))
theorem i_laws_szIntS_ok : (Tryz.f21.body.bind fun c => toIC Tryz.prog 12 c []) = some (i_laws_szIntS, []) := by kernel_rfl
theorem i_laws_szIntS_fn {ds rs : List D} (hle : ds.length ≤ 12) (h : AW Tryz.prog 12 i_laws_szIntS (Ends [.tmp 4] rs) (init ds)) : Fn Tryz.prog k_laws_szIntS (lent ds) true rs :=
  Fn.intro' (by kernel_rfl) Tryz.func21 (by kernel_rfl) i_laws_szIntS_ok (by kernel_rfl) hle h.h
abbrev r5_0 : List RO := [ro (.box 2 (.t 0)), ro (.mov 4 (c6 0))]
abbrev r5_1 : List RO := [rF 5 1 2, rL 6 5, rM 7 1, ro (.callv 8 (.c (.one (.fn k_laws_szRangeS []))) [(.t 6), (.t 7)]), rM 1 8]
abbrev r5_2 : List RO := [rM 9 1, ro (.bin 10 .lss (.t 9) (c6 0))]
abbrev r5_3 : List RO := [ro (.mov 4 (c6 (-1)))]
abbrev r5_4 : List RO := [rF 11 2 2, rL 12 11, rM 13 1, ro (.callv 14 (.c (.one (.fn k_laws_szRangeS []))) [(.t 12), (.t 13)]), rM 1 14]
abbrev r5_5 : List RO := [rM 15 1, ro (.bin 16 .lss (.t 15) (c6 0))]
abbrev r5_6 : List RO := [ro (.mov 4 (c6 (-1)))]
abbrev r5_7 : List RO := [rF 17 3 2, rL 18 17, rM 19 1, ro (.callv 20 (.c (.one (.fn k_laws_szCellS []))) [(.t 18), (.t 19)]), rM 1 20]
abbrev r5_8 : List RO := [rM 21 1, ro (.bin 22 .lss (.t 21) (c6 0))]
abbrev r5_9 : List RO := [ro (.mov 4 (c6 (-1)))]
abbrev r5_10 : List RO := [rF 23 4 2, rL 24 23, rM 25 1, ro (.callv 26 (.c (.one (.fn k_laws_szLockS []))) [(.t 24), (.t 25)]), rM 1 26]
abbrev r5_11 : List RO := [rM 27 1, ro (.bin 28 .lss (.t 27) (c6 0))]
abbrev r5_12 : List RO := [ro (.mov 4 (c6 (-1)))]
abbrev r5_13 : List RO := [rF 29 5 2, rL 30 29, rM 31 1, ro (.callv 32 (.c (.one (.fn k_laws_szHeldS []))) [(.t 30), (.t 31)]), rM 1 32]
abbrev r5_14 : List RO := [rM 33 1, ro (.bin 34 .lss (.t 33) (c6 0))]
abbrev r5_15 : List RO := [ro (.mov 4 (c6 (-1)))]
abbrev r5_16 : List RO := [rF 35 6 2, rL 36 35, rM 37 1, ro (.callv 38 (.c (.one (.fn k_laws_szIntS []))) [(.t 36), (.t 37)]), rM 1 38]
abbrev r5_17 : List RO := [rM 39 1, ro (.bin 40 .lss (.t 39) (c6 0))]
abbrev r5_18 : List RO := [ro (.mov 4 (c6 (-1)))]
abbrev r5_19 : List RO := [rF 41 7 2, rL 42 41, rM 43 1, ro (.callv 44 (.c (.one (.fn k_laws_szIntS []))) [(.t 42), (.t 43)]), rM 1 44]
abbrev r5_20 : List RO := [rM 45 1, ro (.bin 46 .lss (.t 45) (c6 0))]
abbrev r5_21 : List RO := [ro (.mov 4 (c6 (-1)))]
abbrev r5_22 : List RO := [rM 47 1, rM 4 47]
def i_laws_szShard : IC := (.seq (.reg r5_0) (.seq (.reg r5_1) (.seq (.seq (.reg r5_2) (.cond (.t 10) (.seq (.reg r5_3) .ret) .skip)) (.seq (.reg r5_4) (.seq (.seq (.reg r5_5) (.cond (.t 16) (.seq (.reg r5_6) .ret) .skip)) (.seq (.reg r5_7) (.seq (.seq (.reg r5_8) (.cond (.t 22) (.seq (.reg r5_9) .ret) .skip)) (.seq (.reg r5_10) (.seq (.seq (.reg r5_11) (.cond (.t 28) (.seq (.reg r5_12) .ret) .skip)) (.seq (.reg r5_13) (.seq (.seq (.reg r5_14) (.cond (.t 34) (.seq (.reg r5_15) .ret) .skip)) (.seq (.reg r5_16) (.seq (.seq (.reg r5_17) (.cond (.t 40) (.seq (.reg r5_18) .ret) .skip)) (.seq (.reg r5_19) (.seq (.seq (.reg r5_20) (.cond (.t 46) (.seq (.reg r5_21) .ret) .skip)) (.seq (.reg r5_22) .ret))))))))))))))))
theorem i_laws_szShard_ok : (Tryz.f5.body.bind fun c => toIC Tryz.prog 48 c []) = some (i_laws_szShard, []) := by kernel_rfl
theorem i_laws_szShard_fn {ds rs : List D} (hle : ds.length ≤ 48) (h : AW Tryz.prog 48 i_laws_szShard (Ends [.tmp 4] rs) (init ds)) : Fn Tryz.prog k_laws_szShard (lent ds) true rs :=
  Fn.intro' (by kernel_rfl) Tryz.func5 (by kernel_rfl) i_laws_szShard_ok (by kernel_rfl) hle h.h
abbrev r64_0 : List RO := [ro (.box 1 (.t 0)), ro (.var 2 [(dI 0), (dI 0)])]
abbrev r64_1 : List RO := [ro (.var 3 [(dI 0), (dI 0)])]
abbrev r64_2 : List RO := [rF 4 0 1, rL 5 4, rF 6 0 3, ro (.store 1 [(.int .i64 0)] (.t 6) (.t 5))]
abbrev r64_3 : List RO := [rF 7 1 1, rL 8 7, rF 9 1 3, ro (.store 1 [(.int .i64 0)] (.t 9) (.t 8))]
abbrev r64_4 : List RO := [ro (.load 10 (some 2) (.t 3)), ro (.store 2 [(.int .i64 0), (.int .i64 0)] (.t 2) (.t 10))]
def i_laws_toRange : IC := (.seq (.reg r64_0) (.seq (.reg r64_1) (.seq (.reg r64_2) (.seq (.reg r64_3) (.seq (.reg r64_4) .ret)))))
theorem i_laws_toRange_ok : (Tryz.f64.body.bind fun c => toIC Tryz.prog 11 c []) = some (i_laws_toRange, []) := by kernel_rfl
theorem i_laws_toRange_fn {ds rs : List D} (hle : ds.length ≤ 11) (h : AW Tryz.prog 11 i_laws_toRange (Ends [.cell 2 (some 2)] rs) (init ds)) : Fn Tryz.prog k_laws_toRange (lent ds) true rs :=
  Fn.intro' (by kernel_rfl) Tryz.func64 (by kernel_rfl) i_laws_toRange_ok (by kernel_rfl) hle h.h
abbrev r12_0 : List RO := [ro (.mov 2 (.c (.one .zs)))]
abbrev r12_1 : List RO := [rM 5 0, ro (.len 6 false (.t 5)), ro (.mksl 7 2 16 [(.int .i64 0), (.int .i64 0)] (.t 6) (.t 6)), rM 3 7]
abbrev r12_2 : List RO := [ro (.mov 4 (c6 0))]
abbrev r12_3 : List RO := [rM 8 4, rM 9 0, ro (.len 10 false (.t 9)), ro (.bin 11 .lss (.t 8) (.t 10))]
abbrev r12_4 : List RO := [rM 14 3, rM 15 4, rM 16 0, rM 17 4, ro (.iaddr 18 2 (.t 16) (.t 17)), ro (.load 19 (some 2) (.t 18)), ro (.callv 20 (.c (.one (.fn k_laws_toRange []))) [(.t 19)]), ro (.iaddr 21 2 (.t 14) (.t 15)), ro (.store 2 [(.int .i64 0), (.int .i64 0)] (.t 21) (.t 20))]
abbrev r12_5 : List RO := [rM 12 4, ro (.bin 13 .add (.t 12) (c6 1)), rM 4 13]
abbrev r12_6 : List RO := [rM 22 3, rM 2 22]
def i_laws_toRangeS : IC := (.seq (.reg r12_0) (.seq (.reg r12_1) (.seq (.seq (.reg r12_2) (.block 0 (.loop (.seq (.seq (.reg r12_3) (.cond (.t 11) .skip (.exit 0))) (.seq (.block 1 (.reg r12_4)) (.reg r12_5)))))) (.seq (.reg r12_6) .ret))))
theorem i_laws_toRangeS_ok : (Tryz.f12.body.bind fun c => toIC Tryz.prog 23 c []) = some (i_laws_toRangeS, []) := by kernel_rfl
theorem i_laws_toRangeS_fn {ds rs : List D} (hle : ds.length ≤ 23) (h : AW Tryz.prog 23 i_laws_toRangeS (Ends [.tmp 2] rs) (init ds)) : Fn Tryz.prog k_laws_toRangeS (lent ds) true rs :=
  Fn.intro' (by kernel_rfl) Tryz.func12 (by kernel_rfl) i_laws_toRangeS_ok (by kernel_rfl) hle h.h
abbrev r86_0 : List RO := [ro (.box 1 (.t 0)), ro (.var 2 [(dI 0), (dI 0)])]
abbrev r86_1 : List RO := [ro (.var 3 [(dI 0), (dI 0)])]
abbrev r86_2 : List RO := [rF 4 0 1, rL 5 4, rF 6 0 3, ro (.store 1 [(.int .i64 0)] (.t 6) (.t 5))]
abbrev r86_3 : List RO := [rF 7 1 1, rL 8 7, rF 9 1 3, ro (.store 1 [(.int .i64 0)] (.t 9) (.t 8))]
abbrev r86_4 : List RO := [ro (.load 10 (some 2) (.t 3)), ro (.store 2 [(.int .i64 0), (.int .i64 0)] (.t 2) (.t 10))]
def i_laws_toCell : IC := (.seq (.reg r86_0) (.seq (.reg r86_1) (.seq (.reg r86_2) (.seq (.reg r86_3) (.seq (.reg r86_4) .ret)))))
theorem i_laws_toCell_ok : (Tryz.f86.body.bind fun c => toIC Tryz.prog 11 c []) = some (i_laws_toCell, []) := by kernel_rfl
theorem i_laws_toCell_fn {ds rs : List D} (hle : ds.length ≤ 11) (h : AW Tryz.prog 11 i_laws_toCell (Ends [.cell 2 (some 2)] rs) (init ds)) : Fn Tryz.prog k_laws_toCell (lent ds) true rs :=
  Fn.intro' (by kernel_rfl) Tryz.func86 (by kernel_rfl) i_laws_toCell_ok (by kernel_rfl) hle h.h
abbrev r33_0 : List RO := [ro (.mov 2 (.c (.one .zs)))]
abbrev r33_1 : List RO := [rM 5 0, ro (.len 6 false (.t 5)), ro (.mksl 7 2 16 [(.int .i64 0), (.int .i64 0)] (.t 6) (.t 6)), rM 3 7]
abbrev r33_2 : List RO := [ro (.mov 4 (c6 0))]
abbrev r33_3 : List RO := [rM 8 4, rM 9 0, ro (.len 10 false (.t 9)), ro (.bin 11 .lss (.t 8) (.t 10))]
abbrev r33_4 : List RO := [rM 14 3, rM 15 4, rM 16 0, rM 17 4, ro (.iaddr 18 2 (.t 16) (.t 17)), ro (.load 19 (some 2) (.t 18)), ro (.callv 20 (.c (.one (.fn k_laws_toCell []))) [(.t 19)]), ro (.iaddr 21 2 (.t 14) (.t 15)), ro (.store 2 [(.int .i64 0), (.int .i64 0)] (.t 21) (.t 20))]
abbrev r33_5 : List RO := [rM 12 4, ro (.bin 13 .add (.t 12) (c6 1)), rM 4 13]
abbrev r33_6 : List RO := [rM 22 3, rM 2 22]
def i_laws_toCellS : IC := (.seq (.reg r33_0) (.seq (.reg r33_1) (.seq (.seq (.reg r33_2) (.block 0 (.loop (.seq (.seq (.reg r33_3) (.cond (.t 11) .skip (.exit 0))) (.seq (.block 1 (.reg r33_4)) (.reg r33_5)))))) (.seq (.reg r33_6) .ret))))
theorem i_laws_toCellS_ok : (Tryz.f33.body.bind fun c => toIC Tryz.prog 23 c []) = some (i_laws_toCellS, []) := by kernel_rfl
theorem i_laws_toCellS_fn {ds rs : List D} (hle : ds.length ≤ 23) (h : AW Tryz.prog 23 i_laws_toCellS (Ends [.tmp 2] rs) (init ds)) : Fn Tryz.prog k_laws_toCellS (lent ds) true rs :=
  Fn.intro' (by kernel_rfl) Tryz.func33 (by kernel_rfl) i_laws_toCellS_ok (by kernel_rfl) hle h.h
abbrev r87_0 : List RO := [ro (.box 1 (.t 0)), ro (.var 2 [(dI 0), (dI 0), (dI 0), (dI 0)])]
abbrev r87_1 : List RO := [ro (.var 3 [(dI 0), (dI 0), (dI 0), (dI 0)])]
abbrev r87_2 : List RO := [rF 4 0 1, rL 5 4, rF 6 0 3, ro (.store 1 [(.int .i64 0)] (.t 6) (.t 5))]
abbrev r87_3 : List RO := [rF 7 1 1, rL 8 7, rF 9 1 3, ro (.store 1 [(.int .i64 0)] (.t 9) (.t 8))]
abbrev r87_4 : List RO := [rF 10 2 1, rL 11 10, rF 12 2 3, ro (.store 1 [(.int .i64 0)] (.t 12) (.t 11))]
abbrev r87_5 : List RO := [rF 13 3 1, rL 14 13, rF 15 3 3, ro (.store 1 [(.int .i64 0)] (.t 15) (.t 14))]
abbrev r87_6 : List RO := [ro (.load 16 (some 4) (.t 3)), ro (.store 4 [(.int .i64 0), (.int .i64 0), (.int .i64 0), (.int .i64 0)] (.t 2) (.t 16))]
def i_laws_toLock : IC := (.seq (.reg r87_0) (.seq (.reg r87_1) (.seq (.reg r87_2) (.seq (.reg r87_3) (.seq (.reg r87_4) (.seq (.reg r87_5) (.seq (.reg r87_6) .ret)))))))
theorem i_laws_toLock_ok : (Tryz.f87.body.bind fun c => toIC Tryz.prog 17 c []) = some (i_laws_toLock, []) := by kernel_rfl
theorem i_laws_toLock_fn {ds rs : List D} (hle : ds.length ≤ 17) (h : AW Tryz.prog 17 i_laws_toLock (Ends [.cell 2 (some 4)] rs) (init ds)) : Fn Tryz.prog k_laws_toLock (lent ds) true rs :=
  Fn.intro' (by kernel_rfl) Tryz.func87 (by kernel_rfl) i_laws_toLock_ok (by kernel_rfl) hle h.h
abbrev r34_0 : List RO := [ro (.mov 2 (.c (.one .zs)))]
abbrev r34_1 : List RO := [rM 5 0, ro (.len 6 false (.t 5)), ro (.mksl 7 4 32 [(.int .i64 0), (.int .i64 0), (.int .i64 0), (.int .i64 0)] (.t 6) (.t 6)), rM 3 7]
abbrev r34_2 : List RO := [ro (.mov 4 (c6 0))]
abbrev r34_3 : List RO := [rM 8 4, rM 9 0, ro (.len 10 false (.t 9)), ro (.bin 11 .lss (.t 8) (.t 10))]
abbrev r34_4 : List RO := [rM 14 3, rM 15 4, rM 16 0, rM 17 4, ro (.iaddr 18 4 (.t 16) (.t 17)), ro (.load 19 (some 4) (.t 18)), ro (.callv 20 (.c (.one (.fn k_laws_toLock []))) [(.t 19)]), ro (.iaddr 21 4 (.t 14) (.t 15)), ro (.store 4 [(.int .i64 0), (.int .i64 0), (.int .i64 0), (.int .i64 0)] (.t 21) (.t 20))]
abbrev r34_5 : List RO := [rM 12 4, ro (.bin 13 .add (.t 12) (c6 1)), rM 4 13]
abbrev r34_6 : List RO := [rM 22 3, rM 2 22]
def i_laws_toLockS : IC := (.seq (.reg r34_0) (.seq (.reg r34_1) (.seq (.seq (.reg r34_2) (.block 0 (.loop (.seq (.seq (.reg r34_3) (.cond (.t 11) .skip (.exit 0))) (.seq (.block 1 (.reg r34_4)) (.reg r34_5)))))) (.seq (.reg r34_6) .ret))))
theorem i_laws_toLockS_ok : (Tryz.f34.body.bind fun c => toIC Tryz.prog 23 c []) = some (i_laws_toLockS, []) := by kernel_rfl
theorem i_laws_toLockS_fn {ds rs : List D} (hle : ds.length ≤ 23) (h : AW Tryz.prog 23 i_laws_toLockS (Ends [.tmp 2] rs) (init ds)) : Fn Tryz.prog k_laws_toLockS (lent ds) true rs :=
  Fn.intro' (by kernel_rfl) Tryz.func34 (by kernel_rfl) i_laws_toLockS_ok (by kernel_rfl) hle h.h
abbrev r137_0 : List RO := [ro (.box 1 (.t 0)), ro (.var 2 [(dI 0), (dI 0)])]
abbrev r137_1 : List RO := [ro (.var 3 [(dI 0), (dI 0)])]
abbrev r137_2 : List RO := [rF 4 0 1, rL 5 4, rF 6 0 3, ro (.store 1 [(.int .i64 0)] (.t 6) (.t 5))]
abbrev r137_3 : List RO := [rF 7 1 1, rL 8 7, rF 9 1 3, ro (.store 1 [(.int .i64 0)] (.t 9) (.t 8))]
abbrev r137_4 : List RO := [ro (.load 10 (some 2) (.t 3)), ro (.store 2 [(.int .i64 0), (.int .i64 0)] (.t 2) (.t 10))]
def i_laws_toWrite : IC := (.seq (.reg r137_0) (.seq (.reg r137_1) (.seq (.reg r137_2) (.seq (.reg r137_3) (.seq (.reg r137_4) .ret)))))
theorem i_laws_toWrite_ok : (Tryz.f137.body.bind fun c => toIC Tryz.prog 11 c []) = some (i_laws_toWrite, []) := by kernel_rfl
theorem i_laws_toWrite_fn {ds rs : List D} (hle : ds.length ≤ 11) (h : AW Tryz.prog 11 i_laws_toWrite (Ends [.cell 2 (some 2)] rs) (init ds)) : Fn Tryz.prog k_laws_toWrite (lent ds) true rs :=
  Fn.intro' (by kernel_rfl) Tryz.func137 (by kernel_rfl) i_laws_toWrite_ok (by kernel_rfl) hle h.h
abbrev r117_0 : List RO := [ro (.mov 2 (.c (.one .zs)))]
abbrev r117_1 : List RO := [rM 5 0, ro (.len 6 false (.t 5)), ro (.mksl 7 2 16 [(.int .i64 0), (.int .i64 0)] (.t 6) (.t 6)), rM 3 7]
abbrev r117_2 : List RO := [ro (.mov 4 (c6 0))]
abbrev r117_3 : List RO := [rM 8 4, rM 9 0, ro (.len 10 false (.t 9)), ro (.bin 11 .lss (.t 8) (.t 10))]
abbrev r117_4 : List RO := [rM 14 3, rM 15 4, rM 16 0, rM 17 4, ro (.iaddr 18 2 (.t 16) (.t 17)), ro (.load 19 (some 2) (.t 18)), ro (.callv 20 (.c (.one (.fn k_laws_toWrite []))) [(.t 19)]), ro (.iaddr 21 2 (.t 14) (.t 15)), ro (.store 2 [(.int .i64 0), (.int .i64 0)] (.t 21) (.t 20))]
abbrev r117_5 : List RO := [rM 12 4, ro (.bin 13 .add (.t 12) (c6 1)), rM 4 13]
abbrev r117_6 : List RO := [rM 22 3, rM 2 22]
def i_laws_toWriteS : IC := (.seq (.reg r117_0) (.seq (.reg r117_1) (.seq (.seq (.reg r117_2) (.block 0 (.loop (.seq (.seq (.reg r117_3) (.cond (.t 11) .skip (.exit 0))) (.seq (.block 1 (.reg r117_4)) (.reg r117_5)))))) (.seq (.reg r117_6) .ret))))
theorem i_laws_toWriteS_ok : (Tryz.f117.body.bind fun c => toIC Tryz.prog 23 c []) = some (i_laws_toWriteS, []) := by kernel_rfl
theorem i_laws_toWriteS_fn {ds rs : List D} (hle : ds.length ≤ 23) (h : AW Tryz.prog 23 i_laws_toWriteS (Ends [.tmp 2] rs) (init ds)) : Fn Tryz.prog k_laws_toWriteS (lent ds) true rs :=
  Fn.intro' (by kernel_rfl) Tryz.func117 (by kernel_rfl) i_laws_toWriteS_ok (by kernel_rfl) hle h.h
abbrev r88_0 : List RO := [ro (.box 1 (.t 0)), ro (.var 2 [(dI 0), .zs])]
abbrev r88_1 : List RO := [ro (.var 3 [(dI 0), .zs])]
abbrev r88_2 : List RO := [rF 4 0 1, rL 5 4, rF 6 0 3, ro (.store 1 [(.int .i64 0)] (.t 6) (.t 5))]
abbrev r88_3 : List RO := [rF 7 1 1, rL 8 7, ro (.callv 9 (.c (.one (.fn k_laws_toWriteS []))) [(.t 8)]), rF 10 1 3, ro (.store 1 [(.sl 2 [])] (.t 10) (.t 9))]
abbrev r88_4 : List RO := [ro (.load 11 (some 2) (.t 3)), ro (.store 2 [(.int .i64 0), (.sl 2 [])] (.t 2) (.t 11))]
def i_laws_toHeld : IC := (.seq (.reg r88_0) (.seq (.reg r88_1) (.seq (.reg r88_2) (.seq (.reg r88_3) (.seq (.reg r88_4) .ret)))))
theorem i_laws_toHeld_ok : (Tryz.f88.body.bind fun c => toIC Tryz.prog 12 c []) = some (i_laws_toHeld, []) := by kernel_rfl
theorem i_laws_toHeld_fn {ds rs : List D} (hle : ds.length ≤ 12) (h : AW Tryz.prog 12 i_laws_toHeld (Ends [.cell 2 (some 2)] rs) (init ds)) : Fn Tryz.prog k_laws_toHeld (lent ds) true rs :=
  Fn.intro' (by kernel_rfl) Tryz.func88 (by kernel_rfl) i_laws_toHeld_ok (by kernel_rfl) hle h.h
abbrev r35_0 : List RO := [ro (.mov 2 (.c (.one .zs)))]
abbrev r35_1 : List RO := [rM 5 0, ro (.len 6 false (.t 5)), ro (.mksl 7 2 32 [(.int .i64 0), (.sl 2 [])] (.t 6) (.t 6)), rM 3 7]
abbrev r35_2 : List RO := [ro (.mov 4 (c6 0))]
abbrev r35_3 : List RO := [rM 8 4, rM 9 0, ro (.len 10 false (.t 9)), ro (.bin 11 .lss (.t 8) (.t 10))]
abbrev r35_4 : List RO := [rM 14 3, rM 15 4, rM 16 0, rM 17 4, ro (.iaddr 18 2 (.t 16) (.t 17)), ro (.load 19 (some 2) (.t 18)), ro (.callv 20 (.c (.one (.fn k_laws_toHeld []))) [(.t 19)]), ro (.iaddr 21 2 (.t 14) (.t 15)), ro (.store 2 [(.int .i64 0), (.sl 2 [])] (.t 21) (.t 20))]
abbrev r35_5 : List RO := [rM 12 4, ro (.bin 13 .add (.t 12) (c6 1)), rM 4 13]
abbrev r35_6 : List RO := [rM 22 3, rM 2 22]
def i_laws_toHeldS : IC := (.seq (.reg r35_0) (.seq (.reg r35_1) (.seq (.seq (.reg r35_2) (.block 0 (.loop (.seq (.seq (.reg r35_3) (.cond (.t 11) .skip (.exit 0))) (.seq (.block 1 (.reg r35_4)) (.reg r35_5)))))) (.seq (.reg r35_6) .ret))))
theorem i_laws_toHeldS_ok : (Tryz.f35.body.bind fun c => toIC Tryz.prog 23 c []) = some (i_laws_toHeldS, []) := by kernel_rfl
theorem i_laws_toHeldS_fn {ds rs : List D} (hle : ds.length ≤ 23) (h : AW Tryz.prog 23 i_laws_toHeldS (Ends [.tmp 2] rs) (init ds)) : Fn Tryz.prog k_laws_toHeldS (lent ds) true rs :=
  Fn.intro' (by kernel_rfl) Tryz.func35 (by kernel_rfl) i_laws_toHeldS_ok (by kernel_rfl) hle h.h
abbrev r36_0 : List RO := [ro (.mov 2 (.c (.one .zs)))]
abbrev r36_1 : List RO := [rM 5 0, ro (.len 6 false (.t 5)), ro (.mksl 7 1 8 [(.int .i64 0)] (.t 6) (.t 6)), rM 3 7]
abbrev r36_2 : List RO := [ro (.mov 4 (c6 0))]
abbrev r36_3 : List RO := [rM 8 4, rM 9 0, ro (.len 10 false (.t 9)), ro (.bin 11 .lss (.t 8) (.t 10))]
abbrev r36_4 : List RO := [rM 14 3, rM 15 4, rM 16 0, rM 17 4, ro (.iaddr 18 1 (.t 16) (.t 17)), rL 19 18, ro (.iaddr 20 1 (.t 14) (.t 15)), ro (.store 1 [(.int .i64 0)] (.t 20) (.t 19))]
abbrev r36_5 : List RO := [rM 12 4, ro (.bin 13 .add (.t 12) (c6 1)), rM 4 13]
abbrev r36_6 : List RO := [rM 21 3, rM 2 21]
def i_laws_toIntS : IC := (.seq (.reg r36_0) (.seq (.reg r36_1) (.seq (.seq (.reg r36_2) (.block 0 (.loop (.seq (.seq (.reg r36_3) (.cond (.t 11) .skip (.exit 0))) (.seq (.block 1 (.reg r36_4)) (.reg r36_5)))))) (.seq (.reg r36_6) .ret))))
theorem i_laws_toIntS_ok : (Tryz.f36.body.bind fun c => toIC Tryz.prog 22 c []) = some (i_laws_toIntS, []) := by kernel_rfl
theorem i_laws_toIntS_fn {ds rs : List D} (hle : ds.length ≤ 22) (h : AW Tryz.prog 22 i_laws_toIntS (Ends [.tmp 2] rs) (init ds)) : Fn Tryz.prog k_laws_toIntS (lent ds) true rs :=
  Fn.intro' (by kernel_rfl) Tryz.func36 (by kernel_rfl) i_laws_toIntS_ok (by kernel_rfl) hle h.h
abbrev r7_0 : List RO := [ro (.box 1 (.t 0)), ro (.var 2 [(dI 0), .zs, .zs, .zs, .zs, .zs, .zs, .zs, (dI 0)])]
abbrev r7_1 : List RO := [ro (.var 3 [(dI 0), .zs, .zs, .zs, .zs, .zs, .zs, .zs, (dI 0)])]
abbrev r7_2 : List RO := [rF 4 0 1, rL 5 4, rF 6 0 3, ro (.store 1 [(.int .i64 0)] (.t 6) (.t 5))]
abbrev r7_3 : List RO := [rF 7 1 1, rL 8 7, ro (.callv 9 (.c (.one (.fn k_laws_toRangeS []))) [(.t 8)]), rF 10 1 3, ro (.store 1 [(.sl 2 [])] (.t 10) (.t 9))]
abbrev r7_4 : List RO := [rF 11 2 1, rL 12 11, ro (.callv 13 (.c (.one (.fn k_laws_toRangeS []))) [(.t 12)]), rF 14 2 3, ro (.store 1 [(.sl 2 [])] (.t 14) (.t 13))]
abbrev r7_5 : List RO := [rF 15 3 1, rL 16 15, ro (.callv 17 (.c (.one (.fn k_laws_toCellS []))) [(.t 16)]), rF 18 3 3, ro (.store 1 [(.sl 2 [])] (.t 18) (.t 17))]
abbrev r7_6 : List RO := [rF 19 4 1, rL 20 19, ro (.callv 21 (.c (.one (.fn k_laws_toLockS []))) [(.t 20)]), rF 22 4 3, ro (.store 1 [(.sl 4 [])] (.t 22) (.t 21))]
abbrev r7_7 : List RO := [rF 23 5 1, rL 24 23, ro (.callv 25 (.c (.one (.fn k_laws_toHeldS []))) [(.t 24)]), rF 26 5 3, ro (.store 1 [(.sl 2 [])] (.t 26) (.t 25))]
abbrev r7_8 : List RO := [rF 27 6 1, rL 28 27, ro (.callv 29 (.c (.one (.fn k_laws_toIntS []))) [(.t 28)]), rF 30 6 3, ro (.store 1 [(.sl 1 [])] (.t 30) (.t 29))]
abbrev r7_9 : List RO := [rF 31 7 1, rL 32 31, ro (.callv 33 (.c (.one (.fn k_laws_toIntS []))) [(.t 32)]), rF 34 7 3, ro (.store 1 [(.sl 1 [])] (.t 34) (.t 33))]
abbrev r7_10 : List RO := [rF 35 8 1, rL 36 35, rF 37 8 3, ro (.store 1 [(.int .i64 0)] (.t 37) (.t 36))]
abbrev r7_11 : List RO := [ro (.load 38 (some 9) (.t 3)), ro (.store 9 [(.int .i64 0), (.sl 2 []), (.sl 2 []), (.sl 2 []), (.sl 4 []), (.sl 2 []), (.sl 1 []), (.sl 1 []), (.int .i64 0)] (.t 2) (.t 38))]
def i_laws_toShard : IC := (.seq (.reg r7_0) (.seq (.reg r7_1) (.seq (.reg r7_2) (.seq (.reg r7_3) (.seq (.reg r7_4) (.seq (.reg r7_5) (.seq (.reg r7_6) (.seq (.reg r7_7) (.seq (.reg r7_8) (.seq (.reg r7_9) (.seq (.reg r7_10) (.seq (.reg r7_11) .ret))))))))))))
theorem i_laws_toShard_ok : (Tryz.f7.body.bind fun c => toIC Tryz.prog 39 c []) = some (i_laws_toShard, []) := by kernel_rfl
theorem i_laws_toShard_fn {ds rs : List D} (hle : ds.length ≤ 39) (h : AW Tryz.prog 39 i_laws_toShard (Ends [.cell 2 (some 9)] rs) (init ds)) : Fn Tryz.prog k_laws_toShard (lent ds) true rs :=
  Fn.intro' (by kernel_rfl) Tryz.func7 (by kernel_rfl) i_laws_toShard_ok (by kernel_rfl) hle h.h
abbrev r22_0 : List RO := [ro (.mov 6 (cB false))]
abbrev r22_1 : List RO := [rM 7 0, rM 8 1, ro (.bin 9 .geq (.t 7) (.t 8)), rM 10 9, rT 10 (.mov 11 (.t 0)), rT 10 (.mov 12 (.t 2)), rT 10 (.bin 13 .leq (.t 11) (.t 12)), ro (.pick 14 (.t 10) (.t 13) (cB false)), rM 6 14]
def i_spec_l1In : IC := (.seq (.reg r22_0) (.seq (.reg r22_1) .ret))
theorem i_spec_l1In_ok : (Tryz.f22.body.bind fun c => toIC Tryz.prog 15 c []) = some (i_spec_l1In, []) := by kernel_rfl
theorem i_spec_l1In_fn {ds rs : List D} (hle : ds.length ≤ 15) (h : AW Tryz.prog 15 i_spec_l1In (Ends [.tmp 6] rs) (init ds)) : Fn Tryz.prog k_spec_l1In (lent ds) true rs :=
  Fn.intro' (by kernel_rfl) Tryz.func22 (by kernel_rfl) i_spec_l1In_ok (by kernel_rfl) hle h.h
abbrev r77_0 : List RO := [ro (.box 1 (.t 0)), ro (.mov 2 (cB false))]
abbrev r77_1 : List RO := [rF 3 0 1, rL 4 3, ro (.bin 5 .geq (.t 4) (c6 0)), rM 6 5, rT 6 (.faddr 7 0 (.t 1)), rT 6 (.load 8 none (.t 7)), rT 6 (.faddr 9 1 (.t 1)), rT 6 (.load 10 none (.t 9)), rT 6 (.bin 11 .lss (.t 8) (.t 10)), ro (.pick 12 (.t 6) (.t 11) (cB false)), rM 13 12, rT 13 (.faddr 14 1 (.t 1)), rT 13 (.load 15 none (.t 14)), rT 13 (.bin 16 .leq (.t 15) (c6 1000)), ro (.pick 17 (.t 13) (.t 16) (cB false)), rM 2 17]
def i_spec_RangeOk : IC := (.seq (.reg r77_0) (.seq (.reg r77_1) .ret))
theorem i_spec_RangeOk_ok : (Tryz.f77.body.bind fun c => toIC Tryz.prog 18 c []) = some (i_spec_RangeOk, []) := by kernel_rfl
theorem i_spec_RangeOk_fn {ds rs : List D} (hle : ds.length ≤ 18) (h : AW Tryz.prog 18 i_spec_RangeOk (Ends [.tmp 2] rs) (init ds)) : Fn Tryz.prog k_spec_RangeOk (lent ds) true rs :=
  Fn.intro' (by kernel_rfl) Tryz.func77 (by kernel_rfl) i_spec_RangeOk_ok (by kernel_rfl) hle h.h
abbrev r23_0 : List RO := [ro (.mov 2 (cB false))]
abbrev r23_1 : List RO := [rM 4 0, ro (.len 5 false (.t 4)), ro (.bin 6 .gtr (.t 5) (c6 16))]
abbrev r23_2 : List RO := [ro (.mov 2 (cB false))]
abbrev r23_3 : List RO := [ro (.mov 3 (c6 0))]
abbrev r23_4 : List RO := [rM 7 3, rM 8 0, ro (.len 9 false (.t 8)), ro (.bin 10 .lss (.t 7) (.t 9))]
abbrev r23_5 : List RO := [rM 13 0, rM 14 3, ⟨⟨none, .iaddr 15 2 (.t 13) (.t 14)⟩, 3, []⟩, ⟨⟨none, .load 16 (some 2) (.t 15)⟩, 7, []⟩, ⟨⟨none, .callv 17 (.c (.one (.fn k_spec_RangeOk []))) [(.t 16)]⟩, 15, []⟩, ⟨⟨none, .inv 18 (.t 17)⟩, 31, []⟩, ⟨⟨none, .mov 19 (.t 18)⟩, 63, []⟩, ⟨⟨some (19, false), .mov 20 (.t 3)⟩, 127, []⟩, ⟨⟨some (19, false), .bin 21 .gtr (.t 20) (c6 0)⟩, 255, []⟩, ⟨⟨some (19, false), .mov 22 (.t 21)⟩, 511, []⟩, ⟨⟨some (22, true), .mov 23 (.t 0)⟩, 1023, []⟩, ⟨⟨some (22, true), .mov 24 (.t 3)⟩, 1023, []⟩, ⟨⟨some (22, true), .iaddr 25 2 (.t 23) (.t 24)⟩, 4095, []⟩, ⟨⟨some (22, true), .faddr 26 0 (.t 25)⟩, 8191, []⟩, ⟨⟨some (22, true), .load 27 none (.t 26)⟩, 16383, []⟩, ⟨⟨some (22, true), .mov 28 (.t 0)⟩, 1023, []⟩, ⟨⟨some (22, true), .mov 29 (.t 3)⟩, 1023, []⟩, ⟨⟨some (22, true), .bin 30 .sub (.t 29) (c6 1)⟩, 66559, []⟩, ⟨⟨some (22, true), .iaddr 31 2 (.t 28) (.t 30)⟩, 230399, []⟩, ⟨⟨some (22, true), .faddr 32 1 (.t 31)⟩, 492543, []⟩, ⟨⟨some (22, true), .load 33 none (.t 32)⟩, 1016831, []⟩, ⟨⟨some (22, true), .bin 34 .lss (.t 27) (.t 33)⟩, 2097151, []⟩, ⟨⟨some (19, false), .pick 35 (.t 22) (.t 34) (cB false)⟩, 4194303, []⟩, ⟨⟨none, .pick 36 (.t 19) (cB true) (.t 35)⟩, 8388607, []⟩]
abbrev r23_6 : List RO := [ro (.mov 2 (cB false))]
abbrev r23_7 : List RO := [rM 11 3, ro (.bin 12 .add (.t 11) (c6 1)), rM 3 12]
abbrev r23_8 : List RO := [ro (.mov 2 (cB true))]
def i_spec_RangesOk : IC := (.seq (.reg r23_0) (.seq (.seq (.reg r23_1) (.cond (.t 6) (.seq (.reg r23_2) .ret) .skip)) (.seq (.seq (.reg r23_3) (.block 0 (.loop (.seq (.seq (.reg r23_4) (.cond (.t 10) .skip (.exit 0))) (.seq (.block 1 (.seq (.regd r23_5) (.cond (.t 36) (.seq (.reg r23_6) .ret) .skip))) (.reg r23_7)))))) (.seq (.reg r23_8) .ret))))
theorem i_spec_RangesOk_ok : (Tryz.f23.body.bind fun c => toIC Tryz.prog 37 c [[(0, []), (0, []), (3, []), (7, []), (15, []), (31, []), (63, []), (127, []), (255, []), (511, []), (1023, []), (1023, []), (4095, []), (8191, []), (16383, []), (1023, []), (1023, []), (66559, []), (230399, []), (492543, []), (1016831, []), (2097151, []), (4194303, []), (8388607, [])]]) = some (i_spec_RangesOk, []) := by kernel_rfl
theorem i_spec_RangesOk_fn {ds rs : List D} (hle : ds.length ≤ 37) (h : AW Tryz.prog 37 i_spec_RangesOk (Ends [.tmp 2] rs) (init ds)) : Fn Tryz.prog k_spec_RangesOk (lent ds) true rs :=
  Fn.intro' (by kernel_rfl) Tryz.func23 (by kernel_rfl) i_spec_RangesOk_ok (by kernel_rfl) hle h.h
abbrev r78_0 : List RO := [ro (.mov 2 (cB false))]
abbrev r78_1 : List RO := [rM 3 0, ro (.callv 4 (.c (.one (.fn k_spec_l1In []))) [(.t 3), (c6 0), (c6 999)]), rM 2 4]
def i_spec_l10Key : IC := (.seq (.reg r78_0) (.seq (.reg r78_1) .ret))
theorem i_spec_l10Key_ok : (Tryz.f78.body.bind fun c => toIC Tryz.prog 5 c []) = some (i_spec_l10Key, []) := by kernel_rfl
theorem i_spec_l10Key_fn {ds rs : List D} (hle : ds.length ≤ 5) (h : AW Tryz.prog 5 i_spec_l10Key (Ends [.tmp 2] rs) (init ds)) : Fn Tryz.prog k_spec_l10Key (lent ds) true rs :=
  Fn.intro' (by kernel_rfl) Tryz.func78 (by kernel_rfl) i_spec_l10Key_ok (by kernel_rfl) hle h.h
abbrev r79_0 : List RO := [ro (.mov 2 (cB false))]
abbrev r79_1 : List RO := [rM 3 0, ro (.callv 4 (.c (.one (.fn k_spec_l1In []))) [(.t 3), (c6 0), (c6 1000000000)]), rM 2 4]
def i_spec_l1Whole : IC := (.seq (.reg r79_0) (.seq (.reg r79_1) .ret))
theorem i_spec_l1Whole_ok : (Tryz.f79.body.bind fun c => toIC Tryz.prog 5 c []) = some (i_spec_l1Whole, []) := by kernel_rfl
theorem i_spec_l1Whole_fn {ds rs : List D} (hle : ds.length ≤ 5) (h : AW Tryz.prog 5 i_spec_l1Whole (Ends [.tmp 2] rs) (init ds)) : Fn Tryz.prog k_spec_l1Whole (lent ds) true rs :=
  Fn.intro' (by kernel_rfl) Tryz.func79 (by kernel_rfl) i_spec_l1Whole_ok (by kernel_rfl) hle h.h
abbrev r24_0 : List RO := [ro (.mov 2 (cB false))]
abbrev r24_1 : List RO := [rM 4 0, ro (.len 5 false (.t 4)), ro (.bin 6 .gtr (.t 5) (c6 60))]
abbrev r24_2 : List RO := [ro (.mov 2 (cB false))]
abbrev r24_3 : List RO := [ro (.mov 3 (c6 0))]
abbrev r24_4 : List RO := [rM 7 3, rM 8 0, ro (.len 9 false (.t 8)), ro (.bin 10 .lss (.t 7) (.t 9))]
abbrev r24_5 : List RO := [rM 13 0, rM 14 3, ⟨⟨none, .iaddr 15 2 (.t 13) (.t 14)⟩, 3, []⟩, ⟨⟨none, .faddr 16 0 (.t 15)⟩, 7, []⟩, ⟨⟨none, .load 17 none (.t 16)⟩, 15, []⟩, ⟨⟨none, .callv 18 (.c (.one (.fn k_spec_l10Key []))) [(.t 17)]⟩, 31, []⟩, ⟨⟨none, .inv 19 (.t 18)⟩, 63, []⟩, ⟨⟨none, .mov 20 (.t 19)⟩, 127, []⟩, ⟨⟨some (20, false), .mov 21 (.t 0)⟩, 255, []⟩, ⟨⟨some (20, false), .mov 22 (.t 3)⟩, 255, []⟩, ⟨⟨some (20, false), .iaddr 23 2 (.t 21) (.t 22)⟩, 1023, []⟩, ⟨⟨some (20, false), .faddr 24 1 (.t 23)⟩, 2047, []⟩, ⟨⟨some (20, false), .load 25 none (.t 24)⟩, 4095, []⟩, ⟨⟨some (20, false), .callv 26 (.c (.one (.fn k_spec_l1Whole []))) [(.t 25)]⟩, 8191, []⟩, ⟨⟨some (20, false), .inv 27 (.t 26)⟩, 16383, []⟩, ⟨⟨none, .pick 28 (.t 20) (cB true) (.t 27)⟩, 32767, []⟩, ⟨⟨none, .mov 29 (.t 28)⟩, 65535, []⟩, ⟨⟨some (29, false), .mov 30 (.t 3)⟩, 131071, []⟩, ⟨⟨some (29, false), .bin 31 .gtr (.t 30) (c6 0)⟩, 262143, []⟩, ⟨⟨some (29, false), .mov 32 (.t 31)⟩, 524287, []⟩, ⟨⟨some (32, true), .mov 33 (.t 0)⟩, 1048575, []⟩, ⟨⟨some (32, true), .mov 34 (.t 3)⟩, 1048575, []⟩, ⟨⟨some (32, true), .bin 35 .sub (.t 34) (c6 1)⟩, 3145727, []⟩, ⟨⟨some (32, true), .iaddr 36 2 (.t 33) (.t 35)⟩, 8388607, []⟩, ⟨⟨some (32, true), .faddr 37 0 (.t 36)⟩, 16777215, []⟩, ⟨⟨some (32, true), .load 38 none (.t 37)⟩, 33554431, []⟩, ⟨⟨some (32, true), .mov 39 (.t 0)⟩, 1048575, []⟩, ⟨⟨some (32, true), .mov 40 (.t 3)⟩, 1048575, []⟩, ⟨⟨some (32, true), .iaddr 41 2 (.t 39) (.t 40)⟩, 202375167, []⟩, ⟨⟨some (32, true), .faddr 42 0 (.t 41)⟩, 470810623, []⟩, ⟨⟨some (32, true), .load 43 none (.t 42)⟩, 1007681535, []⟩, ⟨⟨some (32, true), .bin 44 .geq (.t 38) (.t 43)⟩, 2147483647, []⟩, ⟨⟨some (29, false), .pick 45 (.t 32) (.t 44) (cB false)⟩, 4294967295, []⟩, ⟨⟨none, .pick 46 (.t 29) (cB true) (.t 45)⟩, 8589934591, []⟩]
abbrev r24_6 : List RO := [ro (.mov 2 (cB false))]
abbrev r24_7 : List RO := [rM 11 3, ro (.bin 12 .add (.t 11) (c6 1)), rM 3 12]
abbrev r24_8 : List RO := [ro (.mov 2 (cB true))]
def i_spec_StoreOk : IC := (.seq (.reg r24_0) (.seq (.seq (.reg r24_1) (.cond (.t 6) (.seq (.reg r24_2) .ret) .skip)) (.seq (.seq (.reg r24_3) (.block 0 (.loop (.seq (.seq (.reg r24_4) (.cond (.t 10) .skip (.exit 0))) (.seq (.block 1 (.seq (.regd r24_5) (.cond (.t 46) (.seq (.reg r24_6) .ret) .skip))) (.reg r24_7)))))) (.seq (.reg r24_8) .ret))))
theorem i_spec_StoreOk_ok : (Tryz.f24.body.bind fun c => toIC Tryz.prog 47 c [[(0, []), (0, []), (3, []), (7, []), (15, []), (31, []), (63, []), (127, []), (255, []), (255, []), (1023, []), (2047, []), (4095, []), (8191, []), (16383, []), (32767, []), (65535, []), (131071, []), (262143, []), (524287, []), (1048575, []), (1048575, []), (3145727, []), (8388607, []), (16777215, []), (33554431, []), (1048575, []), (1048575, []), (202375167, []), (470810623, []), (1007681535, []), (2147483647, []), (4294967295, []), (8589934591, [])]]) = some (i_spec_StoreOk, []) := by kernel_rfl
theorem i_spec_StoreOk_fn {ds rs : List D} (hle : ds.length ≤ 47) (h : AW Tryz.prog 47 i_spec_StoreOk (Ends [.tmp 2] rs) (init ds)) : Fn Tryz.prog k_spec_StoreOk (lent ds) true rs :=
  Fn.intro' (by kernel_rfl) Tryz.func24 (by kernel_rfl) i_spec_StoreOk_ok (by kernel_rfl) hle h.h
abbrev r80_0 : List RO := [ro (.mov 2 (cB false))]
abbrev r80_1 : List RO := [rM 3 0, ro (.callv 4 (.c (.one (.fn k_spec_l1In []))) [(.t 3), (c6 1), (c6 60)]), rM 2 4]
def i_spec_l12Tx : IC := (.seq (.reg r80_0) (.seq (.reg r80_1) .ret))
theorem i_spec_l12Tx_ok : (Tryz.f80.body.bind fun c => toIC Tryz.prog 5 c []) = some (i_spec_l12Tx, []) := by kernel_rfl
theorem i_spec_l12Tx_fn {ds rs : List D} (hle : ds.length ≤ 5) (h : AW Tryz.prog 5 i_spec_l12Tx (Ends [.tmp 2] rs) (init ds)) : Fn Tryz.prog k_spec_l12Tx (lent ds) true rs :=
  Fn.intro' (by kernel_rfl) Tryz.func80 (by kernel_rfl) i_spec_l12Tx_ok (by kernel_rfl) hle h.h
abbrev r29_0 : List RO := [ro (.box 1 (.t 0)), ro (.var 2 [(dI 0), (dI 0)])]
abbrev r29_1 : List RO := [rF 3 1 1, rL 4 3, rF 5 2 1, rL 6 5, ro (.build 7 [(dI 0), (dI 0)] [(0, 1, (.t 4)), (1, 1, (.t 6))]), ro (.store 2 [(.int .i64 0), (.int .i64 0)] (.t 2) (.t 7))]
def i_spec_l12Range : IC := (.seq (.reg r29_0) (.seq (.reg r29_1) .ret))
theorem i_spec_l12Range_ok : (Tryz.f29.body.bind fun c => toIC Tryz.prog 8 c []) = some (i_spec_l12Range, []) := by kernel_rfl
theorem i_spec_l12Range_fn {ds rs : List D} (hle : ds.length ≤ 8) (h : AW Tryz.prog 8 i_spec_l12Range (Ends [.cell 2 (some 2)] rs) (init ds)) : Fn Tryz.prog k_spec_l12Range (lent ds) true rs :=
  Fn.intro' (by kernel_rfl) Tryz.func29 (by kernel_rfl) i_spec_l12Range_ok (by kernel_rfl) hle h.h
abbrev r81_0 : List RO := [ro (.mov 2 (cB false))]
abbrev r81_1 : List RO := [rM 3 0, ro (.bin 4 .eql (.t 3) (c6 1)), rM 5 4, rN 5 (.mov 6 (.t 0)), rN 5 (.bin 7 .eql (.t 6) (c6 2)), ro (.pick 8 (.t 5) (cB true) (.t 7)), rM 2 8]
def i_spec_l12Mode : IC := (.seq (.reg r81_0) (.seq (.reg r81_1) .ret))
theorem i_spec_l12Mode_ok : (Tryz.f81.body.bind fun c => toIC Tryz.prog 9 c []) = some (i_spec_l12Mode, []) := by kernel_rfl
theorem i_spec_l12Mode_fn {ds rs : List D} (hle : ds.length ≤ 9) (h : AW Tryz.prog 9 i_spec_l12Mode (Ends [.tmp 2] rs) (init ds)) : Fn Tryz.prog k_spec_l12Mode (lent ds) true rs :=
  Fn.intro' (by kernel_rfl) Tryz.func81 (by kernel_rfl) i_spec_l12Mode_ok (by kernel_rfl) hle h.h
abbrev r135_0 : List RO := [ro (.mov 4 (c6 0))]
abbrev r135_1 : List RO := [rM 5 0, rM 6 1, ro (.bin 7 .gtr (.t 5) (.t 6))]
abbrev r135_2 : List RO := [rM 8 0, rM 4 8]
abbrev r135_3 : List RO := [rM 9 1, rM 4 9]
def i_spec_l1Max : IC := (.seq (.reg r135_0) (.seq (.seq (.reg r135_1) (.cond (.t 7) (.seq (.reg r135_2) .ret) .skip)) (.seq (.reg r135_3) .ret)))
theorem i_spec_l1Max_ok : (Tryz.f135.body.bind fun c => toIC Tryz.prog 10 c []) = some (i_spec_l1Max, []) := by kernel_rfl
theorem i_spec_l1Max_fn {ds rs : List D} (hle : ds.length ≤ 10) (h : AW Tryz.prog 10 i_spec_l1Max (Ends [.tmp 4] rs) (init ds)) : Fn Tryz.prog k_spec_l1Max (lent ds) true rs :=
  Fn.intro' (by kernel_rfl) Tryz.func135 (by kernel_rfl) i_spec_l1Max_ok (by kernel_rfl) hle h.h
abbrev r136_0 : List RO := [ro (.mov 4 (c6 0))]
abbrev r136_1 : List RO := [rM 5 0, rM 6 1, ro (.bin 7 .lss (.t 5) (.t 6))]
abbrev r136_2 : List RO := [rM 8 0, rM 4 8]
abbrev r136_3 : List RO := [rM 9 1, rM 4 9]
def i_spec_l1Min : IC := (.seq (.reg r136_0) (.seq (.seq (.reg r136_1) (.cond (.t 7) (.seq (.reg r136_2) .ret) .skip)) (.seq (.reg r136_3) .ret)))
theorem i_spec_l1Min_ok : (Tryz.f136.body.bind fun c => toIC Tryz.prog 10 c []) = some (i_spec_l1Min, []) := by kernel_rfl
theorem i_spec_l1Min_fn {ds rs : List D} (hle : ds.length ≤ 10) (h : AW Tryz.prog 10 i_spec_l1Min (Ends [.tmp 4] rs) (init ds)) : Fn Tryz.prog k_spec_l1Min (lent ds) true rs :=
  Fn.intro' (by kernel_rfl) Tryz.func136 (by kernel_rfl) i_spec_l1Min_ok (by kernel_rfl) hle h.h
abbrev r114_0 : List RO := [ro (.box 2 (.t 0)), ro (.box 3 (.t 1)), ro (.var 4 [(dI 0), (dI 0)]), ro (.mov 5 (cB false))]
abbrev r114_1 : List RO := [rF 7 0 2, ⟨⟨none, .load 8 none (.t 7)⟩, 1, [6]⟩, rF 9 0 3, ⟨⟨none, .load 10 none (.t 9)⟩, 4, [6]⟩, ⟨⟨none, .callv 11 (.c (.one (.fn k_spec_l1Max []))) [(.t 8), (.t 10)]⟩, 15, [6]⟩, rF 12 1 2, ⟨⟨none, .load 13 none (.t 12)⟩, 32, [11, 6]⟩, rF 14 1 3, ⟨⟨none, .load 15 none (.t 14)⟩, 128, [11, 6]⟩, ⟨⟨none, .callv 16 (.c (.one (.fn k_spec_l1Min []))) [(.t 13), (.t 15)]⟩, 511, [6]⟩, ⟨⟨none, .build 17 [(dI 0), (dI 0)] [(0, 1, (.t 11)), (1, 1, (.t 16))]⟩, 1023, []⟩, ⟨⟨none, .var 6 [(dI 0), (dI 0)]⟩, 0, [11, 16]⟩, ⟨⟨none, .store 2 [(.int .i64 0), (.int .i64 0)] (.t 6) (.t 17)⟩, 4095, []⟩]
abbrev r114_2 : List RO := [ro (.load 18 (some 2) (.t 2)), ro (.callv 19 (.c (.one (.fn k_spec_RangeOk []))) [(.t 18)]), ro (.inv 20 (.t 19)), rM 21 20, rN 21 (.load 22 (some 2) (.t 3)), rN 21 (.callv 23 (.c (.one (.fn k_spec_RangeOk []))) [(.t 22)]), rN 21 (.inv 24 (.t 23)), ro (.pick 25 (.t 21) (cB true) (.t 24)), rM 26 25, rN 26 (.load 27 (some 2) (.t 6)), rN 26 (.callv 28 (.c (.one (.fn k_spec_RangeOk []))) [(.t 27)]), rN 26 (.inv 29 (.t 28)), ro (.pick 30 (.t 26) (cB true) (.t 29))]
abbrev r114_3 : List RO := [ro (.build 31 [(dI 0), (dI 0)] []), ro (.store 2 [(.int .i64 0), (.int .i64 0)] (.t 4) (.t 31)), ro (.mov 5 (cB false))]
abbrev r114_4 : List RO := [ro (.load 32 (some 2) (.t 6)), ro (.store 2 [(.int .i64 0), (.int .i64 0)] (.t 4) (.t 32)), ro (.mov 5 (cB true))]
def i_spec_RangeMeet : IC := (.seq (.reg r114_0) (.seq (.regd r114_1) (.seq (.seq (.reg r114_2) (.cond (.t 30) (.seq (.reg r114_3) .ret) .skip)) (.seq (.reg r114_4) .ret))))
theorem i_spec_RangeMeet_ok : (Tryz.f114.body.bind fun c => toIC Tryz.prog 33 c [[(0, []), (1, [6]), (0, []), (4, [6]), (15, [6]), (0, []), (32, [11, 6]), (0, []), (128, [11, 6]), (511, [6]), (1023, []), (0, [11, 16]), (4095, [])]]) = some (i_spec_RangeMeet, []) := by kernel_rfl
theorem i_spec_RangeMeet_fn {ds rs : List D} (hle : ds.length ≤ 33) (h : AW Tryz.prog 33 i_spec_RangeMeet (Ends [.cell 4 (some 2), .tmp 5] rs) (init ds)) : Fn Tryz.prog k_spec_RangeMeet (lent ds) true rs :=
  Fn.intro' (by kernel_rfl) Tryz.func114 (by kernel_rfl) i_spec_RangeMeet_ok (by kernel_rfl) hle h.h
abbrev r82_0 : List RO := [ro (.box 2 (.t 0)), ro (.box 3 (.t 1)), ro (.mov 4 (cB false))]
abbrev r82_1 : List RO := [⟨⟨none, .load 8 (some 4) (.t 2)⟩, 0, [5]⟩, ⟨⟨none, .callv 9 (.c (.one (.fn k_spec_l12Range []))) [(.t 8)]⟩, 1, [5]⟩, ⟨⟨none, .load 10 (some 4) (.t 3)⟩, 0, [9, 5]⟩, ⟨⟨none, .callv 11 (.c (.one (.fn k_spec_l12Range []))) [(.t 10)]⟩, 7, [5]⟩, ⟨⟨none, .callv 12 (.c (.one (.fn k_spec_RangeMeet []))) [(.t 9), (.t 11)]⟩, 15, [5]⟩, ⟨⟨none, .mov 7 (.t 12)⟩, 31, []⟩, ⟨⟨none, .ext 13 (.t 7) 0⟩, 63, []⟩, ⟨⟨none, .ext 14 (.t 7) 1⟩, 63, []⟩, ⟨⟨none, .var 5 [(dI 0), (dI 0)]⟩, 0, [9, 11, 12]⟩, ⟨⟨none, .store 2 [(.int .i64 0), (.int .i64 0)] (.t 5) (.t 13)⟩, 383, []⟩, ⟨⟨none, .mov 6 (.t 14)⟩, 1023, []⟩]
abbrev r82_2 : List RO := [rM 15 6, rM 16 15, rT 16 (.faddr 17 0 (.t 2)), rT 16 (.load 18 none (.t 17)), rT 16 (.faddr 19 0 (.t 3)), rT 16 (.load 20 none (.t 19)), rT 16 (.bin 21 .neq (.t 18) (.t 20)), ro (.pick 22 (.t 16) (.t 21) (cB false)), rM 23 22, rT 23 (.faddr 24 3 (.t 2)), rT 23 (.load 25 none (.t 24)), rT 23 (.bin 26 .eql (.t 25) (c6 2)), rT 23 (.mov 27 (.t 26)), rN 27 (.faddr 28 3 (.t 3)), rN 27 (.load 29 none (.t 28)), rN 27 (.bin 30 .eql (.t 29) (c6 2)), rT 23 (.pick 31 (.t 27) (cB true) (.t 30)), ro (.pick 32 (.t 23) (.t 31) (cB false)), rM 4 32]
def i_spec_l12Clash : IC := (.seq (.reg r82_0) (.seq (.regd r82_1) (.seq (.reg r82_2) .ret)))
theorem i_spec_l12Clash_ok : (Tryz.f82.body.bind fun c => toIC Tryz.prog 33 c [[(0, [5]), (1, [5]), (0, [9, 5]), (7, [5]), (15, [5]), (31, []), (63, []), (63, []), (0, [9, 11, 12]), (383, []), (1023, [])]]) = some (i_spec_l12Clash, []) := by kernel_rfl
theorem i_spec_l12Clash_fn {ds rs : List D} (hle : ds.length ≤ 33) (h : AW Tryz.prog 33 i_spec_l12Clash (Ends [.tmp 4] rs) (init ds)) : Fn Tryz.prog k_spec_l12Clash (lent ds) true rs :=
  Fn.intro' (by kernel_rfl) Tryz.func82 (by kernel_rfl) i_spec_l12Clash_ok (by kernel_rfl) hle h.h
abbrev r25_0 : List RO := [ro (.mov 2 (cB false))]
abbrev r25_1 : List RO := [rM 5 0, ro (.len 6 false (.t 5)), ro (.bin 7 .gtr (.t 6) (c6 40))]
abbrev r25_2 : List RO := [ro (.mov 2 (cB false))]
abbrev r25_3 : List RO := [ro (.mov 3 (c6 0))]
abbrev r25_4 : List RO := [rM 8 3, rM 9 0, ro (.len 10 false (.t 9)), ro (.bin 11 .lss (.t 8) (.t 10))]
abbrev r25_5 : List RO := [rM 14 0, rM 15 3, ro (.iaddr 16 4 (.t 14) (.t 15)), rF 17 0 16, rL 18 17, ro (.callv 19 (.c (.one (.fn k_spec_l12Tx []))) [(.t 18)]), ro (.inv 20 (.t 19)), rM 21 20, rN 21 (.mov 22 (.t 0)), rN 21 (.mov 23 (.t 3)), rN 21 (.iaddr 24 4 (.t 22) (.t 23)), rN 21 (.load 25 (some 4) (.t 24)), rN 21 (.callv 26 (.c (.one (.fn k_spec_l12Range []))) [(.t 25)]), rN 21 (.callv 27 (.c (.one (.fn k_spec_RangeOk []))) [(.t 26)]), rN 21 (.inv 28 (.t 27)), ro (.pick 29 (.t 21) (cB true) (.t 28)), rM 30 29, rN 30 (.mov 31 (.t 0)), rN 30 (.mov 32 (.t 3)), rN 30 (.iaddr 33 4 (.t 31) (.t 32)), rN 30 (.faddr 34 3 (.t 33)), rN 30 (.load 35 none (.t 34)), rN 30 (.callv 36 (.c (.one (.fn k_spec_l12Mode []))) [(.t 35)]), rN 30 (.inv 37 (.t 36)), ro (.pick 38 (.t 30) (cB true) (.t 37))]
abbrev r25_6 : List RO := [ro (.mov 2 (cB false))]
abbrev r25_7 : List RO := [ro (.mov 4 (c6 0))]
abbrev r25_8 : List RO := [rM 39 4, rM 40 3, ro (.bin 41 .lss (.t 39) (.t 40))]
abbrev r25_9 : List RO := [rM 44 0, rM 45 3, ⟨⟨none, .iaddr 46 4 (.t 44) (.t 45)⟩, 3, []⟩, ⟨⟨none, .load 47 (some 4) (.t 46)⟩, 7, []⟩, rM 48 0, rM 49 4, ⟨⟨none, .iaddr 50 4 (.t 48) (.t 49)⟩, 48, []⟩, ⟨⟨none, .load 51 (some 4) (.t 50)⟩, 112, []⟩, ⟨⟨none, .callv 52 (.c (.one (.fn k_spec_l12Clash []))) [(.t 47), (.t 51)]⟩, 255, []⟩]
abbrev r25_10 : List RO := [ro (.mov 2 (cB false))]
abbrev r25_11 : List RO := [rM 42 4, ro (.bin 43 .add (.t 42) (c6 1)), rM 4 43]
abbrev r25_12 : List RO := [rM 12 3, ro (.bin 13 .add (.t 12) (c6 1)), rM 3 13]
abbrev r25_13 : List RO := [ro (.mov 2 (cB true))]
def i_spec_LocksOk : IC := (.seq (.reg r25_0) (.seq (.seq (.reg r25_1) (.cond (.t 7) (.seq (.reg r25_2) .ret) .skip)) (.seq (.seq (.reg r25_3) (.block 0 (.loop (.seq (.seq (.reg r25_4) (.cond (.t 11) .skip (.exit 0))) (.seq (.block 1 (.seq (.seq (.reg r25_5) (.cond (.t 38) (.seq (.reg r25_6) .ret) .skip)) (.seq (.reg r25_7) (.block 2 (.loop (.seq (.seq (.reg r25_8) (.cond (.t 41) .skip (.exit 2))) (.seq (.block 3 (.seq (.regd r25_9) (.cond (.t 52) (.seq (.reg r25_10) .ret) .skip))) (.reg r25_11)))))))) (.reg r25_12)))))) (.seq (.reg r25_13) .ret))))
theorem i_spec_LocksOk_ok : (Tryz.f25.body.bind fun c => toIC Tryz.prog 53 c [[(0, []), (0, []), (3, []), (7, []), (0, []), (0, []), (48, []), (112, []), (255, [])]]) = some (i_spec_LocksOk, []) := by kernel_rfl
theorem i_spec_LocksOk_fn {ds rs : List D} (hle : ds.length ≤ 53) (h : AW Tryz.prog 53 i_spec_LocksOk (Ends [.tmp 2] rs) (init ds)) : Fn Tryz.prog k_spec_LocksOk (lent ds) true rs :=
  Fn.intro' (by kernel_rfl) Tryz.func25 (by kernel_rfl) i_spec_LocksOk_ok (by kernel_rfl) hle h.h
abbrev r26_0 : List RO := [ro (.mov 2 (cB false))]
abbrev r26_1 : List RO := [ro (.mov 3 (c6 0))]
abbrev r26_2 : List RO := [rM 4 3, rM 5 0, ro (.len 6 false (.t 5)), ro (.bin 7 .lss (.t 4) (.t 6))]
abbrev r26_3 : List RO := [rM 10 0, rM 11 3, ⟨⟨none, .iaddr 12 1 (.t 10) (.t 11)⟩, 3, []⟩, ⟨⟨none, .load 13 none (.t 12)⟩, 7, []⟩, ⟨⟨none, .callv 14 (.c (.one (.fn k_spec_l12Tx []))) [(.t 13)]⟩, 15, []⟩, ⟨⟨none, .inv 15 (.t 14)⟩, 31, []⟩, ⟨⟨none, .mov 16 (.t 15)⟩, 63, []⟩, ⟨⟨some (16, false), .mov 17 (.t 3)⟩, 127, []⟩, ⟨⟨some (16, false), .bin 18 .gtr (.t 17) (c6 0)⟩, 255, []⟩, ⟨⟨some (16, false), .mov 19 (.t 18)⟩, 511, []⟩, ⟨⟨some (19, true), .mov 20 (.t 0)⟩, 1023, []⟩, ⟨⟨some (19, true), .mov 21 (.t 3)⟩, 1023, []⟩, ⟨⟨some (19, true), .bin 22 .sub (.t 21) (c6 1)⟩, 3071, []⟩, ⟨⟨some (19, true), .iaddr 23 1 (.t 20) (.t 22)⟩, 8191, []⟩, ⟨⟨some (19, true), .load 24 none (.t 23)⟩, 16383, []⟩, ⟨⟨some (19, true), .mov 25 (.t 0)⟩, 1023, []⟩, ⟨⟨some (19, true), .mov 26 (.t 3)⟩, 1023, []⟩, ⟨⟨some (19, true), .iaddr 27 1 (.t 25) (.t 26)⟩, 99327, []⟩, ⟨⟨some (19, true), .load 28 none (.t 27)⟩, 230399, []⟩, ⟨⟨some (19, true), .bin 29 .geq (.t 24) (.t 28)⟩, 524287, []⟩, ⟨⟨some (16, false), .pick 30 (.t 19) (.t 29) (cB false)⟩, 1048575, []⟩, ⟨⟨none, .pick 31 (.t 16) (cB true) (.t 30)⟩, 2097151, []⟩]
abbrev r26_4 : List RO := [ro (.mov 2 (cB false))]
abbrev r26_5 : List RO := [rM 8 3, ro (.bin 9 .add (.t 8) (c6 1)), rM 3 9]
abbrev r26_6 : List RO := [ro (.mov 2 (cB true))]
def i_spec_l13Txs : IC := (.seq (.reg r26_0) (.seq (.seq (.reg r26_1) (.block 0 (.loop (.seq (.seq (.reg r26_2) (.cond (.t 7) .skip (.exit 0))) (.seq (.block 1 (.seq (.regd r26_3) (.cond (.t 31) (.seq (.reg r26_4) .ret) .skip))) (.reg r26_5)))))) (.seq (.reg r26_6) .ret)))
theorem i_spec_l13Txs_ok : (Tryz.f26.body.bind fun c => toIC Tryz.prog 32 c [[(0, []), (0, []), (3, []), (7, []), (15, []), (31, []), (63, []), (127, []), (255, []), (511, []), (1023, []), (1023, []), (3071, []), (8191, []), (16383, []), (1023, []), (1023, []), (99327, []), (230399, []), (524287, []), (1048575, []), (2097151, [])]]) = some (i_spec_l13Txs, []) := by kernel_rfl
theorem i_spec_l13Txs_fn {ds rs : List D} (hle : ds.length ≤ 32) (h : AW Tryz.prog 32 i_spec_l13Txs (Ends [.tmp 2] rs) (init ds)) : Fn Tryz.prog k_spec_l13Txs (lent ds) true rs :=
  Fn.intro' (by kernel_rfl) Tryz.func26 (by kernel_rfl) i_spec_l13Txs_ok (by kernel_rfl) hle h.h
abbrev r27_0 : List RO := [ro (.box 3 (.t 1)), ro (.mov 4 (cB false))]
abbrev r27_1 : List RO := [rM 7 0, ro (.callv 8 (.c (.one (.fn k_spec_RangesOk []))) [(.t 7)]), ro (.inv 9 (.t 8)), rM 10 9, rN 10 (.load 11 (some 2) (.t 3)), rN 10 (.callv 12 (.c (.one (.fn k_spec_RangeOk []))) [(.t 11)]), rN 10 (.inv 13 (.t 12)), ro (.pick 14 (.t 10) (cB true) (.t 13))]
abbrev r27_2 : List RO := [ro (.mov 4 (cB false))]
abbrev r27_3 : List RO := [rF 15 0 3, rL 16 15, rM 5 16]
abbrev r27_4 : List RO := [ro (.mov 6 (c6 0))]
abbrev r27_5 : List RO := [rM 17 6, rM 18 0, ro (.len 19 false (.t 18)), ro (.bin 20 .lss (.t 17) (.t 19))]
abbrev r27_6 : List RO := [rM 23 0, rM 24 6, ro (.iaddr 25 2 (.t 23) (.t 24)), rF 26 0 25, rL 27 26, rM 28 5, ro (.bin 29 .leq (.t 27) (.t 28)), rM 30 29, rT 30 (.mov 31 (.t 5)), rT 30 (.mov 32 (.t 0)), rT 30 (.mov 33 (.t 6)), rT 30 (.iaddr 34 2 (.t 32) (.t 33)), rT 30 (.faddr 35 1 (.t 34)), rT 30 (.load 36 none (.t 35)), rT 30 (.bin 37 .lss (.t 31) (.t 36)), ro (.pick 38 (.t 30) (.t 37) (cB false))]
abbrev r27_7 : List RO := [rM 39 0, rM 40 6, ro (.iaddr 41 2 (.t 39) (.t 40)), rF 42 1 41, rL 43 42, rM 5 43]
abbrev r27_8 : List RO := [rM 21 6, ro (.bin 22 .add (.t 21) (c6 1)), rM 6 22]
abbrev r27_9 : List RO := [rM 44 5, rF 45 1 3, rL 46 45, ro (.bin 47 .geq (.t 44) (.t 46)), rM 4 47]
def i_spec_RangesHave : IC := (.seq (.reg r27_0) (.seq (.seq (.reg r27_1) (.cond (.t 14) (.seq (.reg r27_2) .ret) .skip)) (.seq (.reg r27_3) (.seq (.seq (.reg r27_4) (.block 0 (.loop (.seq (.seq (.reg r27_5) (.cond (.t 20) .skip (.exit 0))) (.seq (.block 1 (.seq (.reg r27_6) (.cond (.t 38) (.reg r27_7) .skip))) (.reg r27_8)))))) (.seq (.reg r27_9) .ret)))))
theorem i_spec_RangesHave_ok : (Tryz.f27.body.bind fun c => toIC Tryz.prog 48 c []) = some (i_spec_RangesHave, []) := by kernel_rfl
theorem i_spec_RangesHave_fn {ds rs : List D} (hle : ds.length ≤ 48) (h : AW Tryz.prog 48 i_spec_RangesHave (Ends [.tmp 4] rs) (init ds)) : Fn Tryz.prog k_spec_RangesHave (lent ds) true rs :=
  Fn.intro' (by kernel_rfl) Tryz.func27 (by kernel_rfl) i_spec_RangesHave_ok (by kernel_rfl) hle h.h
abbrev r28_0 : List RO := [ro (.var 2 [(dI 0), (dI 0)])]
abbrev r28_1 : List RO := [rM 3 0, rM 4 0, ro (.bin 5 .add (.t 4) (c6 1)), ro (.build 6 [(dI 0), (dI 0)] [(0, 1, (.t 3)), (1, 1, (.t 5))]), ro (.store 2 [(.int .i64 0), (.int .i64 0)] (.t 2) (.t 6))]
def i_spec_l10One : IC := (.seq (.reg r28_0) (.seq (.reg r28_1) .ret))
theorem i_spec_l10One_ok : (Tryz.f28.body.bind fun c => toIC Tryz.prog 7 c []) = some (i_spec_l10One, []) := by kernel_rfl
theorem i_spec_l10One_fn {ds rs : List D} (hle : ds.length ≤ 7) (h : AW Tryz.prog 7 i_spec_l10One (Ends [.cell 2 (some 2)] rs) (init ds)) : Fn Tryz.prog k_spec_l10One (lent ds) true rs :=
  Fn.intro' (by kernel_rfl) Tryz.func28 (by kernel_rfl) i_spec_l10One_ok (by kernel_rfl) hle h.h
abbrev r30_0 : List RO := [ro (.mov 4 (cB false))]
abbrev r30_1 : List RO := [ro (.mov 5 (c6 0))]
abbrev r30_2 : List RO := [rM 6 5, rM 7 0, ro (.len 8 false (.t 7)), ro (.bin 9 .lss (.t 6) (.t 8))]
abbrev r30_3 : List RO := [rM 12 0, rM 13 5, ro (.iaddr 14 1 (.t 12) (.t 13)), rL 15 14, rM 16 1, ro (.bin 17 .eql (.t 15) (.t 16))]
abbrev r30_4 : List RO := [ro (.mov 4 (cB true))]
abbrev r30_5 : List RO := [rM 10 5, ro (.bin 11 .add (.t 10) (c6 1)), rM 5 11]
abbrev r30_6 : List RO := [ro (.mov 4 (cB false))]
def i_spec_l12Has : IC := (.seq (.reg r30_0) (.seq (.seq (.reg r30_1) (.block 0 (.loop (.seq (.seq (.reg r30_2) (.cond (.t 9) .skip (.exit 0))) (.seq (.block 1 (.seq (.reg r30_3) (.cond (.t 17) (.seq (.reg r30_4) .ret) .skip))) (.reg r30_5)))))) (.seq (.reg r30_6) .ret)))
theorem i_spec_l12Has_ok : (Tryz.f30.body.bind fun c => toIC Tryz.prog 18 c []) = some (i_spec_l12Has, []) := by kernel_rfl
theorem i_spec_l12Has_fn {ds rs : List D} (hle : ds.length ≤ 18) (h : AW Tryz.prog 18 i_spec_l12Has (Ends [.tmp 4] rs) (init ds)) : Fn Tryz.prog k_spec_l12Has (lent ds) true rs :=
  Fn.intro' (by kernel_rfl) Tryz.func30 (by kernel_rfl) i_spec_l12Has_ok (by kernel_rfl) hle h.h
abbrev r83_0 : List RO := [ro (.mov 2 (cB false))]
abbrev r83_1 : List RO := [rM 4 0, ro (.len 5 false (.t 4)), ro (.bin 6 .gtr (.t 5) (c6 60))]
abbrev r83_2 : List RO := [ro (.mov 2 (cB false))]
abbrev r83_3 : List RO := [ro (.mov 3 (c6 0))]
abbrev r83_4 : List RO := [rM 7 3, rM 8 0, ro (.len 9 false (.t 8)), ro (.bin 10 .lss (.t 7) (.t 9))]
abbrev r83_5 : List RO := [rM 13 0, rM 14 3, ⟨⟨none, .iaddr 15 2 (.t 13) (.t 14)⟩, 3, []⟩, ⟨⟨none, .faddr 16 0 (.t 15)⟩, 7, []⟩, ⟨⟨none, .load 17 none (.t 16)⟩, 15, []⟩, ⟨⟨none, .callv 18 (.c (.one (.fn k_spec_l10Key []))) [(.t 17)]⟩, 31, []⟩, ⟨⟨none, .inv 19 (.t 18)⟩, 63, []⟩, ⟨⟨none, .mov 20 (.t 19)⟩, 127, []⟩, ⟨⟨some (20, false), .mov 21 (.t 0)⟩, 255, []⟩, ⟨⟨some (20, false), .mov 22 (.t 3)⟩, 255, []⟩, ⟨⟨some (20, false), .iaddr 23 2 (.t 21) (.t 22)⟩, 1023, []⟩, ⟨⟨some (20, false), .faddr 24 1 (.t 23)⟩, 2047, []⟩, ⟨⟨some (20, false), .load 25 none (.t 24)⟩, 4095, []⟩, ⟨⟨some (20, false), .callv 26 (.c (.one (.fn k_spec_l1In []))) [(.t 25), (c6 (-1)), (c6 1000000000)]⟩, 8191, []⟩, ⟨⟨some (20, false), .inv 27 (.t 26)⟩, 16383, []⟩, ⟨⟨none, .pick 28 (.t 20) (cB true) (.t 27)⟩, 32767, []⟩, ⟨⟨none, .mov 29 (.t 28)⟩, 65535, []⟩, ⟨⟨some (29, false), .mov 30 (.t 3)⟩, 131071, []⟩, ⟨⟨some (29, false), .bin 31 .gtr (.t 30) (c6 0)⟩, 262143, []⟩, ⟨⟨some (29, false), .mov 32 (.t 31)⟩, 524287, []⟩, ⟨⟨some (32, true), .mov 33 (.t 0)⟩, 1048575, []⟩, ⟨⟨some (32, true), .mov 34 (.t 3)⟩, 1048575, []⟩, ⟨⟨some (32, true), .bin 35 .sub (.t 34) (c6 1)⟩, 3145727, []⟩, ⟨⟨some (32, true), .iaddr 36 2 (.t 33) (.t 35)⟩, 8388607, []⟩, ⟨⟨some (32, true), .faddr 37 0 (.t 36)⟩, 16777215, []⟩, ⟨⟨some (32, true), .load 38 none (.t 37)⟩, 33554431, []⟩, ⟨⟨some (32, true), .mov 39 (.t 0)⟩, 1048575, []⟩, ⟨⟨some (32, true), .mov 40 (.t 3)⟩, 1048575, []⟩, ⟨⟨some (32, true), .iaddr 41 2 (.t 39) (.t 40)⟩, 202375167, []⟩, ⟨⟨some (32, true), .faddr 42 0 (.t 41)⟩, 470810623, []⟩, ⟨⟨some (32, true), .load 43 none (.t 42)⟩, 1007681535, []⟩, ⟨⟨some (32, true), .bin 44 .geq (.t 38) (.t 43)⟩, 2147483647, []⟩, ⟨⟨some (29, false), .pick 45 (.t 32) (.t 44) (cB false)⟩, 4294967295, []⟩, ⟨⟨none, .pick 46 (.t 29) (cB true) (.t 45)⟩, 8589934591, []⟩]
abbrev r83_6 : List RO := [ro (.mov 2 (cB false))]
abbrev r83_7 : List RO := [rM 11 3, ro (.bin 12 .add (.t 11) (c6 1)), rM 3 12]
abbrev r83_8 : List RO := [ro (.mov 2 (cB true))]
def i_spec_WritesOk : IC := (.seq (.reg r83_0) (.seq (.seq (.reg r83_1) (.cond (.t 6) (.seq (.reg r83_2) .ret) .skip)) (.seq (.seq (.reg r83_3) (.block 0 (.loop (.seq (.seq (.reg r83_4) (.cond (.t 10) .skip (.exit 0))) (.seq (.block 1 (.seq (.regd r83_5) (.cond (.t 46) (.seq (.reg r83_6) .ret) .skip))) (.reg r83_7)))))) (.seq (.reg r83_8) .ret))))
theorem i_spec_WritesOk_ok : (Tryz.f83.body.bind fun c => toIC Tryz.prog 47 c [[(0, []), (0, []), (3, []), (7, []), (15, []), (31, []), (63, []), (127, []), (255, []), (255, []), (1023, []), (2047, []), (4095, []), (8191, []), (16383, []), (32767, []), (65535, []), (131071, []), (262143, []), (524287, []), (1048575, []), (1048575, []), (3145727, []), (8388607, []), (16777215, []), (33554431, []), (1048575, []), (1048575, []), (202375167, []), (470810623, []), (1007681535, []), (2147483647, []), (4294967295, []), (8589934591, [])]]) = some (i_spec_WritesOk, []) := by kernel_rfl
theorem i_spec_WritesOk_fn {ds rs : List D} (hle : ds.length ≤ 47) (h : AW Tryz.prog 47 i_spec_WritesOk (Ends [.tmp 2] rs) (init ds)) : Fn Tryz.prog k_spec_WritesOk (lent ds) true rs :=
  Fn.intro' (by kernel_rfl) Tryz.func83 (by kernel_rfl) i_spec_WritesOk_ok (by kernel_rfl) hle h.h
abbrev r115_0 : List RO := [ro (.box 2 (.t 0)), ro (.box 3 (.t 1)), ro (.mov 4 (cB false))]
abbrev r115_1 : List RO := [ro (.load 5 (some 2) (.t 2)), ro (.callv 6 (.c (.one (.fn k_spec_RangeOk []))) [(.t 5)]), rM 7 6, rT 7 (.load 8 (some 2) (.t 3)), rT 7 (.callv 9 (.c (.one (.fn k_spec_RangeOk []))) [(.t 8)]), ro (.pick 10 (.t 7) (.t 9) (cB false)), rM 11 10, rT 11 (.faddr 12 0 (.t 2)), rT 11 (.load 13 none (.t 12)), rT 11 (.faddr 14 0 (.t 3)), rT 11 (.load 15 none (.t 14)), rT 11 (.bin 16 .geq (.t 13) (.t 15)), ro (.pick 17 (.t 11) (.t 16) (cB false)), rM 18 17, rT 18 (.faddr 19 1 (.t 2)), rT 18 (.load 20 none (.t 19)), rT 18 (.faddr 21 1 (.t 3)), rT 18 (.load 22 none (.t 21)), rT 18 (.bin 23 .leq (.t 20) (.t 22)), ro (.pick 24 (.t 18) (.t 23) (cB false)), rM 4 24]
def i_spec_RangeIn : IC := (.seq (.reg r115_0) (.seq (.reg r115_1) .ret))
theorem i_spec_RangeIn_ok : (Tryz.f115.body.bind fun c => toIC Tryz.prog 25 c []) = some (i_spec_RangeIn, []) := by kernel_rfl
theorem i_spec_RangeIn_fn {ds rs : List D} (hle : ds.length ≤ 25) (h : AW Tryz.prog 25 i_spec_RangeIn (Ends [.tmp 4] rs) (init ds)) : Fn Tryz.prog k_spec_RangeIn (lent ds) true rs :=
  Fn.intro' (by kernel_rfl) Tryz.func115 (by kernel_rfl) i_spec_RangeIn_ok (by kernel_rfl) hle h.h
abbrev r84_0 : List RO := [ro (.box 6 (.t 2)), ro (.mov 8 (cB false))]
abbrev r84_1 : List RO := [ro (.mov 9 (c6 0))]
abbrev r84_2 : List RO := [rM 10 9, rM 11 0, ro (.len 12 false (.t 11)), ro (.bin 13 .lss (.t 10) (.t 12))]
abbrev r84_3 : List RO := [rM 16 0, rM 17 9, ⟨⟨none, .iaddr 18 4 (.t 16) (.t 17)⟩, 3, []⟩, ⟨⟨none, .faddr 19 0 (.t 18)⟩, 7, []⟩, ⟨⟨none, .load 20 none (.t 19)⟩, 15, []⟩, rM 21 1, ⟨⟨none, .bin 22 .eql (.t 20) (.t 21)⟩, 63, []⟩, ⟨⟨none, .mov 23 (.t 22)⟩, 127, []⟩, ⟨⟨some (23, true), .load 24 (some 2) (.t 6)⟩, 255, [29]⟩, ⟨⟨some (23, true), .mov 25 (.t 0)⟩, 255, []⟩, ⟨⟨some (23, true), .mov 26 (.t 9)⟩, 255, []⟩, ⟨⟨some (23, true), .iaddr 27 4 (.t 25) (.t 26)⟩, 1791, []⟩, ⟨⟨some (23, true), .load 28 (some 4) (.t 27)⟩, 3839, []⟩, ⟨⟨some (23, true), .callv 29 (.c (.one (.fn k_spec_l12Range []))) [(.t 28)]⟩, 7935, []⟩, ⟨⟨some (23, true), .callv 30 (.c (.one (.fn k_spec_RangeIn []))) [(.t 24), (.t 29)]⟩, 16383, []⟩, ⟨⟨none, .pick 31 (.t 23) (.t 30) (cB false)⟩, 32767, []⟩, ⟨⟨none, .mov 32 (.t 31)⟩, 65535, []⟩, ⟨⟨some (32, true), .mov 33 (.t 0)⟩, 131071, []⟩, ⟨⟨some (32, true), .mov 34 (.t 9)⟩, 131071, []⟩, ⟨⟨some (32, true), .iaddr 35 4 (.t 33) (.t 34)⟩, 524287, []⟩, ⟨⟨some (32, true), .faddr 36 3 (.t 35)⟩, 1048575, []⟩, ⟨⟨some (32, true), .load 37 none (.t 36)⟩, 2097151, []⟩, ⟨⟨some (32, true), .mov 38 (.t 3)⟩, 131071, []⟩, ⟨⟨some (32, true), .bin 39 .geq (.t 37) (.t 38)⟩, 8388607, []⟩, ⟨⟨none, .pick 40 (.t 32) (.t 39) (cB false)⟩, 16777215, []⟩]
abbrev r84_4 : List RO := [ro (.mov 8 (cB true))]
abbrev r84_5 : List RO := [rM 14 9, ro (.bin 15 .add (.t 14) (c6 1)), rM 9 15]
abbrev r84_6 : List RO := [ro (.mov 8 (cB false))]
def i_spec_l12Holds : IC := (.seq (.reg r84_0) (.seq (.seq (.reg r84_1) (.block 0 (.loop (.seq (.seq (.reg r84_2) (.cond (.t 13) .skip (.exit 0))) (.seq (.block 1 (.seq (.regd r84_3) (.cond (.t 40) (.seq (.reg r84_4) .ret) .skip))) (.reg r84_5)))))) (.seq (.reg r84_6) .ret)))
theorem i_spec_l12Holds_ok : (Tryz.f84.body.bind fun c => toIC Tryz.prog 41 c [[(0, []), (0, []), (3, []), (7, []), (15, []), (0, []), (63, []), (127, []), (255, [29]), (255, []), (255, []), (1791, []), (3839, []), (7935, []), (16383, []), (32767, []), (65535, []), (131071, []), (131071, []), (524287, []), (1048575, []), (2097151, []), (131071, []), (8388607, []), (16777215, [])]]) = some (i_spec_l12Holds, []) := by kernel_rfl
theorem i_spec_l12Holds_fn {ds rs : List D} (hle : ds.length ≤ 41) (h : AW Tryz.prog 41 i_spec_l12Holds (Ends [.tmp 8] rs) (init ds)) : Fn Tryz.prog k_spec_l12Holds (lent ds) true rs :=
  Fn.intro' (by kernel_rfl) Tryz.func84 (by kernel_rfl) i_spec_l12Holds_ok (by kernel_rfl) hle h.h
abbrev r31_0 : List RO := [ro (.box 1 (.t 0)), ro (.mov 2 (cB false))]
abbrev r31_1 : List RO := [ro (.mov 3 (c6 0))]
abbrev r31_2 : List RO := [rM 6 3, rF 7 5 1, rL 8 7, ro (.len 9 false (.t 8)), ro (.bin 10 .lss (.t 6) (.t 9))]
abbrev r31_3 : List RO := [rF 13 5 1, rL 14 13, rM 15 3, ro (.iaddr 16 2 (.t 14) (.t 15)), ro (.load 17 (some 2) (.t 16)), ro (.var 4 [(dI 0), .zs]), ro (.store 2 [(.int .i64 0), (.sl 2 [])] (.t 4) (.t 17))]
abbrev r31_4 : List RO := [rF 18 0 4, ⟨⟨none, .load 19 none (.t 18)⟩, 1, []⟩, ⟨⟨none, .callv 20 (.c (.one (.fn k_spec_l12Tx []))) [(.t 19)]⟩, 3, []⟩, ⟨⟨none, .inv 21 (.t 20)⟩, 7, []⟩, ⟨⟨none, .mov 22 (.t 21)⟩, 15, []⟩, ⟨⟨some (22, false), .mov 23 (.t 3)⟩, 31, []⟩, ⟨⟨some (22, false), .bin 24 .gtr (.t 23) (c6 0)⟩, 63, []⟩, ⟨⟨some (22, false), .mov 25 (.t 24)⟩, 127, []⟩, ⟨⟨some (25, true), .faddr 26 5 (.t 1)⟩, 255, []⟩, ⟨⟨some (25, true), .load 27 none (.t 26)⟩, 511, []⟩, ⟨⟨some (25, true), .mov 28 (.t 3)⟩, 255, []⟩, ⟨⟨some (25, true), .bin 29 .sub (.t 28) (c6 1)⟩, 1279, []⟩, ⟨⟨some (25, true), .iaddr 30 2 (.t 27) (.t 29)⟩, 4095, []⟩, ⟨⟨some (25, true), .faddr 31 0 (.t 30)⟩, 8191, []⟩, ⟨⟨some (25, true), .load 32 none (.t 31)⟩, 16383, []⟩, ⟨⟨some (25, true), .faddr 33 0 (.t 4)⟩, 255, []⟩, ⟨⟨some (25, true), .load 34 none (.t 33)⟩, 33023, []⟩, ⟨⟨some (25, true), .bin 35 .geq (.t 32) (.t 34)⟩, 131071, []⟩, ⟨⟨some (22, false), .pick 36 (.t 25) (.t 35) (cB false)⟩, 262143, []⟩, ⟨⟨none, .pick 37 (.t 22) (cB true) (.t 36)⟩, 524287, []⟩, ⟨⟨none, .mov 38 (.t 37)⟩, 1048575, []⟩, ⟨⟨some (38, false), .faddr 39 1 (.t 4)⟩, 2097151, []⟩, ⟨⟨some (38, false), .load 40 none (.t 39)⟩, 4194303, []⟩, ⟨⟨some (38, false), .callv 41 (.c (.one (.fn k_spec_WritesOk []))) [(.t 40)]⟩, 8388607, []⟩, ⟨⟨some (38, false), .inv 42 (.t 41)⟩, 16777215, []⟩, ⟨⟨none, .pick 43 (.t 38) (cB true) (.t 42)⟩, 33554431, []⟩]
abbrev r31_5 : List RO := [ro (.mov 2 (cB false))]
abbrev r31_6 : List RO := [ro (.mov 5 (c6 0))]
abbrev r31_7 : List RO := [rM 44 5, rF 45 1 4, rL 46 45, ro (.len 47 false (.t 46)), ro (.bin 48 .lss (.t 44) (.t 47))]
abbrev r31_8 : List RO := [rF 51 4 1, ⟨⟨none, .load 52 none (.t 51)⟩, 1, [61]⟩, rF 53 0 4, ⟨⟨none, .load 54 none (.t 53)⟩, 4, [61]⟩, rF 55 1 4, ⟨⟨none, .load 56 none (.t 55)⟩, 16, []⟩, rM 57 5, ⟨⟨none, .iaddr 58 2 (.t 56) (.t 57)⟩, 112, []⟩, ⟨⟨none, .faddr 59 0 (.t 58)⟩, 240, []⟩, ⟨⟨none, .load 60 none (.t 59)⟩, 496, []⟩, ⟨⟨none, .callv 61 (.c (.one (.fn k_spec_l10One []))) [(.t 60)]⟩, 1008, []⟩, ⟨⟨none, .callv 62 (.c (.one (.fn k_spec_l12Holds []))) [(.t 52), (.t 54), (.t 61), (c6 2)]⟩, 2047, []⟩, ⟨⟨none, .inv 63 (.t 62)⟩, 4095, []⟩]
abbrev r31_9 : List RO := [ro (.mov 2 (cB false))]
abbrev r31_10 : List RO := [rM 49 5, ro (.bin 50 .add (.t 49) (c6 1)), rM 5 50]
abbrev r31_11 : List RO := [rF 64 6 1, rL 65 64, rF 66 0 4, rL 67 66, ro (.callv 68 (.c (.one (.fn k_spec_l12Has []))) [(.t 65), (.t 67)]), rM 69 68, rN 69 (.faddr 70 7 (.t 1)), rN 69 (.load 71 none (.t 70)), rN 69 (.faddr 72 0 (.t 4)), rN 69 (.load 73 none (.t 72)), rN 69 (.callv 74 (.c (.one (.fn k_spec_l12Has []))) [(.t 71), (.t 73)]), ro (.pick 75 (.t 69) (cB true) (.t 74))]
abbrev r31_12 : List RO := [ro (.mov 2 (cB false))]
abbrev r31_13 : List RO := [rM 11 3, ro (.bin 12 .add (.t 11) (c6 1)), rM 3 12]
abbrev r31_14 : List RO := [ro (.mov 2 (cB true))]
def i_spec_l13HeldsOk : IC := (.seq (.reg r31_0) (.seq (.seq (.reg r31_1) (.block 0 (.loop (.seq (.seq (.reg r31_2) (.cond (.t 10) .skip (.exit 0))) (.seq (.block 1 (.seq (.reg r31_3) (.seq (.seq (.regd r31_4) (.cond (.t 43) (.seq (.reg r31_5) .ret) .skip)) (.seq (.seq (.reg r31_6) (.block 2 (.loop (.seq (.seq (.reg r31_7) (.cond (.t 48) .skip (.exit 2))) (.seq (.block 3 (.seq (.regd r31_8) (.cond (.t 63) (.seq (.reg r31_9) .ret) .skip))) (.reg r31_10)))))) (.seq (.reg r31_11) (.cond (.t 75) (.seq (.reg r31_12) .ret) .skip)))))) (.reg r31_13)))))) (.seq (.reg r31_14) .ret)))
theorem i_spec_l13HeldsOk_ok : (Tryz.f31.body.bind fun c => toIC Tryz.prog 76 c [[(0, []), (1, []), (3, []), (7, []), (15, []), (31, []), (63, []), (127, []), (255, []), (511, []), (255, []), (1279, []), (4095, []), (8191, []), (16383, []), (255, []), (33023, []), (131071, []), (262143, []), (524287, []), (1048575, []), (2097151, []), (4194303, []), (8388607, []), (16777215, []), (33554431, [])], [(0, []), (1, [61]), (0, []), (4, [61]), (0, []), (16, []), (0, []), (112, []), (240, []), (496, []), (1008, []), (2047, []), (4095, [])]]) = some (i_spec_l13HeldsOk, []) := by kernel_rfl
theorem i_spec_l13HeldsOk_fn {ds rs : List D} (hle : ds.length ≤ 76) (h : AW Tryz.prog 76 i_spec_l13HeldsOk (Ends [.tmp 2] rs) (init ds)) : Fn Tryz.prog k_spec_l13HeldsOk (lent ds) true rs :=
  Fn.intro' (by kernel_rfl) Tryz.func31 (by kernel_rfl) i_spec_l13HeldsOk_ok (by kernel_rfl) hle h.h
abbrev r116_0 : List RO := [ro (.mov 4 (c6 0))]
abbrev r116_1 : List RO := [ro (.mov 5 (c6 0))]
abbrev r116_2 : List RO := [rM 6 5, rM 7 0, ro (.len 8 false (.t 7)), ro (.bin 9 .lss (.t 6) (.t 8))]
abbrev r116_3 : List RO := [rM 12 0, rM 13 5, ro (.iaddr 14 2 (.t 12) (.t 13)), rF 15 0 14, rL 16 15, rM 17 1, ro (.bin 18 .eql (.t 16) (.t 17))]
abbrev r116_4 : List RO := [rM 19 0, rM 20 5, ro (.iaddr 21 2 (.t 19) (.t 20)), rF 22 1 21, rL 23 22, rM 4 23]
abbrev r116_5 : List RO := [rM 10 5, ro (.bin 11 .add (.t 10) (c6 1)), rM 5 11]
abbrev r116_6 : List RO := [ro (.mov 4 (c6 (-1)))]
def i_spec_l11Get : IC := (.seq (.reg r116_0) (.seq (.seq (.reg r116_1) (.block 0 (.loop (.seq (.seq (.reg r116_2) (.cond (.t 9) .skip (.exit 0))) (.seq (.block 1 (.seq (.reg r116_3) (.cond (.t 18) (.seq (.reg r116_4) .ret) .skip))) (.reg r116_5)))))) (.seq (.reg r116_6) .ret)))
theorem i_spec_l11Get_ok : (Tryz.f116.body.bind fun c => toIC Tryz.prog 24 c []) = some (i_spec_l11Get, []) := by kernel_rfl
theorem i_spec_l11Get_fn {ds rs : List D} (hle : ds.length ≤ 24) (h : AW Tryz.prog 24 i_spec_l11Get (Ends [.tmp 4] rs) (init ds)) : Fn Tryz.prog k_spec_l11Get (lent ds) true rs :=
  Fn.intro' (by kernel_rfl) Tryz.func116 (by kernel_rfl) i_spec_l11Get_ok (by kernel_rfl) hle h.h
abbrev r85_0 : List RO := [ro (.mov 4 (c6 0))]
abbrev r85_1 : List RO := [rM 7 0, ro (.callv 8 (.c (.one (.fn k_spec_StoreOk []))) [(.t 7)]), ro (.inv 9 (.t 8)), rM 10 9, rN 10 (.mov 11 (.t 1)), rN 10 (.callv 12 (.c (.one (.fn k_spec_WritesOk []))) [(.t 11)]), rN 10 (.inv 13 (.t 12)), ro (.pick 14 (.t 10) (cB true) (.t 13))]
abbrev r85_2 : List RO := [ro (.mov 4 (c6 (-1)))]
abbrev r85_3 : List RO := [ro (.mov 5 (c6 0))]
abbrev r85_4 : List RO := [ro (.mov 6 (c6 0))]
abbrev r85_5 : List RO := [rM 15 6, rM 16 1, ro (.len 17 false (.t 16)), ro (.bin 18 .lss (.t 15) (.t 17))]
abbrev r85_6 : List RO := [rM 21 1, rM 22 6, ro (.iaddr 23 2 (.t 21) (.t 22)), rF 24 1 23, rL 25 24, ro (.bin 26 .geq (.t 25) (c6 0)), rM 27 26, rT 27 (.mov 28 (.t 0)), rT 27 (.mov 29 (.t 1)), rT 27 (.mov 30 (.t 6)), rT 27 (.iaddr 31 2 (.t 29) (.t 30)), rT 27 (.faddr 32 0 (.t 31)), rT 27 (.load 33 none (.t 32)), rT 27 (.callv 34 (.c (.one (.fn k_spec_l11Get []))) [(.t 28), (.t 33)]), rT 27 (.bin 35 .lss (.t 34) (c6 0)), ro (.pick 36 (.t 27) (.t 35) (cB false))]
abbrev r85_7 : List RO := [rM 37 5, ro (.bin 38 .add (.t 37) (c6 1)), rM 5 38]
abbrev r85_8 : List RO := [rM 19 6, ro (.bin 20 .add (.t 19) (c6 1)), rM 6 20]
abbrev r85_9 : List RO := [rM 39 5, rM 4 39]
def i_spec_StoreNew : IC := (.seq (.reg r85_0) (.seq (.seq (.reg r85_1) (.cond (.t 14) (.seq (.reg r85_2) .ret) .skip)) (.seq (.reg r85_3) (.seq (.seq (.reg r85_4) (.block 0 (.loop (.seq (.seq (.reg r85_5) (.cond (.t 18) .skip (.exit 0))) (.seq (.block 1 (.seq (.reg r85_6) (.cond (.t 36) (.reg r85_7) .skip))) (.reg r85_8)))))) (.seq (.reg r85_9) .ret)))))
theorem i_spec_StoreNew_ok : (Tryz.f85.body.bind fun c => toIC Tryz.prog 40 c []) = some (i_spec_StoreNew, []) := by kernel_rfl
theorem i_spec_StoreNew_fn {ds rs : List D} (hle : ds.length ≤ 40) (h : AW Tryz.prog 40 i_spec_StoreNew (Ends [.tmp 4] rs) (init ds)) : Fn Tryz.prog k_spec_StoreNew (lent ds) true rs :=
  Fn.intro' (by kernel_rfl) Tryz.func85 (by kernel_rfl) i_spec_StoreNew_ok (by kernel_rfl) hle h.h
abbrev r32_0 : List RO := [ro (.box 1 (.t 0)), ro (.mov 2 (c6 0))]
abbrev r32_1 : List RO := [ro (.mov 3 (c6 0))]
abbrev r32_2 : List RO := [ro (.mov 4 (c6 0))]
abbrev r32_3 : List RO := [rM 5 4, rF 6 5 1, rL 7 6, ro (.len 8 false (.t 7)), ro (.bin 9 .lss (.t 5) (.t 8))]
abbrev r32_4 : List RO := [rM 12 3, rF 13 3 1, ⟨⟨none, .load 14 none (.t 13)⟩, 2, []⟩, rF 15 5 1, ⟨⟨none, .load 16 none (.t 15)⟩, 8, []⟩, rM 17 4, ⟨⟨none, .iaddr 18 2 (.t 16) (.t 17)⟩, 56, []⟩, ⟨⟨none, .faddr 19 1 (.t 18)⟩, 120, []⟩, ⟨⟨none, .load 20 none (.t 19)⟩, 248, []⟩, ⟨⟨none, .callv 21 (.c (.one (.fn k_spec_StoreNew []))) [(.t 14), (.t 20)]⟩, 510, []⟩, ⟨⟨none, .bin 22 .add (.t 12) (.t 21)⟩, 1023, []⟩, ⟨⟨none, .mov 3 (.t 22)⟩, 2047, []⟩]
abbrev r32_5 : List RO := [rM 10 4, ro (.bin 11 .add (.t 10) (c6 1)), rM 4 11]
abbrev r32_6 : List RO := [rM 23 3, rM 2 23]
def i_spec_l13New : IC := (.seq (.reg r32_0) (.seq (.reg r32_1) (.seq (.seq (.reg r32_2) (.block 0 (.loop (.seq (.seq (.reg r32_3) (.cond (.t 9) .skip (.exit 0))) (.seq (.block 1 (.regd r32_4)) (.reg r32_5)))))) (.seq (.reg r32_6) .ret))))
theorem i_spec_l13New_ok : (Tryz.f32.body.bind fun c => toIC Tryz.prog 24 c [[(0, []), (0, []), (2, []), (0, []), (8, []), (0, []), (56, []), (120, []), (248, []), (510, []), (1023, []), (2047, [])]]) = some (i_spec_l13New, []) := by kernel_rfl
theorem i_spec_l13New_fn {ds rs : List D} (hle : ds.length ≤ 24) (h : AW Tryz.prog 24 i_spec_l13New (Ends [.tmp 2] rs) (init ds)) : Fn Tryz.prog k_spec_l13New (lent ds) true rs :=
  Fn.intro' (by kernel_rfl) Tryz.func32 (by kernel_rfl) i_spec_l13New_ok (by kernel_rfl) hle h.h
abbrev r6_0 : List RO := [ro (.box 1 (.t 0)), ro (.mov 2 (cB false))]
abbrev r6_1 : List RO := [rF 8 0 1, rL 9 8, ro (.callv 10 (.c (.one (.fn k_spec_l1In []))) [(.t 9), (c6 0), (c6 3)]), ro (.inv 11 (.t 10)), rM 12 11, rN 12 (.faddr 13 1 (.t 1)), rN 12 (.load 14 none (.t 13)), rN 12 (.callv 15 (.c (.one (.fn k_spec_RangesOk []))) [(.t 14)]), rN 12 (.inv 16 (.t 15)), ro (.pick 17 (.t 12) (cB true) (.t 16)), rM 18 17, rN 18 (.faddr 19 2 (.t 1)), rN 18 (.load 20 none (.t 19)), rN 18 (.callv 21 (.c (.one (.fn k_spec_RangesOk []))) [(.t 20)]), rN 18 (.inv 22 (.t 21)), ro (.pick 23 (.t 18) (cB true) (.t 22)), rM 24 23, rN 24 (.faddr 25 3 (.t 1)), rN 24 (.load 26 none (.t 25)), rN 24 (.callv 27 (.c (.one (.fn k_spec_StoreOk []))) [(.t 26)]), rN 24 (.inv 28 (.t 27)), ro (.pick 29 (.t 24) (cB true) (.t 28)), rM 30 29, rN 30 (.faddr 31 4 (.t 1)), rN 30 (.load 32 none (.t 31)), rN 30 (.callv 33 (.c (.one (.fn k_spec_LocksOk []))) [(.t 32)]), rN 30 (.inv 34 (.t 33)), ro (.pick 35 (.t 30) (cB true) (.t 34)), rM 36 35, rN 36 (.faddr 37 8 (.t 1)), rN 36 (.load 38 none (.t 37)), rN 36 (.callv 39 (.c (.one (.fn k_spec_l1In []))) [(.t 38), (c6 0), (c6 1000000)]), rN 36 (.inv 40 (.t 39)), ro (.pick 41 (.t 36) (cB true) (.t 40))]
abbrev r6_2 : List RO := [ro (.mov 2 (cB false))]
abbrev r6_3 : List RO := [rF 42 5 1, rL 43 42, ro (.len 44 false (.t 43)), ro (.bin 45 .gtr (.t 44) (c6 60)), rM 46 45, rN 46 (.faddr 47 6 (.t 1)), rN 46 (.load 48 none (.t 47)), rN 46 (.len 49 false (.t 48)), rN 46 (.bin 50 .gtr (.t 49) (c6 60)), ro (.pick 51 (.t 46) (cB true) (.t 50)), rM 52 51, rN 52 (.faddr 53 7 (.t 1)), rN 52 (.load 54 none (.t 53)), rN 52 (.len 55 false (.t 54)), rN 52 (.bin 56 .gtr (.t 55) (c6 60)), ro (.pick 57 (.t 52) (cB true) (.t 56)), rM 58 57, rN 58 (.faddr 59 6 (.t 1)), rN 58 (.load 60 none (.t 59)), rN 58 (.callv 61 (.c (.one (.fn k_spec_l13Txs []))) [(.t 60)]), rN 58 (.inv 62 (.t 61)), ro (.pick 63 (.t 58) (cB true) (.t 62)), rM 64 63, rN 64 (.faddr 65 7 (.t 1)), rN 64 (.load 66 none (.t 65)), rN 64 (.callv 67 (.c (.one (.fn k_spec_l13Txs []))) [(.t 66)]), rN 64 (.inv 68 (.t 67)), ro (.pick 69 (.t 64) (cB true) (.t 68))]
abbrev r6_4 : List RO := [ro (.mov 2 (cB false))]
abbrev r6_5 : List RO := [ro (.mov 3 (c6 0))]
abbrev r6_6 : List RO := [rM 70 3, rF 71 2 1, rL 72 71, ro (.len 73 false (.t 72)), ro (.bin 74 .lss (.t 70) (.t 73))]
abbrev r6_7 : List RO := [rF 77 1 1, ⟨⟨none, .load 78 none (.t 77)⟩, 1, []⟩, rF 79 2 1, ⟨⟨none, .load 80 none (.t 79)⟩, 4, []⟩, rM 81 3, ⟨⟨none, .iaddr 82 2 (.t 80) (.t 81)⟩, 28, []⟩, ⟨⟨none, .load 83 (some 2) (.t 82)⟩, 60, []⟩, ⟨⟨none, .callv 84 (.c (.one (.fn k_spec_RangesHave []))) [(.t 78), (.t 83)]⟩, 127, []⟩, ⟨⟨none, .inv 85 (.t 84)⟩, 255, []⟩]
abbrev r6_8 : List RO := [ro (.mov 2 (cB false))]
abbrev r6_9 : List RO := [rM 75 3, ro (.bin 76 .add (.t 75) (c6 1)), rM 3 76]
abbrev r6_10 : List RO := [ro (.mov 4 (c6 0))]
abbrev r6_11 : List RO := [rM 86 4, rF 87 3 1, rL 88 87, ro (.len 89 false (.t 88)), ro (.bin 90 .lss (.t 86) (.t 89))]
abbrev r6_12 : List RO := [rF 93 1 1, ⟨⟨none, .load 94 none (.t 93)⟩, 1, [101]⟩, rF 95 3 1, ⟨⟨none, .load 96 none (.t 95)⟩, 4, []⟩, rM 97 4, ⟨⟨none, .iaddr 98 2 (.t 96) (.t 97)⟩, 28, []⟩, ⟨⟨none, .faddr 99 0 (.t 98)⟩, 60, []⟩, ⟨⟨none, .load 100 none (.t 99)⟩, 124, []⟩, ⟨⟨none, .callv 101 (.c (.one (.fn k_spec_l10One []))) [(.t 100)]⟩, 252, []⟩, ⟨⟨none, .callv 102 (.c (.one (.fn k_spec_RangesHave []))) [(.t 94), (.t 101)]⟩, 511, []⟩, ⟨⟨none, .inv 103 (.t 102)⟩, 1023, []⟩]
abbrev r6_13 : List RO := [ro (.mov 2 (cB false))]
abbrev r6_14 : List RO := [rM 91 4, ro (.bin 92 .add (.t 91) (c6 1)), rM 4 92]
abbrev r6_15 : List RO := [ro (.mov 5 (c6 0))]
abbrev r6_16 : List RO := [rM 104 5, rF 105 4 1, rL 106 105, ro (.len 107 false (.t 106)), ro (.bin 108 .lss (.t 104) (.t 107))]
abbrev r6_17 : List RO := [rF 111 4 1, rL 112 111, rM 113 5, ro (.iaddr 114 4 (.t 112) (.t 113)), ro (.load 115 (some 4) (.t 114)), ro (.var 6 [(dI 0), (dI 0), (dI 0), (dI 0)]), ro (.store 4 [(.int .i64 0), (.int .i64 0), (.int .i64 0), (.int .i64 0)] (.t 6) (.t 115))]
abbrev r6_18 : List RO := [rF 116 1 1, ⟨⟨none, .load 117 none (.t 116)⟩, 1, [119]⟩, ro (.load 118 (some 4) (.t 6)), ⟨⟨none, .callv 119 (.c (.one (.fn k_spec_l12Range []))) [(.t 118)]⟩, 4, []⟩, ⟨⟨none, .callv 120 (.c (.one (.fn k_spec_RangesHave []))) [(.t 117), (.t 119)]⟩, 15, []⟩, ⟨⟨none, .inv 121 (.t 120)⟩, 31, []⟩, ⟨⟨none, .mov 122 (.t 121)⟩, 63, []⟩, ⟨⟨some (122, false), .faddr 123 6 (.t 1)⟩, 127, []⟩, ⟨⟨some (122, false), .load 124 none (.t 123)⟩, 255, []⟩, ⟨⟨some (122, false), .faddr 125 0 (.t 6)⟩, 127, []⟩, ⟨⟨some (122, false), .load 126 none (.t 125)⟩, 639, []⟩, ⟨⟨some (122, false), .callv 127 (.c (.one (.fn k_spec_l12Has []))) [(.t 124), (.t 126)]⟩, 2047, []⟩, ⟨⟨none, .pick 128 (.t 122) (cB true) (.t 127)⟩, 4095, []⟩, ⟨⟨none, .mov 129 (.t 128)⟩, 8191, []⟩, ⟨⟨some (129, false), .faddr 130 7 (.t 1)⟩, 16383, []⟩, ⟨⟨some (129, false), .load 131 none (.t 130)⟩, 32767, []⟩, ⟨⟨some (129, false), .faddr 132 0 (.t 6)⟩, 16383, []⟩, ⟨⟨some (129, false), .load 133 none (.t 132)⟩, 81919, []⟩, ⟨⟨some (129, false), .callv 134 (.c (.one (.fn k_spec_l12Has []))) [(.t 131), (.t 133)]⟩, 262143, []⟩, ⟨⟨none, .pick 135 (.t 129) (cB true) (.t 134)⟩, 524287, []⟩]
abbrev r6_19 : List RO := [ro (.mov 2 (cB false))]
abbrev r6_20 : List RO := [rM 109 5, ro (.bin 110 .add (.t 109) (c6 1)), rM 5 110]
abbrev r6_21 : List RO := [ro (.mov 7 (c6 0))]
abbrev r6_22 : List RO := [rM 136 7, rF 137 6 1, rL 138 137, ro (.len 139 false (.t 138)), ro (.bin 140 .lss (.t 136) (.t 139))]
abbrev r6_23 : List RO := [rF 143 7 1, ⟨⟨none, .load 144 none (.t 143)⟩, 1, []⟩, rF 145 6 1, ⟨⟨none, .load 146 none (.t 145)⟩, 4, []⟩, rM 147 7, ⟨⟨none, .iaddr 148 1 (.t 146) (.t 147)⟩, 28, []⟩, ⟨⟨none, .load 149 none (.t 148)⟩, 60, []⟩, ⟨⟨none, .callv 150 (.c (.one (.fn k_spec_l12Has []))) [(.t 144), (.t 149)]⟩, 127, []⟩]
abbrev r6_24 : List RO := [ro (.mov 2 (cB false))]
abbrev r6_25 : List RO := [rM 141 7, ro (.bin 142 .add (.t 141) (c6 1)), rM 7 142]
abbrev r6_26 : List RO := [ro (.load 151 (some 9) (.t 1)), ⟨⟨none, .callv 152 (.c (.one (.fn k_spec_l13HeldsOk []))) [(.t 151)]⟩, 1, []⟩, ⟨⟨none, .mov 153 (.t 152)⟩, 3, []⟩, ⟨⟨some (153, true), .faddr 154 3 (.t 1)⟩, 7, []⟩, ⟨⟨some (153, true), .load 155 none (.t 154)⟩, 15, [158]⟩, ⟨⟨some (153, true), .len 156 false (.t 155)⟩, 31, []⟩, ⟨⟨some (153, true), .load 157 (some 9) (.t 1)⟩, 7, []⟩, ⟨⟨some (153, true), .callv 158 (.c (.one (.fn k_spec_l13New []))) [(.t 157)]⟩, 71, []⟩, ⟨⟨some (153, true), .bin 159 .add (.t 156) (.t 158)⟩, 255, []⟩, ⟨⟨some (153, true), .bin 160 .leq (.t 159) (c6 60)⟩, 511, []⟩, ⟨⟨none, .pick 161 (.t 153) (.t 160) (cB false)⟩, 1023, []⟩, ⟨⟨none, .mov 2 (.t 161)⟩, 2047, []⟩]
def i_spec_ShardOk : IC := (.seq (.reg r6_0) (.seq (.seq (.reg r6_1) (.cond (.t 41) (.seq (.reg r6_2) .ret) .skip)) (.seq (.seq (.reg r6_3) (.cond (.t 69) (.seq (.reg r6_4) .ret) .skip)) (.seq (.seq (.reg r6_5) (.block 0 (.loop (.seq (.seq (.reg r6_6) (.cond (.t 74) .skip (.exit 0))) (.seq (.block 1 (.seq (.regd r6_7) (.cond (.t 85) (.seq (.reg r6_8) .ret) .skip))) (.reg r6_9)))))) (.seq (.seq (.reg r6_10) (.block 2 (.loop (.seq (.seq (.reg r6_11) (.cond (.t 90) .skip (.exit 2))) (.seq (.block 3 (.seq (.regd r6_12) (.cond (.t 103) (.seq (.reg r6_13) .ret) .skip))) (.reg r6_14)))))) (.seq (.seq (.reg r6_15) (.block 4 (.loop (.seq (.seq (.reg r6_16) (.cond (.t 108) .skip (.exit 4))) (.seq (.block 5 (.seq (.reg r6_17) (.seq (.regd r6_18) (.cond (.t 135) (.seq (.reg r6_19) .ret) .skip)))) (.reg r6_20)))))) (.seq (.seq (.reg r6_21) (.block 6 (.loop (.seq (.seq (.reg r6_22) (.cond (.t 140) .skip (.exit 6))) (.seq (.block 7 (.seq (.regd r6_23) (.cond (.t 150) (.seq (.reg r6_24) .ret) .skip))) (.reg r6_25)))))) (.seq (.regd r6_26) .ret))))))))
theorem i_spec_ShardOk_ok : (Tryz.f6.body.bind fun c => toIC Tryz.prog 162 c [[(0, []), (1, []), (0, []), (4, []), (0, []), (28, []), (60, []), (127, []), (255, [])], [(0, []), (1, [101]), (0, []), (4, []), (0, []), (28, []), (60, []), (124, []), (252, []), (511, []), (1023, [])], [(0, []), (1, [119]), (0, []), (4, []), (15, []), (31, []), (63, []), (127, []), (255, []), (127, []), (639, []), (2047, []), (4095, []), (8191, []), (16383, []), (32767, []), (16383, []), (81919, []), (262143, []), (524287, [])], [(0, []), (1, []), (0, []), (4, []), (0, []), (28, []), (60, []), (127, [])], [(0, []), (1, []), (3, []), (7, []), (15, [158]), (31, []), (7, []), (71, []), (255, []), (511, []), (1023, []), (2047, [])]]) = some (i_spec_ShardOk, []) := by kernel_rfl
theorem i_spec_ShardOk_fn {ds rs : List D} (hle : ds.length ≤ 162) (h : AW Tryz.prog 162 i_spec_ShardOk (Ends [.tmp 2] rs) (init ds)) : Fn Tryz.prog k_spec_ShardOk (lent ds) true rs :=
  Fn.intro' (by kernel_rfl) Tryz.func6 (by kernel_rfl) i_spec_ShardOk_ok (by kernel_rfl) hle h.h
abbrev r43_0 : List RO := [ro (.mov 6 (cB false))]
abbrev r43_1 : List RO := [rM 7 0, rM 8 1, ro (.bin 9 .geq (.t 7) (.t 8)), rM 10 9, rT 10 (.mov 11 (.t 0)), rT 10 (.mov 12 (.t 2)), rT 10 (.bin 13 .leq (.t 11) (.t 12)), ro (.pick 14 (.t 10) (.t 13) (cB false)), rM 6 14]
def i_impl_from : IC := (.seq (.reg r43_0) (.seq (.reg r43_1) .ret))
theorem i_impl_from_ok : (Tryz.f43.body.bind fun c => toIC Tryz.prog 15 c []) = some (i_impl_from, []) := by kernel_rfl
theorem i_impl_from_fn {ds rs : List D} (hle : ds.length ≤ 15) (h : AW Tryz.prog 15 i_impl_from (Ends [.tmp 6] rs) (init ds)) : Fn Tryz.prog k_impl_from (lent ds) true rs :=
  Fn.intro' (by kernel_rfl) Tryz.func43 (by kernel_rfl) i_impl_from_ok (by kernel_rfl) hle h.h
abbrev r37_0 : List RO := [ro (.mov 2 (cB false))]
abbrev r37_1 : List RO := [rM 3 0, ro (.callv 4 (.c (.one (.fn k_impl_from []))) [(.t 3), (c6 0), (c6 3)]), rM 2 4]
def i_impl_isGroup : IC := (.seq (.reg r37_0) (.seq (.reg r37_1) .ret))
theorem i_impl_isGroup_ok : (Tryz.f37.body.bind fun c => toIC Tryz.prog 5 c []) = some (i_impl_isGroup, []) := by kernel_rfl
theorem i_impl_isGroup_fn {ds rs : List D} (hle : ds.length ≤ 5) (h : AW Tryz.prog 5 i_impl_isGroup (Ends [.tmp 2] rs) (init ds)) : Fn Tryz.prog k_impl_isGroup (lent ds) true rs :=
  Fn.intro' (by kernel_rfl) Tryz.func37 (by kernel_rfl) i_impl_isGroup_ok (by kernel_rfl) hle h.h
abbrev r89_0 : List RO := [ro (.box 1 (.t 0)), ro (.mov 2 (cB false))]
abbrev r89_1 : List RO := [rF 3 0 1, rL 4 3, ro (.bin 5 .geq (.t 4) (c6 0)), rM 6 5, rT 6 (.faddr 7 0 (.t 1)), rT 6 (.load 8 none (.t 7)), rT 6 (.faddr 9 1 (.t 1)), rT 6 (.load 10 none (.t 9)), rT 6 (.bin 11 .lss (.t 8) (.t 10)), ro (.pick 12 (.t 6) (.t 11) (cB false)), rM 13 12, rT 13 (.faddr 14 1 (.t 1)), rT 13 (.load 15 none (.t 14)), rT 13 (.bin 16 .leq (.t 15) (c6 1000)), ro (.pick 17 (.t 13) (.t 16) (cB false)), rM 2 17]
def i_impl_RangeOk : IC := (.seq (.reg r89_0) (.seq (.reg r89_1) .ret))
theorem i_impl_RangeOk_ok : (Tryz.f89.body.bind fun c => toIC Tryz.prog 18 c []) = some (i_impl_RangeOk, []) := by kernel_rfl
theorem i_impl_RangeOk_fn {ds rs : List D} (hle : ds.length ≤ 18) (h : AW Tryz.prog 18 i_impl_RangeOk (Ends [.tmp 2] rs) (init ds)) : Fn Tryz.prog k_impl_RangeOk (lent ds) true rs :=
  Fn.intro' (by kernel_rfl) Tryz.func89 (by kernel_rfl) i_impl_RangeOk_ok (by kernel_rfl) hle h.h
abbrev r38_0 : List RO := [ro (.mov 2 (cB false))]
abbrev r38_1 : List RO := [rM 5 0, ro (.len 6 false (.t 5)), ro (.mov 7 (c6 0))]
abbrev r38_2 : List RO := [ro (.bin 8 .lss (.t 7) (.t 6))]
abbrev r38_3 : List RO := [rM 9 7, ro (.iaddr 10 2 (.t 5) (.t 7)), ro (.load 11 (some 2) (.t 10)), ro (.var 4 [(dI 0), (dI 0)]), rM 3 9, ro (.store 2 [(.int .i64 0), (.int .i64 0)] (.t 4) (.t 11))]
abbrev r38_4 : List RO := [ro (.load 12 (some 2) (.t 4)), ⟨⟨none, .callv 13 (.c (.one (.fn k_impl_RangeOk []))) [(.t 12)]⟩, 1, []⟩, ⟨⟨none, .inv 14 (.t 13)⟩, 3, []⟩, ⟨⟨none, .mov 15 (.t 14)⟩, 7, []⟩, ⟨⟨some (15, false), .mov 16 (.t 3)⟩, 15, []⟩, ⟨⟨some (15, false), .bin 17 .gtr (.t 16) (c6 0)⟩, 31, []⟩, ⟨⟨some (15, false), .mov 18 (.t 17)⟩, 63, []⟩, ⟨⟨some (18, true), .faddr 19 0 (.t 4)⟩, 127, []⟩, ⟨⟨some (18, true), .load 20 none (.t 19)⟩, 255, []⟩, ⟨⟨some (18, true), .mov 21 (.t 0)⟩, 127, []⟩, ⟨⟨some (18, true), .mov 22 (.t 3)⟩, 127, []⟩, ⟨⟨some (18, true), .bin 23 .sub (.t 22) (c6 1)⟩, 1151, []⟩, ⟨⟨some (18, true), .iaddr 24 2 (.t 21) (.t 23)⟩, 3711, []⟩, ⟨⟨some (18, true), .faddr 25 1 (.t 24)⟩, 7807, []⟩, ⟨⟨some (18, true), .load 26 none (.t 25)⟩, 15999, []⟩, ⟨⟨some (18, true), .bin 27 .lss (.t 20) (.t 26)⟩, 32767, []⟩, ⟨⟨some (15, false), .pick 28 (.t 18) (.t 27) (cB false)⟩, 65535, []⟩, ⟨⟨none, .pick 29 (.t 15) (cB true) (.t 28)⟩, 131071, []⟩]
abbrev r38_5 : List RO := [ro (.mov 2 (cB false))]
abbrev r38_6 : List RO := [ro (.bin 30 .add (.t 7) (c6 1)), rM 7 30]
abbrev r38_7 : List RO := [rM 31 0, ro (.len 32 false (.t 31)), ro (.bin 33 .leq (.t 32) (c6 16)), rM 2 33]
def i_impl_RangesOk : IC := (.seq (.reg r38_0) (.seq (.seq (.reg r38_1) (.block 0 (.loop (.seq (.reg r38_2) (.seq (.cond (.t 8) .skip (.exit 0)) (.seq (.block 1 (.seq (.reg r38_3) (.seq (.regd r38_4) (.cond (.t 29) (.seq (.reg r38_5) .ret) .skip)))) (.reg r38_6))))))) (.seq (.reg r38_7) .ret)))
theorem i_impl_RangesOk_ok : (Tryz.f38.body.bind fun c => toIC Tryz.prog 34 c [[(0, []), (1, []), (3, []), (7, []), (15, []), (31, []), (63, []), (127, []), (255, []), (127, []), (127, []), (1151, []), (3711, []), (7807, []), (15999, []), (32767, []), (65535, []), (131071, [])]]) = some (i_impl_RangesOk, []) := by kernel_rfl
theorem i_impl_RangesOk_fn {ds rs : List D} (hle : ds.length ≤ 34) (h : AW Tryz.prog 34 i_impl_RangesOk (Ends [.tmp 2] rs) (init ds)) : Fn Tryz.prog k_impl_RangesOk (lent ds) true rs :=
  Fn.intro' (by kernel_rfl) Tryz.func38 (by kernel_rfl) i_impl_RangesOk_ok (by kernel_rfl) hle h.h
abbrev r90_0 : List RO := [ro (.mov 2 (cB false))]
abbrev r90_1 : List RO := [rM 3 0, ro (.callv 4 (.c (.one (.fn k_impl_from []))) [(.t 3), (c6 0), (c6 999)]), rM 2 4]
def i_impl_isKey : IC := (.seq (.reg r90_0) (.seq (.reg r90_1) .ret))
theorem i_impl_isKey_ok : (Tryz.f90.body.bind fun c => toIC Tryz.prog 5 c []) = some (i_impl_isKey, []) := by kernel_rfl
theorem i_impl_isKey_fn {ds rs : List D} (hle : ds.length ≤ 5) (h : AW Tryz.prog 5 i_impl_isKey (Ends [.tmp 2] rs) (init ds)) : Fn Tryz.prog k_impl_isKey (lent ds) true rs :=
  Fn.intro' (by kernel_rfl) Tryz.func90 (by kernel_rfl) i_impl_isKey_ok (by kernel_rfl) hle h.h
abbrev r91_0 : List RO := [ro (.mov 2 (cB false))]
abbrev r91_1 : List RO := [rM 3 0, ro (.callv 4 (.c (.one (.fn k_impl_from []))) [(.t 3), (c6 0), (c6 1000000000)]), rM 2 4]
def i_impl_isWhole : IC := (.seq (.reg r91_0) (.seq (.reg r91_1) .ret))
theorem i_impl_isWhole_ok : (Tryz.f91.body.bind fun c => toIC Tryz.prog 5 c []) = some (i_impl_isWhole, []) := by kernel_rfl
theorem i_impl_isWhole_fn {ds rs : List D} (hle : ds.length ≤ 5) (h : AW Tryz.prog 5 i_impl_isWhole (Ends [.tmp 2] rs) (init ds)) : Fn Tryz.prog k_impl_isWhole (lent ds) true rs :=
  Fn.intro' (by kernel_rfl) Tryz.func91 (by kernel_rfl) i_impl_isWhole_ok (by kernel_rfl) hle h.h
abbrev r39_0 : List RO := [ro (.mov 2 (cB false))]
abbrev r39_1 : List RO := [rM 5 0, ro (.len 6 false (.t 5)), ro (.mov 7 (c6 0))]
abbrev r39_2 : List RO := [ro (.bin 8 .lss (.t 7) (.t 6))]
abbrev r39_3 : List RO := [rM 9 7, ro (.iaddr 10 2 (.t 5) (.t 7)), ro (.load 11 (some 2) (.t 10)), ro (.var 4 [(dI 0), (dI 0)]), rM 3 9, ro (.store 2 [(.int .i64 0), (.int .i64 0)] (.t 4) (.t 11))]
abbrev r39_4 : List RO := [rF 12 0 4, ⟨⟨none, .load 13 none (.t 12)⟩, 1, []⟩, ⟨⟨none, .callv 14 (.c (.one (.fn k_impl_isKey []))) [(.t 13)]⟩, 3, []⟩, ⟨⟨none, .inv 15 (.t 14)⟩, 7, []⟩, ⟨⟨none, .mov 16 (.t 15)⟩, 15, []⟩, ⟨⟨some (16, false), .faddr 17 1 (.t 4)⟩, 31, []⟩, ⟨⟨some (16, false), .load 18 none (.t 17)⟩, 63, []⟩, ⟨⟨some (16, false), .callv 19 (.c (.one (.fn k_impl_isWhole []))) [(.t 18)]⟩, 127, []⟩, ⟨⟨some (16, false), .inv 20 (.t 19)⟩, 255, []⟩, ⟨⟨none, .pick 21 (.t 16) (cB true) (.t 20)⟩, 511, []⟩, ⟨⟨none, .mov 22 (.t 21)⟩, 1023, []⟩, ⟨⟨some (22, false), .mov 23 (.t 3)⟩, 2047, []⟩, ⟨⟨some (22, false), .bin 24 .gtr (.t 23) (c6 0)⟩, 4095, []⟩, ⟨⟨some (22, false), .mov 25 (.t 24)⟩, 8191, []⟩, ⟨⟨some (25, true), .mov 26 (.t 0)⟩, 16383, []⟩, ⟨⟨some (25, true), .mov 27 (.t 3)⟩, 16383, []⟩, ⟨⟨some (25, true), .bin 28 .sub (.t 27) (c6 1)⟩, 49151, []⟩, ⟨⟨some (25, true), .iaddr 29 2 (.t 26) (.t 28)⟩, 131071, []⟩, ⟨⟨some (25, true), .faddr 30 0 (.t 29)⟩, 262143, []⟩, ⟨⟨some (25, true), .load 31 none (.t 30)⟩, 524287, []⟩, ⟨⟨some (25, true), .faddr 32 0 (.t 4)⟩, 16383, []⟩, ⟨⟨some (25, true), .load 33 none (.t 32)⟩, 1064959, []⟩, ⟨⟨some (25, true), .bin 34 .geq (.t 31) (.t 33)⟩, 4194303, []⟩, ⟨⟨some (22, false), .pick 35 (.t 25) (.t 34) (cB false)⟩, 8388607, []⟩, ⟨⟨none, .pick 36 (.t 22) (cB true) (.t 35)⟩, 16777215, []⟩]
abbrev r39_5 : List RO := [ro (.mov 2 (cB false))]
abbrev r39_6 : List RO := [ro (.bin 37 .add (.t 7) (c6 1)), rM 7 37]
abbrev r39_7 : List RO := [rM 38 0, ro (.len 39 false (.t 38)), ro (.bin 40 .leq (.t 39) (c6 60)), rM 2 40]
def i_impl_StoreOk : IC := (.seq (.reg r39_0) (.seq (.seq (.reg r39_1) (.block 0 (.loop (.seq (.reg r39_2) (.seq (.cond (.t 8) .skip (.exit 0)) (.seq (.block 1 (.seq (.reg r39_3) (.seq (.regd r39_4) (.cond (.t 36) (.seq (.reg r39_5) .ret) .skip)))) (.reg r39_6))))))) (.seq (.reg r39_7) .ret)))
theorem i_impl_StoreOk_ok : (Tryz.f39.body.bind fun c => toIC Tryz.prog 41 c [[(0, []), (1, []), (3, []), (7, []), (15, []), (31, []), (63, []), (127, []), (255, []), (511, []), (1023, []), (2047, []), (4095, []), (8191, []), (16383, []), (16383, []), (49151, []), (131071, []), (262143, []), (524287, []), (16383, []), (1064959, []), (4194303, []), (8388607, []), (16777215, [])]]) = some (i_impl_StoreOk, []) := by kernel_rfl
theorem i_impl_StoreOk_fn {ds rs : List D} (hle : ds.length ≤ 41) (h : AW Tryz.prog 41 i_impl_StoreOk (Ends [.tmp 2] rs) (init ds)) : Fn Tryz.prog k_impl_StoreOk (lent ds) true rs :=
  Fn.intro' (by kernel_rfl) Tryz.func39 (by kernel_rfl) i_impl_StoreOk_ok (by kernel_rfl) hle h.h
abbrev r92_0 : List RO := [ro (.mov 2 (cB false))]
abbrev r92_1 : List RO := [rM 3 0, ro (.callv 4 (.c (.one (.fn k_impl_from []))) [(.t 3), (c6 1), (c6 60)]), rM 2 4]
def i_impl_isTx : IC := (.seq (.reg r92_0) (.seq (.reg r92_1) .ret))
theorem i_impl_isTx_ok : (Tryz.f92.body.bind fun c => toIC Tryz.prog 5 c []) = some (i_impl_isTx, []) := by kernel_rfl
theorem i_impl_isTx_fn {ds rs : List D} (hle : ds.length ≤ 5) (h : AW Tryz.prog 5 i_impl_isTx (Ends [.tmp 2] rs) (init ds)) : Fn Tryz.prog k_impl_isTx (lent ds) true rs :=
  Fn.intro' (by kernel_rfl) Tryz.func92 (by kernel_rfl) i_impl_isTx_ok (by kernel_rfl) hle h.h
abbrev r53_0 : List RO := [ro (.box 1 (.t 0)), ro (.var 2 [(dI 0), (dI 0)])]
abbrev r53_1 : List RO := [rF 3 1 1, rL 4 3, rF 5 2 1, rL 6 5, ro (.build 7 [(dI 0), (dI 0)] [(0, 1, (.t 4)), (1, 1, (.t 6))]), ro (.store 2 [(.int .i64 0), (.int .i64 0)] (.t 2) (.t 7))]
def i__impl_Lock_keys : IC := (.seq (.reg r53_0) (.seq (.reg r53_1) .ret))
theorem i__impl_Lock_keys_ok : (Tryz.f53.body.bind fun c => toIC Tryz.prog 8 c []) = some (i__impl_Lock_keys, []) := by kernel_rfl
theorem i__impl_Lock_keys_fn {ds rs : List D} (hle : ds.length ≤ 8) (h : AW Tryz.prog 8 i__impl_Lock_keys (Ends [.cell 2 (some 2)] rs) (init ds)) : Fn Tryz.prog k__impl_Lock_keys (lent ds) true rs :=
  Fn.intro' (by kernel_rfl) Tryz.func53 (by kernel_rfl) i__impl_Lock_keys_ok (by kernel_rfl) hle h.h
abbrev r93_0 : List RO := [ro (.mov 2 (cB false))]
abbrev r93_1 : List RO := [rM 3 0, ro (.bin 4 .eql (.t 3) (c6 1)), rM 5 4, rN 5 (.mov 6 (.t 0)), rN 5 (.bin 7 .eql (.t 6) (c6 2)), ro (.pick 8 (.t 5) (cB true) (.t 7)), rM 2 8]
def i_impl_isMode : IC := (.seq (.reg r93_0) (.seq (.reg r93_1) .ret))
theorem i_impl_isMode_ok : (Tryz.f93.body.bind fun c => toIC Tryz.prog 9 c []) = some (i_impl_isMode, []) := by kernel_rfl
theorem i_impl_isMode_fn {ds rs : List D} (hle : ds.length ≤ 9) (h : AW Tryz.prog 9 i_impl_isMode (Ends [.tmp 2] rs) (init ds)) : Fn Tryz.prog k_impl_isMode (lent ds) true rs :=
  Fn.intro' (by kernel_rfl) Tryz.func93 (by kernel_rfl) i_impl_isMode_ok (by kernel_rfl) hle h.h
abbrev r118_0 : List RO := [ro (.box 2 (.t 0)), ro (.box 3 (.t 1)), ro (.mov 4 (cB false))]
abbrev r118_1 : List RO := [rF 5 0 2, rL 6 5, rF 7 1 3, rL 8 7, ro (.bin 9 .lss (.t 6) (.t 8)), rM 10 9, rT 10 (.faddr 11 0 (.t 3)), rT 10 (.load 12 none (.t 11)), rT 10 (.faddr 13 1 (.t 2)), rT 10 (.load 14 none (.t 13)), rT 10 (.bin 15 .lss (.t 12) (.t 14)), ro (.pick 16 (.t 10) (.t 15) (cB false)), rM 4 16]
def i_impl_meets : IC := (.seq (.reg r118_0) (.seq (.reg r118_1) .ret))
theorem i_impl_meets_ok : (Tryz.f118.body.bind fun c => toIC Tryz.prog 17 c []) = some (i_impl_meets, []) := by kernel_rfl
theorem i_impl_meets_fn {ds rs : List D} (hle : ds.length ≤ 17) (h : AW Tryz.prog 17 i_impl_meets (Ends [.tmp 4] rs) (init ds)) : Fn Tryz.prog k_impl_meets (lent ds) true rs :=
  Fn.intro' (by kernel_rfl) Tryz.func118 (by kernel_rfl) i_impl_meets_ok (by kernel_rfl) hle h.h
abbrev r95_0 : List RO := [ro (.box 2 (.t 0)), ro (.box 3 (.t 1)), ro (.mov 4 (cB false))]
abbrev r95_1 : List RO := [rF 5 0 2, ⟨⟨none, .load 6 none (.t 5)⟩, 1, []⟩, rF 7 0 3, ⟨⟨none, .load 8 none (.t 7)⟩, 4, []⟩, ⟨⟨none, .bin 9 .neq (.t 6) (.t 8)⟩, 15, []⟩, ⟨⟨none, .mov 10 (.t 9)⟩, 31, []⟩, ⟨⟨some (10, true), .faddr 11 3 (.t 2)⟩, 63, []⟩, ⟨⟨some (10, true), .load 12 none (.t 11)⟩, 127, []⟩, ⟨⟨some (10, true), .bin 13 .eql (.t 12) (c6 2)⟩, 255, []⟩, ⟨⟨some (10, true), .mov 14 (.t 13)⟩, 511, []⟩, ⟨⟨some (14, false), .faddr 15 3 (.t 3)⟩, 1023, []⟩, ⟨⟨some (14, false), .load 16 none (.t 15)⟩, 2047, []⟩, ⟨⟨some (14, false), .bin 17 .eql (.t 16) (c6 2)⟩, 4095, []⟩, ⟨⟨some (10, true), .pick 18 (.t 14) (cB true) (.t 17)⟩, 8191, []⟩, ⟨⟨none, .pick 19 (.t 10) (.t 18) (cB false)⟩, 16383, []⟩, ⟨⟨none, .mov 20 (.t 19)⟩, 32767, []⟩, ⟨⟨some (20, true), .load 21 (some 4) (.t 2)⟩, 65535, []⟩, ⟨⟨some (20, true), .callv 22 (.c (.one (.fn k__impl_Lock_keys []))) [(.t 21)]⟩, 131071, []⟩, ⟨⟨some (20, true), .load 23 (some 4) (.t 3)⟩, 65535, [22]⟩, ⟨⟨some (20, true), .callv 24 (.c (.one (.fn k__impl_Lock_keys []))) [(.t 23)]⟩, 524287, []⟩, ⟨⟨some (20, true), .callv 25 (.c (.one (.fn k_impl_meets []))) [(.t 22), (.t 24)]⟩, 1048575, []⟩, ⟨⟨none, .pick 26 (.t 20) (.t 25) (cB false)⟩, 2097151, []⟩, ⟨⟨none, .mov 4 (.t 26)⟩, 4194303, []⟩]
def i_impl_clash : IC := (.seq (.reg r95_0) (.seq (.regd r95_1) .ret))
theorem i_impl_clash_ok : (Tryz.f95.body.bind fun c => toIC Tryz.prog 27 c [[(0, []), (1, []), (0, []), (4, []), (15, []), (31, []), (63, []), (127, []), (255, []), (511, []), (1023, []), (2047, []), (4095, []), (8191, []), (16383, []), (32767, []), (65535, []), (131071, []), (65535, [22]), (524287, []), (1048575, []), (2097151, []), (4194303, [])]]) = some (i_impl_clash, []) := by kernel_rfl
theorem i_impl_clash_fn {ds rs : List D} (hle : ds.length ≤ 27) (h : AW Tryz.prog 27 i_impl_clash (Ends [.tmp 4] rs) (init ds)) : Fn Tryz.prog k_impl_clash (lent ds) true rs :=
  Fn.intro' (by kernel_rfl) Tryz.func95 (by kernel_rfl) i_impl_clash_ok (by kernel_rfl) hle h.h
abbrev r94_0 : List RO := [ro (.box 2 (.t 0)), ro (.mov 3 (cB false))]
abbrev r94_1 : List RO := [ro (.load 4 (some 4) (.t 1)), ro (.load 5 (some 4) (.t 2)), ro (.callv 6 (.c (.one (.fn k_impl_clash []))) [(.t 4), (.t 5)]), rM 3 6]
def i_impl_LocksOk_1 : IC := (.seq (.reg r94_0) (.seq (.reg r94_1) .ret))
theorem i_impl_LocksOk_1_ok : (Tryz.f94.body.bind fun c => toIC Tryz.prog 7 c []) = some (i_impl_LocksOk_1, []) := by kernel_rfl
theorem i_impl_LocksOk_1_fn {ds rs : List D} (hle : ds.length ≤ 7) (h : AW Tryz.prog 7 i_impl_LocksOk_1 (Ends [.tmp 3] rs) (init ds)) : Fn Tryz.prog k_impl_LocksOk_1 (lent ds) true rs :=
  Fn.intro' (by kernel_rfl) Tryz.func94 (by kernel_rfl) i_impl_LocksOk_1_ok (by kernel_rfl) hle h.h
abbrev r103_0 : List RO := [ro (.mov 4 (c6 0))]
abbrev r103_1 : List RO := [rM 6 0, ro (.len 7 false (.t 6)), ro (.mov 8 (c6 0))]
abbrev r103_2 : List RO := [ro (.bin 9 .lss (.t 8) (.t 7))]
abbrev r103_3 : List RO := [rM 10 8, rM 5 10]
abbrev r103_4 : List RO := [rM 11 1, rM 12 0, rM 13 5, ro (.iaddr 14 4 (.t 12) (.t 13)), ro (.load 15 (some 4) (.t 14)), ro (.callv 16 (.t 11) [(.t 15)])]
abbrev r103_5 : List RO := [rM 17 5, rM 4 17]
abbrev r103_6 : List RO := [ro (.bin 18 .add (.t 8) (c6 1)), rM 8 18]
abbrev r103_7 : List RO := [ro (.mov 4 (c6 (-1)))]
def i_slices_IndexFunc___impl_Lock_impl_Lock_ : IC := (.seq (.reg r103_0) (.seq (.seq (.reg r103_1) (.block 0 (.loop (.seq (.reg r103_2) (.seq (.cond (.t 9) .skip (.exit 0)) (.seq (.block 1 (.seq (.reg r103_3) (.seq (.reg r103_4) (.cond (.t 16) (.seq (.reg r103_5) .ret) .skip)))) (.reg r103_6))))))) (.seq (.reg r103_7) .ret)))
theorem i_slices_IndexFunc___impl_Lock_impl_Lock__ok : (Tryz.f103.body.bind fun c => toIC Tryz.prog 19 c []) = some (i_slices_IndexFunc___impl_Lock_impl_Lock_, []) := by kernel_rfl
theorem i_slices_IndexFunc___impl_Lock_impl_Lock__fn {ds rs : List D} (hle : ds.length ≤ 19) (h : AW Tryz.prog 19 i_slices_IndexFunc___impl_Lock_impl_Lock_ (Ends [.tmp 4] rs) (init ds)) : Fn Tryz.prog k_slices_IndexFunc___impl_Lock_impl_Lock_ (lent ds) true rs :=
  Fn.intro' (by kernel_rfl) Tryz.func103 (by kernel_rfl) i_slices_IndexFunc___impl_Lock_impl_Lock__ok (by kernel_rfl) hle h.h
abbrev r51_0 : List RO := [ro (.mov 4 (cB false))]
abbrev r51_1 : List RO := [rM 5 0, rM 6 1, ro (.callv 7 (.c (.one (.fn k_slices_IndexFunc___impl_Lock_impl_Lock_ []))) [(.t 5), (.t 6)]), ro (.bin 8 .geq (.t 7) (c6 0)), rM 4 8]
def i_slices_ContainsFunc___impl_Lock_impl_Lock_ : IC := (.seq (.reg r51_0) (.seq (.reg r51_1) .ret))
theorem i_slices_ContainsFunc___impl_Lock_impl_Lock__ok : (Tryz.f51.body.bind fun c => toIC Tryz.prog 9 c []) = some (i_slices_ContainsFunc___impl_Lock_impl_Lock_, []) := by kernel_rfl
theorem i_slices_ContainsFunc___impl_Lock_impl_Lock__fn {ds rs : List D} (hle : ds.length ≤ 9) (h : AW Tryz.prog 9 i_slices_ContainsFunc___impl_Lock_impl_Lock_ (Ends [.tmp 4] rs) (init ds)) : Fn Tryz.prog k_slices_ContainsFunc___impl_Lock_impl_Lock_ (lent ds) true rs :=
  Fn.intro' (by kernel_rfl) Tryz.func51 (by kernel_rfl) i_slices_ContainsFunc___impl_Lock_impl_Lock__ok (by kernel_rfl) hle h.h
abbrev r40_0 : List RO := [ro (.mov 2 (cB false))]
abbrev r40_1 : List RO := [rM 5 0, ro (.len 6 false (.t 5)), ro (.mov 7 (c6 0))]
abbrev r40_2 : List RO := [ro (.bin 8 .lss (.t 7) (.t 6))]
abbrev r40_3 : List RO := [rM 9 7, ro (.iaddr 10 4 (.t 5) (.t 7)), ro (.load 11 (some 4) (.t 10)), ro (.var 4 [(dI 0), (dI 0), (dI 0), (dI 0)]), rM 3 9, ro (.store 4 [(.int .i64 0), (.int .i64 0), (.int .i64 0), (.int .i64 0)] (.t 4) (.t 11))]
abbrev r40_4 : List RO := [rF 12 0 4, rL 13 12, ro (.callv 14 (.c (.one (.fn k_impl_isTx []))) [(.t 13)]), ro (.inv 15 (.t 14)), rM 16 15, rN 16 (.load 17 (some 4) (.t 4)), rN 16 (.callv 18 (.c (.one (.fn k__impl_Lock_keys []))) [(.t 17)]), rN 16 (.callv 19 (.c (.one (.fn k_impl_RangeOk []))) [(.t 18)]), rN 16 (.inv 20 (.t 19)), ro (.pick 21 (.t 16) (cB true) (.t 20)), rM 22 21, rN 22 (.faddr 23 3 (.t 4)), rN 22 (.load 24 none (.t 23)), rN 22 (.callv 25 (.c (.one (.fn k_impl_isMode []))) [(.t 24)]), rN 22 (.inv 26 (.t 25)), ro (.pick 27 (.t 22) (cB true) (.t 26)), rM 28 27, rN 28 (.mov 29 (.t 0)), rN 28 (.mov 30 (.t 3)), rN 28 (.slice 31 4 (.t 29) none (some (.t 30)) none), rN 28 (.mkfn 32 k_impl_LocksOk_1 [(.t 4)]), rN 28 (.callv 33 (.c (.one (.fn k_slices_ContainsFunc___impl_Lock_impl_Lock_ []))) [(.t 31), (.t 32)]), ro (.pick 34 (.t 28) (cB true) (.t 33))]
abbrev r40_5 : List RO := [ro (.mov 2 (cB false))]
abbrev r40_6 : List RO := [ro (.bin 35 .add (.t 7) (c6 1)), rM 7 35]
abbrev r40_7 : List RO := [rM 36 0, ro (.len 37 false (.t 36)), ro (.bin 38 .leq (.t 37) (c6 40)), rM 2 38]
def i_impl_LocksOk : IC := (.seq (.reg r40_0) (.seq (.seq (.reg r40_1) (.block 0 (.loop (.seq (.reg r40_2) (.seq (.cond (.t 8) .skip (.exit 0)) (.seq (.block 1 (.seq (.reg r40_3) (.seq (.reg r40_4) (.cond (.t 34) (.seq (.reg r40_5) .ret) .skip)))) (.reg r40_6))))))) (.seq (.reg r40_7) .ret)))
theorem i_impl_LocksOk_ok : (Tryz.f40.body.bind fun c => toIC Tryz.prog 39 c []) = some (i_impl_LocksOk, []) := by kernel_rfl
theorem i_impl_LocksOk_fn {ds rs : List D} (hle : ds.length ≤ 39) (h : AW Tryz.prog 39 i_impl_LocksOk (Ends [.tmp 2] rs) (init ds)) : Fn Tryz.prog k_impl_LocksOk (lent ds) true rs :=
  Fn.intro' (by kernel_rfl) Tryz.func40 (by kernel_rfl) i_impl_LocksOk_ok (by kernel_rfl) hle h.h
abbrev r119_0 : List RO := [ro (.mov 2 (cB false))]
abbrev r119_1 : List RO := [rM 3 0, ro (.callv 4 (.c (.one (.fn k_impl_from []))) [(.t 3), (c6 (-1)), (c6 1000000000)]), rM 2 4]
def i_impl_isAnswer : IC := (.seq (.reg r119_0) (.seq (.reg r119_1) .ret))
theorem i_impl_isAnswer_ok : (Tryz.f119.body.bind fun c => toIC Tryz.prog 5 c []) = some (i_impl_isAnswer, []) := by kernel_rfl
theorem i_impl_isAnswer_fn {ds rs : List D} (hle : ds.length ≤ 5) (h : AW Tryz.prog 5 i_impl_isAnswer (Ends [.tmp 2] rs) (init ds)) : Fn Tryz.prog k_impl_isAnswer (lent ds) true rs :=
  Fn.intro' (by kernel_rfl) Tryz.func119 (by kernel_rfl) i_impl_isAnswer_ok (by kernel_rfl) hle h.h
abbrev r96_0 : List RO := [ro (.mov 2 (cB false))]
abbrev r96_1 : List RO := [rM 5 0, ro (.len 6 false (.t 5)), ro (.mov 7 (c6 0))]
abbrev r96_2 : List RO := [ro (.bin 8 .lss (.t 7) (.t 6))]
abbrev r96_3 : List RO := [rM 9 7, ro (.iaddr 10 2 (.t 5) (.t 7)), ro (.load 11 (some 2) (.t 10)), ro (.var 4 [(dI 0), (dI 0)]), rM 3 9, ro (.store 2 [(.int .i64 0), (.int .i64 0)] (.t 4) (.t 11))]
abbrev r96_4 : List RO := [rF 12 0 4, ⟨⟨none, .load 13 none (.t 12)⟩, 1, []⟩, ⟨⟨none, .callv 14 (.c (.one (.fn k_impl_isKey []))) [(.t 13)]⟩, 3, []⟩, ⟨⟨none, .inv 15 (.t 14)⟩, 7, []⟩, ⟨⟨none, .mov 16 (.t 15)⟩, 15, []⟩, ⟨⟨some (16, false), .faddr 17 1 (.t 4)⟩, 31, []⟩, ⟨⟨some (16, false), .load 18 none (.t 17)⟩, 63, []⟩, ⟨⟨some (16, false), .callv 19 (.c (.one (.fn k_impl_isAnswer []))) [(.t 18)]⟩, 127, []⟩, ⟨⟨some (16, false), .inv 20 (.t 19)⟩, 255, []⟩, ⟨⟨none, .pick 21 (.t 16) (cB true) (.t 20)⟩, 511, []⟩, ⟨⟨none, .mov 22 (.t 21)⟩, 1023, []⟩, ⟨⟨some (22, false), .mov 23 (.t 3)⟩, 2047, []⟩, ⟨⟨some (22, false), .bin 24 .gtr (.t 23) (c6 0)⟩, 4095, []⟩, ⟨⟨some (22, false), .mov 25 (.t 24)⟩, 8191, []⟩, ⟨⟨some (25, true), .mov 26 (.t 0)⟩, 16383, []⟩, ⟨⟨some (25, true), .mov 27 (.t 3)⟩, 16383, []⟩, ⟨⟨some (25, true), .bin 28 .sub (.t 27) (c6 1)⟩, 49151, []⟩, ⟨⟨some (25, true), .iaddr 29 2 (.t 26) (.t 28)⟩, 131071, []⟩, ⟨⟨some (25, true), .faddr 30 0 (.t 29)⟩, 262143, []⟩, ⟨⟨some (25, true), .load 31 none (.t 30)⟩, 524287, []⟩, ⟨⟨some (25, true), .faddr 32 0 (.t 4)⟩, 16383, []⟩, ⟨⟨some (25, true), .load 33 none (.t 32)⟩, 1064959, []⟩, ⟨⟨some (25, true), .bin 34 .geq (.t 31) (.t 33)⟩, 4194303, []⟩, ⟨⟨some (22, false), .pick 35 (.t 25) (.t 34) (cB false)⟩, 8388607, []⟩, ⟨⟨none, .pick 36 (.t 22) (cB true) (.t 35)⟩, 16777215, []⟩]
abbrev r96_5 : List RO := [ro (.mov 2 (cB false))]
abbrev r96_6 : List RO := [ro (.bin 37 .add (.t 7) (c6 1)), rM 7 37]
abbrev r96_7 : List RO := [rM 38 0, ro (.len 39 false (.t 38)), ro (.bin 40 .leq (.t 39) (c6 60)), rM 2 40]
def i_impl_WritesOk : IC := (.seq (.reg r96_0) (.seq (.seq (.reg r96_1) (.block 0 (.loop (.seq (.reg r96_2) (.seq (.cond (.t 8) .skip (.exit 0)) (.seq (.block 1 (.seq (.reg r96_3) (.seq (.regd r96_4) (.cond (.t 36) (.seq (.reg r96_5) .ret) .skip)))) (.reg r96_6))))))) (.seq (.reg r96_7) .ret)))
theorem i_impl_WritesOk_ok : (Tryz.f96.body.bind fun c => toIC Tryz.prog 41 c [[(0, []), (1, []), (3, []), (7, []), (15, []), (31, []), (63, []), (127, []), (255, []), (511, []), (1023, []), (2047, []), (4095, []), (8191, []), (16383, []), (16383, []), (49151, []), (131071, []), (262143, []), (524287, []), (16383, []), (1064959, []), (4194303, []), (8388607, []), (16777215, [])]]) = some (i_impl_WritesOk, []) := by kernel_rfl
theorem i_impl_WritesOk_fn {ds rs : List D} (hle : ds.length ≤ 41) (h : AW Tryz.prog 41 i_impl_WritesOk (Ends [.tmp 2] rs) (init ds)) : Fn Tryz.prog k_impl_WritesOk (lent ds) true rs :=
  Fn.intro' (by kernel_rfl) Tryz.func96 (by kernel_rfl) i_impl_WritesOk_ok (by kernel_rfl) hle h.h
abbrev r49_0 : List RO := [ro (.var 2 [(dI 0), (dI 0)])]
abbrev r49_1 : List RO := [rM 3 0, rM 4 0, ro (.bin 5 .add (.t 4) (c6 1)), ro (.build 6 [(dI 0), (dI 0)] [(0, 1, (.t 3)), (1, 1, (.t 5))]), ro (.store 2 [(.int .i64 0), (.int .i64 0)] (.t 2) (.t 6))]
def i_impl_one : IC := (.seq (.reg r49_0) (.seq (.reg r49_1) .ret))
theorem i_impl_one_ok : (Tryz.f49.body.bind fun c => toIC Tryz.prog 7 c []) = some (i_impl_one, []) := by kernel_rfl
theorem i_impl_one_fn {ds rs : List D} (hle : ds.length ≤ 7) (h : AW Tryz.prog 7 i_impl_one (Ends [.cell 2 (some 2)] rs) (init ds)) : Fn Tryz.prog k_impl_one (lent ds) true rs :=
  Fn.intro' (by kernel_rfl) Tryz.func49 (by kernel_rfl) i_impl_one_ok (by kernel_rfl) hle h.h
abbrev r121_0 : List RO := [ro (.box 4 (.t 0)), ro (.mov 5 (cB false))]
abbrev r121_1 : List RO := [rF 6 0 4, rL 7 6, rL 8 1, ro (.bin 9 .eql (.t 7) (.t 8)), rM 10 9, rT 10 (.faddr 11 3 (.t 4)), rT 10 (.load 12 none (.t 11)), rT 10 (.load 13 none (.t 2)), rT 10 (.bin 14 .eql (.t 12) (.t 13)), rT 10 (.mov 15 (.t 14)), rN 15 (.faddr 16 3 (.t 4)), rN 15 (.load 17 none (.t 16)), rN 15 (.bin 18 .eql (.t 17) (c6 2)), rT 10 (.pick 19 (.t 15) (cB true) (.t 18)), ro (.pick 20 (.t 10) (.t 19) (cB false)), rM 21 20, rT 21 (.faddr 22 1 (.t 4)), rT 21 (.load 23 none (.t 22)), rT 21 (.faddr 24 0 (.t 3)), rT 21 (.load 25 none (.t 24)), rT 21 (.bin 26 .leq (.t 23) (.t 25)), ro (.pick 27 (.t 21) (.t 26) (cB false)), rM 28 27, rT 28 (.faddr 29 1 (.t 3)), rT 28 (.load 30 none (.t 29)), rT 28 (.faddr 31 2 (.t 4)), rT 28 (.load 32 none (.t 31)), rT 28 (.bin 33 .leq (.t 30) (.t 32)), ro (.pick 34 (.t 28) (.t 33) (cB false)), rM 5 34]
def i_impl_LocksHold_1 : IC := (.seq (.reg r121_0) (.seq (.reg r121_1) .ret))
theorem i_impl_LocksHold_1_ok : (Tryz.f121.body.bind fun c => toIC Tryz.prog 35 c []) = some (i_impl_LocksHold_1, []) := by kernel_rfl
theorem i_impl_LocksHold_1_fn {ds rs : List D} (hle : ds.length ≤ 35) (h : AW Tryz.prog 35 i_impl_LocksHold_1 (Ends [.tmp 5] rs) (init ds)) : Fn Tryz.prog k_impl_LocksHold_1 (lent ds) true rs :=
  Fn.intro' (by kernel_rfl) Tryz.func121 (by kernel_rfl) i_impl_LocksHold_1_ok (by kernel_rfl) hle h.h
abbrev r99_0 : List RO := [ro (.box 5 (.t 1)), ro (.box 6 (.t 2)), ro (.box 7 (.t 3)), ro (.mov 8 (cB false))]
abbrev r99_1 : List RO := [rM 9 0, ro (.callv 10 (.c (.one (.fn k_impl_LocksOk []))) [(.t 9)]), rM 11 10, rT 11 (.load 12 (some 2) (.t 6)), rT 11 (.callv 13 (.c (.one (.fn k_impl_RangeOk []))) [(.t 12)]), ro (.pick 14 (.t 11) (.t 13) (cB false)), rM 15 14, rT 15 (.load 16 none (.t 7)), rT 15 (.callv 17 (.c (.one (.fn k_impl_isMode []))) [(.t 16)]), ro (.pick 18 (.t 15) (.t 17) (cB false)), rM 19 18, rT 19 (.mov 20 (.t 0)), rT 19 (.mkfn 21 k_impl_LocksHold_1 [(.t 5), (.t 7), (.t 6)]), rT 19 (.callv 22 (.c (.one (.fn k_slices_ContainsFunc___impl_Lock_impl_Lock_ []))) [(.t 20), (.t 21)]), ro (.pick 23 (.t 19) (.t 22) (cB false)), rM 8 23]
def i_impl_LocksHold : IC := (.seq (.reg r99_0) (.seq (.reg r99_1) .ret))
theorem i_impl_LocksHold_ok : (Tryz.f99.body.bind fun c => toIC Tryz.prog 24 c []) = some (i_impl_LocksHold, []) := by kernel_rfl
theorem i_impl_LocksHold_fn {ds rs : List D} (hle : ds.length ≤ 24) (h : AW Tryz.prog 24 i_impl_LocksHold (Ends [.tmp 8] rs) (init ds)) : Fn Tryz.prog k_impl_LocksHold (lent ds) true rs :=
  Fn.intro' (by kernel_rfl) Tryz.func99 (by kernel_rfl) i_impl_LocksHold_ok (by kernel_rfl) hle h.h
abbrev r98_0 : List RO := [ro (.box 3 (.t 0)), ro (.mov 4 (cB false))]
abbrev r98_1 : List RO := [rF 5 4 1, ⟨⟨none, .load 6 none (.t 5)⟩, 1, [11]⟩, rF 7 0 2, ⟨⟨none, .load 8 none (.t 7)⟩, 4, [11]⟩, rF 9 0 3, ⟨⟨none, .load 10 none (.t 9)⟩, 16, []⟩, ⟨⟨none, .callv 11 (.c (.one (.fn k_impl_one []))) [(.t 10)]⟩, 48, []⟩, ⟨⟨none, .callv 12 (.c (.one (.fn k_impl_LocksHold []))) [(.t 6), (.t 8), (.t 11), (c6 2)]⟩, 127, []⟩, ⟨⟨none, .inv 13 (.t 12)⟩, 255, []⟩, ⟨⟨none, .mov 4 (.t 13)⟩, 511, []⟩]
def i_impl_heldsOk_1 : IC := (.seq (.reg r98_0) (.seq (.regd r98_1) .ret))
theorem i_impl_heldsOk_1_ok : (Tryz.f98.body.bind fun c => toIC Tryz.prog 14 c [[(0, []), (1, [11]), (0, []), (4, [11]), (0, []), (16, []), (48, []), (127, []), (255, []), (511, [])]]) = some (i_impl_heldsOk_1, []) := by kernel_rfl
theorem i_impl_heldsOk_1_fn {ds rs : List D} (hle : ds.length ≤ 14) (h : AW Tryz.prog 14 i_impl_heldsOk_1 (Ends [.tmp 4] rs) (init ds)) : Fn Tryz.prog k_impl_heldsOk_1 (lent ds) true rs :=
  Fn.intro' (by kernel_rfl) Tryz.func98 (by kernel_rfl) i_impl_heldsOk_1_ok (by kernel_rfl) hle h.h
abbrev r120_0 : List RO := [ro (.mov 4 (c6 0))]
abbrev r120_1 : List RO := [rM 6 0, ro (.len 7 false (.t 6)), ro (.mov 8 (c6 0))]
abbrev r120_2 : List RO := [ro (.bin 9 .lss (.t 8) (.t 7))]
abbrev r120_3 : List RO := [rM 10 8, rM 5 10]
abbrev r120_4 : List RO := [rM 11 1, rM 12 0, rM 13 5, ro (.iaddr 14 2 (.t 12) (.t 13)), ro (.load 15 (some 2) (.t 14)), ro (.callv 16 (.t 11) [(.t 15)])]
abbrev r120_5 : List RO := [rM 17 5, rM 4 17]
abbrev r120_6 : List RO := [ro (.bin 18 .add (.t 8) (c6 1)), rM 8 18]
abbrev r120_7 : List RO := [ro (.mov 4 (c6 (-1)))]
def i_slices_IndexFunc___impl_Write_impl_Write_ : IC := (.seq (.reg r120_0) (.seq (.seq (.reg r120_1) (.block 0 (.loop (.seq (.reg r120_2) (.seq (.cond (.t 9) .skip (.exit 0)) (.seq (.block 1 (.seq (.reg r120_3) (.seq (.reg r120_4) (.cond (.t 16) (.seq (.reg r120_5) .ret) .skip)))) (.reg r120_6))))))) (.seq (.reg r120_7) .ret)))
theorem i_slices_IndexFunc___impl_Write_impl_Write__ok : (Tryz.f120.body.bind fun c => toIC Tryz.prog 19 c []) = some (i_slices_IndexFunc___impl_Write_impl_Write_, []) := by kernel_rfl
theorem i_slices_IndexFunc___impl_Write_impl_Write__fn {ds rs : List D} (hle : ds.length ≤ 19) (h : AW Tryz.prog 19 i_slices_IndexFunc___impl_Write_impl_Write_ (Ends [.tmp 4] rs) (init ds)) : Fn Tryz.prog k_slices_IndexFunc___impl_Write_impl_Write_ (lent ds) true rs :=
  Fn.intro' (by kernel_rfl) Tryz.func120 (by kernel_rfl) i_slices_IndexFunc___impl_Write_impl_Write__ok (by kernel_rfl) hle h.h
abbrev r97_0 : List RO := [ro (.mov 4 (cB false))]
abbrev r97_1 : List RO := [rM 5 0, rM 6 1, ro (.callv 7 (.c (.one (.fn k_slices_IndexFunc___impl_Write_impl_Write_ []))) [(.t 5), (.t 6)]), ro (.bin 8 .geq (.t 7) (c6 0)), rM 4 8]
def i_slices_ContainsFunc___impl_Write_impl_Write_ : IC := (.seq (.reg r97_0) (.seq (.reg r97_1) .ret))
theorem i_slices_ContainsFunc___impl_Write_impl_Write__ok : (Tryz.f97.body.bind fun c => toIC Tryz.prog 9 c []) = some (i_slices_ContainsFunc___impl_Write_impl_Write_, []) := by kernel_rfl
theorem i_slices_ContainsFunc___impl_Write_impl_Write__fn {ds rs : List D} (hle : ds.length ≤ 9) (h : AW Tryz.prog 9 i_slices_ContainsFunc___impl_Write_impl_Write_ (Ends [.tmp 4] rs) (init ds)) : Fn Tryz.prog k_slices_ContainsFunc___impl_Write_impl_Write_ (lent ds) true rs :=
  Fn.intro' (by kernel_rfl) Tryz.func97 (by kernel_rfl) i_slices_ContainsFunc___impl_Write_impl_Write__ok (by kernel_rfl) hle h.h
abbrev r55_0 : List RO := [ro (.mov 2 (.c (.one .zs)))]
abbrev r55_1 : List RO := [ro (.bslice 6 1 [] []), rM 3 6]
abbrev r55_2 : List RO := [rM 7 0, ro (.len 8 false (.t 7)), ro (.mov 9 (c6 0))]
abbrev r55_3 : List RO := [ro (.bin 10 .lss (.t 9) (.t 8))]
abbrev r55_4 : List RO := [ro (.iaddr 11 2 (.t 7) (.t 9)), ro (.load 12 (some 2) (.t 11)), ro (.var 5 [(dI 0), .zs]), ro (.store 2 [(.int .i64 0), (.sl 2 [])] (.t 5) (.t 12))]
abbrev r55_5 : List RO := [rM 13 3, rF 14 0 5, rL 15 14, ro (.bslice 16 1 [(dI 0)] [(0, 1, (.t 15))]), ro (.app 17 1 8 [(.int .i64 0)] (.t 13) (.t 16)), rM 3 17]
abbrev r55_6 : List RO := [ro (.bin 18 .add (.t 9) (c6 1)), rM 9 18]
abbrev r55_7 : List RO := [rM 19 3, rM 2 19]
def i_impl_txsOf : IC := (.seq (.reg r55_0) (.seq (.reg r55_1) (.seq (.seq (.reg r55_2) (.block 0 (.loop (.seq (.reg r55_3) (.seq (.cond (.t 10) .skip (.exit 0)) (.seq (.block 1 (.seq (.reg r55_4) (.reg r55_5))) (.reg r55_6))))))) (.seq (.reg r55_7) .ret))))
theorem i_impl_txsOf_ok : (Tryz.f55.body.bind fun c => toIC Tryz.prog 20 c []) = some (i_impl_txsOf, []) := by kernel_rfl
theorem i_impl_txsOf_fn {ds rs : List D} (hle : ds.length ≤ 20) (h : AW Tryz.prog 20 i_impl_txsOf (Ends [.tmp 2] rs) (init ds)) : Fn Tryz.prog k_impl_txsOf (lent ds) true rs :=
  Fn.intro' (by kernel_rfl) Tryz.func55 (by kernel_rfl) i_impl_txsOf_ok (by kernel_rfl) hle h.h
abbrev r42_0 : List RO := [ro (.mov 2 (cB false))]
abbrev r42_1 : List RO := [rM 5 0, ro (.len 6 false (.t 5)), ro (.mov 7 (c6 0))]
abbrev r42_2 : List RO := [ro (.bin 8 .lss (.t 7) (.t 6))]
abbrev r42_3 : List RO := [rM 9 7, ro (.iaddr 10 1 (.t 5) (.t 7)), rL 11 10, rM 3 9, rM 4 11]
abbrev r42_4 : List RO := [rM 12 4, ro (.callv 13 (.c (.one (.fn k_impl_isTx []))) [(.t 12)]), ro (.inv 14 (.t 13)), rM 15 14, rN 15 (.mov 16 (.t 3)), rN 15 (.bin 17 .gtr (.t 16) (c6 0)), rN 15 (.mov 18 (.t 17)), rT 18 (.mov 19 (.t 0)), rT 18 (.mov 20 (.t 3)), rT 18 (.bin 21 .sub (.t 20) (c6 1)), rT 18 (.iaddr 22 1 (.t 19) (.t 21)), rT 18 (.load 23 none (.t 22)), rT 18 (.mov 24 (.t 4)), rT 18 (.bin 25 .geq (.t 23) (.t 24)), rN 15 (.pick 26 (.t 18) (.t 25) (cB false)), ro (.pick 27 (.t 15) (cB true) (.t 26))]
abbrev r42_5 : List RO := [ro (.mov 2 (cB false))]
abbrev r42_6 : List RO := [ro (.bin 28 .add (.t 7) (c6 1)), rM 7 28]
abbrev r42_7 : List RO := [ro (.mov 2 (cB true))]
def i_impl_ascending : IC := (.seq (.reg r42_0) (.seq (.seq (.reg r42_1) (.block 0 (.loop (.seq (.reg r42_2) (.seq (.cond (.t 8) .skip (.exit 0)) (.seq (.block 1 (.seq (.reg r42_3) (.seq (.reg r42_4) (.cond (.t 27) (.seq (.reg r42_5) .ret) .skip)))) (.reg r42_6))))))) (.seq (.reg r42_7) .ret)))
theorem i_impl_ascending_ok : (Tryz.f42.body.bind fun c => toIC Tryz.prog 29 c []) = some (i_impl_ascending, []) := by kernel_rfl
theorem i_impl_ascending_fn {ds rs : List D} (hle : ds.length ≤ 29) (h : AW Tryz.prog 29 i_impl_ascending (Ends [.tmp 2] rs) (init ds)) : Fn Tryz.prog k_impl_ascending (lent ds) true rs :=
  Fn.intro' (by kernel_rfl) Tryz.func42 (by kernel_rfl) i_impl_ascending_ok (by kernel_rfl) hle h.h
abbrev r41_0 : List RO := [ro (.box 1 (.t 0)), ro (.mov 2 (cB false))]
abbrev r41_1 : List RO := [rF 5 5 1, rL 6 5, ro (.len 7 false (.t 6)), ro (.mov 8 (c6 0))]
abbrev r41_2 : List RO := [ro (.bin 9 .lss (.t 8) (.t 7))]
abbrev r41_3 : List RO := [ro (.iaddr 10 2 (.t 6) (.t 8)), ro (.load 11 (some 2) (.t 10)), ro (.var 4 [(dI 0), .zs]), ro (.store 2 [(.int .i64 0), (.sl 2 [])] (.t 4) (.t 11))]
abbrev r41_4 : List RO := [rF 12 1 4, rL 13 12, ro (.callv 14 (.c (.one (.fn k_impl_WritesOk []))) [(.t 13)]), ro (.inv 15 (.t 14)), rM 16 15, rN 16 (.faddr 17 1 (.t 4)), rN 16 (.load 18 none (.t 17)), rN 16 (.mkfn 19 k_impl_heldsOk_1 [(.t 1), (.t 4)]), rN 16 (.callv 20 (.c (.one (.fn k_slices_ContainsFunc___impl_Write_impl_Write_ []))) [(.t 18), (.t 19)]), ro (.pick 21 (.t 16) (cB true) (.t 20))]
abbrev r41_5 : List RO := [ro (.mov 2 (cB false))]
abbrev r41_6 : List RO := [ro (.bin 22 .add (.t 8) (c6 1)), rM 8 22]
abbrev r41_7 : List RO := [rF 23 5 1, rL 24 23, ro (.callv 25 (.c (.one (.fn k_impl_txsOf []))) [(.t 24)]), ro (.callv 26 (.c (.one (.fn k_impl_ascending []))) [(.t 25)]), rM 2 26]
def i_impl_heldsOk : IC := (.seq (.reg r41_0) (.seq (.seq (.reg r41_1) (.block 0 (.loop (.seq (.reg r41_2) (.seq (.cond (.t 9) .skip (.exit 0)) (.seq (.block 1 (.seq (.reg r41_3) (.seq (.reg r41_4) (.cond (.t 21) (.seq (.reg r41_5) .ret) .skip)))) (.reg r41_6))))))) (.seq (.reg r41_7) .ret)))
theorem i_impl_heldsOk_ok : (Tryz.f41.body.bind fun c => toIC Tryz.prog 27 c []) = some (i_impl_heldsOk, []) := by kernel_rfl
theorem i_impl_heldsOk_fn {ds rs : List D} (hle : ds.length ≤ 27) (h : AW Tryz.prog 27 i_impl_heldsOk (Ends [.tmp 2] rs) (init ds)) : Fn Tryz.prog k_impl_heldsOk (lent ds) true rs :=
  Fn.intro' (by kernel_rfl) Tryz.func41 (by kernel_rfl) i_impl_heldsOk_ok (by kernel_rfl) hle h.h
abbrev r46_0 : List RO := [ro (.box 3 (.t 1)), ro (.mov 4 (cB false))]
abbrev r46_1 : List RO := [rF 8 0 3, rL 9 8, rM 5 9]
abbrev r46_2 : List RO := [rM 10 0, ro (.len 11 false (.t 10)), ro (.mov 12 (c6 0))]
abbrev r46_3 : List RO := [ro (.bin 13 .lss (.t 12) (.t 11))]
abbrev r46_4 : List RO := [ro (.iaddr 14 2 (.t 10) (.t 12)), ro (.load 15 (some 2) (.t 14)), ro (.var 7 [(dI 0), (dI 0)]), ro (.store 2 [(.int .i64 0), (.int .i64 0)] (.t 7) (.t 15))]
abbrev r46_5 : List RO := [rF 16 0 7, rL 17 16, rM 18 5, ro (.bin 19 .leq (.t 17) (.t 18)), rM 20 19, rT 20 (.mov 21 (.t 5)), rT 20 (.faddr 22 1 (.t 7)), rT 20 (.load 23 none (.t 22)), rT 20 (.bin 24 .lss (.t 21) (.t 23)), ro (.pick 25 (.t 20) (.t 24) (cB false))]
abbrev r46_6 : List RO := [rF 26 1 7, rL 27 26, rM 5 27]
abbrev r46_7 : List RO := [ro (.bin 28 .add (.t 12) (c6 1)), rM 12 28]
abbrev r46_8 : List RO := [rM 29 5, rF 30 1 3, rL 31 30, ro (.bin 32 .geq (.t 29) (.t 31)), rM 4 32]
def i_impl_haveAll : IC := (.seq (.reg r46_0) (.seq (.reg r46_1) (.seq (.seq (.reg r46_2) (.block 0 (.loop (.seq (.reg r46_3) (.seq (.cond (.t 13) .skip (.exit 0)) (.seq (.block 1 (.seq (.reg r46_4) (.seq (.reg r46_5) (.cond (.t 25) (.reg r46_6) .skip)))) (.reg r46_7))))))) (.seq (.reg r46_8) .ret))))
theorem i_impl_haveAll_ok : (Tryz.f46.body.bind fun c => toIC Tryz.prog 33 c []) = some (i_impl_haveAll, []) := by kernel_rfl
theorem i_impl_haveAll_fn {ds rs : List D} (hle : ds.length ≤ 33) (h : AW Tryz.prog 33 i_impl_haveAll (Ends [.tmp 4] rs) (init ds)) : Fn Tryz.prog k_impl_haveAll (lent ds) true rs :=
  Fn.intro' (by kernel_rfl) Tryz.func46 (by kernel_rfl) i_impl_haveAll_ok (by kernel_rfl) hle h.h
abbrev r45_0 : List RO := [ro (.box 2 (.t 0)), ro (.mov 3 (cB false))]
abbrev r45_1 : List RO := [rF 4 1 1, rL 5 4, ro (.load 6 (some 2) (.t 2)), ro (.callv 7 (.c (.one (.fn k_impl_haveAll []))) [(.t 5), (.t 6)]), ro (.inv 8 (.t 7)), rM 3 8]
def i_impl_ShardOk_1 : IC := (.seq (.reg r45_0) (.seq (.reg r45_1) .ret))
theorem i_impl_ShardOk_1_ok : (Tryz.f45.body.bind fun c => toIC Tryz.prog 9 c []) = some (i_impl_ShardOk_1, []) := by kernel_rfl
theorem i_impl_ShardOk_1_fn {ds rs : List D} (hle : ds.length ≤ 9) (h : AW Tryz.prog 9 i_impl_ShardOk_1 (Ends [.tmp 3] rs) (init ds)) : Fn Tryz.prog k_impl_ShardOk_1 (lent ds) true rs :=
  Fn.intro' (by kernel_rfl) Tryz.func45 (by kernel_rfl) i_impl_ShardOk_1_ok (by kernel_rfl) hle h.h
abbrev r100_0 : List RO := [ro (.mov 4 (c6 0))]
abbrev r100_1 : List RO := [rM 6 0, ro (.len 7 false (.t 6)), ro (.mov 8 (c6 0))]
abbrev r100_2 : List RO := [ro (.bin 9 .lss (.t 8) (.t 7))]
abbrev r100_3 : List RO := [rM 10 8, rM 5 10]
abbrev r100_4 : List RO := [rM 11 1, rM 12 0, rM 13 5, ro (.iaddr 14 2 (.t 12) (.t 13)), ro (.load 15 (some 2) (.t 14)), ro (.callv 16 (.t 11) [(.t 15)])]
abbrev r100_5 : List RO := [rM 17 5, rM 4 17]
abbrev r100_6 : List RO := [ro (.bin 18 .add (.t 8) (c6 1)), rM 8 18]
abbrev r100_7 : List RO := [ro (.mov 4 (c6 (-1)))]
def i_slices_IndexFunc___impl_Range_impl_Range_ : IC := (.seq (.reg r100_0) (.seq (.seq (.reg r100_1) (.block 0 (.loop (.seq (.reg r100_2) (.seq (.cond (.t 9) .skip (.exit 0)) (.seq (.block 1 (.seq (.reg r100_3) (.seq (.reg r100_4) (.cond (.t 16) (.seq (.reg r100_5) .ret) .skip)))) (.reg r100_6))))))) (.seq (.reg r100_7) .ret)))
theorem i_slices_IndexFunc___impl_Range_impl_Range__ok : (Tryz.f100.body.bind fun c => toIC Tryz.prog 19 c []) = some (i_slices_IndexFunc___impl_Range_impl_Range_, []) := by kernel_rfl
theorem i_slices_IndexFunc___impl_Range_impl_Range__fn {ds rs : List D} (hle : ds.length ≤ 19) (h : AW Tryz.prog 19 i_slices_IndexFunc___impl_Range_impl_Range_ (Ends [.tmp 4] rs) (init ds)) : Fn Tryz.prog k_slices_IndexFunc___impl_Range_impl_Range_ (lent ds) true rs :=
  Fn.intro' (by kernel_rfl) Tryz.func100 (by kernel_rfl) i_slices_IndexFunc___impl_Range_impl_Range__ok (by kernel_rfl) hle h.h
abbrev r44_0 : List RO := [ro (.mov 4 (cB false))]
abbrev r44_1 : List RO := [rM 5 0, rM 6 1, ro (.callv 7 (.c (.one (.fn k_slices_IndexFunc___impl_Range_impl_Range_ []))) [(.t 5), (.t 6)]), ro (.bin 8 .geq (.t 7) (c6 0)), rM 4 8]
def i_slices_ContainsFunc___impl_Range_impl_Range_ : IC := (.seq (.reg r44_0) (.seq (.reg r44_1) .ret))
theorem i_slices_ContainsFunc___impl_Range_impl_Range__ok : (Tryz.f44.body.bind fun c => toIC Tryz.prog 9 c []) = some (i_slices_ContainsFunc___impl_Range_impl_Range_, []) := by kernel_rfl
theorem i_slices_ContainsFunc___impl_Range_impl_Range__fn {ds rs : List D} (hle : ds.length ≤ 9) (h : AW Tryz.prog 9 i_slices_ContainsFunc___impl_Range_impl_Range_ (Ends [.tmp 4] rs) (init ds)) : Fn Tryz.prog k_slices_ContainsFunc___impl_Range_impl_Range_ (lent ds) true rs :=
  Fn.intro' (by kernel_rfl) Tryz.func44 (by kernel_rfl) i_slices_ContainsFunc___impl_Range_impl_Range__ok (by kernel_rfl) hle h.h
abbrev r48_0 : List RO := [ro (.box 2 (.t 0)), ro (.mov 3 (cB false))]
abbrev r48_1 : List RO := [rF 4 1 1, ⟨⟨none, .load 5 none (.t 4)⟩, 1, [8]⟩, rF 6 0 2, ⟨⟨none, .load 7 none (.t 6)⟩, 4, []⟩, ⟨⟨none, .callv 8 (.c (.one (.fn k_impl_one []))) [(.t 7)]⟩, 12, []⟩, ⟨⟨none, .callv 9 (.c (.one (.fn k_impl_haveAll []))) [(.t 5), (.t 8)]⟩, 31, []⟩, ⟨⟨none, .inv 10 (.t 9)⟩, 63, []⟩, ⟨⟨none, .mov 3 (.t 10)⟩, 127, []⟩]
def i_impl_ShardOk_2 : IC := (.seq (.reg r48_0) (.seq (.regd r48_1) .ret))
theorem i_impl_ShardOk_2_ok : (Tryz.f48.body.bind fun c => toIC Tryz.prog 11 c [[(0, []), (1, [8]), (0, []), (4, []), (12, []), (31, []), (63, []), (127, [])]]) = some (i_impl_ShardOk_2, []) := by kernel_rfl
theorem i_impl_ShardOk_2_fn {ds rs : List D} (hle : ds.length ≤ 11) (h : AW Tryz.prog 11 i_impl_ShardOk_2 (Ends [.tmp 3] rs) (init ds)) : Fn Tryz.prog k_impl_ShardOk_2 (lent ds) true rs :=
  Fn.intro' (by kernel_rfl) Tryz.func48 (by kernel_rfl) i_impl_ShardOk_2_ok (by kernel_rfl) hle h.h
abbrev r101_0 : List RO := [ro (.mov 4 (c6 0))]
abbrev r101_1 : List RO := [rM 6 0, ro (.len 7 false (.t 6)), ro (.mov 8 (c6 0))]
abbrev r101_2 : List RO := [ro (.bin 9 .lss (.t 8) (.t 7))]
abbrev r101_3 : List RO := [rM 10 8, rM 5 10]
abbrev r101_4 : List RO := [rM 11 1, rM 12 0, rM 13 5, ro (.iaddr 14 2 (.t 12) (.t 13)), ro (.load 15 (some 2) (.t 14)), ro (.callv 16 (.t 11) [(.t 15)])]
abbrev r101_5 : List RO := [rM 17 5, rM 4 17]
abbrev r101_6 : List RO := [ro (.bin 18 .add (.t 8) (c6 1)), rM 8 18]
abbrev r101_7 : List RO := [ro (.mov 4 (c6 (-1)))]
def i_slices_IndexFunc___impl_Cell_impl_Cell_ : IC := (.seq (.reg r101_0) (.seq (.seq (.reg r101_1) (.block 0 (.loop (.seq (.reg r101_2) (.seq (.cond (.t 9) .skip (.exit 0)) (.seq (.block 1 (.seq (.reg r101_3) (.seq (.reg r101_4) (.cond (.t 16) (.seq (.reg r101_5) .ret) .skip)))) (.reg r101_6))))))) (.seq (.reg r101_7) .ret)))
theorem i_slices_IndexFunc___impl_Cell_impl_Cell__ok : (Tryz.f101.body.bind fun c => toIC Tryz.prog 19 c []) = some (i_slices_IndexFunc___impl_Cell_impl_Cell_, []) := by kernel_rfl
theorem i_slices_IndexFunc___impl_Cell_impl_Cell__fn {ds rs : List D} (hle : ds.length ≤ 19) (h : AW Tryz.prog 19 i_slices_IndexFunc___impl_Cell_impl_Cell_ (Ends [.tmp 4] rs) (init ds)) : Fn Tryz.prog k_slices_IndexFunc___impl_Cell_impl_Cell_ (lent ds) true rs :=
  Fn.intro' (by kernel_rfl) Tryz.func101 (by kernel_rfl) i_slices_IndexFunc___impl_Cell_impl_Cell__ok (by kernel_rfl) hle h.h
abbrev r47_0 : List RO := [ro (.mov 4 (cB false))]
abbrev r47_1 : List RO := [rM 5 0, rM 6 1, ro (.callv 7 (.c (.one (.fn k_slices_IndexFunc___impl_Cell_impl_Cell_ []))) [(.t 5), (.t 6)]), ro (.bin 8 .geq (.t 7) (c6 0)), rM 4 8]
def i_slices_ContainsFunc___impl_Cell_impl_Cell_ : IC := (.seq (.reg r47_0) (.seq (.reg r47_1) .ret))
theorem i_slices_ContainsFunc___impl_Cell_impl_Cell__ok : (Tryz.f47.body.bind fun c => toIC Tryz.prog 9 c []) = some (i_slices_ContainsFunc___impl_Cell_impl_Cell_, []) := by kernel_rfl
theorem i_slices_ContainsFunc___impl_Cell_impl_Cell__fn {ds rs : List D} (hle : ds.length ≤ 9) (h : AW Tryz.prog 9 i_slices_ContainsFunc___impl_Cell_impl_Cell_ (Ends [.tmp 4] rs) (init ds)) : Fn Tryz.prog k_slices_ContainsFunc___impl_Cell_impl_Cell_ (lent ds) true rs :=
  Fn.intro' (by kernel_rfl) Tryz.func47 (by kernel_rfl) i_slices_ContainsFunc___impl_Cell_impl_Cell__ok (by kernel_rfl) hle h.h
abbrev r50_0 : List RO := [ro (.mov 2 (.c (.one .zs)))]
abbrev r50_1 : List RO := [ro (.mov 3 (c6 0))]
abbrev r50_2 : List RO := [rM 9 0, ro (.len 10 false (.t 9)), ro (.mov 11 (c6 0))]
abbrev r50_3 : List RO := [ro (.bin 12 .lss (.t 11) (.t 10))]
abbrev r50_4 : List RO := [ro (.iaddr 13 1 (.t 9) (.t 11)), rL 14 13, rM 5 14]
abbrev r50_5 : List RO := [rM 15 3, rM 16 5, ro (.len 17 false (.t 16)), ro (.bin 18 .add (.t 15) (.t 17)), rM 3 18]
abbrev r50_6 : List RO := [rM 19 3, ro (.bin 20 .lss (.t 19) (c6 0))]
abbrev r50_7 : List RO := [ro (.dead (some 21)), ro (.dead none)]
abbrev r50_8 : List RO := [ro (.bin 22 .add (.t 11) (c6 1)), rM 11 22]
abbrev r50_9 : List RO := [rM 23 3, ro (.callv 24 (.c (.one (.fn k_slices_Grow___int_int_ []))) [(.c (.one .zs)), (.t 23)]), rM 6 24]
abbrev r50_10 : List RO := [rM 25 0, ro (.len 26 false (.t 25)), ro (.mov 27 (c6 0))]
abbrev r50_11 : List RO := [ro (.bin 28 .lss (.t 27) (.t 26))]
abbrev r50_12 : List RO := [ro (.iaddr 29 1 (.t 25) (.t 27)), rL 30 29, rM 8 30]
abbrev r50_13 : List RO := [rM 31 6, rM 32 8, ro (.app 33 1 8 [(.int .i64 0)] (.t 31) (.t 32)), rM 6 33]
abbrev r50_14 : List RO := [ro (.bin 34 .add (.t 27) (c6 1)), rM 27 34]
abbrev r50_15 : List RO := [rM 35 6, rM 2 35]
def i_slices_Concat___int_int_ : IC := (.seq (.reg r50_0) (.seq (.reg r50_1) (.seq (.seq (.reg r50_2) (.block 0 (.loop (.seq (.reg r50_3) (.seq (.cond (.t 12) .skip (.exit 0)) (.seq (.block 1 (.seq (.reg r50_4) (.seq (.reg r50_5) (.seq (.reg r50_6) (.cond (.t 20) (.reg r50_7) .skip))))) (.reg r50_8))))))) (.seq (.reg r50_9) (.seq (.seq (.reg r50_10) (.block 2 (.loop (.seq (.reg r50_11) (.seq (.cond (.t 28) .skip (.exit 2)) (.seq (.block 3 (.seq (.reg r50_12) (.reg r50_13))) (.reg r50_14))))))) (.seq (.reg r50_15) .ret))))))
theorem i_slices_Concat___int_int__ok : (Tryz.f50.body.bind fun c => toIC Tryz.prog 36 c []) = some (i_slices_Concat___int_int_, []) := by kernel_rfl
theorem i_slices_Concat___int_int__fn {ds rs : List D} (hle : ds.length ≤ 36) (h : AW Tryz.prog 36 i_slices_Concat___int_int_ (Ends [.tmp 2] rs) (init ds)) : Fn Tryz.prog k_slices_Concat___int_int_ (lent ds) true rs :=
  Fn.intro' (by kernel_rfl) Tryz.func50 (by kernel_rfl) i_slices_Concat___int_int__ok (by kernel_rfl) hle h.h
abbrev r104_0 : List RO := [ro (.mov 4 (c6 0))]
abbrev r104_1 : List RO := [rM 6 0, ro (.len 7 false (.t 6)), ro (.mov 8 (c6 0))]
abbrev r104_2 : List RO := [ro (.bin 9 .lss (.t 8) (.t 7))]
abbrev r104_3 : List RO := [rM 10 8, rM 5 10]
abbrev r104_4 : List RO := [rM 11 1, rM 12 0, rM 13 5, ro (.iaddr 14 1 (.t 12) (.t 13)), rL 15 14, ro (.bin 16 .eql (.t 11) (.t 15))]
abbrev r104_5 : List RO := [rM 17 5, rM 4 17]
abbrev r104_6 : List RO := [ro (.bin 18 .add (.t 8) (c6 1)), rM 8 18]
abbrev r104_7 : List RO := [ro (.mov 4 (c6 (-1)))]
def i_slices_Index___int_int_ : IC := (.seq (.reg r104_0) (.seq (.seq (.reg r104_1) (.block 0 (.loop (.seq (.reg r104_2) (.seq (.cond (.t 9) .skip (.exit 0)) (.seq (.block 1 (.seq (.reg r104_3) (.seq (.reg r104_4) (.cond (.t 16) (.seq (.reg r104_5) .ret) .skip)))) (.reg r104_6))))))) (.seq (.reg r104_7) .ret)))
theorem i_slices_Index___int_int__ok : (Tryz.f104.body.bind fun c => toIC Tryz.prog 19 c []) = some (i_slices_Index___int_int_, []) := by kernel_rfl
theorem i_slices_Index___int_int__fn {ds rs : List D} (hle : ds.length ≤ 19) (h : AW Tryz.prog 19 i_slices_Index___int_int_ (Ends [.tmp 4] rs) (init ds)) : Fn Tryz.prog k_slices_Index___int_int_ (lent ds) true rs :=
  Fn.intro' (by kernel_rfl) Tryz.func104 (by kernel_rfl) i_slices_Index___int_int__ok (by kernel_rfl) hle h.h
abbrev r54_0 : List RO := [ro (.mov 4 (cB false))]
abbrev r54_1 : List RO := [rM 5 0, rM 6 1, ro (.callv 7 (.c (.one (.fn k_slices_Index___int_int_ []))) [(.t 5), (.t 6)]), ro (.bin 8 .geq (.t 7) (c6 0)), rM 4 8]
def i_slices_Contains___int_int_ : IC := (.seq (.reg r54_0) (.seq (.reg r54_1) .ret))
theorem i_slices_Contains___int_int__ok : (Tryz.f54.body.bind fun c => toIC Tryz.prog 9 c []) = some (i_slices_Contains___int_int_, []) := by kernel_rfl
theorem i_slices_Contains___int_int__fn {ds rs : List D} (hle : ds.length ≤ 9) (h : AW Tryz.prog 9 i_slices_Contains___int_int_ (Ends [.tmp 4] rs) (init ds)) : Fn Tryz.prog k_slices_Contains___int_int_ (lent ds) true rs :=
  Fn.intro' (by kernel_rfl) Tryz.func54 (by kernel_rfl) i_slices_Contains___int_int__ok (by kernel_rfl) hle h.h
abbrev r52_0 : List RO := [ro (.box 3 (.t 0)), ro (.mov 4 (cB false))]
abbrev r52_1 : List RO := [rF 5 1 1, ⟨⟨none, .load 6 none (.t 5)⟩, 1, [8]⟩, ro (.load 7 (some 4) (.t 3)), ⟨⟨none, .callv 8 (.c (.one (.fn k__impl_Lock_keys []))) [(.t 7)]⟩, 4, []⟩, ⟨⟨none, .callv 9 (.c (.one (.fn k_impl_haveAll []))) [(.t 6), (.t 8)]⟩, 15, []⟩, ⟨⟨none, .inv 10 (.t 9)⟩, 31, []⟩, ⟨⟨none, .mov 11 (.t 10)⟩, 63, []⟩, ⟨⟨some (11, false), .load 12 none (.t 2)⟩, 127, []⟩, ⟨⟨some (11, false), .faddr 13 0 (.t 3)⟩, 127, []⟩, ⟨⟨some (11, false), .load 14 none (.t 13)⟩, 383, []⟩, ⟨⟨some (11, false), .callv 15 (.c (.one (.fn k_slices_Contains___int_int_ []))) [(.t 12), (.t 14)]⟩, 1023, []⟩, ⟨⟨none, .pick 16 (.t 11) (cB true) (.t 15)⟩, 2047, []⟩, ⟨⟨none, .mov 4 (.t 16)⟩, 4095, []⟩]
def i_impl_ShardOk_3 : IC := (.seq (.reg r52_0) (.seq (.regd r52_1) .ret))
theorem i_impl_ShardOk_3_ok : (Tryz.f52.body.bind fun c => toIC Tryz.prog 17 c [[(0, []), (1, [8]), (0, []), (4, []), (15, []), (31, []), (63, []), (127, []), (127, []), (383, []), (1023, []), (2047, []), (4095, [])]]) = some (i_impl_ShardOk_3, []) := by kernel_rfl
theorem i_impl_ShardOk_3_fn {ds rs : List D} (hle : ds.length ≤ 17) (h : AW Tryz.prog 17 i_impl_ShardOk_3 (Ends [.tmp 4] rs) (init ds)) : Fn Tryz.prog k_impl_ShardOk_3 (lent ds) true rs :=
  Fn.intro' (by kernel_rfl) Tryz.func52 (by kernel_rfl) i_impl_ShardOk_3_ok (by kernel_rfl) hle h.h
abbrev r58_0 : List RO := [ro (.mov 2 (.c (.one .zs)))]
abbrev r58_1 : List RO := [rM 3 0, ro (.isnil 4 false (.t 3))]
abbrev r58_2 : List RO := [ro (.mov 2 (.c (.one .zs)))]
abbrev r58_3 : List RO := [ro (.bslice 5 1 [] []), rM 6 0, ro (.app 7 1 8 [(.int .i64 0)] (.t 5) (.t 6)), rM 2 7]
def i_slices_Clone___int_int_ : IC := (.seq (.reg r58_0) (.seq (.seq (.reg r58_1) (.cond (.t 4) (.seq (.reg r58_2) .ret) .skip)) (.seq (.reg r58_3) .ret)))
theorem i_slices_Clone___int_int__ok : (Tryz.f58.body.bind fun c => toIC Tryz.prog 8 c []) = some (i_slices_Clone___int_int_, []) := by kernel_rfl
theorem i_slices_Clone___int_int__fn {ds rs : List D} (hle : ds.length ≤ 8) (h : AW Tryz.prog 8 i_slices_Clone___int_int_ (Ends [.tmp 2] rs) (init ds)) : Fn Tryz.prog k_slices_Clone___int_int_ (lent ds) true rs :=
  Fn.intro' (by kernel_rfl) Tryz.func58 (by kernel_rfl) i_slices_Clone___int_int__ok (by kernel_rfl) hle h.h
abbrev r148_0 : List RO := [ro (.box 2 (.t 0)), ro (.mov 4 (c6 0))]
abbrev r148_1 : List RO := [rF 5 0 2, rL 6 5, rM 7 1, ro (.bin 8 .sub (.t 6) (.t 7)), rM 4 8]
def i_impl_cellFor_1 : IC := (.seq (.reg r148_0) (.seq (.reg r148_1) .ret))
theorem i_impl_cellFor_1_ok : (Tryz.f148.body.bind fun c => toIC Tryz.prog 9 c []) = some (i_impl_cellFor_1, []) := by kernel_rfl
theorem i_impl_cellFor_1_fn {ds rs : List D} (hle : ds.length ≤ 9) (h : AW Tryz.prog 9 i_impl_cellFor_1 (Ends [.tmp 4] rs) (init ds)) : Fn Tryz.prog k_impl_cellFor_1 (lent ds) true rs :=
  Fn.intro' (by kernel_rfl) Tryz.func148 (by kernel_rfl) i_impl_cellFor_1_ok (by kernel_rfl) hle h.h
abbrev r147_0 : List RO := [ro (.mov 6 (c6 0)), ro (.mov 7 (cB false))]
abbrev r147_1 : List RO := [rM 12 0, ro (.len 13 false (.t 12)), rM 8 13]
abbrev r147_2 : List RO := [rM 14 8, ro (.mov 9 (c6 0)), rM 10 14]
abbrev r147_3 : List RO := [rM 15 9, rM 16 10, ro (.bin 17 .lss (.t 15) (.t 16))]
abbrev r147_4 : List RO := [rM 18 9, rM 19 10, ro (.bin 20 .add (.t 18) (.t 19)), ro (.conv 21 .u64 (.t 20)), ro (.bin 22 .shr (.t 21) (.c (.one (.d (.int .u64 1))))), ro (.conv 23 .i64 (.t 22)), rM 11 23]
abbrev r147_5 : List RO := [rM 24 2, rM 25 0, rM 26 11, ro (.iaddr 27 2 (.t 25) (.t 26)), ro (.load 28 (some 2) (.t 27)), rM 29 1, ro (.callv 30 (.t 24) [(.t 28), (.t 29)]), ro (.bin 31 .lss (.t 30) (c6 0))]
abbrev r147_6 : List RO := [rM 32 11, ro (.bin 33 .add (.t 32) (c6 1)), rM 9 33]
abbrev r147_7 : List RO := [rM 34 11, rM 10 34]
abbrev r147_8 : List RO := [rM 35 9, rM 36 9, rM 37 8, ro (.bin 38 .lss (.t 36) (.t 37)), rM 39 38, rT 39 (.mov 40 (.t 2)), rT 39 (.mov 41 (.t 0)), rT 39 (.mov 42 (.t 9)), rT 39 (.iaddr 43 2 (.t 41) (.t 42)), rT 39 (.load 44 (some 2) (.t 43)), rT 39 (.mov 45 (.t 1)), rT 39 (.callv 46 (.t 40) [(.t 44), (.t 45)]), rT 39 (.bin 47 .eql (.t 46) (c6 0)), ro (.pick 48 (.t 39) (.t 47) (cB false)), rM 6 35, rM 7 48]
def i_slices_BinarySearchFunc___impl_Cell_impl_Cell_int_ : IC := (.seq (.reg r147_0) (.seq (.reg r147_1) (.seq (.reg r147_2) (.seq (.block 0 (.loop (.seq (.seq (.reg r147_3) (.cond (.t 17) .skip (.exit 0))) (.block 1 (.seq (.reg r147_4) (.seq (.reg r147_5) (.cond (.t 31) (.reg r147_6) (.reg r147_7)))))))) (.seq (.reg r147_8) .ret)))))
theorem i_slices_BinarySearchFunc___impl_Cell_impl_Cell_int__ok : (Tryz.f147.body.bind fun c => toIC Tryz.prog 49 c []) = some (i_slices_BinarySearchFunc___impl_Cell_impl_Cell_int_, []) := by kernel_rfl
theorem i_slices_BinarySearchFunc___impl_Cell_impl_Cell_int__fn {ds rs : List D} (hle : ds.length ≤ 49) (h : AW Tryz.prog 49 i_slices_BinarySearchFunc___impl_Cell_impl_Cell_int_ (Ends [.tmp 6, .tmp 7] rs) (init ds)) : Fn Tryz.prog k_slices_BinarySearchFunc___impl_Cell_impl_Cell_int_ (lent ds) true rs :=
  Fn.intro' (by kernel_rfl) Tryz.func147 (by kernel_rfl) i_slices_BinarySearchFunc___impl_Cell_impl_Cell_int__ok (by kernel_rfl) hle h.h
abbrev r144_0 : List RO := [ro (.mov 4 (c6 0)), ro (.mov 5 (cB false))]
abbrev r144_1 : List RO := [rM 6 0, rM 7 1, ro (.callv 8 (.c (.one (.fn k_slices_BinarySearchFunc___impl_Cell_impl_Cell_int_ []))) [(.t 6), (.t 7), (.c (.one (.fn k_impl_cellFor_1 [])))]), ro (.ext 9 (.t 8) 0), ro (.ext 10 (.t 8) 1), rM 4 9, rM 5 10]
def i_impl_cellFor : IC := (.seq (.reg r144_0) (.seq (.reg r144_1) .ret))
theorem i_impl_cellFor_ok : (Tryz.f144.body.bind fun c => toIC Tryz.prog 11 c []) = some (i_impl_cellFor, []) := by kernel_rfl
theorem i_impl_cellFor_fn {ds rs : List D} (hle : ds.length ≤ 11) (h : AW Tryz.prog 11 i_impl_cellFor (Ends [.tmp 4, .tmp 5] rs) (init ds)) : Fn Tryz.prog k_impl_cellFor (lent ds) true rs :=
  Fn.intro' (by kernel_rfl) Tryz.func144 (by kernel_rfl) i_impl_cellFor_ok (by kernel_rfl) hle h.h
abbrev r133_0 : List RO := [ro (.mov 4 (c6 0))]
abbrev r133_1 : List RO := [rM 8 0, rM 9 1, ro (.callv 10 (.c (.one (.fn k_impl_cellFor []))) [(.t 8), (.t 9)]), rM 7 10, ro (.ext 11 (.t 7) 0), ro (.ext 12 (.t 7) 1), rM 5 11, rM 6 12]
abbrev r133_2 : List RO := [rM 13 6, ro (.inv 14 (.t 13))]
abbrev r133_3 : List RO := [ro (.mov 4 (c6 (-1)))]
abbrev r133_4 : List RO := [rM 15 0, rM 16 5, ro (.iaddr 17 2 (.t 15) (.t 16)), rF 18 1 17, rL 19 18, rM 4 19]
def i_impl_valueOf : IC := (.seq (.reg r133_0) (.seq (.reg r133_1) (.seq (.seq (.reg r133_2) (.cond (.t 14) (.seq (.reg r133_3) .ret) .skip)) (.seq (.reg r133_4) .ret))))
theorem i_impl_valueOf_ok : (Tryz.f133.body.bind fun c => toIC Tryz.prog 20 c []) = some (i_impl_valueOf, []) := by kernel_rfl
theorem i_impl_valueOf_fn {ds rs : List D} (hle : ds.length ≤ 20) (h : AW Tryz.prog 20 i_impl_valueOf (Ends [.tmp 4] rs) (init ds)) : Fn Tryz.prog k_impl_valueOf (lent ds) true rs :=
  Fn.intro' (by kernel_rfl) Tryz.func133 (by kernel_rfl) i_impl_valueOf_ok (by kernel_rfl) hle h.h
abbrev r107_0 : List RO := [ro (.mov 4 (c6 0))]
abbrev r107_1 : List RO := [rM 8 0, ro (.callv 9 (.c (.one (.fn k_impl_StoreOk []))) [(.t 8)]), ro (.inv 10 (.t 9)), rM 11 10, rN 11 (.mov 12 (.t 1)), rN 11 (.callv 13 (.c (.one (.fn k_impl_WritesOk []))) [(.t 12)]), rN 11 (.inv 14 (.t 13)), ro (.pick 15 (.t 11) (cB true) (.t 14))]
abbrev r107_2 : List RO := [ro (.mov 4 (c6 (-1)))]
abbrev r107_3 : List RO := [ro (.mov 5 (c6 0))]
abbrev r107_4 : List RO := [rM 16 1, ro (.len 17 false (.t 16)), ro (.mov 18 (c6 0))]
abbrev r107_5 : List RO := [ro (.bin 19 .lss (.t 18) (.t 17))]
abbrev r107_6 : List RO := [ro (.iaddr 20 2 (.t 16) (.t 18)), ro (.load 21 (some 2) (.t 20)), ro (.var 7 [(dI 0), (dI 0)]), ro (.store 2 [(.int .i64 0), (.int .i64 0)] (.t 7) (.t 21))]
abbrev r107_7 : List RO := [rF 22 1 7, rL 23 22, ro (.bin 24 .neq (.t 23) (c6 (-1))), rM 25 24, rT 25 (.mov 26 (.t 0)), rT 25 (.faddr 27 0 (.t 7)), rT 25 (.load 28 none (.t 27)), rT 25 (.callv 29 (.c (.one (.fn k_impl_valueOf []))) [(.t 26), (.t 28)]), rT 25 (.bin 30 .lss (.t 29) (c6 0)), ro (.pick 31 (.t 25) (.t 30) (cB false))]
abbrev r107_8 : List RO := [rM 32 5, ro (.bin 33 .add (.t 32) (c6 1)), rM 5 33]
abbrev r107_9 : List RO := [ro (.bin 34 .add (.t 18) (c6 1)), rM 18 34]
abbrev r107_10 : List RO := [rM 35 5, rM 4 35]
def i_impl_StoreNew : IC := (.seq (.reg r107_0) (.seq (.seq (.reg r107_1) (.cond (.t 15) (.seq (.reg r107_2) .ret) .skip)) (.seq (.reg r107_3) (.seq (.seq (.reg r107_4) (.block 0 (.loop (.seq (.reg r107_5) (.seq (.cond (.t 19) .skip (.exit 0)) (.seq (.block 1 (.seq (.reg r107_6) (.seq (.reg r107_7) (.cond (.t 31) (.reg r107_8) .skip)))) (.reg r107_9))))))) (.seq (.reg r107_10) .ret)))))
theorem i_impl_StoreNew_ok : (Tryz.f107.body.bind fun c => toIC Tryz.prog 36 c []) = some (i_impl_StoreNew, []) := by kernel_rfl
theorem i_impl_StoreNew_fn {ds rs : List D} (hle : ds.length ≤ 36) (h : AW Tryz.prog 36 i_impl_StoreNew (Ends [.tmp 4] rs) (init ds)) : Fn Tryz.prog k_impl_StoreNew (lent ds) true rs :=
  Fn.intro' (by kernel_rfl) Tryz.func107 (by kernel_rfl) i_impl_StoreNew_ok (by kernel_rfl) hle h.h
abbrev r59_0 : List RO := [ro (.box 1 (.t 0)), ro (.mov 2 (c6 0))]
abbrev r59_1 : List RO := [rF 6 3 1, rL 7 6, ro (.len 8 false (.t 7)), rM 3 8]
abbrev r59_2 : List RO := [rF 9 5 1, rL 10 9, ro (.len 11 false (.t 10)), ro (.mov 12 (c6 0))]
abbrev r59_3 : List RO := [ro (.bin 13 .lss (.t 12) (.t 11))]
abbrev r59_4 : List RO := [ro (.iaddr 14 2 (.t 10) (.t 12)), ro (.load 15 (some 2) (.t 14)), ro (.var 5 [(dI 0), .zs]), ro (.store 2 [(.int .i64 0), (.sl 2 [])] (.t 5) (.t 15))]
abbrev r59_5 : List RO := [rM 16 3, rF 17 3 1, rL 18 17, rF 19 1 5, rL 20 19, ro (.callv 21 (.c (.one (.fn k_impl_StoreNew []))) [(.t 18), (.t 20)]), ro (.bin 22 .add (.t 16) (.t 21)), rM 3 22]
abbrev r59_6 : List RO := [ro (.bin 23 .add (.t 12) (c6 1)), rM 12 23]
abbrev r59_7 : List RO := [rM 24 3, rM 2 24]
def i_impl_room : IC := (.seq (.reg r59_0) (.seq (.reg r59_1) (.seq (.seq (.reg r59_2) (.block 0 (.loop (.seq (.reg r59_3) (.seq (.cond (.t 13) .skip (.exit 0)) (.seq (.block 1 (.seq (.reg r59_4) (.reg r59_5))) (.reg r59_6))))))) (.seq (.reg r59_7) .ret))))
theorem i_impl_room_ok : (Tryz.f59.body.bind fun c => toIC Tryz.prog 25 c []) = some (i_impl_room, []) := by kernel_rfl
theorem i_impl_room_fn {ds rs : List D} (hle : ds.length ≤ 25) (h : AW Tryz.prog 25 i_impl_room (Ends [.tmp 2] rs) (init ds)) : Fn Tryz.prog k_impl_room (lent ds) true rs :=
  Fn.intro' (by kernel_rfl) Tryz.func59 (by kernel_rfl) i_impl_room_ok (by kernel_rfl) hle h.h
abbrev r8_0 : List RO := [ro (.box 1 (.t 0)), ro (.mov 2 (cB false))]
abbrev r8_1 : List RO := [rF 5 0 1, rL 6 5, ro (.callv 7 (.c (.one (.fn k_impl_isGroup []))) [(.t 6)]), ro (.inv 8 (.t 7)), rM 9 8, rN 9 (.faddr 10 1 (.t 1)), rN 9 (.load 11 none (.t 10)), rN 9 (.callv 12 (.c (.one (.fn k_impl_RangesOk []))) [(.t 11)]), rN 9 (.inv 13 (.t 12)), ro (.pick 14 (.t 9) (cB true) (.t 13)), rM 15 14, rN 15 (.faddr 16 2 (.t 1)), rN 15 (.load 17 none (.t 16)), rN 15 (.callv 18 (.c (.one (.fn k_impl_RangesOk []))) [(.t 17)]), rN 15 (.inv 19 (.t 18)), ro (.pick 20 (.t 15) (cB true) (.t 19)), rM 21 20, rN 21 (.faddr 22 3 (.t 1)), rN 21 (.load 23 none (.t 22)), rN 21 (.callv 24 (.c (.one (.fn k_impl_StoreOk []))) [(.t 23)]), rN 21 (.inv 25 (.t 24)), ro (.pick 26 (.t 21) (cB true) (.t 25)), rM 27 26, rN 27 (.faddr 28 4 (.t 1)), rN 27 (.load 29 none (.t 28)), rN 27 (.callv 30 (.c (.one (.fn k_impl_LocksOk []))) [(.t 29)]), rN 27 (.inv 31 (.t 30)), ro (.pick 32 (.t 27) (cB true) (.t 31)), rM 33 32, rN 33 (.load 34 (some 9) (.t 1)), rN 33 (.callv 35 (.c (.one (.fn k_impl_heldsOk []))) [(.t 34)]), rN 33 (.inv 36 (.t 35)), ro (.pick 37 (.t 33) (cB true) (.t 36)), rM 38 37, rN 38 (.faddr 39 6 (.t 1)), rN 38 (.load 40 none (.t 39)), rN 38 (.callv 41 (.c (.one (.fn k_impl_ascending []))) [(.t 40)]), rN 38 (.inv 42 (.t 41)), ro (.pick 43 (.t 38) (cB true) (.t 42)), rM 44 43, rN 44 (.faddr 45 7 (.t 1)), rN 44 (.load 46 none (.t 45)), rN 44 (.callv 47 (.c (.one (.fn k_impl_ascending []))) [(.t 46)]), rN 44 (.inv 48 (.t 47)), ro (.pick 49 (.t 44) (cB true) (.t 48)), rM 50 49, rN 50 (.faddr 51 8 (.t 1)), rN 50 (.load 52 none (.t 51)), rN 50 (.callv 53 (.c (.one (.fn k_impl_from []))) [(.t 52), (c6 0), (c6 1000000)]), rN 50 (.inv 54 (.t 53)), ro (.pick 55 (.t 50) (cB true) (.t 54))]
abbrev r8_2 : List RO := [ro (.mov 2 (cB false))]
abbrev r8_3 : List RO := [rF 56 2 1, rL 57 56, ro (.mkfn 58 k_impl_ShardOk_1 [(.t 1)]), ro (.callv 59 (.c (.one (.fn k_slices_ContainsFunc___impl_Range_impl_Range_ []))) [(.t 57), (.t 58)]), rM 60 59, rN 60 (.faddr 61 3 (.t 1)), rN 60 (.load 62 none (.t 61)), rN 60 (.mkfn 63 k_impl_ShardOk_2 [(.t 1)]), rN 60 (.callv 64 (.c (.one (.fn k_slices_ContainsFunc___impl_Cell_impl_Cell_ []))) [(.t 62), (.t 63)]), ro (.pick 65 (.t 60) (cB true) (.t 64))]
abbrev r8_4 : List RO := [ro (.mov 2 (cB false))]
abbrev r8_5 : List RO := [rF 66 6 1, rL 67 66, rF 68 7 1, rL 69 68, ro (.bslice 70 1 [.zs, .zs] [(0, 1, (.t 67)), (1, 1, (.t 69))]), ro (.callv 71 (.c (.one (.fn k_slices_Concat___int_int_ []))) [(.t 70)]), ro (.var 3 [.zs]), ro (.store 1 [(.sl 1 [])] (.t 3) (.t 71))]
abbrev r8_6 : List RO := [rF 72 4 1, rL 73 72, ro (.mkfn 74 k_impl_ShardOk_3 [(.t 1), (.t 3)]), ro (.callv 75 (.c (.one (.fn k_slices_ContainsFunc___impl_Lock_impl_Lock_ []))) [(.t 73), (.t 74)])]
abbrev r8_7 : List RO := [ro (.mov 2 (cB false))]
abbrev r8_8 : List RO := [rF 76 5 1, ⟨⟨none, .load 77 none (.t 76)⟩, 1, []⟩, ⟨⟨none, .callv 78 (.c (.one (.fn k_impl_txsOf []))) [(.t 77)]⟩, 3, []⟩, ⟨⟨none, .load 79 none (.t 3)⟩, 0, [78]⟩, ⟨⟨none, .app 80 1 8 [(.int .i64 0)] (.t 78) (.t 79)⟩, 15, []⟩, ⟨⟨none, .mov 4 (.t 80)⟩, 31, []⟩]
abbrev r8_9 : List RO := [rM 81 4, ro (.callv 82 (.c (.one (.fn k_slices_Sort___int_int_ []))) [(.t 81)])]
abbrev r8_10 : List RO := [rM 83 4, ro (.callv 84 (.c (.one (.fn k_slices_Clone___int_int_ []))) [(.t 83)]), ro (.callv 85 (.c (.one (.fn k_slices_Compact___int_int_ []))) [(.t 84)]), ro (.len 86 false (.t 85)), rM 87 4, ro (.len 88 false (.t 87)), ro (.bin 89 .eql (.t 86) (.t 88)), rM 90 89, rT 90 (.load 91 (some 9) (.t 1)), rT 90 (.callv 92 (.c (.one (.fn k_impl_room []))) [(.t 91)]), rT 90 (.bin 93 .leq (.t 92) (c6 60)), ro (.pick 94 (.t 90) (.t 93) (cB false)), rM 2 94]
def i_impl_ShardOk : IC := (.seq (.reg r8_0) (.seq (.seq (.reg r8_1) (.cond (.t 55) (.seq (.reg r8_2) .ret) .skip)) (.seq (.seq (.reg r8_3) (.cond (.t 65) (.seq (.reg r8_4) .ret) .skip)) (.seq (.reg r8_5) (.seq (.seq (.reg r8_6) (.cond (.t 75) (.seq (.reg r8_7) .ret) .skip)) (.seq (.regd r8_8) (.seq (.reg r8_9) (.seq (.reg r8_10) .ret))))))))
theorem i_impl_ShardOk_ok : (Tryz.f8.body.bind fun c => toIC Tryz.prog 95 c [[(0, []), (1, []), (3, []), (0, [78]), (15, []), (31, [])]]) = some (i_impl_ShardOk, []) := by kernel_rfl
theorem i_impl_ShardOk_fn {ds rs : List D} (hle : ds.length ≤ 95) (h : AW Tryz.prog 95 i_impl_ShardOk (Ends [.tmp 2] rs) (init ds)) : Fn Tryz.prog k_impl_ShardOk (lent ds) true rs :=
  Fn.intro' (by kernel_rfl) Tryz.func8 (by kernel_rfl) i_impl_ShardOk_ok (by kernel_rfl) hle h.h
abbrev r66_0 : List RO := [ro (.box 2 (.t 0)), ro (.box 3 (.t 1)), ro (.mov 4 (cB false))]
abbrev r66_1 : List RO := [rF 5 0 2, rL 6 5, rF 7 0 3, rL 8 7, ro (.bin 9 .neq (.t 6) (.t 8))]
abbrev r66_2 : List RO := [ro (.mov 4 (cB false))]
abbrev r66_3 : List RO := [rF 10 1 2, rL 11 10, rF 12 1 3, rL 13 12, ro (.bin 14 .neq (.t 11) (.t 13))]
abbrev r66_4 : List RO := [ro (.mov 4 (cB false))]
abbrev r66_5 : List RO := [ro (.mov 4 (cB true))]
def i_laws_eqRange : IC := (.seq (.reg r66_0) (.seq (.seq (.reg r66_1) (.cond (.t 9) (.seq (.reg r66_2) .ret) .skip)) (.seq (.seq (.reg r66_3) (.cond (.t 14) (.seq (.reg r66_4) .ret) .skip)) (.seq (.reg r66_5) .ret))))
theorem i_laws_eqRange_ok : (Tryz.f66.body.bind fun c => toIC Tryz.prog 15 c []) = some (i_laws_eqRange, []) := by kernel_rfl
theorem i_laws_eqRange_fn {ds rs : List D} (hle : ds.length ≤ 15) (h : AW Tryz.prog 15 i_laws_eqRange (Ends [.tmp 4] rs) (init ds)) : Fn Tryz.prog k_laws_eqRange (lent ds) true rs :=
  Fn.intro' (by kernel_rfl) Tryz.func66 (by kernel_rfl) i_laws_eqRange_ok (by kernel_rfl) hle h.h
abbrev r14_0 : List RO := [ro (.mov 4 (cB false))]
abbrev r14_1 : List RO := [rM 6 0, ro (.len 7 false (.t 6)), rM 8 1, ro (.len 9 false (.t 8)), ro (.bin 10 .neq (.t 7) (.t 9))]
abbrev r14_2 : List RO := [ro (.mov 4 (cB false))]
abbrev r14_3 : List RO := [ro (.mov 5 (c6 0))]
abbrev r14_4 : List RO := [rM 11 5, rM 12 0, ro (.len 13 false (.t 12)), ro (.bin 14 .lss (.t 11) (.t 13))]
abbrev r14_5 : List RO := [rM 17 0, rM 18 5, ⟨⟨none, .iaddr 19 2 (.t 17) (.t 18)⟩, 3, []⟩, ⟨⟨none, .load 20 (some 2) (.t 19)⟩, 7, []⟩, rM 21 1, rM 22 5, ⟨⟨none, .iaddr 23 2 (.t 21) (.t 22)⟩, 48, []⟩, ⟨⟨none, .load 24 (some 2) (.t 23)⟩, 112, []⟩, ⟨⟨none, .callv 25 (.c (.one (.fn k_laws_eqRange []))) [(.t 20), (.t 24)]⟩, 255, []⟩, ⟨⟨none, .inv 26 (.t 25)⟩, 511, []⟩]
abbrev r14_6 : List RO := [ro (.mov 4 (cB false))]
abbrev r14_7 : List RO := [rM 15 5, ro (.bin 16 .add (.t 15) (c6 1)), rM 5 16]
abbrev r14_8 : List RO := [ro (.mov 4 (cB true))]
def i_laws_eqRangeS : IC := (.seq (.reg r14_0) (.seq (.seq (.reg r14_1) (.cond (.t 10) (.seq (.reg r14_2) .ret) .skip)) (.seq (.seq (.reg r14_3) (.block 0 (.loop (.seq (.seq (.reg r14_4) (.cond (.t 14) .skip (.exit 0))) (.seq (.block 1 (.seq (.regd r14_5) (.cond (.t 26) (.seq (.reg r14_6) .ret) .skip))) (.reg r14_7)))))) (.seq (.reg r14_8) .ret))))
theorem i_laws_eqRangeS_ok : (Tryz.f14.body.bind fun c => toIC Tryz.prog 27 c [[(0, []), (0, []), (3, []), (7, []), (0, []), (0, []), (48, []), (112, []), (255, []), (511, [])]]) = some (i_laws_eqRangeS, []) := by kernel_rfl
theorem i_laws_eqRangeS_fn {ds rs : List D} (hle : ds.length ≤ 27) (h : AW Tryz.prog 27 i_laws_eqRangeS (Ends [.tmp 4] rs) (init ds)) : Fn Tryz.prog k_laws_eqRangeS (lent ds) true rs :=
  Fn.intro' (by kernel_rfl) Tryz.func14 (by kernel_rfl) i_laws_eqRangeS_ok (by kernel_rfl) hle h.h
abbrev r108_0 : List RO := [ro (.box 2 (.t 0)), ro (.box 3 (.t 1)), ro (.mov 4 (cB false))]
abbrev r108_1 : List RO := [rF 5 0 2, rL 6 5, rF 7 0 3, rL 8 7, ro (.bin 9 .neq (.t 6) (.t 8))]
abbrev r108_2 : List RO := [ro (.mov 4 (cB false))]
abbrev r108_3 : List RO := [rF 10 1 2, rL 11 10, rF 12 1 3, rL 13 12, ro (.bin 14 .neq (.t 11) (.t 13))]
abbrev r108_4 : List RO := [ro (.mov 4 (cB false))]
abbrev r108_5 : List RO := [ro (.mov 4 (cB true))]
def i_laws_eqCell : IC := (.seq (.reg r108_0) (.seq (.seq (.reg r108_1) (.cond (.t 9) (.seq (.reg r108_2) .ret) .skip)) (.seq (.seq (.reg r108_3) (.cond (.t 14) (.seq (.reg r108_4) .ret) .skip)) (.seq (.reg r108_5) .ret))))
theorem i_laws_eqCell_ok : (Tryz.f108.body.bind fun c => toIC Tryz.prog 15 c []) = some (i_laws_eqCell, []) := by kernel_rfl
theorem i_laws_eqCell_fn {ds rs : List D} (hle : ds.length ≤ 15) (h : AW Tryz.prog 15 i_laws_eqCell (Ends [.tmp 4] rs) (init ds)) : Fn Tryz.prog k_laws_eqCell (lent ds) true rs :=
  Fn.intro' (by kernel_rfl) Tryz.func108 (by kernel_rfl) i_laws_eqCell_ok (by kernel_rfl) hle h.h
abbrev r60_0 : List RO := [ro (.mov 4 (cB false))]
abbrev r60_1 : List RO := [rM 6 0, ro (.len 7 false (.t 6)), rM 8 1, ro (.len 9 false (.t 8)), ro (.bin 10 .neq (.t 7) (.t 9))]
abbrev r60_2 : List RO := [ro (.mov 4 (cB false))]
abbrev r60_3 : List RO := [ro (.mov 5 (c6 0))]
abbrev r60_4 : List RO := [rM 11 5, rM 12 0, ro (.len 13 false (.t 12)), ro (.bin 14 .lss (.t 11) (.t 13))]
abbrev r60_5 : List RO := [rM 17 0, rM 18 5, ⟨⟨none, .iaddr 19 2 (.t 17) (.t 18)⟩, 3, []⟩, ⟨⟨none, .load 20 (some 2) (.t 19)⟩, 7, []⟩, rM 21 1, rM 22 5, ⟨⟨none, .iaddr 23 2 (.t 21) (.t 22)⟩, 48, []⟩, ⟨⟨none, .load 24 (some 2) (.t 23)⟩, 112, []⟩, ⟨⟨none, .callv 25 (.c (.one (.fn k_laws_eqCell []))) [(.t 20), (.t 24)]⟩, 255, []⟩, ⟨⟨none, .inv 26 (.t 25)⟩, 511, []⟩]
abbrev r60_6 : List RO := [ro (.mov 4 (cB false))]
abbrev r60_7 : List RO := [rM 15 5, ro (.bin 16 .add (.t 15) (c6 1)), rM 5 16]
abbrev r60_8 : List RO := [ro (.mov 4 (cB true))]
def i_laws_eqCellS : IC := (.seq (.reg r60_0) (.seq (.seq (.reg r60_1) (.cond (.t 10) (.seq (.reg r60_2) .ret) .skip)) (.seq (.seq (.reg r60_3) (.block 0 (.loop (.seq (.seq (.reg r60_4) (.cond (.t 14) .skip (.exit 0))) (.seq (.block 1 (.seq (.regd r60_5) (.cond (.t 26) (.seq (.reg r60_6) .ret) .skip))) (.reg r60_7)))))) (.seq (.reg r60_8) .ret))))
theorem i_laws_eqCellS_ok : (Tryz.f60.body.bind fun c => toIC Tryz.prog 27 c [[(0, []), (0, []), (3, []), (7, []), (0, []), (0, []), (48, []), (112, []), (255, []), (511, [])]]) = some (i_laws_eqCellS, []) := by kernel_rfl
theorem i_laws_eqCellS_fn {ds rs : List D} (hle : ds.length ≤ 27) (h : AW Tryz.prog 27 i_laws_eqCellS (Ends [.tmp 4] rs) (init ds)) : Fn Tryz.prog k_laws_eqCellS (lent ds) true rs :=
  Fn.intro' (by kernel_rfl) Tryz.func60 (by kernel_rfl) i_laws_eqCellS_ok (by kernel_rfl) hle h.h
abbrev r109_0 : List RO := [ro (.box 2 (.t 0)), ro (.box 3 (.t 1)), ro (.mov 4 (cB false))]
abbrev r109_1 : List RO := [rF 5 0 2, rL 6 5, rF 7 0 3, rL 8 7, ro (.bin 9 .neq (.t 6) (.t 8))]
abbrev r109_2 : List RO := [ro (.mov 4 (cB false))]
abbrev r109_3 : List RO := [rF 10 1 2, rL 11 10, rF 12 1 3, rL 13 12, ro (.bin 14 .neq (.t 11) (.t 13))]
abbrev r109_4 : List RO := [ro (.mov 4 (cB false))]
abbrev r109_5 : List RO := [rF 15 2 2, rL 16 15, rF 17 2 3, rL 18 17, ro (.bin 19 .neq (.t 16) (.t 18))]
abbrev r109_6 : List RO := [ro (.mov 4 (cB false))]
abbrev r109_7 : List RO := [rF 20 3 2, rL 21 20, rF 22 3 3, rL 23 22, ro (.bin 24 .neq (.t 21) (.t 23))]
abbrev r109_8 : List RO := [ro (.mov 4 (cB false))]
abbrev r109_9 : List RO := [ro (.mov 4 (cB true))]
def i_laws_eqLock : IC := (.seq (.reg r109_0) (.seq (.seq (.reg r109_1) (.cond (.t 9) (.seq (.reg r109_2) .ret) .skip)) (.seq (.seq (.reg r109_3) (.cond (.t 14) (.seq (.reg r109_4) .ret) .skip)) (.seq (.seq (.reg r109_5) (.cond (.t 19) (.seq (.reg r109_6) .ret) .skip)) (.seq (.seq (.reg r109_7) (.cond (.t 24) (.seq (.reg r109_8) .ret) .skip)) (.seq (.reg r109_9) .ret))))))
theorem i_laws_eqLock_ok : (Tryz.f109.body.bind fun c => toIC Tryz.prog 25 c []) = some (i_laws_eqLock, []) := by kernel_rfl
theorem i_laws_eqLock_fn {ds rs : List D} (hle : ds.length ≤ 25) (h : AW Tryz.prog 25 i_laws_eqLock (Ends [.tmp 4] rs) (init ds)) : Fn Tryz.prog k_laws_eqLock (lent ds) true rs :=
  Fn.intro' (by kernel_rfl) Tryz.func109 (by kernel_rfl) i_laws_eqLock_ok (by kernel_rfl) hle h.h
abbrev r61_0 : List RO := [ro (.mov 4 (cB false))]
abbrev r61_1 : List RO := [rM 6 0, ro (.len 7 false (.t 6)), rM 8 1, ro (.len 9 false (.t 8)), ro (.bin 10 .neq (.t 7) (.t 9))]
abbrev r61_2 : List RO := [ro (.mov 4 (cB false))]
abbrev r61_3 : List RO := [ro (.mov 5 (c6 0))]
abbrev r61_4 : List RO := [rM 11 5, rM 12 0, ro (.len 13 false (.t 12)), ro (.bin 14 .lss (.t 11) (.t 13))]
abbrev r61_5 : List RO := [rM 17 0, rM 18 5, ⟨⟨none, .iaddr 19 4 (.t 17) (.t 18)⟩, 3, []⟩, ⟨⟨none, .load 20 (some 4) (.t 19)⟩, 7, []⟩, rM 21 1, rM 22 5, ⟨⟨none, .iaddr 23 4 (.t 21) (.t 22)⟩, 48, []⟩, ⟨⟨none, .load 24 (some 4) (.t 23)⟩, 112, []⟩, ⟨⟨none, .callv 25 (.c (.one (.fn k_laws_eqLock []))) [(.t 20), (.t 24)]⟩, 255, []⟩, ⟨⟨none, .inv 26 (.t 25)⟩, 511, []⟩]
abbrev r61_6 : List RO := [ro (.mov 4 (cB false))]
abbrev r61_7 : List RO := [rM 15 5, ro (.bin 16 .add (.t 15) (c6 1)), rM 5 16]
abbrev r61_8 : List RO := [ro (.mov 4 (cB true))]
def i_laws_eqLockS : IC := (.seq (.reg r61_0) (.seq (.seq (.reg r61_1) (.cond (.t 10) (.seq (.reg r61_2) .ret) .skip)) (.seq (.seq (.reg r61_3) (.block 0 (.loop (.seq (.seq (.reg r61_4) (.cond (.t 14) .skip (.exit 0))) (.seq (.block 1 (.seq (.regd r61_5) (.cond (.t 26) (.seq (.reg r61_6) .ret) .skip))) (.reg r61_7)))))) (.seq (.reg r61_8) .ret))))
theorem i_laws_eqLockS_ok : (Tryz.f61.body.bind fun c => toIC Tryz.prog 27 c [[(0, []), (0, []), (3, []), (7, []), (0, []), (0, []), (48, []), (112, []), (255, []), (511, [])]]) = some (i_laws_eqLockS, []) := by kernel_rfl
theorem i_laws_eqLockS_fn {ds rs : List D} (hle : ds.length ≤ 27) (h : AW Tryz.prog 27 i_laws_eqLockS (Ends [.tmp 4] rs) (init ds)) : Fn Tryz.prog k_laws_eqLockS (lent ds) true rs :=
  Fn.intro' (by kernel_rfl) Tryz.func61 (by kernel_rfl) i_laws_eqLockS_ok (by kernel_rfl) hle h.h
abbrev r145_0 : List RO := [ro (.box 2 (.t 0)), ro (.box 3 (.t 1)), ro (.mov 4 (cB false))]
abbrev r145_1 : List RO := [rF 5 0 2, rL 6 5, rF 7 0 3, rL 8 7, ro (.bin 9 .neq (.t 6) (.t 8))]
abbrev r145_2 : List RO := [ro (.mov 4 (cB false))]
abbrev r145_3 : List RO := [rF 10 1 2, rL 11 10, rF 12 1 3, rL 13 12, ro (.bin 14 .neq (.t 11) (.t 13))]
abbrev r145_4 : List RO := [ro (.mov 4 (cB false))]
abbrev r145_5 : List RO := [ro (.mov 4 (cB true))]
def i_laws_eqWrite : IC := (.seq (.reg r145_0) (.seq (.seq (.reg r145_1) (.cond (.t 9) (.seq (.reg r145_2) .ret) .skip)) (.seq (.seq (.reg r145_3) (.cond (.t 14) (.seq (.reg r145_4) .ret) .skip)) (.seq (.reg r145_5) .ret))))
theorem i_laws_eqWrite_ok : (Tryz.f145.body.bind fun c => toIC Tryz.prog 15 c []) = some (i_laws_eqWrite, []) := by kernel_rfl
theorem i_laws_eqWrite_fn {ds rs : List D} (hle : ds.length ≤ 15) (h : AW Tryz.prog 15 i_laws_eqWrite (Ends [.tmp 4] rs) (init ds)) : Fn Tryz.prog k_laws_eqWrite (lent ds) true rs :=
  Fn.intro' (by kernel_rfl) Tryz.func145 (by kernel_rfl) i_laws_eqWrite_ok (by kernel_rfl) hle h.h
abbrev r134_0 : List RO := [ro (.mov 4 (cB false))]
abbrev r134_1 : List RO := [rM 6 0, ro (.len 7 false (.t 6)), rM 8 1, ro (.len 9 false (.t 8)), ro (.bin 10 .neq (.t 7) (.t 9))]
abbrev r134_2 : List RO := [ro (.mov 4 (cB false))]
abbrev r134_3 : List RO := [ro (.mov 5 (c6 0))]
abbrev r134_4 : List RO := [rM 11 5, rM 12 0, ro (.len 13 false (.t 12)), ro (.bin 14 .lss (.t 11) (.t 13))]
abbrev r134_5 : List RO := [rM 17 0, rM 18 5, ⟨⟨none, .iaddr 19 2 (.t 17) (.t 18)⟩, 3, []⟩, ⟨⟨none, .load 20 (some 2) (.t 19)⟩, 7, []⟩, rM 21 1, rM 22 5, ⟨⟨none, .iaddr 23 2 (.t 21) (.t 22)⟩, 48, []⟩, ⟨⟨none, .load 24 (some 2) (.t 23)⟩, 112, []⟩, ⟨⟨none, .callv 25 (.c (.one (.fn k_laws_eqWrite []))) [(.t 20), (.t 24)]⟩, 255, []⟩, ⟨⟨none, .inv 26 (.t 25)⟩, 511, []⟩]
abbrev r134_6 : List RO := [ro (.mov 4 (cB false))]
abbrev r134_7 : List RO := [rM 15 5, ro (.bin 16 .add (.t 15) (c6 1)), rM 5 16]
abbrev r134_8 : List RO := [ro (.mov 4 (cB true))]
def i_laws_eqWriteS : IC := (.seq (.reg r134_0) (.seq (.seq (.reg r134_1) (.cond (.t 10) (.seq (.reg r134_2) .ret) .skip)) (.seq (.seq (.reg r134_3) (.block 0 (.loop (.seq (.seq (.reg r134_4) (.cond (.t 14) .skip (.exit 0))) (.seq (.block 1 (.seq (.regd r134_5) (.cond (.t 26) (.seq (.reg r134_6) .ret) .skip))) (.reg r134_7)))))) (.seq (.reg r134_8) .ret))))
theorem i_laws_eqWriteS_ok : (Tryz.f134.body.bind fun c => toIC Tryz.prog 27 c [[(0, []), (0, []), (3, []), (7, []), (0, []), (0, []), (48, []), (112, []), (255, []), (511, [])]]) = some (i_laws_eqWriteS, []) := by kernel_rfl
theorem i_laws_eqWriteS_fn {ds rs : List D} (hle : ds.length ≤ 27) (h : AW Tryz.prog 27 i_laws_eqWriteS (Ends [.tmp 4] rs) (init ds)) : Fn Tryz.prog k_laws_eqWriteS (lent ds) true rs :=
  Fn.intro' (by kernel_rfl) Tryz.func134 (by kernel_rfl) i_laws_eqWriteS_ok (by kernel_rfl) hle h.h
abbrev r110_0 : List RO := [ro (.box 2 (.t 0)), ro (.box 3 (.t 1)), ro (.mov 4 (cB false))]
abbrev r110_1 : List RO := [rF 5 0 2, rL 6 5, rF 7 0 3, rL 8 7, ro (.bin 9 .neq (.t 6) (.t 8))]
abbrev r110_2 : List RO := [ro (.mov 4 (cB false))]
abbrev r110_3 : List RO := [rF 10 1 2, rL 11 10, rF 12 1 3, rL 13 12, ro (.callv 14 (.c (.one (.fn k_laws_eqWriteS []))) [(.t 11), (.t 13)]), ro (.inv 15 (.t 14))]
abbrev r110_4 : List RO := [ro (.mov 4 (cB false))]
abbrev r110_5 : List RO := [ro (.mov 4 (cB true))]
def i_laws_eqHeld : IC := (.seq (.reg r110_0) (.seq (.seq (.reg r110_1) (.cond (.t 9) (.seq (.reg r110_2) .ret) .skip)) (.seq (.seq (.reg r110_3) (.cond (.t 15) (.seq (.reg r110_4) .ret) .skip)) (.seq (.reg r110_5) .ret))))
theorem i_laws_eqHeld_ok : (Tryz.f110.body.bind fun c => toIC Tryz.prog 16 c []) = some (i_laws_eqHeld, []) := by kernel_rfl
theorem i_laws_eqHeld_fn {ds rs : List D} (hle : ds.length ≤ 16) (h : AW Tryz.prog 16 i_laws_eqHeld (Ends [.tmp 4] rs) (init ds)) : Fn Tryz.prog k_laws_eqHeld (lent ds) true rs :=
  Fn.intro' (by kernel_rfl) Tryz.func110 (by kernel_rfl) i_laws_eqHeld_ok (by kernel_rfl) hle h.h
abbrev r62_0 : List RO := [ro (.mov 4 (cB false))]
abbrev r62_1 : List RO := [rM 6 0, ro (.len 7 false (.t 6)), rM 8 1, ro (.len 9 false (.t 8)), ro (.bin 10 .neq (.t 7) (.t 9))]
abbrev r62_2 : List RO := [ro (.mov 4 (cB false))]
abbrev r62_3 : List RO := [ro (.mov 5 (c6 0))]
abbrev r62_4 : List RO := [rM 11 5, rM 12 0, ro (.len 13 false (.t 12)), ro (.bin 14 .lss (.t 11) (.t 13))]
abbrev r62_5 : List RO := [rM 17 0, rM 18 5, ⟨⟨none, .iaddr 19 2 (.t 17) (.t 18)⟩, 3, []⟩, ⟨⟨none, .load 20 (some 2) (.t 19)⟩, 7, []⟩, rM 21 1, rM 22 5, ⟨⟨none, .iaddr 23 2 (.t 21) (.t 22)⟩, 48, []⟩, ⟨⟨none, .load 24 (some 2) (.t 23)⟩, 112, []⟩, ⟨⟨none, .callv 25 (.c (.one (.fn k_laws_eqHeld []))) [(.t 20), (.t 24)]⟩, 255, []⟩, ⟨⟨none, .inv 26 (.t 25)⟩, 511, []⟩]
abbrev r62_6 : List RO := [ro (.mov 4 (cB false))]
abbrev r62_7 : List RO := [rM 15 5, ro (.bin 16 .add (.t 15) (c6 1)), rM 5 16]
abbrev r62_8 : List RO := [ro (.mov 4 (cB true))]
def i_laws_eqHeldS : IC := (.seq (.reg r62_0) (.seq (.seq (.reg r62_1) (.cond (.t 10) (.seq (.reg r62_2) .ret) .skip)) (.seq (.seq (.reg r62_3) (.block 0 (.loop (.seq (.seq (.reg r62_4) (.cond (.t 14) .skip (.exit 0))) (.seq (.block 1 (.seq (.regd r62_5) (.cond (.t 26) (.seq (.reg r62_6) .ret) .skip))) (.reg r62_7)))))) (.seq (.reg r62_8) .ret))))
theorem i_laws_eqHeldS_ok : (Tryz.f62.body.bind fun c => toIC Tryz.prog 27 c [[(0, []), (0, []), (3, []), (7, []), (0, []), (0, []), (48, []), (112, []), (255, []), (511, [])]]) = some (i_laws_eqHeldS, []) := by kernel_rfl
theorem i_laws_eqHeldS_fn {ds rs : List D} (hle : ds.length ≤ 27) (h : AW Tryz.prog 27 i_laws_eqHeldS (Ends [.tmp 4] rs) (init ds)) : Fn Tryz.prog k_laws_eqHeldS (lent ds) true rs :=
  Fn.intro' (by kernel_rfl) Tryz.func62 (by kernel_rfl) i_laws_eqHeldS_ok (by kernel_rfl) hle h.h
abbrev r63_0 : List RO := [ro (.mov 4 (cB false))]
abbrev r63_1 : List RO := [rM 6 0, ro (.len 7 false (.t 6)), rM 8 1, ro (.len 9 false (.t 8)), ro (.bin 10 .neq (.t 7) (.t 9))]
abbrev r63_2 : List RO := [ro (.mov 4 (cB false))]
abbrev r63_3 : List RO := [ro (.mov 5 (c6 0))]
abbrev r63_4 : List RO := [rM 11 5, rM 12 0, ro (.len 13 false (.t 12)), ro (.bin 14 .lss (.t 11) (.t 13))]
abbrev r63_5 : List RO := [rM 17 0, rM 18 5, ⟨⟨none, .iaddr 19 1 (.t 17) (.t 18)⟩, 3, []⟩, ⟨⟨none, .load 20 none (.t 19)⟩, 7, []⟩, rM 21 1, rM 22 5, ⟨⟨none, .iaddr 23 1 (.t 21) (.t 22)⟩, 48, []⟩, ⟨⟨none, .load 24 none (.t 23)⟩, 112, []⟩, ⟨⟨none, .bin 25 .neq (.t 20) (.t 24)⟩, 255, []⟩]
abbrev r63_6 : List RO := [ro (.mov 4 (cB false))]
abbrev r63_7 : List RO := [rM 15 5, ro (.bin 16 .add (.t 15) (c6 1)), rM 5 16]
abbrev r63_8 : List RO := [ro (.mov 4 (cB true))]
def i_laws_eqIntS : IC := (.seq (.reg r63_0) (.seq (.seq (.reg r63_1) (.cond (.t 10) (.seq (.reg r63_2) .ret) .skip)) (.seq (.seq (.reg r63_3) (.block 0 (.loop (.seq (.seq (.reg r63_4) (.cond (.t 14) .skip (.exit 0))) (.seq (.block 1 (.seq (.regd r63_5) (.cond (.t 25) (.seq (.reg r63_6) .ret) .skip))) (.reg r63_7)))))) (.seq (.reg r63_8) .ret))))
theorem i_laws_eqIntS_ok : (Tryz.f63.body.bind fun c => toIC Tryz.prog 26 c [[(0, []), (0, []), (3, []), (7, []), (0, []), (0, []), (48, []), (112, []), (255, [])]]) = some (i_laws_eqIntS, []) := by kernel_rfl
theorem i_laws_eqIntS_fn {ds rs : List D} (hle : ds.length ≤ 26) (h : AW Tryz.prog 26 i_laws_eqIntS (Ends [.tmp 4] rs) (init ds)) : Fn Tryz.prog k_laws_eqIntS (lent ds) true rs :=
  Fn.intro' (by kernel_rfl) Tryz.func63 (by kernel_rfl) i_laws_eqIntS_ok (by kernel_rfl) hle h.h
abbrev r9_0 : List RO := [ro (.box 2 (.t 0)), ro (.box 3 (.t 1)), ro (.mov 4 (cB false))]
abbrev r9_1 : List RO := [rF 5 0 2, rL 6 5, rF 7 0 3, rL 8 7, ro (.bin 9 .neq (.t 6) (.t 8))]
abbrev r9_2 : List RO := [ro (.mov 4 (cB false))]
abbrev r9_3 : List RO := [rF 10 1 2, rL 11 10, rF 12 1 3, rL 13 12, ro (.callv 14 (.c (.one (.fn k_laws_eqRangeS []))) [(.t 11), (.t 13)]), ro (.inv 15 (.t 14))]
abbrev r9_4 : List RO := [ro (.mov 4 (cB false))]
abbrev r9_5 : List RO := [rF 16 2 2, rL 17 16, rF 18 2 3, rL 19 18, ro (.callv 20 (.c (.one (.fn k_laws_eqRangeS []))) [(.t 17), (.t 19)]), ro (.inv 21 (.t 20))]
abbrev r9_6 : List RO := [ro (.mov 4 (cB false))]
abbrev r9_7 : List RO := [rF 22 3 2, rL 23 22, rF 24 3 3, rL 25 24, ro (.callv 26 (.c (.one (.fn k_laws_eqCellS []))) [(.t 23), (.t 25)]), ro (.inv 27 (.t 26))]
abbrev r9_8 : List RO := [ro (.mov 4 (cB false))]
abbrev r9_9 : List RO := [rF 28 4 2, rL 29 28, rF 30 4 3, rL 31 30, ro (.callv 32 (.c (.one (.fn k_laws_eqLockS []))) [(.t 29), (.t 31)]), ro (.inv 33 (.t 32))]
abbrev r9_10 : List RO := [ro (.mov 4 (cB false))]
abbrev r9_11 : List RO := [rF 34 5 2, rL 35 34, rF 36 5 3, rL 37 36, ro (.callv 38 (.c (.one (.fn k_laws_eqHeldS []))) [(.t 35), (.t 37)]), ro (.inv 39 (.t 38))]
abbrev r9_12 : List RO := [ro (.mov 4 (cB false))]
abbrev r9_13 : List RO := [rF 40 6 2, rL 41 40, rF 42 6 3, rL 43 42, ro (.callv 44 (.c (.one (.fn k_laws_eqIntS []))) [(.t 41), (.t 43)]), ro (.inv 45 (.t 44))]
abbrev r9_14 : List RO := [ro (.mov 4 (cB false))]
abbrev r9_15 : List RO := [rF 46 7 2, rL 47 46, rF 48 7 3, rL 49 48, ro (.callv 50 (.c (.one (.fn k_laws_eqIntS []))) [(.t 47), (.t 49)]), ro (.inv 51 (.t 50))]
abbrev r9_16 : List RO := [ro (.mov 4 (cB false))]
abbrev r9_17 : List RO := [rF 52 8 2, rL 53 52, rF 54 8 3, rL 55 54, ro (.bin 56 .neq (.t 53) (.t 55))]
abbrev r9_18 : List RO := [ro (.mov 4 (cB false))]
abbrev r9_19 : List RO := [ro (.mov 4 (cB true))]
def i_laws_eqShard : IC := (.seq (.reg r9_0) (.seq (.seq (.reg r9_1) (.cond (.t 9) (.seq (.reg r9_2) .ret) .skip)) (.seq (.seq (.reg r9_3) (.cond (.t 15) (.seq (.reg r9_4) .ret) .skip)) (.seq (.seq (.reg r9_5) (.cond (.t 21) (.seq (.reg r9_6) .ret) .skip)) (.seq (.seq (.reg r9_7) (.cond (.t 27) (.seq (.reg r9_8) .ret) .skip)) (.seq (.seq (.reg r9_9) (.cond (.t 33) (.seq (.reg r9_10) .ret) .skip)) (.seq (.seq (.reg r9_11) (.cond (.t 39) (.seq (.reg r9_12) .ret) .skip)) (.seq (.seq (.reg r9_13) (.cond (.t 45) (.seq (.reg r9_14) .ret) .skip)) (.seq (.seq (.reg r9_15) (.cond (.t 51) (.seq (.reg r9_16) .ret) .skip)) (.seq (.seq (.reg r9_17) (.cond (.t 56) (.seq (.reg r9_18) .ret) .skip)) (.seq (.reg r9_19) .ret)))))))))))
theorem i_laws_eqShard_ok : (Tryz.f9.body.bind fun c => toIC Tryz.prog 57 c []) = some (i_laws_eqShard, []) := by kernel_rfl
theorem i_laws_eqShard_fn {ds rs : List D} (hle : ds.length ≤ 57) (h : AW Tryz.prog 57 i_laws_eqShard (Ends [.tmp 4] rs) (init ds)) : Fn Tryz.prog k_laws_eqShard (lent ds) true rs :=
  Fn.intro' (by kernel_rfl) Tryz.func9 (by kernel_rfl) i_laws_eqShard_ok (by kernel_rfl) hle h.h
abbrev r3_0 : List RO := [ro (.box 1 (.t 0)), ro (.mov 2 (cB false))]
abbrev r3_1 : List RO := [ro (.mov 3 (c6 1048576))]
abbrev r3_2 : List RO := [ro (.load 7 (some 9) (.t 1)), rM 8 3, ro (.callv 9 (.c (.one (.fn k_laws_szShard []))) [(.t 7), (.t 8)]), rM 3 9]
abbrev r3_3 : List RO := [rM 10 3, ro (.bin 11 .lss (.t 10) (c6 0))]
abbrev r3_4 : List RO := [ro (.mov 2 (cB true))]
abbrev r3_5 : List RO := [ro (.load 12 (some 9) (.t 1)), ro (.callv 13 (.c (.one (.fn k_laws_toShard []))) [(.t 12)]), ro (.callv 14 (.c (.one (.fn k_spec_ShardOk []))) [(.t 13)]), rM 4 14]
abbrev r3_6 : List RO := [ro (.load 15 (some 9) (.t 1)), ro (.callv 16 (.c (.one (.fn k_laws_toShard []))) [(.t 15)]), ro (.var 5 [(dI 0), .zs, .zs, .zs, .zs, .zs, .zs, .zs, (dI 0)]), ro (.store 9 [(.int .i64 0), (.sl 2 []), (.sl 2 []), (.sl 2 []), (.sl 4 []), (.sl 2 []), (.sl 1 []), (.sl 1 []), (.int .i64 0)] (.t 5) (.t 16))]
abbrev r3_7 : List RO := [ro (.load 17 (some 9) (.t 5)), ro (.callv 18 (.c (.one (.fn k_impl_ShardOk []))) [(.t 17)]), rM 6 18]
abbrev r3_8 : List RO := [rM 19 6, rM 20 4, ro (.beq 21 true (.t 19) (.t 20))]
abbrev r3_9 : List RO := [ro (.mov 2 (cB false))]
abbrev r3_10 : List RO := [⟨⟨none, .load 22 (some 9) (.t 5)⟩, 0, [24]⟩, ro (.load 23 (some 9) (.t 1)), ⟨⟨none, .callv 24 (.c (.one (.fn k_laws_toShard []))) [(.t 23)]⟩, 2, []⟩, ⟨⟨none, .callv 25 (.c (.one (.fn k_laws_eqShard []))) [(.t 22), (.t 24)]⟩, 7, []⟩, ⟨⟨none, .inv 26 (.t 25)⟩, 15, []⟩]
abbrev r3_11 : List RO := [ro (.mov 2 (cB false))]
abbrev r3_12 : List RO := [ro (.mov 2 (cB true))]
def i_laws_FnExactShardOk : IC := (.seq (.reg r3_0) (.seq (.reg r3_1) (.seq (.reg r3_2) (.seq (.seq (.reg r3_3) (.cond (.t 11) (.seq (.reg r3_4) .ret) .skip)) (.seq (.reg r3_5) (.seq (.reg r3_6) (.seq (.reg r3_7) (.seq (.seq (.reg r3_8) (.cond (.t 21) (.seq (.reg r3_9) .ret) .skip)) (.seq (.seq (.regd r3_10) (.cond (.t 26) (.seq (.reg r3_11) .ret) .skip)) (.seq (.reg r3_12) .ret))))))))))
theorem i_laws_FnExactShardOk_ok : (Tryz.f3.body.bind fun c => toIC Tryz.prog 27 c [[(0, [24]), (0, []), (2, []), (7, []), (15, [])]]) = some (i_laws_FnExactShardOk, []) := by kernel_rfl
theorem i_laws_FnExactShardOk_fn {ds rs : List D} (hle : ds.length ≤ 27) (h : AW Tryz.prog 27 i_laws_FnExactShardOk (Ends [.tmp 2] rs) (init ds)) : Fn Tryz.prog k_laws_FnExactShardOk (lent ds) true rs :=
  Fn.intro' (by kernel_rfl) Tryz.func3 (by kernel_rfl) i_laws_FnExactShardOk_ok (by kernel_rfl) hle h.h
end Go.AW
