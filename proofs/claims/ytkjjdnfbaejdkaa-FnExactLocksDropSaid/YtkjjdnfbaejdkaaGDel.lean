/- The compact code of functions of the program, and that it is the program's: made by a program of the prover's own (tool/GenIC.lean). Conditions: none. -/
import Derived.Test.YtkjjdnfbaejdkaaYc
import Derived.Test.YtkjjdnfbaejdkaaRows
import Derived.KernelRfl
set_option linter.unusedVariables false
set_option maxRecDepth 100000
namespace Go.AW
open Go.Proofs

abbrev k_gosem_cut_init : Nat := 2
abbrev k_laws_FnExactStoreCut : Nat := 3
abbrev k_laws_FnExactStoreScan : Nat := 4
abbrev k_laws_FnExactLocksDrop : Nat := 5
abbrev k_laws_FnExactLocksOf : Nat := 6
abbrev k_laws_FnExactStoreApply : Nat := 7
abbrev k_laws_FnExactNewAtlas : Nat := 8
abbrev k_laws_FnExactAtlasGone : Nat := 9
abbrev k_laws_FnExactAtlasFrozen : Nat := 10
abbrev k_laws_FnExactAtlasMove : Nat := 11
abbrev k_laws_FnExactAtlasInstalled : Nat := 12
abbrev k_laws_FnExactLocksWaits : Nat := 13
abbrev k_laws_FnExactStoreJoin : Nat := 14
abbrev k_laws_szCellS : Nat := 15
abbrev k_spec_StoreCut : Nat := 16
abbrev k_laws_toCellS : Nat := 17
abbrev k_laws_toRange : Nat := 18
abbrev k_impl_StoreCut : Nat := 19
abbrev k_laws_eqCellS : Nat := 20
abbrev k_laws_markCellS : Nat := 21
abbrev k_laws_heldCellS : Nat := 22
abbrev k_spec_StoreScan : Nat := 23
abbrev k_impl_StoreScan : Nat := 24
abbrev k_laws_szLockS : Nat := 25
abbrev k_spec_LocksDrop : Nat := 26
abbrev k_laws_toLockS : Nat := 27
abbrev k_impl_LocksDrop : Nat := 28
abbrev k_laws_eqLockS : Nat := 29
abbrev k_laws_markLockS : Nat := 30
abbrev k_laws_heldLockS : Nat := 31
abbrev k_spec_LocksOf : Nat := 32
abbrev k_impl_LocksOf : Nat := 33
abbrev k_laws_szWriteS : Nat := 34
abbrev k_spec_StoreApply : Nat := 35
abbrev k_laws_toWriteS : Nat := 36
abbrev k_impl_StoreApply : Nat := 37
abbrev k_laws_eqWriteS : Nat := 38
abbrev k_laws_markWriteS : Nat := 39
abbrev k_laws_szPartS : Nat := 40
abbrev k_spec_NewAtlas : Nat := 41
abbrev k_laws_toPartS : Nat := 42
abbrev k_impl_NewAtlas : Nat := 43
abbrev k_laws_eqAtlas : Nat := 44
abbrev k_laws_eqPartS : Nat := 45
abbrev k_laws_markPartS : Nat := 46
abbrev k_laws_markAtlas : Nat := 47
abbrev k_laws_heldAtlas : Nat := 48
abbrev k_laws_szAtlas : Nat := 49
abbrev k_spec_AtlasGone : Nat := 50
abbrev k_laws_toAtlas : Nat := 51
abbrev k_impl_AtlasGone : Nat := 52
abbrev k_spec_AtlasFrozen : Nat := 53
abbrev k_impl_AtlasFrozen : Nat := 54
abbrev k_spec_AtlasMove : Nat := 55
abbrev k_impl_AtlasMove : Nat := 56
abbrev k_spec_AtlasInstalled : Nat := 57
abbrev k_impl_AtlasInstalled : Nat := 58
abbrev k_spec_LocksWaits : Nat := 59
abbrev k_laws_toIntS : Nat := 60
abbrev k_impl_LocksWaits : Nat := 61
abbrev k_laws_eqIntS : Nat := 62
abbrev k_laws_markIntS : Nat := 63
abbrev k_laws_heldIntS : Nat := 64
abbrev k_spec_StoreJoin : Nat := 65
abbrev k_impl_StoreJoin : Nat := 66
abbrev k_spec_l11Scan : Nat := 67
abbrev k_laws_toCell : Nat := 68
abbrev k_impl_within : Nat := 69
abbrev k_laws_eqCell : Nat := 70
abbrev k_spec_LocksOk : Nat := 71
abbrev k_spec_l12Keep : Nat := 72
abbrev k_laws_toLock : Nat := 73
abbrev k_impl_LocksOk : Nat := 74
abbrev k_slices_DeleteFunc___impl_Lock_impl_Lock_ : Nat := 75
abbrev k_slices_Clone___impl_Lock_impl_Lock_ : Nat := 76
abbrev k_impl_LocksDrop_1 : Nat := 77
abbrev k_laws_eqLock : Nat := 78
abbrev k_impl_LocksOf_1 : Nat := 79
abbrev k_spec_StoreOk : Nat := 80
abbrev k_spec_WritesOk : Nat := 81
abbrev k_spec_l2Cells : Nat := 82
abbrev k_laws_toWrite : Nat := 83
abbrev k_impl_StoreOk : Nat := 84
abbrev k_impl_WritesOk : Nat := 85
abbrev k_impl_written : Nat := 86
abbrev k_slices_Clone___impl_Cell_impl_Cell_ : Nat := 87
abbrev k_laws_eqWrite : Nat := 88
abbrev k_spec_AtlasOk : Nat := 89
abbrev k_laws_toPart : Nat := 90
abbrev k_slices_Clone___impl_Part_impl_Part_ : Nat := 91
abbrev k_impl_AtlasOk : Nat := 92
abbrev k_laws_eqMove : Nat := 93
abbrev k_laws_eqPart : Nat := 94
abbrev k_laws_markMove : Nat := 95
abbrev k_laws_heldPartS : Nat := 96
abbrev k_laws_heldMove : Nat := 97
abbrev k_laws_szMove : Nat := 98
abbrev k_spec_l15Copy : Nat := 99
abbrev k_spec_MoveRank : Nat := 100
abbrev k_laws_toMove : Nat := 101
abbrev k_impl_copyAtlas : Nat := 102
abbrev k_impl_MoveRank : Nat := 103
abbrev k_spec_l15In : Nat := 104
abbrev k_impl_cellsIn : Nat := 105
abbrev k__impl_Move_keys : Nat := 106
abbrev k_spec_PartAt : Nat := 107
abbrev k_spec_l15Group : Nat := 108
abbrev k_impl_partAt : Nat := 109
abbrev k_impl_isGroup : Nat := 110
abbrev k_impl_RangeIn : Nat := 111
abbrev k_spec_l12Right : Nat := 112
abbrev k_spec_l12Holds : Nat := 113
abbrev k_spec_l12Foes : Nat := 114
abbrev k_spec_l12Has : Nat := 115
abbrev k_impl_LockAsk : Nat := 116
abbrev k_impl_clashing : Nat := 117
abbrev k_spec_l11Get : Nat := 118
abbrev k_slices_Concat___impl_Cell_impl_Cell_ : Nat := 119
abbrev k_slices_SortFunc___impl_Cell_impl_Cell_ : Nat := 120
abbrev k_impl_StoreJoin_1 : Nat := 121
abbrev k_spec_RangeOk : Nat := 122
abbrev k_spec_l1In : Nat := 123
abbrev k_impl_RangeOk : Nat := 124
abbrev k_slices_DeleteFunc___impl_Cell_impl_Cell_ : Nat := 125
abbrev k_impl_within_1 : Nat := 126
abbrev k__impl_Range_has : Nat := 127
abbrev k_spec_l12Tx : Nat := 128
abbrev k_spec_l12Range : Nat := 129
abbrev k_spec_l12Mode : Nat := 130
abbrev k_spec_l12Clash : Nat := 131
abbrev k_impl_isTx : Nat := 132
abbrev k__impl_Lock_keys : Nat := 133
abbrev k_impl_isMode : Nat := 134
abbrev k_slices_ContainsFunc___impl_Lock_impl_Lock_ : Nat := 135
abbrev k_impl_LocksOk_1 : Nat := 136
abbrev k_impl_clash : Nat := 137
abbrev k_slices_IndexFunc___impl_Lock_impl_Lock_ : Nat := 138
abbrev k_spec_l10Key : Nat := 139
abbrev k_spec_l1Whole : Nat := 140
abbrev k_impl_isKey : Nat := 141
abbrev k_impl_isWhole : Nat := 142
abbrev k_impl_isAnswer : Nat := 143
abbrev k_impl_put : Nat := 144
abbrev k_spec_PartsOk : Nat := 145
abbrev k_impl_from : Nat := 146
abbrev k_impl_PartsOk : Nat := 147
abbrev k_impl_moveOk : Nat := 148
abbrev k_spec_l1Min : Nat := 149
abbrev k_slices_ContainsFunc___impl_Cell_impl_Cell_ : Nat := 150
abbrev k_impl_cellsIn_1 : Nat := 151
abbrev k_slices_IndexFunc___impl_Part_impl_Part_ : Nat := 152
abbrev k_impl_partAt_1 : Nat := 153
abbrev k_spec_RangeIn : Nat := 154
abbrev k_spec_l12Put : Nat := 155
abbrev k_impl_LocksHold : Nat := 156
abbrev k_impl_LockAsk_1 : Nat := 157
abbrev k_slices_Contains___int_int_ : Nat := 158
abbrev k_impl_inserted : Nat := 159
abbrev k_slices_Grow___impl_Cell_impl_Cell_ : Nat := 160
abbrev k_slices_pdqsortCmpFunc_impl_Cell_ : Nat := 161
abbrev k_math_bits_Len : Nat := 162
abbrev k_slices_IndexFunc___impl_Cell_impl_Cell_ : Nat := 163
abbrev k_spec_RangeMeet : Nat := 164
abbrev k_impl_meets : Nat := 165
abbrev k_impl_cellFor : Nat := 166
abbrev k_slices_Delete___impl_Cell_impl_Cell_ : Nat := 167
abbrev k_slices_Insert___impl_Cell_impl_Cell_ : Nat := 168
abbrev k_impl_LocksHold_1 : Nat := 169
abbrev k_slices_Index___int_int_ : Nat := 170
abbrev k_slices_BinarySearch___int_int_ : Nat := 171
abbrev k_slices_Insert___int_int_ : Nat := 172
abbrev k_slices_Clone___int_int_ : Nat := 173
abbrev k_slices_insertionSortCmpFunc_impl_Cell_ : Nat := 174
abbrev k_slices_heapSortCmpFunc_impl_Cell_ : Nat := 175
abbrev k_slices_breakPatternsCmpFunc_impl_Cell_ : Nat := 176
abbrev k_slices_choosePivotCmpFunc_impl_Cell_ : Nat := 177
abbrev k_slices_reverseRangeCmpFunc_impl_Cell_ : Nat := 178
abbrev k_slices_partialInsertionSortCmpFunc_impl_Cell_ : Nat := 179
abbrev k_slices_partitionEqualCmpFunc_impl_Cell_ : Nat := 180
abbrev k_slices_partitionCmpFunc_impl_Cell_ : Nat := 181
abbrev k_math_bits_Len32 : Nat := 182
abbrev k_math_bits_Len64 : Nat := 183
abbrev k_spec_l1Max : Nat := 184
abbrev k_slices_BinarySearchFunc___impl_Cell_impl_Cell_int_ : Nat := 185
abbrev k_impl_cellFor_1 : Nat := 186
abbrev k_slices_rotateRight_impl_Cell_ : Nat := 188
abbrev k_cmp_Less_int_ : Nat := 189
abbrev k_slices_isNaN_int_ : Nat := 190
abbrev k_slices_rotateRight_int_ : Nat := 192
abbrev k_slices_siftDownCmpFunc_impl_Cell_ : Nat := 193
abbrev k_slices_nextPowerOfTwo : Nat := 194
abbrev k_slices_xorshift_Next : Nat := 195
abbrev k_slices_medianAdjacentCmpFunc_impl_Cell_ : Nat := 196
abbrev k_slices_medianCmpFunc_impl_Cell_ : Nat := 197
abbrev k_slices_rotateLeft_impl_Cell_ : Nat := 198
abbrev k_cmp_isNaN_int_ : Nat := 199
abbrev k_slices_rotateLeft_int_ : Nat := 200
abbrev k_slices_order2CmpFunc_impl_Cell_ : Nat := 201
abbrev k_slices_Reverse___impl_Cell_impl_Cell_ : Nat := 202
abbrev k_slices_Reverse___int_int_ : Nat := 203
abbrev i_laws_szCellS_r0 : List RO := [
  ⟨⟨none, .mov 4 (.c (.one (.d (.int .i64 0))))⟩, 0, []⟩]

abbrev i_laws_szCellS_r1 : List RO := [
  ⟨⟨none, .mov 5 (.t 1)⟩, 0, []⟩,
  ⟨⟨none, .mov 6 (.t 0)⟩, 0, []⟩,
  ⟨⟨none, .len 7 false (.t 6)⟩, 0, []⟩,
  ⟨⟨none, .bin 8 .sub (.t 5) (.t 7)⟩, 0, []⟩,
  ⟨⟨none, .mov 1 (.t 8)⟩, 0, []⟩]

abbrev i_laws_szCellS_r2 : List RO := [
  ⟨⟨none, .mov 9 (.t 1)⟩, 0, []⟩,
  ⟨⟨none, .bin 10 .lss (.t 9) (.c (.one (.d (.int .i64 0))))⟩, 0, []⟩]

abbrev i_laws_szCellS_r3 : List RO := [
  ⟨⟨none, .mov 4 (.c (.one (.d (.int .i64 (-1)))))⟩, 0, []⟩]

abbrev i_laws_szCellS_r4 : List RO := [
  ⟨⟨none, .mov 11 (.t 1)⟩, 0, []⟩,
  ⟨⟨none, .mov 4 (.t 11)⟩, 0, []⟩]

def i_laws_szCellS : IC := (.seq (.reg i_laws_szCellS_r0)
  (.seq (.reg i_laws_szCellS_r1)
  (.seq (.seq (.reg i_laws_szCellS_r2)
  (.cond (.t 10) (.seq (.reg i_laws_szCellS_r3)
  .ret) .skip))
  (.seq (.reg i_laws_szCellS_r4)
  .ret))))

theorem i_laws_szCellS_ok : (Try.f15.body.bind fun c => toIC Try.prog 12 c []) = some (i_laws_szCellS, []) := by kernel_rfl

theorem i_laws_szCellS_fn {ds rs : List D} (hle : ds.length ≤ 12) (h : AW Try.prog 12 i_laws_szCellS (Ends [.tmp 4] rs) (init ds)) : Fn Try.prog k_laws_szCellS (lent ds) true rs :=
  Fn.intro' (by kernel_rfl) Try.func15 (by kernel_rfl) i_laws_szCellS_ok (by kernel_rfl) hle h.h

theorem i_laws_szCellS_fnB {ds rs : List D} (hle : ds.length ≤ 12) (h : AW Try.prog 12 i_laws_szCellS (EndsB [.tmp 4] rs) (init ds)) : Fn Try.prog k_laws_szCellS (lent ds) false rs :=
  Fn.introB' (by kernel_rfl) Try.func15 (by kernel_rfl) i_laws_szCellS_ok (by kernel_rfl) hle h.h

abbrev i_laws_toCell_r0 : List RO := [
  ⟨⟨none, .box 1 (.t 0)⟩, 0, []⟩,
  ⟨⟨none, .var 2 [(.d (.int .i64 0)), (.d (.int .i64 0))]⟩, 0, []⟩]

abbrev i_laws_toCell_r1 : List RO := [
  ⟨⟨none, .var 3 [(.d (.int .i64 0)), (.d (.int .i64 0))]⟩, 0, []⟩]

abbrev i_laws_toCell_r2 : List RO := [
  ⟨⟨none, .faddr 4 0 (.t 1)⟩, 0, []⟩,
  ⟨⟨none, .load 5 none (.t 4)⟩, 0, []⟩,
  ⟨⟨none, .faddr 6 0 (.t 3)⟩, 0, []⟩,
  ⟨⟨none, .store 1 [(.int .i64 0)] (.t 6) (.t 5)⟩, 0, []⟩]

abbrev i_laws_toCell_r3 : List RO := [
  ⟨⟨none, .faddr 7 1 (.t 1)⟩, 0, []⟩,
  ⟨⟨none, .load 8 none (.t 7)⟩, 0, []⟩,
  ⟨⟨none, .faddr 9 1 (.t 3)⟩, 0, []⟩,
  ⟨⟨none, .store 1 [(.int .i64 0)] (.t 9) (.t 8)⟩, 0, []⟩]

abbrev i_laws_toCell_r4 : List RO := [
  ⟨⟨none, .load 10 (some 2) (.t 3)⟩, 0, []⟩,
  ⟨⟨none, .store 2 [(.int .i64 0), (.int .i64 0)] (.t 2) (.t 10)⟩, 0, []⟩]

def i_laws_toCell : IC := (.seq (.reg i_laws_toCell_r0)
  (.seq (.reg i_laws_toCell_r1)
  (.seq (.reg i_laws_toCell_r2)
  (.seq (.reg i_laws_toCell_r3)
  (.seq (.reg i_laws_toCell_r4)
  .ret)))))

theorem i_laws_toCell_ok : (Try.f68.body.bind fun c => toIC Try.prog 11 c []) = some (i_laws_toCell, []) := by kernel_rfl

theorem i_laws_toCell_fn {ds rs : List D} (hle : ds.length ≤ 11) (h : AW Try.prog 11 i_laws_toCell (Ends [.cell 2 (some 2)] rs) (init ds)) : Fn Try.prog k_laws_toCell (lent ds) true rs :=
  Fn.intro' (by kernel_rfl) Try.func68 (by kernel_rfl) i_laws_toCell_ok (by kernel_rfl) hle h.h

theorem i_laws_toCell_fnB {ds rs : List D} (hle : ds.length ≤ 11) (h : AW Try.prog 11 i_laws_toCell (EndsB [.cell 2 (some 2)] rs) (init ds)) : Fn Try.prog k_laws_toCell (lent ds) false rs :=
  Fn.introB' (by kernel_rfl) Try.func68 (by kernel_rfl) i_laws_toCell_ok (by kernel_rfl) hle h.h

abbrev i_laws_toCellS_r0 : List RO := [
  ⟨⟨none, .mov 2 (.c (.one .zs))⟩, 0, []⟩]

abbrev i_laws_toCellS_r1 : List RO := [
  ⟨⟨none, .mov 5 (.t 0)⟩, 0, []⟩,
  ⟨⟨none, .len 6 false (.t 5)⟩, 0, []⟩,
  ⟨⟨none, .mksl 7 2 16 [(.int .i64 0), (.int .i64 0)] (.t 6) (.t 6)⟩, 0, []⟩,
  ⟨⟨none, .mov 3 (.t 7)⟩, 0, []⟩]

abbrev i_laws_toCellS_r2 : List RO := [
  ⟨⟨none, .mov 4 (.c (.one (.d (.int .i64 0))))⟩, 0, []⟩]

abbrev i_laws_toCellS_r3 : List RO := [
  ⟨⟨none, .mov 8 (.t 4)⟩, 0, []⟩,
  ⟨⟨none, .mov 9 (.t 0)⟩, 0, []⟩,
  ⟨⟨none, .len 10 false (.t 9)⟩, 0, []⟩,
  ⟨⟨none, .bin 11 .lss (.t 8) (.t 10)⟩, 0, []⟩]

abbrev i_laws_toCellS_r4 : List RO := [
  ⟨⟨none, .mov 14 (.t 3)⟩, 0, []⟩,
  ⟨⟨none, .mov 15 (.t 4)⟩, 0, []⟩,
  ⟨⟨none, .mov 16 (.t 0)⟩, 0, []⟩,
  ⟨⟨none, .mov 17 (.t 4)⟩, 0, []⟩,
  ⟨⟨none, .iaddr 18 2 (.t 16) (.t 17)⟩, 0, []⟩,
  ⟨⟨none, .load 19 (some 2) (.t 18)⟩, 0, []⟩,
  ⟨⟨none, .callv 20 (.c (.one (.fn k_laws_toCell []))) [(.t 19)]⟩, 0, []⟩,
  ⟨⟨none, .iaddr 21 2 (.t 14) (.t 15)⟩, 0, []⟩,
  ⟨⟨none, .store 2 [(.int .i64 0), (.int .i64 0)] (.t 21) (.t 20)⟩, 0, []⟩]

abbrev i_laws_toCellS_r5 : List RO := [
  ⟨⟨none, .mov 12 (.t 4)⟩, 0, []⟩,
  ⟨⟨none, .bin 13 .add (.t 12) (.c (.one (.d (.int .i64 1))))⟩, 0, []⟩,
  ⟨⟨none, .mov 4 (.t 13)⟩, 0, []⟩]

abbrev i_laws_toCellS_r6 : List RO := [
  ⟨⟨none, .mov 22 (.t 3)⟩, 0, []⟩,
  ⟨⟨none, .mov 2 (.t 22)⟩, 0, []⟩]

def i_laws_toCellS : IC := (.seq (.reg i_laws_toCellS_r0)
  (.seq (.reg i_laws_toCellS_r1)
  (.seq (.seq (.reg i_laws_toCellS_r2)
  (.block 0 (.loop (.seq (.seq (.reg i_laws_toCellS_r3)
  (.cond (.t 11) .skip (.exit 0)))
  (.seq (.block 1 (.reg i_laws_toCellS_r4))
  (.reg i_laws_toCellS_r5))))))
  (.seq (.reg i_laws_toCellS_r6)
  .ret))))

theorem i_laws_toCellS_ok : (Try.f17.body.bind fun c => toIC Try.prog 23 c []) = some (i_laws_toCellS, []) := by kernel_rfl

theorem i_laws_toCellS_fn {ds rs : List D} (hle : ds.length ≤ 23) (h : AW Try.prog 23 i_laws_toCellS (Ends [.tmp 2] rs) (init ds)) : Fn Try.prog k_laws_toCellS (lent ds) true rs :=
  Fn.intro' (by kernel_rfl) Try.func17 (by kernel_rfl) i_laws_toCellS_ok (by kernel_rfl) hle h.h

theorem i_laws_toCellS_fnB {ds rs : List D} (hle : ds.length ≤ 23) (h : AW Try.prog 23 i_laws_toCellS (EndsB [.tmp 2] rs) (init ds)) : Fn Try.prog k_laws_toCellS (lent ds) false rs :=
  Fn.introB' (by kernel_rfl) Try.func17 (by kernel_rfl) i_laws_toCellS_ok (by kernel_rfl) hle h.h

abbrev i_laws_toRange_r0 : List RO := [
  ⟨⟨none, .box 1 (.t 0)⟩, 0, []⟩,
  ⟨⟨none, .var 2 [(.d (.int .i64 0)), (.d (.int .i64 0))]⟩, 0, []⟩]

abbrev i_laws_toRange_r1 : List RO := [
  ⟨⟨none, .var 3 [(.d (.int .i64 0)), (.d (.int .i64 0))]⟩, 0, []⟩]

abbrev i_laws_toRange_r2 : List RO := [
  ⟨⟨none, .faddr 4 0 (.t 1)⟩, 0, []⟩,
  ⟨⟨none, .load 5 none (.t 4)⟩, 0, []⟩,
  ⟨⟨none, .faddr 6 0 (.t 3)⟩, 0, []⟩,
  ⟨⟨none, .store 1 [(.int .i64 0)] (.t 6) (.t 5)⟩, 0, []⟩]

abbrev i_laws_toRange_r3 : List RO := [
  ⟨⟨none, .faddr 7 1 (.t 1)⟩, 0, []⟩,
  ⟨⟨none, .load 8 none (.t 7)⟩, 0, []⟩,
  ⟨⟨none, .faddr 9 1 (.t 3)⟩, 0, []⟩,
  ⟨⟨none, .store 1 [(.int .i64 0)] (.t 9) (.t 8)⟩, 0, []⟩]

abbrev i_laws_toRange_r4 : List RO := [
  ⟨⟨none, .load 10 (some 2) (.t 3)⟩, 0, []⟩,
  ⟨⟨none, .store 2 [(.int .i64 0), (.int .i64 0)] (.t 2) (.t 10)⟩, 0, []⟩]

def i_laws_toRange : IC := (.seq (.reg i_laws_toRange_r0)
  (.seq (.reg i_laws_toRange_r1)
  (.seq (.reg i_laws_toRange_r2)
  (.seq (.reg i_laws_toRange_r3)
  (.seq (.reg i_laws_toRange_r4)
  .ret)))))

theorem i_laws_toRange_ok : (Try.f18.body.bind fun c => toIC Try.prog 11 c []) = some (i_laws_toRange, []) := by kernel_rfl

theorem i_laws_toRange_fn {ds rs : List D} (hle : ds.length ≤ 11) (h : AW Try.prog 11 i_laws_toRange (Ends [.cell 2 (some 2)] rs) (init ds)) : Fn Try.prog k_laws_toRange (lent ds) true rs :=
  Fn.intro' (by kernel_rfl) Try.func18 (by kernel_rfl) i_laws_toRange_ok (by kernel_rfl) hle h.h

theorem i_laws_toRange_fnB {ds rs : List D} (hle : ds.length ≤ 11) (h : AW Try.prog 11 i_laws_toRange (EndsB [.cell 2 (some 2)] rs) (init ds)) : Fn Try.prog k_laws_toRange (lent ds) false rs :=
  Fn.introB' (by kernel_rfl) Try.func18 (by kernel_rfl) i_laws_toRange_ok (by kernel_rfl) hle h.h

abbrev i_spec_l1In_r0 : List RO := [
  ⟨⟨none, .mov 6 (.c (.one (.d (.bool false))))⟩, 0, []⟩]

abbrev i_spec_l1In_r1 : List RO := [
  ⟨⟨none, .mov 7 (.t 0)⟩, 0, []⟩,
  ⟨⟨none, .mov 8 (.t 1)⟩, 0, []⟩,
  ⟨⟨none, .bin 9 .geq (.t 7) (.t 8)⟩, 0, []⟩,
  ⟨⟨none, .mov 10 (.t 9)⟩, 0, []⟩,
  ⟨⟨some (10, true), .mov 11 (.t 0)⟩, 0, []⟩,
  ⟨⟨some (10, true), .mov 12 (.t 2)⟩, 0, []⟩,
  ⟨⟨some (10, true), .bin 13 .leq (.t 11) (.t 12)⟩, 0, []⟩,
  ⟨⟨none, .pick 14 (.t 10) (.t 13) (.c (.one (.d (.bool false))))⟩, 0, []⟩,
  ⟨⟨none, .mov 6 (.t 14)⟩, 0, []⟩]

def i_spec_l1In : IC := (.seq (.reg i_spec_l1In_r0)
  (.seq (.reg i_spec_l1In_r1)
  .ret))

theorem i_spec_l1In_ok : (Try.f123.body.bind fun c => toIC Try.prog 15 c []) = some (i_spec_l1In, []) := by kernel_rfl

theorem i_spec_l1In_fn {ds rs : List D} (hle : ds.length ≤ 15) (h : AW Try.prog 15 i_spec_l1In (Ends [.tmp 6] rs) (init ds)) : Fn Try.prog k_spec_l1In (lent ds) true rs :=
  Fn.intro' (by kernel_rfl) Try.func123 (by kernel_rfl) i_spec_l1In_ok (by kernel_rfl) hle h.h

theorem i_spec_l1In_fnB {ds rs : List D} (hle : ds.length ≤ 15) (h : AW Try.prog 15 i_spec_l1In (EndsB [.tmp 6] rs) (init ds)) : Fn Try.prog k_spec_l1In (lent ds) false rs :=
  Fn.introB' (by kernel_rfl) Try.func123 (by kernel_rfl) i_spec_l1In_ok (by kernel_rfl) hle h.h

abbrev i_spec_l10Key_r0 : List RO := [
  ⟨⟨none, .mov 2 (.c (.one (.d (.bool false))))⟩, 0, []⟩]

abbrev i_spec_l10Key_r1 : List RO := [
  ⟨⟨none, .mov 3 (.t 0)⟩, 0, []⟩,
  ⟨⟨none, .callv 4 (.c (.one (.fn k_spec_l1In []))) [(.t 3), (.c (.one (.d (.int .i64 0)))), (.c (.one (.d (.int .i64 999))))]⟩, 0, []⟩,
  ⟨⟨none, .mov 2 (.t 4)⟩, 0, []⟩]

def i_spec_l10Key : IC := (.seq (.reg i_spec_l10Key_r0)
  (.seq (.reg i_spec_l10Key_r1)
  .ret))

theorem i_spec_l10Key_ok : (Try.f139.body.bind fun c => toIC Try.prog 5 c []) = some (i_spec_l10Key, []) := by kernel_rfl

theorem i_spec_l10Key_fn {ds rs : List D} (hle : ds.length ≤ 5) (h : AW Try.prog 5 i_spec_l10Key (Ends [.tmp 2] rs) (init ds)) : Fn Try.prog k_spec_l10Key (lent ds) true rs :=
  Fn.intro' (by kernel_rfl) Try.func139 (by kernel_rfl) i_spec_l10Key_ok (by kernel_rfl) hle h.h

theorem i_spec_l10Key_fnB {ds rs : List D} (hle : ds.length ≤ 5) (h : AW Try.prog 5 i_spec_l10Key (EndsB [.tmp 2] rs) (init ds)) : Fn Try.prog k_spec_l10Key (lent ds) false rs :=
  Fn.introB' (by kernel_rfl) Try.func139 (by kernel_rfl) i_spec_l10Key_ok (by kernel_rfl) hle h.h

abbrev i_spec_l1Whole_r0 : List RO := [
  ⟨⟨none, .mov 2 (.c (.one (.d (.bool false))))⟩, 0, []⟩]

abbrev i_spec_l1Whole_r1 : List RO := [
  ⟨⟨none, .mov 3 (.t 0)⟩, 0, []⟩,
  ⟨⟨none, .callv 4 (.c (.one (.fn k_spec_l1In []))) [(.t 3), (.c (.one (.d (.int .i64 0)))), (.c (.one (.d (.int .i64 1000000000))))]⟩, 0, []⟩,
  ⟨⟨none, .mov 2 (.t 4)⟩, 0, []⟩]

def i_spec_l1Whole : IC := (.seq (.reg i_spec_l1Whole_r0)
  (.seq (.reg i_spec_l1Whole_r1)
  .ret))

theorem i_spec_l1Whole_ok : (Try.f140.body.bind fun c => toIC Try.prog 5 c []) = some (i_spec_l1Whole, []) := by kernel_rfl

theorem i_spec_l1Whole_fn {ds rs : List D} (hle : ds.length ≤ 5) (h : AW Try.prog 5 i_spec_l1Whole (Ends [.tmp 2] rs) (init ds)) : Fn Try.prog k_spec_l1Whole (lent ds) true rs :=
  Fn.intro' (by kernel_rfl) Try.func140 (by kernel_rfl) i_spec_l1Whole_ok (by kernel_rfl) hle h.h

theorem i_spec_l1Whole_fnB {ds rs : List D} (hle : ds.length ≤ 5) (h : AW Try.prog 5 i_spec_l1Whole (EndsB [.tmp 2] rs) (init ds)) : Fn Try.prog k_spec_l1Whole (lent ds) false rs :=
  Fn.introB' (by kernel_rfl) Try.func140 (by kernel_rfl) i_spec_l1Whole_ok (by kernel_rfl) hle h.h

abbrev i_spec_StoreOk_r0 : List RO := [
  ⟨⟨none, .mov 2 (.c (.one (.d (.bool false))))⟩, 0, []⟩]

abbrev i_spec_StoreOk_r1 : List RO := [
  ⟨⟨none, .mov 4 (.t 0)⟩, 0, []⟩,
  ⟨⟨none, .len 5 false (.t 4)⟩, 0, []⟩,
  ⟨⟨none, .bin 6 .gtr (.t 5) (.c (.one (.d (.int .i64 60))))⟩, 0, []⟩]

abbrev i_spec_StoreOk_r2 : List RO := [
  ⟨⟨none, .mov 2 (.c (.one (.d (.bool false))))⟩, 0, []⟩]

abbrev i_spec_StoreOk_r3 : List RO := [
  ⟨⟨none, .mov 3 (.c (.one (.d (.int .i64 0))))⟩, 0, []⟩]

abbrev i_spec_StoreOk_r4 : List RO := [
  ⟨⟨none, .mov 7 (.t 3)⟩, 0, []⟩,
  ⟨⟨none, .mov 8 (.t 0)⟩, 0, []⟩,
  ⟨⟨none, .len 9 false (.t 8)⟩, 0, []⟩,
  ⟨⟨none, .bin 10 .lss (.t 7) (.t 9)⟩, 0, []⟩]

abbrev i_spec_StoreOk_r5 : List RO := [
  ⟨⟨none, .mov 13 (.t 0)⟩, 0, []⟩,
  ⟨⟨none, .mov 14 (.t 3)⟩, 0, []⟩,
  ⟨⟨none, .iaddr 15 2 (.t 13) (.t 14)⟩, 3, []⟩,
  ⟨⟨none, .faddr 16 0 (.t 15)⟩, 7, []⟩,
  ⟨⟨none, .load 17 none (.t 16)⟩, 15, []⟩,
  ⟨⟨none, .callv 18 (.c (.one (.fn k_spec_l10Key []))) [(.t 17)]⟩, 31, []⟩,
  ⟨⟨none, .inv 19 (.t 18)⟩, 63, []⟩,
  ⟨⟨none, .mov 20 (.t 19)⟩, 127, []⟩,
  ⟨⟨some (20, false), .mov 21 (.t 0)⟩, 255, []⟩,
  ⟨⟨some (20, false), .mov 22 (.t 3)⟩, 255, []⟩,
  ⟨⟨some (20, false), .iaddr 23 2 (.t 21) (.t 22)⟩, 1023, []⟩,
  ⟨⟨some (20, false), .faddr 24 1 (.t 23)⟩, 2047, []⟩,
  ⟨⟨some (20, false), .load 25 none (.t 24)⟩, 4095, []⟩,
  ⟨⟨some (20, false), .callv 26 (.c (.one (.fn k_spec_l1Whole []))) [(.t 25)]⟩, 8191, []⟩,
  ⟨⟨some (20, false), .inv 27 (.t 26)⟩, 16383, []⟩,
  ⟨⟨none, .pick 28 (.t 20) (.c (.one (.d (.bool true)))) (.t 27)⟩, 32767, []⟩,
  ⟨⟨none, .mov 29 (.t 28)⟩, 65535, []⟩,
  ⟨⟨some (29, false), .mov 30 (.t 3)⟩, 131071, []⟩,
  ⟨⟨some (29, false), .bin 31 .gtr (.t 30) (.c (.one (.d (.int .i64 0))))⟩, 262143, []⟩,
  ⟨⟨some (29, false), .mov 32 (.t 31)⟩, 524287, []⟩,
  ⟨⟨some (32, true), .mov 33 (.t 0)⟩, 1048575, []⟩,
  ⟨⟨some (32, true), .mov 34 (.t 3)⟩, 1048575, []⟩,
  ⟨⟨some (32, true), .bin 35 .sub (.t 34) (.c (.one (.d (.int .i64 1))))⟩, 3145727, []⟩,
  ⟨⟨some (32, true), .iaddr 36 2 (.t 33) (.t 35)⟩, 8388607, []⟩,
  ⟨⟨some (32, true), .faddr 37 0 (.t 36)⟩, 16777215, []⟩,
  ⟨⟨some (32, true), .load 38 none (.t 37)⟩, 33554431, []⟩,
  ⟨⟨some (32, true), .mov 39 (.t 0)⟩, 1048575, []⟩,
  ⟨⟨some (32, true), .mov 40 (.t 3)⟩, 1048575, []⟩,
  ⟨⟨some (32, true), .iaddr 41 2 (.t 39) (.t 40)⟩, 202375167, []⟩,
  ⟨⟨some (32, true), .faddr 42 0 (.t 41)⟩, 470810623, []⟩,
  ⟨⟨some (32, true), .load 43 none (.t 42)⟩, 1007681535, []⟩,
  ⟨⟨some (32, true), .bin 44 .geq (.t 38) (.t 43)⟩, 2147483647, []⟩,
  ⟨⟨some (29, false), .pick 45 (.t 32) (.t 44) (.c (.one (.d (.bool false))))⟩, 4294967295, []⟩,
  ⟨⟨none, .pick 46 (.t 29) (.c (.one (.d (.bool true)))) (.t 45)⟩, 8589934591, []⟩]

abbrev i_spec_StoreOk_r6 : List RO := [
  ⟨⟨none, .mov 2 (.c (.one (.d (.bool false))))⟩, 0, []⟩]

abbrev i_spec_StoreOk_r7 : List RO := [
  ⟨⟨none, .mov 11 (.t 3)⟩, 0, []⟩,
  ⟨⟨none, .bin 12 .add (.t 11) (.c (.one (.d (.int .i64 1))))⟩, 0, []⟩,
  ⟨⟨none, .mov 3 (.t 12)⟩, 0, []⟩]

abbrev i_spec_StoreOk_r8 : List RO := [
  ⟨⟨none, .mov 2 (.c (.one (.d (.bool true))))⟩, 0, []⟩]

def i_spec_StoreOk : IC := (.seq (.reg i_spec_StoreOk_r0)
  (.seq (.seq (.reg i_spec_StoreOk_r1)
  (.cond (.t 6) (.seq (.reg i_spec_StoreOk_r2)
  .ret) .skip))
  (.seq (.seq (.reg i_spec_StoreOk_r3)
  (.block 0 (.loop (.seq (.seq (.reg i_spec_StoreOk_r4)
  (.cond (.t 10) .skip (.exit 0)))
  (.seq (.block 1 (.seq (.regd i_spec_StoreOk_r5)
  (.cond (.t 46) (.seq (.reg i_spec_StoreOk_r6)
  .ret) .skip)))
  (.reg i_spec_StoreOk_r7))))))
  (.seq (.reg i_spec_StoreOk_r8)
  .ret))))

theorem i_spec_StoreOk_ok : (Try.f80.body.bind fun c => toIC Try.prog 47 c [[(0, []), (0, []), (3, []), (7, []), (15, []), (31, []), (63, []), (127, []), (255, []), (255, []), (1023, []), (2047, []), (4095, []), (8191, []), (16383, []), (32767, []), (65535, []), (131071, []), (262143, []), (524287, []), (1048575, []), (1048575, []), (3145727, []), (8388607, []), (16777215, []), (33554431, []), (1048575, []), (1048575, []), (202375167, []), (470810623, []), (1007681535, []), (2147483647, []), (4294967295, []), (8589934591, [])]]) = some (i_spec_StoreOk, []) := by kernel_rfl

theorem i_spec_StoreOk_fn {ds rs : List D} (hle : ds.length ≤ 47) (h : AW Try.prog 47 i_spec_StoreOk (Ends [.tmp 2] rs) (init ds)) : Fn Try.prog k_spec_StoreOk (lent ds) true rs :=
  Fn.intro' (by kernel_rfl) Try.func80 (by kernel_rfl) i_spec_StoreOk_ok (by kernel_rfl) hle h.h

theorem i_spec_StoreOk_fnB {ds rs : List D} (hle : ds.length ≤ 47) (h : AW Try.prog 47 i_spec_StoreOk (EndsB [.tmp 2] rs) (init ds)) : Fn Try.prog k_spec_StoreOk (lent ds) false rs :=
  Fn.introB' (by kernel_rfl) Try.func80 (by kernel_rfl) i_spec_StoreOk_ok (by kernel_rfl) hle h.h

abbrev i_spec_RangeOk_r0 : List RO := [
  ⟨⟨none, .box 1 (.t 0)⟩, 0, []⟩,
  ⟨⟨none, .mov 2 (.c (.one (.d (.bool false))))⟩, 0, []⟩]

abbrev i_spec_RangeOk_r1 : List RO := [
  ⟨⟨none, .faddr 3 0 (.t 1)⟩, 0, []⟩,
  ⟨⟨none, .load 4 none (.t 3)⟩, 0, []⟩,
  ⟨⟨none, .bin 5 .geq (.t 4) (.c (.one (.d (.int .i64 0))))⟩, 0, []⟩,
  ⟨⟨none, .mov 6 (.t 5)⟩, 0, []⟩,
  ⟨⟨some (6, true), .faddr 7 0 (.t 1)⟩, 0, []⟩,
  ⟨⟨some (6, true), .load 8 none (.t 7)⟩, 0, []⟩,
  ⟨⟨some (6, true), .faddr 9 1 (.t 1)⟩, 0, []⟩,
  ⟨⟨some (6, true), .load 10 none (.t 9)⟩, 0, []⟩,
  ⟨⟨some (6, true), .bin 11 .lss (.t 8) (.t 10)⟩, 0, []⟩,
  ⟨⟨none, .pick 12 (.t 6) (.t 11) (.c (.one (.d (.bool false))))⟩, 0, []⟩,
  ⟨⟨none, .mov 13 (.t 12)⟩, 0, []⟩,
  ⟨⟨some (13, true), .faddr 14 1 (.t 1)⟩, 0, []⟩,
  ⟨⟨some (13, true), .load 15 none (.t 14)⟩, 0, []⟩,
  ⟨⟨some (13, true), .bin 16 .leq (.t 15) (.c (.one (.d (.int .i64 1000))))⟩, 0, []⟩,
  ⟨⟨none, .pick 17 (.t 13) (.t 16) (.c (.one (.d (.bool false))))⟩, 0, []⟩,
  ⟨⟨none, .mov 2 (.t 17)⟩, 0, []⟩]

def i_spec_RangeOk : IC := (.seq (.reg i_spec_RangeOk_r0)
  (.seq (.reg i_spec_RangeOk_r1)
  .ret))

theorem i_spec_RangeOk_ok : (Try.f122.body.bind fun c => toIC Try.prog 18 c []) = some (i_spec_RangeOk, []) := by kernel_rfl

theorem i_spec_RangeOk_fn {ds rs : List D} (hle : ds.length ≤ 18) (h : AW Try.prog 18 i_spec_RangeOk (Ends [.tmp 2] rs) (init ds)) : Fn Try.prog k_spec_RangeOk (lent ds) true rs :=
  Fn.intro' (by kernel_rfl) Try.func122 (by kernel_rfl) i_spec_RangeOk_ok (by kernel_rfl) hle h.h

theorem i_spec_RangeOk_fnB {ds rs : List D} (hle : ds.length ≤ 18) (h : AW Try.prog 18 i_spec_RangeOk (EndsB [.tmp 2] rs) (init ds)) : Fn Try.prog k_spec_RangeOk (lent ds) false rs :=
  Fn.introB' (by kernel_rfl) Try.func122 (by kernel_rfl) i_spec_RangeOk_ok (by kernel_rfl) hle h.h

abbrev i_spec_l11Scan_r0 : List RO := [
  ⟨⟨none, .box 4 (.t 1)⟩, 0, []⟩,
  ⟨⟨none, .mov 6 (.c (.one .zs))⟩, 0, []⟩]

abbrev i_spec_l11Scan_r1 : List RO := [
  ⟨⟨none, .bslice 9 2 [] []⟩, 0, []⟩,
  ⟨⟨none, .mov 7 (.t 9)⟩, 0, []⟩]

abbrev i_spec_l11Scan_r2 : List RO := [
  ⟨⟨none, .mov 8 (.c (.one (.d (.int .i64 0))))⟩, 0, []⟩]

abbrev i_spec_l11Scan_r3 : List RO := [
  ⟨⟨none, .mov 10 (.t 8)⟩, 0, []⟩,
  ⟨⟨none, .mov 11 (.t 0)⟩, 0, []⟩,
  ⟨⟨none, .len 12 false (.t 11)⟩, 0, []⟩,
  ⟨⟨none, .bin 13 .lss (.t 10) (.t 12)⟩, 0, []⟩,
  ⟨⟨none, .mov 14 (.t 13)⟩, 0, []⟩,
  ⟨⟨some (14, true), .mov 15 (.t 0)⟩, 0, []⟩,
  ⟨⟨some (14, true), .callv 16 (.c (.one (.fn k_spec_StoreOk []))) [(.t 15)]⟩, 0, []⟩,
  ⟨⟨none, .pick 17 (.t 14) (.t 16) (.c (.one (.d (.bool false))))⟩, 0, []⟩,
  ⟨⟨none, .mov 18 (.t 17)⟩, 0, []⟩,
  ⟨⟨some (18, true), .load 19 (some 2) (.t 4)⟩, 0, []⟩,
  ⟨⟨some (18, true), .callv 20 (.c (.one (.fn k_spec_RangeOk []))) [(.t 19)]⟩, 0, []⟩,
  ⟨⟨none, .pick 21 (.t 18) (.t 20) (.c (.one (.d (.bool false))))⟩, 0, []⟩]

abbrev i_spec_l11Scan_r4 : List RO := [
  ⟨⟨none, .mov 24 (.t 0)⟩, 0, []⟩,
  ⟨⟨none, .mov 25 (.t 8)⟩, 0, []⟩,
  ⟨⟨none, .iaddr 26 2 (.t 24) (.t 25)⟩, 3, []⟩,
  ⟨⟨none, .faddr 27 0 (.t 26)⟩, 7, []⟩,
  ⟨⟨none, .load 28 none (.t 27)⟩, 15, []⟩,
  ⟨⟨none, .faddr 29 0 (.t 4)⟩, 0, []⟩,
  ⟨⟨none, .load 30 none (.t 29)⟩, 32, []⟩,
  ⟨⟨none, .faddr 31 1 (.t 4)⟩, 0, []⟩,
  ⟨⟨none, .load 32 none (.t 31)⟩, 128, []⟩,
  ⟨⟨none, .bin 33 .sub (.t 32) (.c (.one (.d (.int .i64 1))))⟩, 384, []⟩,
  ⟨⟨none, .callv 34 (.c (.one (.fn k_spec_l1In []))) [(.t 28), (.t 30), (.t 33)]⟩, 1023, []⟩,
  ⟨⟨none, .mov 35 (.t 2)⟩, 0, []⟩,
  ⟨⟨none, .beq 36 false (.t 34) (.t 35)⟩, 4095, []⟩]

abbrev i_spec_l11Scan_r5 : List RO := [
  ⟨⟨none, .mov 37 (.t 7)⟩, 0, []⟩,
  ⟨⟨none, .mov 38 (.t 0)⟩, 0, []⟩,
  ⟨⟨none, .mov 39 (.t 8)⟩, 0, []⟩,
  ⟨⟨none, .iaddr 40 2 (.t 38) (.t 39)⟩, 0, []⟩,
  ⟨⟨none, .load 41 (some 2) (.t 40)⟩, 0, []⟩,
  ⟨⟨none, .bslice 42 2 [(.d (.int .i64 0)), (.d (.int .i64 0))] [(0, 2, (.t 41))]⟩, 0, []⟩,
  ⟨⟨none, .app 43 2 16 [(.int .i64 0), (.int .i64 0)] (.t 37) (.t 42)⟩, 0, []⟩,
  ⟨⟨none, .mov 7 (.t 43)⟩, 0, []⟩]

abbrev i_spec_l11Scan_r6 : List RO := [
  ⟨⟨none, .mov 22 (.t 8)⟩, 0, []⟩,
  ⟨⟨none, .bin 23 .add (.t 22) (.c (.one (.d (.int .i64 1))))⟩, 0, []⟩,
  ⟨⟨none, .mov 8 (.t 23)⟩, 0, []⟩]

abbrev i_spec_l11Scan_r7 : List RO := [
  ⟨⟨none, .mov 44 (.t 7)⟩, 0, []⟩,
  ⟨⟨none, .mov 6 (.t 44)⟩, 0, []⟩]

def i_spec_l11Scan : IC := (.seq (.reg i_spec_l11Scan_r0)
  (.seq (.reg i_spec_l11Scan_r1)
  (.seq (.seq (.reg i_spec_l11Scan_r2)
  (.block 0 (.loop (.seq (.seq (.reg i_spec_l11Scan_r3)
  (.cond (.t 21) .skip (.exit 0)))
  (.seq (.block 1 (.seq (.regd i_spec_l11Scan_r4)
  (.cond (.t 36) (.reg i_spec_l11Scan_r5) .skip)))
  (.reg i_spec_l11Scan_r6))))))
  (.seq (.reg i_spec_l11Scan_r7)
  .ret))))

theorem i_spec_l11Scan_ok : (Try.f67.body.bind fun c => toIC Try.prog 45 c [[(0, []), (0, []), (3, []), (7, []), (15, []), (0, []), (32, []), (0, []), (128, []), (384, []), (1023, []), (0, []), (4095, [])]]) = some (i_spec_l11Scan, []) := by kernel_rfl

theorem i_spec_l11Scan_fn {ds rs : List D} (hle : ds.length ≤ 45) (h : AW Try.prog 45 i_spec_l11Scan (Ends [.tmp 6] rs) (init ds)) : Fn Try.prog k_spec_l11Scan (lent ds) true rs :=
  Fn.intro' (by kernel_rfl) Try.func67 (by kernel_rfl) i_spec_l11Scan_ok (by kernel_rfl) hle h.h

theorem i_spec_l11Scan_fnB {ds rs : List D} (hle : ds.length ≤ 45) (h : AW Try.prog 45 i_spec_l11Scan (EndsB [.tmp 6] rs) (init ds)) : Fn Try.prog k_spec_l11Scan (lent ds) false rs :=
  Fn.introB' (by kernel_rfl) Try.func67 (by kernel_rfl) i_spec_l11Scan_ok (by kernel_rfl) hle h.h

abbrev i_spec_StoreCut_r0 : List RO := [
  ⟨⟨none, .box 3 (.t 1)⟩, 0, []⟩,
  ⟨⟨none, .mov 4 (.c (.one .zs))⟩, 0, []⟩]

abbrev i_spec_StoreCut_r1 : List RO := [
  ⟨⟨none, .mov 5 (.t 0)⟩, 0, []⟩,
  ⟨⟨none, .load 6 (some 2) (.t 3)⟩, 0, []⟩,
  ⟨⟨none, .callv 7 (.c (.one (.fn k_spec_l11Scan []))) [(.t 5), (.t 6), (.c (.one (.d (.bool false))))]⟩, 0, []⟩,
  ⟨⟨none, .mov 4 (.t 7)⟩, 0, []⟩]

def i_spec_StoreCut : IC := (.seq (.reg i_spec_StoreCut_r0)
  (.seq (.reg i_spec_StoreCut_r1)
  .ret))

theorem i_spec_StoreCut_ok : (Try.f16.body.bind fun c => toIC Try.prog 8 c []) = some (i_spec_StoreCut, []) := by kernel_rfl

theorem i_spec_StoreCut_fn {ds rs : List D} (hle : ds.length ≤ 8) (h : AW Try.prog 8 i_spec_StoreCut (Ends [.tmp 4] rs) (init ds)) : Fn Try.prog k_spec_StoreCut (lent ds) true rs :=
  Fn.intro' (by kernel_rfl) Try.func16 (by kernel_rfl) i_spec_StoreCut_ok (by kernel_rfl) hle h.h

theorem i_spec_StoreCut_fnB {ds rs : List D} (hle : ds.length ≤ 8) (h : AW Try.prog 8 i_spec_StoreCut (EndsB [.tmp 4] rs) (init ds)) : Fn Try.prog k_spec_StoreCut (lent ds) false rs :=
  Fn.introB' (by kernel_rfl) Try.func16 (by kernel_rfl) i_spec_StoreCut_ok (by kernel_rfl) hle h.h

abbrev i_impl_from_r0 : List RO := [
  ⟨⟨none, .mov 6 (.c (.one (.d (.bool false))))⟩, 0, []⟩]

abbrev i_impl_from_r1 : List RO := [
  ⟨⟨none, .mov 7 (.t 0)⟩, 0, []⟩,
  ⟨⟨none, .mov 8 (.t 1)⟩, 0, []⟩,
  ⟨⟨none, .bin 9 .geq (.t 7) (.t 8)⟩, 0, []⟩,
  ⟨⟨none, .mov 10 (.t 9)⟩, 0, []⟩,
  ⟨⟨some (10, true), .mov 11 (.t 0)⟩, 0, []⟩,
  ⟨⟨some (10, true), .mov 12 (.t 2)⟩, 0, []⟩,
  ⟨⟨some (10, true), .bin 13 .leq (.t 11) (.t 12)⟩, 0, []⟩,
  ⟨⟨none, .pick 14 (.t 10) (.t 13) (.c (.one (.d (.bool false))))⟩, 0, []⟩,
  ⟨⟨none, .mov 6 (.t 14)⟩, 0, []⟩]

def i_impl_from : IC := (.seq (.reg i_impl_from_r0)
  (.seq (.reg i_impl_from_r1)
  .ret))

theorem i_impl_from_ok : (Try.f146.body.bind fun c => toIC Try.prog 15 c []) = some (i_impl_from, []) := by kernel_rfl

theorem i_impl_from_fn {ds rs : List D} (hle : ds.length ≤ 15) (h : AW Try.prog 15 i_impl_from (Ends [.tmp 6] rs) (init ds)) : Fn Try.prog k_impl_from (lent ds) true rs :=
  Fn.intro' (by kernel_rfl) Try.func146 (by kernel_rfl) i_impl_from_ok (by kernel_rfl) hle h.h

theorem i_impl_from_fnB {ds rs : List D} (hle : ds.length ≤ 15) (h : AW Try.prog 15 i_impl_from (EndsB [.tmp 6] rs) (init ds)) : Fn Try.prog k_impl_from (lent ds) false rs :=
  Fn.introB' (by kernel_rfl) Try.func146 (by kernel_rfl) i_impl_from_ok (by kernel_rfl) hle h.h

abbrev i_impl_isKey_r0 : List RO := [
  ⟨⟨none, .mov 2 (.c (.one (.d (.bool false))))⟩, 0, []⟩]

abbrev i_impl_isKey_r1 : List RO := [
  ⟨⟨none, .mov 3 (.t 0)⟩, 0, []⟩,
  ⟨⟨none, .callv 4 (.c (.one (.fn k_impl_from []))) [(.t 3), (.c (.one (.d (.int .i64 0)))), (.c (.one (.d (.int .i64 999))))]⟩, 0, []⟩,
  ⟨⟨none, .mov 2 (.t 4)⟩, 0, []⟩]

def i_impl_isKey : IC := (.seq (.reg i_impl_isKey_r0)
  (.seq (.reg i_impl_isKey_r1)
  .ret))

theorem i_impl_isKey_ok : (Try.f141.body.bind fun c => toIC Try.prog 5 c []) = some (i_impl_isKey, []) := by kernel_rfl

theorem i_impl_isKey_fn {ds rs : List D} (hle : ds.length ≤ 5) (h : AW Try.prog 5 i_impl_isKey (Ends [.tmp 2] rs) (init ds)) : Fn Try.prog k_impl_isKey (lent ds) true rs :=
  Fn.intro' (by kernel_rfl) Try.func141 (by kernel_rfl) i_impl_isKey_ok (by kernel_rfl) hle h.h

theorem i_impl_isKey_fnB {ds rs : List D} (hle : ds.length ≤ 5) (h : AW Try.prog 5 i_impl_isKey (EndsB [.tmp 2] rs) (init ds)) : Fn Try.prog k_impl_isKey (lent ds) false rs :=
  Fn.introB' (by kernel_rfl) Try.func141 (by kernel_rfl) i_impl_isKey_ok (by kernel_rfl) hle h.h

abbrev i_impl_isWhole_r0 : List RO := [
  ⟨⟨none, .mov 2 (.c (.one (.d (.bool false))))⟩, 0, []⟩]

abbrev i_impl_isWhole_r1 : List RO := [
  ⟨⟨none, .mov 3 (.t 0)⟩, 0, []⟩,
  ⟨⟨none, .callv 4 (.c (.one (.fn k_impl_from []))) [(.t 3), (.c (.one (.d (.int .i64 0)))), (.c (.one (.d (.int .i64 1000000000))))]⟩, 0, []⟩,
  ⟨⟨none, .mov 2 (.t 4)⟩, 0, []⟩]

def i_impl_isWhole : IC := (.seq (.reg i_impl_isWhole_r0)
  (.seq (.reg i_impl_isWhole_r1)
  .ret))

theorem i_impl_isWhole_ok : (Try.f142.body.bind fun c => toIC Try.prog 5 c []) = some (i_impl_isWhole, []) := by kernel_rfl

theorem i_impl_isWhole_fn {ds rs : List D} (hle : ds.length ≤ 5) (h : AW Try.prog 5 i_impl_isWhole (Ends [.tmp 2] rs) (init ds)) : Fn Try.prog k_impl_isWhole (lent ds) true rs :=
  Fn.intro' (by kernel_rfl) Try.func142 (by kernel_rfl) i_impl_isWhole_ok (by kernel_rfl) hle h.h

theorem i_impl_isWhole_fnB {ds rs : List D} (hle : ds.length ≤ 5) (h : AW Try.prog 5 i_impl_isWhole (EndsB [.tmp 2] rs) (init ds)) : Fn Try.prog k_impl_isWhole (lent ds) false rs :=
  Fn.introB' (by kernel_rfl) Try.func142 (by kernel_rfl) i_impl_isWhole_ok (by kernel_rfl) hle h.h

abbrev i_impl_StoreOk_r0 : List RO := [
  ⟨⟨none, .mov 2 (.c (.one (.d (.bool false))))⟩, 0, []⟩]

abbrev i_impl_StoreOk_r1 : List RO := [
  ⟨⟨none, .mov 5 (.t 0)⟩, 0, []⟩,
  ⟨⟨none, .len 6 false (.t 5)⟩, 0, []⟩,
  ⟨⟨none, .mov 7 (.c (.one (.d (.int .i64 0))))⟩, 0, []⟩]

abbrev i_impl_StoreOk_r2 : List RO := [
  ⟨⟨none, .bin 8 .lss (.t 7) (.t 6)⟩, 0, []⟩]

abbrev i_impl_StoreOk_r3 : List RO := [
  ⟨⟨none, .mov 9 (.t 7)⟩, 0, []⟩,
  ⟨⟨none, .iaddr 10 2 (.t 5) (.t 7)⟩, 0, []⟩,
  ⟨⟨none, .load 11 (some 2) (.t 10)⟩, 0, []⟩,
  ⟨⟨none, .var 4 [(.d (.int .i64 0)), (.d (.int .i64 0))]⟩, 0, []⟩,
  ⟨⟨none, .mov 3 (.t 9)⟩, 0, []⟩,
  ⟨⟨none, .store 2 [(.int .i64 0), (.int .i64 0)] (.t 4) (.t 11)⟩, 0, []⟩]

abbrev i_impl_StoreOk_r4 : List RO := [
  ⟨⟨none, .faddr 12 0 (.t 4)⟩, 0, []⟩,
  ⟨⟨none, .load 13 none (.t 12)⟩, 1, []⟩,
  ⟨⟨none, .callv 14 (.c (.one (.fn k_impl_isKey []))) [(.t 13)]⟩, 3, []⟩,
  ⟨⟨none, .inv 15 (.t 14)⟩, 7, []⟩,
  ⟨⟨none, .mov 16 (.t 15)⟩, 15, []⟩,
  ⟨⟨some (16, false), .faddr 17 1 (.t 4)⟩, 31, []⟩,
  ⟨⟨some (16, false), .load 18 none (.t 17)⟩, 63, []⟩,
  ⟨⟨some (16, false), .callv 19 (.c (.one (.fn k_impl_isWhole []))) [(.t 18)]⟩, 127, []⟩,
  ⟨⟨some (16, false), .inv 20 (.t 19)⟩, 255, []⟩,
  ⟨⟨none, .pick 21 (.t 16) (.c (.one (.d (.bool true)))) (.t 20)⟩, 511, []⟩,
  ⟨⟨none, .mov 22 (.t 21)⟩, 1023, []⟩,
  ⟨⟨some (22, false), .mov 23 (.t 3)⟩, 2047, []⟩,
  ⟨⟨some (22, false), .bin 24 .gtr (.t 23) (.c (.one (.d (.int .i64 0))))⟩, 4095, []⟩,
  ⟨⟨some (22, false), .mov 25 (.t 24)⟩, 8191, []⟩,
  ⟨⟨some (25, true), .mov 26 (.t 0)⟩, 16383, []⟩,
  ⟨⟨some (25, true), .mov 27 (.t 3)⟩, 16383, []⟩,
  ⟨⟨some (25, true), .bin 28 .sub (.t 27) (.c (.one (.d (.int .i64 1))))⟩, 49151, []⟩,
  ⟨⟨some (25, true), .iaddr 29 2 (.t 26) (.t 28)⟩, 131071, []⟩,
  ⟨⟨some (25, true), .faddr 30 0 (.t 29)⟩, 262143, []⟩,
  ⟨⟨some (25, true), .load 31 none (.t 30)⟩, 524287, []⟩,
  ⟨⟨some (25, true), .faddr 32 0 (.t 4)⟩, 16383, []⟩,
  ⟨⟨some (25, true), .load 33 none (.t 32)⟩, 1064959, []⟩,
  ⟨⟨some (25, true), .bin 34 .geq (.t 31) (.t 33)⟩, 4194303, []⟩,
  ⟨⟨some (22, false), .pick 35 (.t 25) (.t 34) (.c (.one (.d (.bool false))))⟩, 8388607, []⟩,
  ⟨⟨none, .pick 36 (.t 22) (.c (.one (.d (.bool true)))) (.t 35)⟩, 16777215, []⟩]

abbrev i_impl_StoreOk_r5 : List RO := [
  ⟨⟨none, .mov 2 (.c (.one (.d (.bool false))))⟩, 0, []⟩]

abbrev i_impl_StoreOk_r6 : List RO := [
  ⟨⟨none, .bin 37 .add (.t 7) (.c (.one (.d (.int .i64 1))))⟩, 0, []⟩,
  ⟨⟨none, .mov 7 (.t 37)⟩, 0, []⟩]

abbrev i_impl_StoreOk_r7 : List RO := [
  ⟨⟨none, .mov 38 (.t 0)⟩, 0, []⟩,
  ⟨⟨none, .len 39 false (.t 38)⟩, 0, []⟩,
  ⟨⟨none, .bin 40 .leq (.t 39) (.c (.one (.d (.int .i64 60))))⟩, 0, []⟩,
  ⟨⟨none, .mov 2 (.t 40)⟩, 0, []⟩]

def i_impl_StoreOk : IC := (.seq (.reg i_impl_StoreOk_r0)
  (.seq (.seq (.reg i_impl_StoreOk_r1)
  (.block 0 (.loop (.seq (.reg i_impl_StoreOk_r2)
  (.seq (.cond (.t 8) .skip (.exit 0))
  (.seq (.block 1 (.seq (.reg i_impl_StoreOk_r3)
  (.seq (.regd i_impl_StoreOk_r4)
  (.cond (.t 36) (.seq (.reg i_impl_StoreOk_r5)
  .ret) .skip))))
  (.reg i_impl_StoreOk_r6)))))))
  (.seq (.reg i_impl_StoreOk_r7)
  .ret)))

theorem i_impl_StoreOk_ok : (Try.f84.body.bind fun c => toIC Try.prog 41 c [[(0, []), (1, []), (3, []), (7, []), (15, []), (31, []), (63, []), (127, []), (255, []), (511, []), (1023, []), (2047, []), (4095, []), (8191, []), (16383, []), (16383, []), (49151, []), (131071, []), (262143, []), (524287, []), (16383, []), (1064959, []), (4194303, []), (8388607, []), (16777215, [])]]) = some (i_impl_StoreOk, []) := by kernel_rfl

theorem i_impl_StoreOk_fn {ds rs : List D} (hle : ds.length ≤ 41) (h : AW Try.prog 41 i_impl_StoreOk (Ends [.tmp 2] rs) (init ds)) : Fn Try.prog k_impl_StoreOk (lent ds) true rs :=
  Fn.intro' (by kernel_rfl) Try.func84 (by kernel_rfl) i_impl_StoreOk_ok (by kernel_rfl) hle h.h

theorem i_impl_StoreOk_fnB {ds rs : List D} (hle : ds.length ≤ 41) (h : AW Try.prog 41 i_impl_StoreOk (EndsB [.tmp 2] rs) (init ds)) : Fn Try.prog k_impl_StoreOk (lent ds) false rs :=
  Fn.introB' (by kernel_rfl) Try.func84 (by kernel_rfl) i_impl_StoreOk_ok (by kernel_rfl) hle h.h

abbrev i_impl_RangeOk_r0 : List RO := [
  ⟨⟨none, .box 1 (.t 0)⟩, 0, []⟩,
  ⟨⟨none, .mov 2 (.c (.one (.d (.bool false))))⟩, 0, []⟩]

abbrev i_impl_RangeOk_r1 : List RO := [
  ⟨⟨none, .faddr 3 0 (.t 1)⟩, 0, []⟩,
  ⟨⟨none, .load 4 none (.t 3)⟩, 0, []⟩,
  ⟨⟨none, .bin 5 .geq (.t 4) (.c (.one (.d (.int .i64 0))))⟩, 0, []⟩,
  ⟨⟨none, .mov 6 (.t 5)⟩, 0, []⟩,
  ⟨⟨some (6, true), .faddr 7 0 (.t 1)⟩, 0, []⟩,
  ⟨⟨some (6, true), .load 8 none (.t 7)⟩, 0, []⟩,
  ⟨⟨some (6, true), .faddr 9 1 (.t 1)⟩, 0, []⟩,
  ⟨⟨some (6, true), .load 10 none (.t 9)⟩, 0, []⟩,
  ⟨⟨some (6, true), .bin 11 .lss (.t 8) (.t 10)⟩, 0, []⟩,
  ⟨⟨none, .pick 12 (.t 6) (.t 11) (.c (.one (.d (.bool false))))⟩, 0, []⟩,
  ⟨⟨none, .mov 13 (.t 12)⟩, 0, []⟩,
  ⟨⟨some (13, true), .faddr 14 1 (.t 1)⟩, 0, []⟩,
  ⟨⟨some (13, true), .load 15 none (.t 14)⟩, 0, []⟩,
  ⟨⟨some (13, true), .bin 16 .leq (.t 15) (.c (.one (.d (.int .i64 1000))))⟩, 0, []⟩,
  ⟨⟨none, .pick 17 (.t 13) (.t 16) (.c (.one (.d (.bool false))))⟩, 0, []⟩,
  ⟨⟨none, .mov 2 (.t 17)⟩, 0, []⟩]

def i_impl_RangeOk : IC := (.seq (.reg i_impl_RangeOk_r0)
  (.seq (.reg i_impl_RangeOk_r1)
  .ret))

theorem i_impl_RangeOk_ok : (Try.f124.body.bind fun c => toIC Try.prog 18 c []) = some (i_impl_RangeOk, []) := by kernel_rfl

theorem i_impl_RangeOk_fn {ds rs : List D} (hle : ds.length ≤ 18) (h : AW Try.prog 18 i_impl_RangeOk (Ends [.tmp 2] rs) (init ds)) : Fn Try.prog k_impl_RangeOk (lent ds) true rs :=
  Fn.intro' (by kernel_rfl) Try.func124 (by kernel_rfl) i_impl_RangeOk_ok (by kernel_rfl) hle h.h

theorem i_impl_RangeOk_fnB {ds rs : List D} (hle : ds.length ≤ 18) (h : AW Try.prog 18 i_impl_RangeOk (EndsB [.tmp 2] rs) (init ds)) : Fn Try.prog k_impl_RangeOk (lent ds) false rs :=
  Fn.introB' (by kernel_rfl) Try.func124 (by kernel_rfl) i_impl_RangeOk_ok (by kernel_rfl) hle h.h

abbrev i_slices_Clone___impl_Cell_impl_Cell__r0 : List RO := [
  ⟨⟨none, .mov 2 (.c (.one .zs))⟩, 0, []⟩]

abbrev i_slices_Clone___impl_Cell_impl_Cell__r1 : List RO := [
  ⟨⟨none, .mov 3 (.t 0)⟩, 0, []⟩,
  ⟨⟨none, .isnil 4 false (.t 3)⟩, 0, []⟩]

abbrev i_slices_Clone___impl_Cell_impl_Cell__r2 : List RO := [
  ⟨⟨none, .mov 2 (.c (.one .zs))⟩, 0, []⟩]

abbrev i_slices_Clone___impl_Cell_impl_Cell__r3 : List RO := [
  ⟨⟨none, .bslice 5 2 [] []⟩, 0, []⟩,
  ⟨⟨none, .mov 6 (.t 0)⟩, 0, []⟩,
  ⟨⟨none, .app 7 2 16 [(.int .i64 0), (.int .i64 0)] (.t 5) (.t 6)⟩, 0, []⟩,
  ⟨⟨none, .mov 2 (.t 7)⟩, 0, []⟩]

def i_slices_Clone___impl_Cell_impl_Cell_ : IC := (.seq (.reg i_slices_Clone___impl_Cell_impl_Cell__r0)
  (.seq (.seq (.reg i_slices_Clone___impl_Cell_impl_Cell__r1)
  (.cond (.t 4) (.seq (.reg i_slices_Clone___impl_Cell_impl_Cell__r2)
  .ret) .skip))
  (.seq (.reg i_slices_Clone___impl_Cell_impl_Cell__r3)
  .ret)))

theorem i_slices_Clone___impl_Cell_impl_Cell__ok : (Try.f87.body.bind fun c => toIC Try.prog 8 c []) = some (i_slices_Clone___impl_Cell_impl_Cell_, []) := by kernel_rfl

theorem i_slices_Clone___impl_Cell_impl_Cell__fn {ds rs : List D} (hle : ds.length ≤ 8) (h : AW Try.prog 8 i_slices_Clone___impl_Cell_impl_Cell_ (Ends [.tmp 2] rs) (init ds)) : Fn Try.prog k_slices_Clone___impl_Cell_impl_Cell_ (lent ds) true rs :=
  Fn.intro' (by kernel_rfl) Try.func87 (by kernel_rfl) i_slices_Clone___impl_Cell_impl_Cell__ok (by kernel_rfl) hle h.h

theorem i_slices_Clone___impl_Cell_impl_Cell__fnB {ds rs : List D} (hle : ds.length ≤ 8) (h : AW Try.prog 8 i_slices_Clone___impl_Cell_impl_Cell_ (EndsB [.tmp 2] rs) (init ds)) : Fn Try.prog k_slices_Clone___impl_Cell_impl_Cell_ (lent ds) false rs :=
  Fn.introB' (by kernel_rfl) Try.func87 (by kernel_rfl) i_slices_Clone___impl_Cell_impl_Cell__ok (by kernel_rfl) hle h.h

abbrev i__impl_Range_has_r0 : List RO := [
  ⟨⟨none, .box 2 (.t 0)⟩, 0, []⟩,
  ⟨⟨none, .mov 4 (.c (.one (.d (.bool false))))⟩, 0, []⟩]

abbrev i__impl_Range_has_r1 : List RO := [
  ⟨⟨none, .mov 5 (.t 1)⟩, 0, []⟩,
  ⟨⟨none, .faddr 6 0 (.t 2)⟩, 0, []⟩,
  ⟨⟨none, .load 7 none (.t 6)⟩, 0, []⟩,
  ⟨⟨none, .faddr 8 1 (.t 2)⟩, 0, []⟩,
  ⟨⟨none, .load 9 none (.t 8)⟩, 0, []⟩,
  ⟨⟨none, .bin 10 .sub (.t 9) (.c (.one (.d (.int .i64 1))))⟩, 0, []⟩,
  ⟨⟨none, .callv 11 (.c (.one (.fn k_impl_from []))) [(.t 5), (.t 7), (.t 10)]⟩, 0, []⟩,
  ⟨⟨none, .mov 4 (.t 11)⟩, 0, []⟩]

def i__impl_Range_has : IC := (.seq (.reg i__impl_Range_has_r0)
  (.seq (.reg i__impl_Range_has_r1)
  .ret))

theorem i__impl_Range_has_ok : (Try.f127.body.bind fun c => toIC Try.prog 12 c []) = some (i__impl_Range_has, []) := by kernel_rfl

theorem i__impl_Range_has_fn {ds rs : List D} (hle : ds.length ≤ 12) (h : AW Try.prog 12 i__impl_Range_has (Ends [.tmp 4] rs) (init ds)) : Fn Try.prog k__impl_Range_has (lent ds) true rs :=
  Fn.intro' (by kernel_rfl) Try.func127 (by kernel_rfl) i__impl_Range_has_ok (by kernel_rfl) hle h.h

theorem i__impl_Range_has_fnB {ds rs : List D} (hle : ds.length ≤ 12) (h : AW Try.prog 12 i__impl_Range_has (EndsB [.tmp 4] rs) (init ds)) : Fn Try.prog k__impl_Range_has (lent ds) false rs :=
  Fn.introB' (by kernel_rfl) Try.func127 (by kernel_rfl) i__impl_Range_has_ok (by kernel_rfl) hle h.h

abbrev i_impl_within_1_r0 : List RO := [
  ⟨⟨none, .box 3 (.t 0)⟩, 0, []⟩,
  ⟨⟨none, .mov 4 (.c (.one (.d (.bool false))))⟩, 0, []⟩]

abbrev i_impl_within_1_r1 : List RO := [
  ⟨⟨none, .load 5 (some 2) (.t 1)⟩, 0, []⟩,
  ⟨⟨none, .faddr 6 0 (.t 3)⟩, 0, []⟩,
  ⟨⟨none, .load 7 none (.t 6)⟩, 2, []⟩,
  ⟨⟨none, .callv 8 (.c (.one (.fn k__impl_Range_has []))) [(.t 5), (.t 7)]⟩, 7, []⟩,
  ⟨⟨none, .load 9 none (.t 2)⟩, 0, [8]⟩,
  ⟨⟨none, .beq 10 true (.t 8) (.t 9)⟩, 31, []⟩,
  ⟨⟨none, .mov 4 (.t 10)⟩, 63, []⟩]

def i_impl_within_1 : IC := (.seq (.reg i_impl_within_1_r0)
  (.seq (.regd i_impl_within_1_r1)
  .ret))

theorem i_impl_within_1_ok : (Try.f126.body.bind fun c => toIC Try.prog 11 c [[(0, []), (0, []), (2, []), (7, []), (0, [8]), (31, []), (63, [])]]) = some (i_impl_within_1, []) := by kernel_rfl

theorem i_impl_within_1_fn {ds rs : List D} (hle : ds.length ≤ 11) (h : AW Try.prog 11 i_impl_within_1 (Ends [.tmp 4] rs) (init ds)) : Fn Try.prog k_impl_within_1 (lent ds) true rs :=
  Fn.intro' (by kernel_rfl) Try.func126 (by kernel_rfl) i_impl_within_1_ok (by kernel_rfl) hle h.h

theorem i_impl_within_1_fnB {ds rs : List D} (hle : ds.length ≤ 11) (h : AW Try.prog 11 i_impl_within_1 (EndsB [.tmp 4] rs) (init ds)) : Fn Try.prog k_impl_within_1 (lent ds) false rs :=
  Fn.introB' (by kernel_rfl) Try.func126 (by kernel_rfl) i_impl_within_1_ok (by kernel_rfl) hle h.h

abbrev i_slices_IndexFunc___impl_Cell_impl_Cell__r0 : List RO := [
  ⟨⟨none, .mov 4 (.c (.one (.d (.int .i64 0))))⟩, 0, []⟩]

abbrev i_slices_IndexFunc___impl_Cell_impl_Cell__r1 : List RO := [
  ⟨⟨none, .mov 6 (.t 0)⟩, 0, []⟩,
  ⟨⟨none, .len 7 false (.t 6)⟩, 0, []⟩,
  ⟨⟨none, .mov 8 (.c (.one (.d (.int .i64 0))))⟩, 0, []⟩]

abbrev i_slices_IndexFunc___impl_Cell_impl_Cell__r2 : List RO := [
  ⟨⟨none, .bin 9 .lss (.t 8) (.t 7)⟩, 0, []⟩]

abbrev i_slices_IndexFunc___impl_Cell_impl_Cell__r3 : List RO := [
  ⟨⟨none, .mov 10 (.t 8)⟩, 0, []⟩,
  ⟨⟨none, .mov 5 (.t 10)⟩, 0, []⟩]

abbrev i_slices_IndexFunc___impl_Cell_impl_Cell__r4 : List RO := [
  ⟨⟨none, .mov 11 (.t 1)⟩, 0, []⟩,
  ⟨⟨none, .mov 12 (.t 0)⟩, 0, []⟩,
  ⟨⟨none, .mov 13 (.t 5)⟩, 0, []⟩,
  ⟨⟨none, .iaddr 14 2 (.t 12) (.t 13)⟩, 0, []⟩,
  ⟨⟨none, .load 15 (some 2) (.t 14)⟩, 0, []⟩,
  ⟨⟨none, .callv 16 (.t 11) [(.t 15)]⟩, 0, []⟩]

abbrev i_slices_IndexFunc___impl_Cell_impl_Cell__r5 : List RO := [
  ⟨⟨none, .mov 17 (.t 5)⟩, 0, []⟩,
  ⟨⟨none, .mov 4 (.t 17)⟩, 0, []⟩]

abbrev i_slices_IndexFunc___impl_Cell_impl_Cell__r6 : List RO := [
  ⟨⟨none, .bin 18 .add (.t 8) (.c (.one (.d (.int .i64 1))))⟩, 0, []⟩,
  ⟨⟨none, .mov 8 (.t 18)⟩, 0, []⟩]

abbrev i_slices_IndexFunc___impl_Cell_impl_Cell__r7 : List RO := [
  ⟨⟨none, .mov 4 (.c (.one (.d (.int .i64 (-1)))))⟩, 0, []⟩]

def i_slices_IndexFunc___impl_Cell_impl_Cell_ : IC := (.seq (.reg i_slices_IndexFunc___impl_Cell_impl_Cell__r0)
  (.seq (.seq (.reg i_slices_IndexFunc___impl_Cell_impl_Cell__r1)
  (.block 0 (.loop (.seq (.reg i_slices_IndexFunc___impl_Cell_impl_Cell__r2)
  (.seq (.cond (.t 9) .skip (.exit 0))
  (.seq (.block 1 (.seq (.reg i_slices_IndexFunc___impl_Cell_impl_Cell__r3)
  (.seq (.reg i_slices_IndexFunc___impl_Cell_impl_Cell__r4)
  (.cond (.t 16) (.seq (.reg i_slices_IndexFunc___impl_Cell_impl_Cell__r5)
  .ret) .skip))))
  (.reg i_slices_IndexFunc___impl_Cell_impl_Cell__r6)))))))
  (.seq (.reg i_slices_IndexFunc___impl_Cell_impl_Cell__r7)
  .ret)))

theorem i_slices_IndexFunc___impl_Cell_impl_Cell__ok : (Try.f163.body.bind fun c => toIC Try.prog 19 c []) = some (i_slices_IndexFunc___impl_Cell_impl_Cell_, []) := by kernel_rfl

theorem i_slices_IndexFunc___impl_Cell_impl_Cell__fn {ds rs : List D} (hle : ds.length ≤ 19) (h : AW Try.prog 19 i_slices_IndexFunc___impl_Cell_impl_Cell_ (Ends [.tmp 4] rs) (init ds)) : Fn Try.prog k_slices_IndexFunc___impl_Cell_impl_Cell_ (lent ds) true rs :=
  Fn.intro' (by kernel_rfl) Try.func163 (by kernel_rfl) i_slices_IndexFunc___impl_Cell_impl_Cell__ok (by kernel_rfl) hle h.h

theorem i_slices_IndexFunc___impl_Cell_impl_Cell__fnB {ds rs : List D} (hle : ds.length ≤ 19) (h : AW Try.prog 19 i_slices_IndexFunc___impl_Cell_impl_Cell_ (EndsB [.tmp 4] rs) (init ds)) : Fn Try.prog k_slices_IndexFunc___impl_Cell_impl_Cell_ (lent ds) false rs :=
  Fn.introB' (by kernel_rfl) Try.func163 (by kernel_rfl) i_slices_IndexFunc___impl_Cell_impl_Cell__ok (by kernel_rfl) hle h.h

abbrev i_slices_DeleteFunc___impl_Cell_impl_Cell__r0 : List RO := [
  ⟨⟨none, .mov 4 (.c (.one .zs))⟩, 0, []⟩]

abbrev i_slices_DeleteFunc___impl_Cell_impl_Cell__r1 : List RO := [
  ⟨⟨none, .mov 8 (.t 0)⟩, 0, []⟩,
  ⟨⟨none, .mov 9 (.t 1)⟩, 0, []⟩,
  ⟨⟨none, .callv 10 (.c (.one (.fn k_slices_IndexFunc___impl_Cell_impl_Cell_ []))) [(.t 8), (.t 9)]⟩, 0, []⟩,
  ⟨⟨none, .mov 5 (.t 10)⟩, 0, []⟩]

abbrev i_slices_DeleteFunc___impl_Cell_impl_Cell__r2 : List RO := [
  ⟨⟨none, .mov 11 (.t 5)⟩, 0, []⟩,
  ⟨⟨none, .bin 12 .eql (.t 11) (.c (.one (.d (.int .i64 (-1)))))⟩, 0, []⟩]

abbrev i_slices_DeleteFunc___impl_Cell_impl_Cell__r3 : List RO := [
  ⟨⟨none, .mov 13 (.t 0)⟩, 0, []⟩,
  ⟨⟨none, .mov 4 (.t 13)⟩, 0, []⟩]

abbrev i_slices_DeleteFunc___impl_Cell_impl_Cell__r4 : List RO := [
  ⟨⟨none, .mov 14 (.t 5)⟩, 0, []⟩,
  ⟨⟨none, .bin 15 .add (.t 14) (.c (.one (.d (.int .i64 1))))⟩, 0, []⟩,
  ⟨⟨none, .mov 6 (.t 15)⟩, 0, []⟩]

abbrev i_slices_DeleteFunc___impl_Cell_impl_Cell__r5 : List RO := [
  ⟨⟨none, .mov 16 (.t 6)⟩, 0, []⟩,
  ⟨⟨none, .mov 17 (.t 0)⟩, 0, []⟩,
  ⟨⟨none, .len 18 false (.t 17)⟩, 0, []⟩,
  ⟨⟨none, .bin 19 .lss (.t 16) (.t 18)⟩, 0, []⟩]

abbrev i_slices_DeleteFunc___impl_Cell_impl_Cell__r6 : List RO := [
  ⟨⟨none, .mov 22 (.t 0)⟩, 0, []⟩,
  ⟨⟨none, .mov 23 (.t 6)⟩, 0, []⟩,
  ⟨⟨none, .iaddr 24 2 (.t 22) (.t 23)⟩, 0, []⟩,
  ⟨⟨none, .load 25 (some 2) (.t 24)⟩, 0, []⟩,
  ⟨⟨none, .var 7 [(.d (.int .i64 0)), (.d (.int .i64 0))]⟩, 0, []⟩,
  ⟨⟨none, .store 2 [(.int .i64 0), (.int .i64 0)] (.t 7) (.t 25)⟩, 0, []⟩]

abbrev i_slices_DeleteFunc___impl_Cell_impl_Cell__r7 : List RO := [
  ⟨⟨none, .mov 26 (.t 1)⟩, 0, []⟩,
  ⟨⟨none, .load 27 (some 2) (.t 7)⟩, 0, []⟩,
  ⟨⟨none, .callv 28 (.t 26) [(.t 27)]⟩, 0, []⟩,
  ⟨⟨none, .inv 29 (.t 28)⟩, 0, []⟩]

abbrev i_slices_DeleteFunc___impl_Cell_impl_Cell__r8 : List RO := [
  ⟨⟨none, .mov 30 (.t 0)⟩, 0, []⟩,
  ⟨⟨none, .mov 31 (.t 5)⟩, 0, []⟩,
  ⟨⟨none, .load 32 (some 2) (.t 7)⟩, 0, []⟩,
  ⟨⟨none, .iaddr 33 2 (.t 30) (.t 31)⟩, 0, []⟩,
  ⟨⟨none, .store 2 [(.int .i64 0), (.int .i64 0)] (.t 33) (.t 32)⟩, 0, []⟩]

abbrev i_slices_DeleteFunc___impl_Cell_impl_Cell__r9 : List RO := [
  ⟨⟨none, .mov 34 (.t 5)⟩, 0, []⟩,
  ⟨⟨none, .bin 35 .add (.t 34) (.c (.one (.d (.int .i64 1))))⟩, 0, []⟩,
  ⟨⟨none, .mov 5 (.t 35)⟩, 0, []⟩]

abbrev i_slices_DeleteFunc___impl_Cell_impl_Cell__r10 : List RO := [
  ⟨⟨none, .mov 20 (.t 6)⟩, 0, []⟩,
  ⟨⟨none, .bin 21 .add (.t 20) (.c (.one (.d (.int .i64 1))))⟩, 0, []⟩,
  ⟨⟨none, .mov 6 (.t 21)⟩, 0, []⟩]

abbrev i_slices_DeleteFunc___impl_Cell_impl_Cell__r11 : List RO := [
  ⟨⟨none, .mov 36 (.t 0)⟩, 0, []⟩,
  ⟨⟨none, .mov 37 (.t 5)⟩, 0, []⟩,
  ⟨⟨none, .slice 38 2 (.t 36) (some (.t 37)) none none⟩, 0, []⟩,
  ⟨⟨none, .clear 2 [(.int .i64 0), (.int .i64 0)] (.t 38)⟩, 0, []⟩]

abbrev i_slices_DeleteFunc___impl_Cell_impl_Cell__r12 : List RO := [
  ⟨⟨none, .mov 39 (.t 0)⟩, 0, []⟩,
  ⟨⟨none, .mov 40 (.t 5)⟩, 0, []⟩,
  ⟨⟨none, .slice 41 2 (.t 39) none (some (.t 40)) none⟩, 0, []⟩,
  ⟨⟨none, .mov 4 (.t 41)⟩, 0, []⟩]

def i_slices_DeleteFunc___impl_Cell_impl_Cell_ : IC := (.seq (.reg i_slices_DeleteFunc___impl_Cell_impl_Cell__r0)
  (.seq (.reg i_slices_DeleteFunc___impl_Cell_impl_Cell__r1)
  (.seq (.seq (.reg i_slices_DeleteFunc___impl_Cell_impl_Cell__r2)
  (.cond (.t 12) (.seq (.reg i_slices_DeleteFunc___impl_Cell_impl_Cell__r3)
  .ret) .skip))
  (.seq (.seq (.reg i_slices_DeleteFunc___impl_Cell_impl_Cell__r4)
  (.block 0 (.loop (.seq (.seq (.reg i_slices_DeleteFunc___impl_Cell_impl_Cell__r5)
  (.cond (.t 19) .skip (.exit 0)))
  (.seq (.block 1 (.seq (.reg i_slices_DeleteFunc___impl_Cell_impl_Cell__r6)
  (.seq (.reg i_slices_DeleteFunc___impl_Cell_impl_Cell__r7)
  (.cond (.t 29) (.seq (.reg i_slices_DeleteFunc___impl_Cell_impl_Cell__r8)
  (.reg i_slices_DeleteFunc___impl_Cell_impl_Cell__r9)) .skip))))
  (.reg i_slices_DeleteFunc___impl_Cell_impl_Cell__r10))))))
  (.seq (.reg i_slices_DeleteFunc___impl_Cell_impl_Cell__r11)
  (.seq (.reg i_slices_DeleteFunc___impl_Cell_impl_Cell__r12)
  .ret))))))

theorem i_slices_DeleteFunc___impl_Cell_impl_Cell__ok : (Try.f125.body.bind fun c => toIC Try.prog 42 c []) = some (i_slices_DeleteFunc___impl_Cell_impl_Cell_, []) := by kernel_rfl

theorem i_slices_DeleteFunc___impl_Cell_impl_Cell__fn {ds rs : List D} (hle : ds.length ≤ 42) (h : AW Try.prog 42 i_slices_DeleteFunc___impl_Cell_impl_Cell_ (Ends [.tmp 4] rs) (init ds)) : Fn Try.prog k_slices_DeleteFunc___impl_Cell_impl_Cell_ (lent ds) true rs :=
  Fn.intro' (by kernel_rfl) Try.func125 (by kernel_rfl) i_slices_DeleteFunc___impl_Cell_impl_Cell__ok (by kernel_rfl) hle h.h

theorem i_slices_DeleteFunc___impl_Cell_impl_Cell__fnB {ds rs : List D} (hle : ds.length ≤ 42) (h : AW Try.prog 42 i_slices_DeleteFunc___impl_Cell_impl_Cell_ (EndsB [.tmp 4] rs) (init ds)) : Fn Try.prog k_slices_DeleteFunc___impl_Cell_impl_Cell_ (lent ds) false rs :=
  Fn.introB' (by kernel_rfl) Try.func125 (by kernel_rfl) i_slices_DeleteFunc___impl_Cell_impl_Cell__ok (by kernel_rfl) hle h.h

theorem i_slices_DeleteFunc___impl_Cell_impl_Cell__fnM {ars : List Ar} {rs : List D} (hle : ars.length ≤ 42) (hfr : freshL ⟨fun _ => .top, fun _ => none, fun _ => .top⟩ ((argB 0 ars).2.map (·.1))) (hlt : ((argB 0 ars).2.map (·.1)).all (fun n => Nat.ble n 1999999) = true) (h : AW Try.prog 42 i_slices_DeleteFunc___impl_Cell_impl_Cell_ (EndsM ars [.tmp 4] rs) (initM ars)) : Fn Try.prog k_slices_DeleteFunc___impl_Cell_impl_Cell_ ars true rs :=
  Fn.introM' (by kernel_rfl) Try.func125 (by kernel_rfl) i_slices_DeleteFunc___impl_Cell_impl_Cell__ok (by kernel_rfl) hle hfr hlt h.h

abbrev i_impl_within_r0 : List RO := [
  ⟨⟨none, .box 4 (.t 1)⟩, 0, []⟩,
  ⟨⟨none, .box 5 (.t 2)⟩, 0, []⟩,
  ⟨⟨none, .mov 6 (.c (.one .zs))⟩, 0, []⟩]

abbrev i_impl_within_r1 : List RO := [
  ⟨⟨none, .mov 7 (.t 0)⟩, 0, []⟩,
  ⟨⟨none, .callv 8 (.c (.one (.fn k_impl_StoreOk []))) [(.t 7)]⟩, 0, []⟩,
  ⟨⟨none, .inv 9 (.t 8)⟩, 0, []⟩,
  ⟨⟨none, .mov 10 (.t 9)⟩, 0, []⟩,
  ⟨⟨some (10, false), .load 11 (some 2) (.t 4)⟩, 0, []⟩,
  ⟨⟨some (10, false), .callv 12 (.c (.one (.fn k_impl_RangeOk []))) [(.t 11)]⟩, 0, []⟩,
  ⟨⟨some (10, false), .inv 13 (.t 12)⟩, 0, []⟩,
  ⟨⟨none, .pick 14 (.t 10) (.c (.one (.d (.bool true)))) (.t 13)⟩, 0, []⟩]

abbrev i_impl_within_r2 : List RO := [
  ⟨⟨none, .mov 6 (.c (.one .zs))⟩, 0, []⟩]

abbrev i_impl_within_r3 : List RO := [
  ⟨⟨none, .mov 15 (.t 0)⟩, 0, []⟩,
  ⟨⟨none, .callv 16 (.c (.one (.fn k_slices_Clone___impl_Cell_impl_Cell_ []))) [(.t 15)]⟩, 0, []⟩,
  ⟨⟨none, .mkfn 17 k_impl_within_1 [(.t 4), (.t 5)]⟩, 0, []⟩,
  ⟨⟨none, .callv 18 (.c (.one (.fn k_slices_DeleteFunc___impl_Cell_impl_Cell_ []))) [(.t 16), (.t 17)]⟩, 0, []⟩,
  ⟨⟨none, .mov 6 (.t 18)⟩, 0, []⟩]

def i_impl_within : IC := (.seq (.reg i_impl_within_r0)
  (.seq (.seq (.reg i_impl_within_r1)
  (.cond (.t 14) (.seq (.reg i_impl_within_r2)
  .ret) .skip))
  (.seq (.reg i_impl_within_r3)
  .ret)))

theorem i_impl_within_ok : (Try.f69.body.bind fun c => toIC Try.prog 19 c []) = some (i_impl_within, []) := by kernel_rfl

theorem i_impl_within_fn {ds rs : List D} (hle : ds.length ≤ 19) (h : AW Try.prog 19 i_impl_within (Ends [.tmp 6] rs) (init ds)) : Fn Try.prog k_impl_within (lent ds) true rs :=
  Fn.intro' (by kernel_rfl) Try.func69 (by kernel_rfl) i_impl_within_ok (by kernel_rfl) hle h.h

theorem i_impl_within_fnB {ds rs : List D} (hle : ds.length ≤ 19) (h : AW Try.prog 19 i_impl_within (EndsB [.tmp 6] rs) (init ds)) : Fn Try.prog k_impl_within (lent ds) false rs :=
  Fn.introB' (by kernel_rfl) Try.func69 (by kernel_rfl) i_impl_within_ok (by kernel_rfl) hle h.h

abbrev i_impl_StoreCut_r0 : List RO := [
  ⟨⟨none, .box 3 (.t 1)⟩, 0, []⟩,
  ⟨⟨none, .mov 4 (.c (.one .zs))⟩, 0, []⟩]

abbrev i_impl_StoreCut_r1 : List RO := [
  ⟨⟨none, .mov 5 (.t 0)⟩, 0, []⟩,
  ⟨⟨none, .load 6 (some 2) (.t 3)⟩, 0, []⟩,
  ⟨⟨none, .callv 7 (.c (.one (.fn k_impl_within []))) [(.t 5), (.t 6), (.c (.one (.d (.bool false))))]⟩, 0, []⟩,
  ⟨⟨none, .mov 4 (.t 7)⟩, 0, []⟩]

def i_impl_StoreCut : IC := (.seq (.reg i_impl_StoreCut_r0)
  (.seq (.reg i_impl_StoreCut_r1)
  .ret))

theorem i_impl_StoreCut_ok : (Try.f19.body.bind fun c => toIC Try.prog 8 c []) = some (i_impl_StoreCut, []) := by kernel_rfl

theorem i_impl_StoreCut_fn {ds rs : List D} (hle : ds.length ≤ 8) (h : AW Try.prog 8 i_impl_StoreCut (Ends [.tmp 4] rs) (init ds)) : Fn Try.prog k_impl_StoreCut (lent ds) true rs :=
  Fn.intro' (by kernel_rfl) Try.func19 (by kernel_rfl) i_impl_StoreCut_ok (by kernel_rfl) hle h.h

theorem i_impl_StoreCut_fnB {ds rs : List D} (hle : ds.length ≤ 8) (h : AW Try.prog 8 i_impl_StoreCut (EndsB [.tmp 4] rs) (init ds)) : Fn Try.prog k_impl_StoreCut (lent ds) false rs :=
  Fn.introB' (by kernel_rfl) Try.func19 (by kernel_rfl) i_impl_StoreCut_ok (by kernel_rfl) hle h.h

abbrev i_laws_eqCell_r0 : List RO := [
  ⟨⟨none, .box 2 (.t 0)⟩, 0, []⟩,
  ⟨⟨none, .box 3 (.t 1)⟩, 0, []⟩,
  ⟨⟨none, .mov 4 (.c (.one (.d (.bool false))))⟩, 0, []⟩]

abbrev i_laws_eqCell_r1 : List RO := [
  ⟨⟨none, .faddr 5 0 (.t 2)⟩, 0, []⟩,
  ⟨⟨none, .load 6 none (.t 5)⟩, 0, []⟩,
  ⟨⟨none, .faddr 7 0 (.t 3)⟩, 0, []⟩,
  ⟨⟨none, .load 8 none (.t 7)⟩, 0, []⟩,
  ⟨⟨none, .bin 9 .neq (.t 6) (.t 8)⟩, 0, []⟩]

abbrev i_laws_eqCell_r2 : List RO := [
  ⟨⟨none, .mov 4 (.c (.one (.d (.bool false))))⟩, 0, []⟩]

abbrev i_laws_eqCell_r3 : List RO := [
  ⟨⟨none, .faddr 10 1 (.t 2)⟩, 0, []⟩,
  ⟨⟨none, .load 11 none (.t 10)⟩, 0, []⟩,
  ⟨⟨none, .faddr 12 1 (.t 3)⟩, 0, []⟩,
  ⟨⟨none, .load 13 none (.t 12)⟩, 0, []⟩,
  ⟨⟨none, .bin 14 .neq (.t 11) (.t 13)⟩, 0, []⟩]

abbrev i_laws_eqCell_r4 : List RO := [
  ⟨⟨none, .mov 4 (.c (.one (.d (.bool false))))⟩, 0, []⟩]

abbrev i_laws_eqCell_r5 : List RO := [
  ⟨⟨none, .mov 4 (.c (.one (.d (.bool true))))⟩, 0, []⟩]

def i_laws_eqCell : IC := (.seq (.reg i_laws_eqCell_r0)
  (.seq (.seq (.reg i_laws_eqCell_r1)
  (.cond (.t 9) (.seq (.reg i_laws_eqCell_r2)
  .ret) .skip))
  (.seq (.seq (.reg i_laws_eqCell_r3)
  (.cond (.t 14) (.seq (.reg i_laws_eqCell_r4)
  .ret) .skip))
  (.seq (.reg i_laws_eqCell_r5)
  .ret))))

theorem i_laws_eqCell_ok : (Try.f70.body.bind fun c => toIC Try.prog 15 c []) = some (i_laws_eqCell, []) := by kernel_rfl

theorem i_laws_eqCell_fn {ds rs : List D} (hle : ds.length ≤ 15) (h : AW Try.prog 15 i_laws_eqCell (Ends [.tmp 4] rs) (init ds)) : Fn Try.prog k_laws_eqCell (lent ds) true rs :=
  Fn.intro' (by kernel_rfl) Try.func70 (by kernel_rfl) i_laws_eqCell_ok (by kernel_rfl) hle h.h

theorem i_laws_eqCell_fnB {ds rs : List D} (hle : ds.length ≤ 15) (h : AW Try.prog 15 i_laws_eqCell (EndsB [.tmp 4] rs) (init ds)) : Fn Try.prog k_laws_eqCell (lent ds) false rs :=
  Fn.introB' (by kernel_rfl) Try.func70 (by kernel_rfl) i_laws_eqCell_ok (by kernel_rfl) hle h.h

abbrev i_laws_eqCellS_r0 : List RO := [
  ⟨⟨none, .mov 4 (.c (.one (.d (.bool false))))⟩, 0, []⟩]

abbrev i_laws_eqCellS_r1 : List RO := [
  ⟨⟨none, .mov 6 (.t 0)⟩, 0, []⟩,
  ⟨⟨none, .len 7 false (.t 6)⟩, 0, []⟩,
  ⟨⟨none, .mov 8 (.t 1)⟩, 0, []⟩,
  ⟨⟨none, .len 9 false (.t 8)⟩, 0, []⟩,
  ⟨⟨none, .bin 10 .neq (.t 7) (.t 9)⟩, 0, []⟩]

abbrev i_laws_eqCellS_r2 : List RO := [
  ⟨⟨none, .mov 4 (.c (.one (.d (.bool false))))⟩, 0, []⟩]

abbrev i_laws_eqCellS_r3 : List RO := [
  ⟨⟨none, .mov 5 (.c (.one (.d (.int .i64 0))))⟩, 0, []⟩]

abbrev i_laws_eqCellS_r4 : List RO := [
  ⟨⟨none, .mov 11 (.t 5)⟩, 0, []⟩,
  ⟨⟨none, .mov 12 (.t 0)⟩, 0, []⟩,
  ⟨⟨none, .len 13 false (.t 12)⟩, 0, []⟩,
  ⟨⟨none, .bin 14 .lss (.t 11) (.t 13)⟩, 0, []⟩]

abbrev i_laws_eqCellS_r5 : List RO := [
  ⟨⟨none, .mov 17 (.t 0)⟩, 0, []⟩,
  ⟨⟨none, .mov 18 (.t 5)⟩, 0, []⟩,
  ⟨⟨none, .iaddr 19 2 (.t 17) (.t 18)⟩, 3, []⟩,
  ⟨⟨none, .load 20 (some 2) (.t 19)⟩, 7, []⟩,
  ⟨⟨none, .mov 21 (.t 1)⟩, 0, []⟩,
  ⟨⟨none, .mov 22 (.t 5)⟩, 0, []⟩,
  ⟨⟨none, .iaddr 23 2 (.t 21) (.t 22)⟩, 48, []⟩,
  ⟨⟨none, .load 24 (some 2) (.t 23)⟩, 112, []⟩,
  ⟨⟨none, .callv 25 (.c (.one (.fn k_laws_eqCell []))) [(.t 20), (.t 24)]⟩, 255, []⟩,
  ⟨⟨none, .inv 26 (.t 25)⟩, 511, []⟩]

abbrev i_laws_eqCellS_r6 : List RO := [
  ⟨⟨none, .mov 4 (.c (.one (.d (.bool false))))⟩, 0, []⟩]

abbrev i_laws_eqCellS_r7 : List RO := [
  ⟨⟨none, .mov 15 (.t 5)⟩, 0, []⟩,
  ⟨⟨none, .bin 16 .add (.t 15) (.c (.one (.d (.int .i64 1))))⟩, 0, []⟩,
  ⟨⟨none, .mov 5 (.t 16)⟩, 0, []⟩]

abbrev i_laws_eqCellS_r8 : List RO := [
  ⟨⟨none, .mov 4 (.c (.one (.d (.bool true))))⟩, 0, []⟩]

def i_laws_eqCellS : IC := (.seq (.reg i_laws_eqCellS_r0)
  (.seq (.seq (.reg i_laws_eqCellS_r1)
  (.cond (.t 10) (.seq (.reg i_laws_eqCellS_r2)
  .ret) .skip))
  (.seq (.seq (.reg i_laws_eqCellS_r3)
  (.block 0 (.loop (.seq (.seq (.reg i_laws_eqCellS_r4)
  (.cond (.t 14) .skip (.exit 0)))
  (.seq (.block 1 (.seq (.regd i_laws_eqCellS_r5)
  (.cond (.t 26) (.seq (.reg i_laws_eqCellS_r6)
  .ret) .skip)))
  (.reg i_laws_eqCellS_r7))))))
  (.seq (.reg i_laws_eqCellS_r8)
  .ret))))

theorem i_laws_eqCellS_ok : (Try.f20.body.bind fun c => toIC Try.prog 27 c [[(0, []), (0, []), (3, []), (7, []), (0, []), (0, []), (48, []), (112, []), (255, []), (511, [])]]) = some (i_laws_eqCellS, []) := by kernel_rfl

theorem i_laws_eqCellS_fn {ds rs : List D} (hle : ds.length ≤ 27) (h : AW Try.prog 27 i_laws_eqCellS (Ends [.tmp 4] rs) (init ds)) : Fn Try.prog k_laws_eqCellS (lent ds) true rs :=
  Fn.intro' (by kernel_rfl) Try.func20 (by kernel_rfl) i_laws_eqCellS_ok (by kernel_rfl) hle h.h

theorem i_laws_eqCellS_fnB {ds rs : List D} (hle : ds.length ≤ 27) (h : AW Try.prog 27 i_laws_eqCellS (EndsB [.tmp 4] rs) (init ds)) : Fn Try.prog k_laws_eqCellS (lent ds) false rs :=
  Fn.introB' (by kernel_rfl) Try.func20 (by kernel_rfl) i_laws_eqCellS_ok (by kernel_rfl) hle h.h

abbrev i_laws_markCellS_r0 : List RO := [
  ⟨⟨none, .mov 4 (.c (.one (.d (.int .i64 0))))⟩, 0, []⟩]

abbrev i_laws_markCellS_r1 : List RO := [
  ⟨⟨none, .mov 5 (.c (.one (.d (.int .i64 0))))⟩, 0, []⟩]

abbrev i_laws_markCellS_r2 : List RO := [
  ⟨⟨none, .mov 6 (.t 5)⟩, 0, []⟩,
  ⟨⟨none, .mov 7 (.t 0)⟩, 0, []⟩,
  ⟨⟨none, .len 8 false (.t 7)⟩, 0, []⟩,
  ⟨⟨none, .bin 9 .lss (.t 6) (.t 8)⟩, 0, []⟩]

abbrev i_laws_markCellS_r3 : List RO := [
  ⟨⟨none, .mov 12 (.t 0)⟩, 0, []⟩,
  ⟨⟨none, .mov 13 (.t 5)⟩, 0, []⟩,
  ⟨⟨none, .mov 14 (.t 1)⟩, 0, []⟩,
  ⟨⟨none, .iaddr 15 2 (.t 12) (.t 13)⟩, 0, []⟩,
  ⟨⟨none, .faddr 16 0 (.t 15)⟩, 0, []⟩,
  ⟨⟨none, .store 1 [(.int .i64 0)] (.t 16) (.t 14)⟩, 0, []⟩]

abbrev i_laws_markCellS_r4 : List RO := [
  ⟨⟨none, .mov 17 (.t 1)⟩, 0, []⟩,
  ⟨⟨none, .bin 18 .add (.t 17) (.c (.one (.d (.int .i64 1))))⟩, 0, []⟩,
  ⟨⟨none, .mov 1 (.t 18)⟩, 0, []⟩]

abbrev i_laws_markCellS_r5 : List RO := [
  ⟨⟨none, .mov 19 (.t 0)⟩, 0, []⟩,
  ⟨⟨none, .mov 20 (.t 5)⟩, 0, []⟩,
  ⟨⟨none, .mov 21 (.t 1)⟩, 0, []⟩,
  ⟨⟨none, .iaddr 22 2 (.t 19) (.t 20)⟩, 0, []⟩,
  ⟨⟨none, .faddr 23 1 (.t 22)⟩, 0, []⟩,
  ⟨⟨none, .store 1 [(.int .i64 0)] (.t 23) (.t 21)⟩, 0, []⟩]

abbrev i_laws_markCellS_r6 : List RO := [
  ⟨⟨none, .mov 24 (.t 1)⟩, 0, []⟩,
  ⟨⟨none, .bin 25 .add (.t 24) (.c (.one (.d (.int .i64 1))))⟩, 0, []⟩,
  ⟨⟨none, .mov 1 (.t 25)⟩, 0, []⟩]

abbrev i_laws_markCellS_r7 : List RO := [
  ⟨⟨none, .mov 10 (.t 5)⟩, 0, []⟩,
  ⟨⟨none, .bin 11 .add (.t 10) (.c (.one (.d (.int .i64 1))))⟩, 0, []⟩,
  ⟨⟨none, .mov 5 (.t 11)⟩, 0, []⟩]

abbrev i_laws_markCellS_r8 : List RO := [
  ⟨⟨none, .mov 26 (.t 1)⟩, 0, []⟩,
  ⟨⟨none, .mov 4 (.t 26)⟩, 0, []⟩]

def i_laws_markCellS : IC := (.seq (.reg i_laws_markCellS_r0)
  (.seq (.seq (.reg i_laws_markCellS_r1)
  (.block 0 (.loop (.seq (.seq (.reg i_laws_markCellS_r2)
  (.cond (.t 9) .skip (.exit 0)))
  (.seq (.block 1 (.seq (.reg i_laws_markCellS_r3)
  (.seq (.reg i_laws_markCellS_r4)
  (.seq (.reg i_laws_markCellS_r5)
  (.reg i_laws_markCellS_r6)))))
  (.reg i_laws_markCellS_r7))))))
  (.seq (.reg i_laws_markCellS_r8)
  .ret)))

theorem i_laws_markCellS_ok : (Try.f21.body.bind fun c => toIC Try.prog 27 c []) = some (i_laws_markCellS, []) := by kernel_rfl

theorem i_laws_markCellS_fn {ds rs : List D} (hle : ds.length ≤ 27) (h : AW Try.prog 27 i_laws_markCellS (Ends [.tmp 4] rs) (init ds)) : Fn Try.prog k_laws_markCellS (lent ds) true rs :=
  Fn.intro' (by kernel_rfl) Try.func21 (by kernel_rfl) i_laws_markCellS_ok (by kernel_rfl) hle h.h

theorem i_laws_markCellS_fnB {ds rs : List D} (hle : ds.length ≤ 27) (h : AW Try.prog 27 i_laws_markCellS (EndsB [.tmp 4] rs) (init ds)) : Fn Try.prog k_laws_markCellS (lent ds) false rs :=
  Fn.introB' (by kernel_rfl) Try.func21 (by kernel_rfl) i_laws_markCellS_ok (by kernel_rfl) hle h.h

theorem i_laws_markCellS_fnM {ars : List Ar} {rs : List D} (hle : ars.length ≤ 27) (hfr : freshL ⟨fun _ => .top, fun _ => none, fun _ => .top⟩ ((argB 0 ars).2.map (·.1))) (hlt : ((argB 0 ars).2.map (·.1)).all (fun n => Nat.ble n 1999999) = true) (h : AW Try.prog 27 i_laws_markCellS (EndsM ars [.tmp 4] rs) (initM ars)) : Fn Try.prog k_laws_markCellS ars true rs :=
  Fn.introM' (by kernel_rfl) Try.func21 (by kernel_rfl) i_laws_markCellS_ok (by kernel_rfl) hle hfr hlt h.h

abbrev i_laws_heldCellS_r0 : List RO := [
  ⟨⟨none, .mov 4 (.c (.one (.d (.int .i64 0))))⟩, 0, []⟩]

abbrev i_laws_heldCellS_r1 : List RO := [
  ⟨⟨none, .mov 5 (.c (.one (.d (.int .i64 0))))⟩, 0, []⟩]

abbrev i_laws_heldCellS_r2 : List RO := [
  ⟨⟨none, .mov 6 (.t 5)⟩, 0, []⟩,
  ⟨⟨none, .mov 7 (.t 0)⟩, 0, []⟩,
  ⟨⟨none, .len 8 false (.t 7)⟩, 0, []⟩,
  ⟨⟨none, .bin 9 .lss (.t 6) (.t 8)⟩, 0, []⟩]

abbrev i_laws_heldCellS_r3 : List RO := [
  ⟨⟨none, .mov 12 (.t 0)⟩, 0, []⟩,
  ⟨⟨none, .mov 13 (.t 5)⟩, 0, []⟩,
  ⟨⟨none, .iaddr 14 2 (.t 12) (.t 13)⟩, 0, []⟩,
  ⟨⟨none, .faddr 15 0 (.t 14)⟩, 0, []⟩,
  ⟨⟨none, .load 16 none (.t 15)⟩, 0, []⟩,
  ⟨⟨none, .mov 17 (.t 1)⟩, 0, []⟩,
  ⟨⟨none, .bin 18 .neq (.t 16) (.t 17)⟩, 0, []⟩]

abbrev i_laws_heldCellS_r4 : List RO := [
  ⟨⟨none, .mov 4 (.c (.one (.d (.int .i64 (-1)))))⟩, 0, []⟩]

abbrev i_laws_heldCellS_r5 : List RO := [
  ⟨⟨none, .mov 19 (.t 1)⟩, 0, []⟩,
  ⟨⟨none, .bin 20 .add (.t 19) (.c (.one (.d (.int .i64 1))))⟩, 0, []⟩,
  ⟨⟨none, .mov 1 (.t 20)⟩, 0, []⟩]

abbrev i_laws_heldCellS_r6 : List RO := [
  ⟨⟨none, .mov 21 (.t 0)⟩, 0, []⟩,
  ⟨⟨none, .mov 22 (.t 5)⟩, 0, []⟩,
  ⟨⟨none, .iaddr 23 2 (.t 21) (.t 22)⟩, 0, []⟩,
  ⟨⟨none, .faddr 24 1 (.t 23)⟩, 0, []⟩,
  ⟨⟨none, .load 25 none (.t 24)⟩, 0, []⟩,
  ⟨⟨none, .mov 26 (.t 1)⟩, 0, []⟩,
  ⟨⟨none, .bin 27 .neq (.t 25) (.t 26)⟩, 0, []⟩]

abbrev i_laws_heldCellS_r7 : List RO := [
  ⟨⟨none, .mov 4 (.c (.one (.d (.int .i64 (-1)))))⟩, 0, []⟩]

abbrev i_laws_heldCellS_r8 : List RO := [
  ⟨⟨none, .mov 28 (.t 1)⟩, 0, []⟩,
  ⟨⟨none, .bin 29 .add (.t 28) (.c (.one (.d (.int .i64 1))))⟩, 0, []⟩,
  ⟨⟨none, .mov 1 (.t 29)⟩, 0, []⟩]

abbrev i_laws_heldCellS_r9 : List RO := [
  ⟨⟨none, .mov 10 (.t 5)⟩, 0, []⟩,
  ⟨⟨none, .bin 11 .add (.t 10) (.c (.one (.d (.int .i64 1))))⟩, 0, []⟩,
  ⟨⟨none, .mov 5 (.t 11)⟩, 0, []⟩]

abbrev i_laws_heldCellS_r10 : List RO := [
  ⟨⟨none, .mov 30 (.t 1)⟩, 0, []⟩,
  ⟨⟨none, .mov 4 (.t 30)⟩, 0, []⟩]

def i_laws_heldCellS : IC := (.seq (.reg i_laws_heldCellS_r0)
  (.seq (.seq (.reg i_laws_heldCellS_r1)
  (.block 0 (.loop (.seq (.seq (.reg i_laws_heldCellS_r2)
  (.cond (.t 9) .skip (.exit 0)))
  (.seq (.block 1 (.seq (.seq (.reg i_laws_heldCellS_r3)
  (.cond (.t 18) (.seq (.reg i_laws_heldCellS_r4)
  .ret) .skip))
  (.seq (.reg i_laws_heldCellS_r5)
  (.seq (.seq (.reg i_laws_heldCellS_r6)
  (.cond (.t 27) (.seq (.reg i_laws_heldCellS_r7)
  .ret) .skip))
  (.reg i_laws_heldCellS_r8)))))
  (.reg i_laws_heldCellS_r9))))))
  (.seq (.reg i_laws_heldCellS_r10)
  .ret)))

theorem i_laws_heldCellS_ok : (Try.f22.body.bind fun c => toIC Try.prog 31 c []) = some (i_laws_heldCellS, []) := by kernel_rfl

theorem i_laws_heldCellS_fn {ds rs : List D} (hle : ds.length ≤ 31) (h : AW Try.prog 31 i_laws_heldCellS (Ends [.tmp 4] rs) (init ds)) : Fn Try.prog k_laws_heldCellS (lent ds) true rs :=
  Fn.intro' (by kernel_rfl) Try.func22 (by kernel_rfl) i_laws_heldCellS_ok (by kernel_rfl) hle h.h

theorem i_laws_heldCellS_fnB {ds rs : List D} (hle : ds.length ≤ 31) (h : AW Try.prog 31 i_laws_heldCellS (EndsB [.tmp 4] rs) (init ds)) : Fn Try.prog k_laws_heldCellS (lent ds) false rs :=
  Fn.introB' (by kernel_rfl) Try.func22 (by kernel_rfl) i_laws_heldCellS_ok (by kernel_rfl) hle h.h

abbrev i_laws_FnExactStoreCut_r0 : List RO := [
  ⟨⟨none, .box 3 (.t 1)⟩, 0, []⟩,
  ⟨⟨none, .mov 4 (.c (.one (.d (.bool false))))⟩, 0, []⟩]

abbrev i_laws_FnExactStoreCut_r1 : List RO := [
  ⟨⟨none, .mov 5 (.c (.one (.d (.int .i64 1048576))))⟩, 0, []⟩]

abbrev i_laws_FnExactStoreCut_r2 : List RO := [
  ⟨⟨none, .mov 13 (.t 0)⟩, 0, []⟩,
  ⟨⟨none, .mov 14 (.t 5)⟩, 0, []⟩,
  ⟨⟨none, .callv 15 (.c (.one (.fn k_laws_szCellS []))) [(.t 13), (.t 14)]⟩, 0, []⟩,
  ⟨⟨none, .mov 5 (.t 15)⟩, 0, []⟩]

abbrev i_laws_FnExactStoreCut_r3 : List RO := [
  ⟨⟨none, .mov 16 (.t 5)⟩, 0, []⟩,
  ⟨⟨none, .bin 17 .lss (.t 16) (.c (.one (.d (.int .i64 0))))⟩, 0, []⟩]

abbrev i_laws_FnExactStoreCut_r4 : List RO := [
  ⟨⟨none, .mov 4 (.c (.one (.d (.bool true))))⟩, 0, []⟩]

abbrev i_laws_FnExactStoreCut_r5 : List RO := [
  ⟨⟨none, .mov 18 (.t 0)⟩, 0, []⟩,
  ⟨⟨none, .callv 19 (.c (.one (.fn k_laws_toCellS []))) [(.t 18)]⟩, 1, []⟩,
  ⟨⟨none, .load 20 (some 2) (.t 3)⟩, 0, [19]⟩,
  ⟨⟨none, .callv 21 (.c (.one (.fn k_laws_toRange []))) [(.t 20)]⟩, 7, []⟩,
  ⟨⟨none, .callv 22 (.c (.one (.fn k_spec_StoreCut []))) [(.t 19), (.t 21)]⟩, 15, []⟩,
  ⟨⟨none, .mov 6 (.t 22)⟩, 31, []⟩]

abbrev i_laws_FnExactStoreCut_r6 : List RO := [
  ⟨⟨none, .mov 23 (.t 0)⟩, 0, []⟩,
  ⟨⟨none, .callv 24 (.c (.one (.fn k_laws_toCellS []))) [(.t 23)]⟩, 0, []⟩,
  ⟨⟨none, .mov 7 (.t 24)⟩, 0, []⟩]

abbrev i_laws_FnExactStoreCut_r7 : List RO := [
  ⟨⟨none, .mov 25 (.t 7)⟩, 0, []⟩,
  ⟨⟨none, .load 26 (some 2) (.t 3)⟩, 0, []⟩,
  ⟨⟨none, .callv 27 (.c (.one (.fn k_laws_toRange []))) [(.t 26)]⟩, 0, []⟩,
  ⟨⟨none, .callv 28 (.c (.one (.fn k_impl_StoreCut []))) [(.t 25), (.t 27)]⟩, 0, []⟩,
  ⟨⟨none, .mov 8 (.t 28)⟩, 0, []⟩]

abbrev i_laws_FnExactStoreCut_r8 : List RO := [
  ⟨⟨none, .mov 29 (.t 8)⟩, 0, []⟩,
  ⟨⟨none, .mov 30 (.t 6)⟩, 0, []⟩,
  ⟨⟨none, .callv 31 (.c (.one (.fn k_laws_eqCellS []))) [(.t 29), (.t 30)]⟩, 0, []⟩,
  ⟨⟨none, .inv 32 (.t 31)⟩, 0, []⟩]

abbrev i_laws_FnExactStoreCut_r9 : List RO := [
  ⟨⟨none, .mov 4 (.c (.one (.d (.bool false))))⟩, 0, []⟩]

abbrev i_laws_FnExactStoreCut_r10 : List RO := [
  ⟨⟨none, .mov 33 (.t 7)⟩, 0, []⟩,
  ⟨⟨none, .mov 34 (.t 0)⟩, 0, []⟩,
  ⟨⟨none, .callv 35 (.c (.one (.fn k_laws_toCellS []))) [(.t 34)]⟩, 0, []⟩,
  ⟨⟨none, .callv 36 (.c (.one (.fn k_laws_eqCellS []))) [(.t 33), (.t 35)]⟩, 0, []⟩,
  ⟨⟨none, .inv 37 (.t 36)⟩, 0, []⟩]

abbrev i_laws_FnExactStoreCut_r11 : List RO := [
  ⟨⟨none, .mov 4 (.c (.one (.d (.bool false))))⟩, 0, []⟩]

abbrev i_laws_FnExactStoreCut_r12 : List RO := [
  ⟨⟨none, .mov 9 (.c (.one (.d (.int .i64 1))))⟩, 0, []⟩]

abbrev i_laws_FnExactStoreCut_r13 : List RO := [
  ⟨⟨none, .mov 38 (.t 7)⟩, 0, []⟩,
  ⟨⟨none, .mov 39 (.t 9)⟩, 0, []⟩,
  ⟨⟨none, .callv 40 (.c (.one (.fn k_laws_markCellS []))) [(.t 38), (.t 39)]⟩, 0, []⟩,
  ⟨⟨none, .mov 9 (.t 40)⟩, 0, []⟩]

abbrev i_laws_FnExactStoreCut_r14 : List RO := [
  ⟨⟨none, .mov 41 (.t 9)⟩, 0, []⟩,
  ⟨⟨none, .bin 42 .lss (.t 41) (.c (.one (.d (.int .i64 0))))⟩, 0, []⟩,
  ⟨⟨none, .mov 43 (.t 42)⟩, 0, []⟩,
  ⟨⟨some (43, false), .mov 44 (.t 8)⟩, 0, []⟩,
  ⟨⟨some (43, false), .mov 45 (.t 6)⟩, 0, []⟩,
  ⟨⟨some (43, false), .callv 46 (.c (.one (.fn k_laws_eqCellS []))) [(.t 44), (.t 45)]⟩, 0, []⟩,
  ⟨⟨some (43, false), .inv 47 (.t 46)⟩, 0, []⟩,
  ⟨⟨none, .pick 48 (.t 43) (.c (.one (.d (.bool true)))) (.t 47)⟩, 0, []⟩]

abbrev i_laws_FnExactStoreCut_r15 : List RO := [
  ⟨⟨none, .mov 4 (.c (.one (.d (.bool false))))⟩, 0, []⟩]

abbrev i_laws_FnExactStoreCut_r16 : List RO := [
  ⟨⟨none, .mov 10 (.c (.one (.d (.int .i64 1))))⟩, 0, []⟩]

abbrev i_laws_FnExactStoreCut_r17 : List RO := [
  ⟨⟨none, .mov 49 (.t 8)⟩, 0, []⟩,
  ⟨⟨none, .mov 50 (.t 10)⟩, 0, []⟩,
  ⟨⟨none, .callv 51 (.c (.one (.fn k_laws_markCellS []))) [(.t 49), (.t 50)]⟩, 0, []⟩,
  ⟨⟨none, .mov 10 (.t 51)⟩, 0, []⟩]

abbrev i_laws_FnExactStoreCut_r18 : List RO := [
  ⟨⟨none, .mov 11 (.c (.one (.d (.int .i64 1))))⟩, 0, []⟩]

abbrev i_laws_FnExactStoreCut_r19 : List RO := [
  ⟨⟨none, .mov 52 (.t 8)⟩, 0, []⟩,
  ⟨⟨none, .mov 53 (.t 11)⟩, 0, []⟩,
  ⟨⟨none, .callv 54 (.c (.one (.fn k_laws_heldCellS []))) [(.t 52), (.t 53)]⟩, 0, []⟩,
  ⟨⟨none, .mov 11 (.t 54)⟩, 0, []⟩]

abbrev i_laws_FnExactStoreCut_r20 : List RO := [
  ⟨⟨none, .mov 55 (.t 11)⟩, 0, []⟩,
  ⟨⟨none, .bin 56 .lss (.t 55) (.c (.one (.d (.int .i64 0))))⟩, 0, []⟩]

abbrev i_laws_FnExactStoreCut_r21 : List RO := [
  ⟨⟨none, .mov 4 (.c (.one (.d (.bool false))))⟩, 0, []⟩]

abbrev i_laws_FnExactStoreCut_r22 : List RO := [
  ⟨⟨none, .mov 57 (.t 11)⟩, 0, []⟩,
  ⟨⟨none, .mov 58 (.t 10)⟩, 0, []⟩,
  ⟨⟨none, .bin 59 .neq (.t 57) (.t 58)⟩, 0, []⟩]

abbrev i_laws_FnExactStoreCut_r23 : List RO := [
  ⟨⟨none, .mov 4 (.c (.one (.d (.bool false))))⟩, 0, []⟩]

abbrev i_laws_FnExactStoreCut_r24 : List RO := [
  ⟨⟨none, .mov 60 (.t 0)⟩, 0, []⟩,
  ⟨⟨none, .callv 61 (.c (.one (.fn k_laws_toCellS []))) [(.t 60)]⟩, 1, []⟩,
  ⟨⟨none, .load 62 (some 2) (.t 3)⟩, 0, [61]⟩,
  ⟨⟨none, .callv 63 (.c (.one (.fn k_laws_toRange []))) [(.t 62)]⟩, 7, []⟩,
  ⟨⟨none, .callv 64 (.c (.one (.fn k_impl_StoreCut []))) [(.t 61), (.t 63)]⟩, 15, []⟩,
  ⟨⟨none, .mov 12 (.t 64)⟩, 31, []⟩]

abbrev i_laws_FnExactStoreCut_r25 : List RO := [
  ⟨⟨none, .mov 65 (.t 12)⟩, 0, []⟩,
  ⟨⟨none, .mov 66 (.t 6)⟩, 0, []⟩,
  ⟨⟨none, .callv 67 (.c (.one (.fn k_laws_eqCellS []))) [(.t 65), (.t 66)]⟩, 0, []⟩,
  ⟨⟨none, .inv 68 (.t 67)⟩, 0, []⟩]

abbrev i_laws_FnExactStoreCut_r26 : List RO := [
  ⟨⟨none, .mov 4 (.c (.one (.d (.bool false))))⟩, 0, []⟩]

abbrev i_laws_FnExactStoreCut_r27 : List RO := [
  ⟨⟨none, .mov 11 (.c (.one (.d (.int .i64 1))))⟩, 0, []⟩]

abbrev i_laws_FnExactStoreCut_r28 : List RO := [
  ⟨⟨none, .mov 69 (.t 8)⟩, 0, []⟩,
  ⟨⟨none, .mov 70 (.t 11)⟩, 0, []⟩,
  ⟨⟨none, .callv 71 (.c (.one (.fn k_laws_heldCellS []))) [(.t 69), (.t 70)]⟩, 0, []⟩,
  ⟨⟨none, .mov 11 (.t 71)⟩, 0, []⟩]

abbrev i_laws_FnExactStoreCut_r29 : List RO := [
  ⟨⟨none, .mov 72 (.t 11)⟩, 0, []⟩,
  ⟨⟨none, .bin 73 .lss (.t 72) (.c (.one (.d (.int .i64 0))))⟩, 0, []⟩]

abbrev i_laws_FnExactStoreCut_r30 : List RO := [
  ⟨⟨none, .mov 4 (.c (.one (.d (.bool false))))⟩, 0, []⟩]

abbrev i_laws_FnExactStoreCut_r31 : List RO := [
  ⟨⟨none, .mov 74 (.t 11)⟩, 0, []⟩,
  ⟨⟨none, .mov 75 (.t 10)⟩, 0, []⟩,
  ⟨⟨none, .bin 76 .neq (.t 74) (.t 75)⟩, 0, []⟩]

abbrev i_laws_FnExactStoreCut_r32 : List RO := [
  ⟨⟨none, .mov 4 (.c (.one (.d (.bool false))))⟩, 0, []⟩]

abbrev i_laws_FnExactStoreCut_r33 : List RO := [
  ⟨⟨none, .mov 4 (.c (.one (.d (.bool true))))⟩, 0, []⟩]

def i_laws_FnExactStoreCut : IC := (.seq (.reg i_laws_FnExactStoreCut_r0)
  (.seq (.reg i_laws_FnExactStoreCut_r1)
  (.seq (.reg i_laws_FnExactStoreCut_r2)
  (.seq (.seq (.reg i_laws_FnExactStoreCut_r3)
  (.cond (.t 17) (.seq (.reg i_laws_FnExactStoreCut_r4)
  .ret) .skip))
  (.seq (.regd i_laws_FnExactStoreCut_r5)
  (.seq (.reg i_laws_FnExactStoreCut_r6)
  (.seq (.reg i_laws_FnExactStoreCut_r7)
  (.seq (.seq (.reg i_laws_FnExactStoreCut_r8)
  (.cond (.t 32) (.seq (.reg i_laws_FnExactStoreCut_r9)
  .ret) .skip))
  (.seq (.seq (.reg i_laws_FnExactStoreCut_r10)
  (.cond (.t 37) (.seq (.reg i_laws_FnExactStoreCut_r11)
  .ret) .skip))
  (.seq (.reg i_laws_FnExactStoreCut_r12)
  (.seq (.reg i_laws_FnExactStoreCut_r13)
  (.seq (.seq (.reg i_laws_FnExactStoreCut_r14)
  (.cond (.t 48) (.seq (.reg i_laws_FnExactStoreCut_r15)
  .ret) .skip))
  (.seq (.reg i_laws_FnExactStoreCut_r16)
  (.seq (.reg i_laws_FnExactStoreCut_r17)
  (.seq (.reg i_laws_FnExactStoreCut_r18)
  (.seq (.reg i_laws_FnExactStoreCut_r19)
  (.seq (.seq (.reg i_laws_FnExactStoreCut_r20)
  (.cond (.t 56) (.seq (.reg i_laws_FnExactStoreCut_r21)
  .ret) .skip))
  (.seq (.seq (.reg i_laws_FnExactStoreCut_r22)
  (.cond (.t 59) (.seq (.reg i_laws_FnExactStoreCut_r23)
  .ret) .skip))
  (.seq (.regd i_laws_FnExactStoreCut_r24)
  (.seq (.seq (.reg i_laws_FnExactStoreCut_r25)
  (.cond (.t 68) (.seq (.reg i_laws_FnExactStoreCut_r26)
  .ret) .skip))
  (.seq (.reg i_laws_FnExactStoreCut_r27)
  (.seq (.reg i_laws_FnExactStoreCut_r28)
  (.seq (.seq (.reg i_laws_FnExactStoreCut_r29)
  (.cond (.t 73) (.seq (.reg i_laws_FnExactStoreCut_r30)
  .ret) .skip))
  (.seq (.seq (.reg i_laws_FnExactStoreCut_r31)
  (.cond (.t 76) (.seq (.reg i_laws_FnExactStoreCut_r32)
  .ret) .skip))
  (.seq (.reg i_laws_FnExactStoreCut_r33)
  .ret)))))))))))))))))))))))))

theorem i_laws_FnExactStoreCut_ok : (Try.f3.body.bind fun c => toIC Try.prog 77 c [[(0, []), (1, []), (0, [19]), (7, []), (15, []), (31, [])], [(0, []), (1, []), (0, [61]), (7, []), (15, []), (31, [])]]) = some (i_laws_FnExactStoreCut, []) := by kernel_rfl

theorem i_laws_FnExactStoreCut_fn {ds rs : List D} (hle : ds.length ≤ 77) (h : AW Try.prog 77 i_laws_FnExactStoreCut (Ends [.tmp 4] rs) (init ds)) : Fn Try.prog k_laws_FnExactStoreCut (lent ds) true rs :=
  Fn.intro' (by kernel_rfl) Try.func3 (by kernel_rfl) i_laws_FnExactStoreCut_ok (by kernel_rfl) hle h.h

theorem i_laws_FnExactStoreCut_fnB {ds rs : List D} (hle : ds.length ≤ 77) (h : AW Try.prog 77 i_laws_FnExactStoreCut (EndsB [.tmp 4] rs) (init ds)) : Fn Try.prog k_laws_FnExactStoreCut (lent ds) false rs :=
  Fn.introB' (by kernel_rfl) Try.func3 (by kernel_rfl) i_laws_FnExactStoreCut_ok (by kernel_rfl) hle h.h

abbrev i_spec_StoreScan_r0 : List RO := [
  ⟨⟨none, .box 3 (.t 1)⟩, 0, []⟩,
  ⟨⟨none, .mov 4 (.c (.one .zs))⟩, 0, []⟩]

abbrev i_spec_StoreScan_r1 : List RO := [
  ⟨⟨none, .mov 5 (.t 0)⟩, 0, []⟩,
  ⟨⟨none, .load 6 (some 2) (.t 3)⟩, 0, []⟩,
  ⟨⟨none, .callv 7 (.c (.one (.fn k_spec_l11Scan []))) [(.t 5), (.t 6), (.c (.one (.d (.bool true))))]⟩, 0, []⟩,
  ⟨⟨none, .mov 4 (.t 7)⟩, 0, []⟩]

def i_spec_StoreScan : IC := (.seq (.reg i_spec_StoreScan_r0)
  (.seq (.reg i_spec_StoreScan_r1)
  .ret))

theorem i_spec_StoreScan_ok : (Try.f23.body.bind fun c => toIC Try.prog 8 c []) = some (i_spec_StoreScan, []) := by kernel_rfl

theorem i_spec_StoreScan_fn {ds rs : List D} (hle : ds.length ≤ 8) (h : AW Try.prog 8 i_spec_StoreScan (Ends [.tmp 4] rs) (init ds)) : Fn Try.prog k_spec_StoreScan (lent ds) true rs :=
  Fn.intro' (by kernel_rfl) Try.func23 (by kernel_rfl) i_spec_StoreScan_ok (by kernel_rfl) hle h.h

theorem i_spec_StoreScan_fnB {ds rs : List D} (hle : ds.length ≤ 8) (h : AW Try.prog 8 i_spec_StoreScan (EndsB [.tmp 4] rs) (init ds)) : Fn Try.prog k_spec_StoreScan (lent ds) false rs :=
  Fn.introB' (by kernel_rfl) Try.func23 (by kernel_rfl) i_spec_StoreScan_ok (by kernel_rfl) hle h.h

abbrev i_impl_StoreScan_r0 : List RO := [
  ⟨⟨none, .box 3 (.t 1)⟩, 0, []⟩,
  ⟨⟨none, .mov 4 (.c (.one .zs))⟩, 0, []⟩]

abbrev i_impl_StoreScan_r1 : List RO := [
  ⟨⟨none, .mov 5 (.t 0)⟩, 0, []⟩,
  ⟨⟨none, .load 6 (some 2) (.t 3)⟩, 0, []⟩,
  ⟨⟨none, .callv 7 (.c (.one (.fn k_impl_within []))) [(.t 5), (.t 6), (.c (.one (.d (.bool true))))]⟩, 0, []⟩,
  ⟨⟨none, .mov 4 (.t 7)⟩, 0, []⟩]

def i_impl_StoreScan : IC := (.seq (.reg i_impl_StoreScan_r0)
  (.seq (.reg i_impl_StoreScan_r1)
  .ret))

theorem i_impl_StoreScan_ok : (Try.f24.body.bind fun c => toIC Try.prog 8 c []) = some (i_impl_StoreScan, []) := by kernel_rfl

theorem i_impl_StoreScan_fn {ds rs : List D} (hle : ds.length ≤ 8) (h : AW Try.prog 8 i_impl_StoreScan (Ends [.tmp 4] rs) (init ds)) : Fn Try.prog k_impl_StoreScan (lent ds) true rs :=
  Fn.intro' (by kernel_rfl) Try.func24 (by kernel_rfl) i_impl_StoreScan_ok (by kernel_rfl) hle h.h

theorem i_impl_StoreScan_fnB {ds rs : List D} (hle : ds.length ≤ 8) (h : AW Try.prog 8 i_impl_StoreScan (EndsB [.tmp 4] rs) (init ds)) : Fn Try.prog k_impl_StoreScan (lent ds) false rs :=
  Fn.introB' (by kernel_rfl) Try.func24 (by kernel_rfl) i_impl_StoreScan_ok (by kernel_rfl) hle h.h

abbrev i_laws_FnExactStoreScan_r0 : List RO := [
  ⟨⟨none, .box 3 (.t 1)⟩, 0, []⟩,
  ⟨⟨none, .mov 4 (.c (.one (.d (.bool false))))⟩, 0, []⟩]

abbrev i_laws_FnExactStoreScan_r1 : List RO := [
  ⟨⟨none, .mov 5 (.c (.one (.d (.int .i64 1048576))))⟩, 0, []⟩]

abbrev i_laws_FnExactStoreScan_r2 : List RO := [
  ⟨⟨none, .mov 13 (.t 0)⟩, 0, []⟩,
  ⟨⟨none, .mov 14 (.t 5)⟩, 0, []⟩,
  ⟨⟨none, .callv 15 (.c (.one (.fn k_laws_szCellS []))) [(.t 13), (.t 14)]⟩, 0, []⟩,
  ⟨⟨none, .mov 5 (.t 15)⟩, 0, []⟩]

abbrev i_laws_FnExactStoreScan_r3 : List RO := [
  ⟨⟨none, .mov 16 (.t 5)⟩, 0, []⟩,
  ⟨⟨none, .bin 17 .lss (.t 16) (.c (.one (.d (.int .i64 0))))⟩, 0, []⟩]

abbrev i_laws_FnExactStoreScan_r4 : List RO := [
  ⟨⟨none, .mov 4 (.c (.one (.d (.bool true))))⟩, 0, []⟩]

abbrev i_laws_FnExactStoreScan_r5 : List RO := [
  ⟨⟨none, .mov 18 (.t 0)⟩, 0, []⟩,
  ⟨⟨none, .callv 19 (.c (.one (.fn k_laws_toCellS []))) [(.t 18)]⟩, 1, []⟩,
  ⟨⟨none, .load 20 (some 2) (.t 3)⟩, 0, [19]⟩,
  ⟨⟨none, .callv 21 (.c (.one (.fn k_laws_toRange []))) [(.t 20)]⟩, 7, []⟩,
  ⟨⟨none, .callv 22 (.c (.one (.fn k_spec_StoreScan []))) [(.t 19), (.t 21)]⟩, 15, []⟩,
  ⟨⟨none, .mov 6 (.t 22)⟩, 31, []⟩]

abbrev i_laws_FnExactStoreScan_r6 : List RO := [
  ⟨⟨none, .mov 23 (.t 0)⟩, 0, []⟩,
  ⟨⟨none, .callv 24 (.c (.one (.fn k_laws_toCellS []))) [(.t 23)]⟩, 0, []⟩,
  ⟨⟨none, .mov 7 (.t 24)⟩, 0, []⟩]

abbrev i_laws_FnExactStoreScan_r7 : List RO := [
  ⟨⟨none, .mov 25 (.t 7)⟩, 0, []⟩,
  ⟨⟨none, .load 26 (some 2) (.t 3)⟩, 0, []⟩,
  ⟨⟨none, .callv 27 (.c (.one (.fn k_laws_toRange []))) [(.t 26)]⟩, 0, []⟩,
  ⟨⟨none, .callv 28 (.c (.one (.fn k_impl_StoreScan []))) [(.t 25), (.t 27)]⟩, 0, []⟩,
  ⟨⟨none, .mov 8 (.t 28)⟩, 0, []⟩]

abbrev i_laws_FnExactStoreScan_r8 : List RO := [
  ⟨⟨none, .mov 29 (.t 8)⟩, 0, []⟩,
  ⟨⟨none, .mov 30 (.t 6)⟩, 0, []⟩,
  ⟨⟨none, .callv 31 (.c (.one (.fn k_laws_eqCellS []))) [(.t 29), (.t 30)]⟩, 0, []⟩,
  ⟨⟨none, .inv 32 (.t 31)⟩, 0, []⟩]

abbrev i_laws_FnExactStoreScan_r9 : List RO := [
  ⟨⟨none, .mov 4 (.c (.one (.d (.bool false))))⟩, 0, []⟩]

abbrev i_laws_FnExactStoreScan_r10 : List RO := [
  ⟨⟨none, .mov 33 (.t 7)⟩, 0, []⟩,
  ⟨⟨none, .mov 34 (.t 0)⟩, 0, []⟩,
  ⟨⟨none, .callv 35 (.c (.one (.fn k_laws_toCellS []))) [(.t 34)]⟩, 0, []⟩,
  ⟨⟨none, .callv 36 (.c (.one (.fn k_laws_eqCellS []))) [(.t 33), (.t 35)]⟩, 0, []⟩,
  ⟨⟨none, .inv 37 (.t 36)⟩, 0, []⟩]

abbrev i_laws_FnExactStoreScan_r11 : List RO := [
  ⟨⟨none, .mov 4 (.c (.one (.d (.bool false))))⟩, 0, []⟩]

abbrev i_laws_FnExactStoreScan_r12 : List RO := [
  ⟨⟨none, .mov 9 (.c (.one (.d (.int .i64 1))))⟩, 0, []⟩]

abbrev i_laws_FnExactStoreScan_r13 : List RO := [
  ⟨⟨none, .mov 38 (.t 7)⟩, 0, []⟩,
  ⟨⟨none, .mov 39 (.t 9)⟩, 0, []⟩,
  ⟨⟨none, .callv 40 (.c (.one (.fn k_laws_markCellS []))) [(.t 38), (.t 39)]⟩, 0, []⟩,
  ⟨⟨none, .mov 9 (.t 40)⟩, 0, []⟩]

abbrev i_laws_FnExactStoreScan_r14 : List RO := [
  ⟨⟨none, .mov 41 (.t 9)⟩, 0, []⟩,
  ⟨⟨none, .bin 42 .lss (.t 41) (.c (.one (.d (.int .i64 0))))⟩, 0, []⟩,
  ⟨⟨none, .mov 43 (.t 42)⟩, 0, []⟩,
  ⟨⟨some (43, false), .mov 44 (.t 8)⟩, 0, []⟩,
  ⟨⟨some (43, false), .mov 45 (.t 6)⟩, 0, []⟩,
  ⟨⟨some (43, false), .callv 46 (.c (.one (.fn k_laws_eqCellS []))) [(.t 44), (.t 45)]⟩, 0, []⟩,
  ⟨⟨some (43, false), .inv 47 (.t 46)⟩, 0, []⟩,
  ⟨⟨none, .pick 48 (.t 43) (.c (.one (.d (.bool true)))) (.t 47)⟩, 0, []⟩]

abbrev i_laws_FnExactStoreScan_r15 : List RO := [
  ⟨⟨none, .mov 4 (.c (.one (.d (.bool false))))⟩, 0, []⟩]

abbrev i_laws_FnExactStoreScan_r16 : List RO := [
  ⟨⟨none, .mov 10 (.c (.one (.d (.int .i64 1))))⟩, 0, []⟩]

abbrev i_laws_FnExactStoreScan_r17 : List RO := [
  ⟨⟨none, .mov 49 (.t 8)⟩, 0, []⟩,
  ⟨⟨none, .mov 50 (.t 10)⟩, 0, []⟩,
  ⟨⟨none, .callv 51 (.c (.one (.fn k_laws_markCellS []))) [(.t 49), (.t 50)]⟩, 0, []⟩,
  ⟨⟨none, .mov 10 (.t 51)⟩, 0, []⟩]

abbrev i_laws_FnExactStoreScan_r18 : List RO := [
  ⟨⟨none, .mov 11 (.c (.one (.d (.int .i64 1))))⟩, 0, []⟩]

abbrev i_laws_FnExactStoreScan_r19 : List RO := [
  ⟨⟨none, .mov 52 (.t 8)⟩, 0, []⟩,
  ⟨⟨none, .mov 53 (.t 11)⟩, 0, []⟩,
  ⟨⟨none, .callv 54 (.c (.one (.fn k_laws_heldCellS []))) [(.t 52), (.t 53)]⟩, 0, []⟩,
  ⟨⟨none, .mov 11 (.t 54)⟩, 0, []⟩]

abbrev i_laws_FnExactStoreScan_r20 : List RO := [
  ⟨⟨none, .mov 55 (.t 11)⟩, 0, []⟩,
  ⟨⟨none, .bin 56 .lss (.t 55) (.c (.one (.d (.int .i64 0))))⟩, 0, []⟩]

abbrev i_laws_FnExactStoreScan_r21 : List RO := [
  ⟨⟨none, .mov 4 (.c (.one (.d (.bool false))))⟩, 0, []⟩]

abbrev i_laws_FnExactStoreScan_r22 : List RO := [
  ⟨⟨none, .mov 57 (.t 11)⟩, 0, []⟩,
  ⟨⟨none, .mov 58 (.t 10)⟩, 0, []⟩,
  ⟨⟨none, .bin 59 .neq (.t 57) (.t 58)⟩, 0, []⟩]

abbrev i_laws_FnExactStoreScan_r23 : List RO := [
  ⟨⟨none, .mov 4 (.c (.one (.d (.bool false))))⟩, 0, []⟩]

abbrev i_laws_FnExactStoreScan_r24 : List RO := [
  ⟨⟨none, .mov 60 (.t 0)⟩, 0, []⟩,
  ⟨⟨none, .callv 61 (.c (.one (.fn k_laws_toCellS []))) [(.t 60)]⟩, 1, []⟩,
  ⟨⟨none, .load 62 (some 2) (.t 3)⟩, 0, [61]⟩,
  ⟨⟨none, .callv 63 (.c (.one (.fn k_laws_toRange []))) [(.t 62)]⟩, 7, []⟩,
  ⟨⟨none, .callv 64 (.c (.one (.fn k_impl_StoreScan []))) [(.t 61), (.t 63)]⟩, 15, []⟩,
  ⟨⟨none, .mov 12 (.t 64)⟩, 31, []⟩]

abbrev i_laws_FnExactStoreScan_r25 : List RO := [
  ⟨⟨none, .mov 65 (.t 12)⟩, 0, []⟩,
  ⟨⟨none, .mov 66 (.t 6)⟩, 0, []⟩,
  ⟨⟨none, .callv 67 (.c (.one (.fn k_laws_eqCellS []))) [(.t 65), (.t 66)]⟩, 0, []⟩,
  ⟨⟨none, .inv 68 (.t 67)⟩, 0, []⟩]

abbrev i_laws_FnExactStoreScan_r26 : List RO := [
  ⟨⟨none, .mov 4 (.c (.one (.d (.bool false))))⟩, 0, []⟩]

abbrev i_laws_FnExactStoreScan_r27 : List RO := [
  ⟨⟨none, .mov 11 (.c (.one (.d (.int .i64 1))))⟩, 0, []⟩]

abbrev i_laws_FnExactStoreScan_r28 : List RO := [
  ⟨⟨none, .mov 69 (.t 8)⟩, 0, []⟩,
  ⟨⟨none, .mov 70 (.t 11)⟩, 0, []⟩,
  ⟨⟨none, .callv 71 (.c (.one (.fn k_laws_heldCellS []))) [(.t 69), (.t 70)]⟩, 0, []⟩,
  ⟨⟨none, .mov 11 (.t 71)⟩, 0, []⟩]

abbrev i_laws_FnExactStoreScan_r29 : List RO := [
  ⟨⟨none, .mov 72 (.t 11)⟩, 0, []⟩,
  ⟨⟨none, .bin 73 .lss (.t 72) (.c (.one (.d (.int .i64 0))))⟩, 0, []⟩]

abbrev i_laws_FnExactStoreScan_r30 : List RO := [
  ⟨⟨none, .mov 4 (.c (.one (.d (.bool false))))⟩, 0, []⟩]

abbrev i_laws_FnExactStoreScan_r31 : List RO := [
  ⟨⟨none, .mov 74 (.t 11)⟩, 0, []⟩,
  ⟨⟨none, .mov 75 (.t 10)⟩, 0, []⟩,
  ⟨⟨none, .bin 76 .neq (.t 74) (.t 75)⟩, 0, []⟩]

abbrev i_laws_FnExactStoreScan_r32 : List RO := [
  ⟨⟨none, .mov 4 (.c (.one (.d (.bool false))))⟩, 0, []⟩]

abbrev i_laws_FnExactStoreScan_r33 : List RO := [
  ⟨⟨none, .mov 4 (.c (.one (.d (.bool true))))⟩, 0, []⟩]

def i_laws_FnExactStoreScan : IC := (.seq (.reg i_laws_FnExactStoreScan_r0)
  (.seq (.reg i_laws_FnExactStoreScan_r1)
  (.seq (.reg i_laws_FnExactStoreScan_r2)
  (.seq (.seq (.reg i_laws_FnExactStoreScan_r3)
  (.cond (.t 17) (.seq (.reg i_laws_FnExactStoreScan_r4)
  .ret) .skip))
  (.seq (.regd i_laws_FnExactStoreScan_r5)
  (.seq (.reg i_laws_FnExactStoreScan_r6)
  (.seq (.reg i_laws_FnExactStoreScan_r7)
  (.seq (.seq (.reg i_laws_FnExactStoreScan_r8)
  (.cond (.t 32) (.seq (.reg i_laws_FnExactStoreScan_r9)
  .ret) .skip))
  (.seq (.seq (.reg i_laws_FnExactStoreScan_r10)
  (.cond (.t 37) (.seq (.reg i_laws_FnExactStoreScan_r11)
  .ret) .skip))
  (.seq (.reg i_laws_FnExactStoreScan_r12)
  (.seq (.reg i_laws_FnExactStoreScan_r13)
  (.seq (.seq (.reg i_laws_FnExactStoreScan_r14)
  (.cond (.t 48) (.seq (.reg i_laws_FnExactStoreScan_r15)
  .ret) .skip))
  (.seq (.reg i_laws_FnExactStoreScan_r16)
  (.seq (.reg i_laws_FnExactStoreScan_r17)
  (.seq (.reg i_laws_FnExactStoreScan_r18)
  (.seq (.reg i_laws_FnExactStoreScan_r19)
  (.seq (.seq (.reg i_laws_FnExactStoreScan_r20)
  (.cond (.t 56) (.seq (.reg i_laws_FnExactStoreScan_r21)
  .ret) .skip))
  (.seq (.seq (.reg i_laws_FnExactStoreScan_r22)
  (.cond (.t 59) (.seq (.reg i_laws_FnExactStoreScan_r23)
  .ret) .skip))
  (.seq (.regd i_laws_FnExactStoreScan_r24)
  (.seq (.seq (.reg i_laws_FnExactStoreScan_r25)
  (.cond (.t 68) (.seq (.reg i_laws_FnExactStoreScan_r26)
  .ret) .skip))
  (.seq (.reg i_laws_FnExactStoreScan_r27)
  (.seq (.reg i_laws_FnExactStoreScan_r28)
  (.seq (.seq (.reg i_laws_FnExactStoreScan_r29)
  (.cond (.t 73) (.seq (.reg i_laws_FnExactStoreScan_r30)
  .ret) .skip))
  (.seq (.seq (.reg i_laws_FnExactStoreScan_r31)
  (.cond (.t 76) (.seq (.reg i_laws_FnExactStoreScan_r32)
  .ret) .skip))
  (.seq (.reg i_laws_FnExactStoreScan_r33)
  .ret)))))))))))))))))))))))))

theorem i_laws_FnExactStoreScan_ok : (Try.f4.body.bind fun c => toIC Try.prog 77 c [[(0, []), (1, []), (0, [19]), (7, []), (15, []), (31, [])], [(0, []), (1, []), (0, [61]), (7, []), (15, []), (31, [])]]) = some (i_laws_FnExactStoreScan, []) := by kernel_rfl

theorem i_laws_FnExactStoreScan_fn {ds rs : List D} (hle : ds.length ≤ 77) (h : AW Try.prog 77 i_laws_FnExactStoreScan (Ends [.tmp 4] rs) (init ds)) : Fn Try.prog k_laws_FnExactStoreScan (lent ds) true rs :=
  Fn.intro' (by kernel_rfl) Try.func4 (by kernel_rfl) i_laws_FnExactStoreScan_ok (by kernel_rfl) hle h.h

theorem i_laws_FnExactStoreScan_fnB {ds rs : List D} (hle : ds.length ≤ 77) (h : AW Try.prog 77 i_laws_FnExactStoreScan (EndsB [.tmp 4] rs) (init ds)) : Fn Try.prog k_laws_FnExactStoreScan (lent ds) false rs :=
  Fn.introB' (by kernel_rfl) Try.func4 (by kernel_rfl) i_laws_FnExactStoreScan_ok (by kernel_rfl) hle h.h

abbrev i_laws_szLockS_r0 : List RO := [
  ⟨⟨none, .mov 4 (.c (.one (.d (.int .i64 0))))⟩, 0, []⟩]

abbrev i_laws_szLockS_r1 : List RO := [
  ⟨⟨none, .mov 5 (.t 1)⟩, 0, []⟩,
  ⟨⟨none, .mov 6 (.t 0)⟩, 0, []⟩,
  ⟨⟨none, .len 7 false (.t 6)⟩, 0, []⟩,
  ⟨⟨none, .bin 8 .sub (.t 5) (.t 7)⟩, 0, []⟩,
  ⟨⟨none, .mov 1 (.t 8)⟩, 0, []⟩]

abbrev i_laws_szLockS_r2 : List RO := [
  ⟨⟨none, .mov 9 (.t 1)⟩, 0, []⟩,
  ⟨⟨none, .bin 10 .lss (.t 9) (.c (.one (.d (.int .i64 0))))⟩, 0, []⟩]

abbrev i_laws_szLockS_r3 : List RO := [
  ⟨⟨none, .mov 4 (.c (.one (.d (.int .i64 (-1)))))⟩, 0, []⟩]

abbrev i_laws_szLockS_r4 : List RO := [
  ⟨⟨none, .mov 11 (.t 1)⟩, 0, []⟩,
  ⟨⟨none, .mov 4 (.t 11)⟩, 0, []⟩]

def i_laws_szLockS : IC := (.seq (.reg i_laws_szLockS_r0)
  (.seq (.reg i_laws_szLockS_r1)
  (.seq (.seq (.reg i_laws_szLockS_r2)
  (.cond (.t 10) (.seq (.reg i_laws_szLockS_r3)
  .ret) .skip))
  (.seq (.reg i_laws_szLockS_r4)
  .ret))))

theorem i_laws_szLockS_ok : (Try.f25.body.bind fun c => toIC Try.prog 12 c []) = some (i_laws_szLockS, []) := by kernel_rfl

theorem i_laws_szLockS_fn {ds rs : List D} (hle : ds.length ≤ 12) (h : AW Try.prog 12 i_laws_szLockS (Ends [.tmp 4] rs) (init ds)) : Fn Try.prog k_laws_szLockS (lent ds) true rs :=
  Fn.intro' (by kernel_rfl) Try.func25 (by kernel_rfl) i_laws_szLockS_ok (by kernel_rfl) hle h.h

theorem i_laws_szLockS_fnB {ds rs : List D} (hle : ds.length ≤ 12) (h : AW Try.prog 12 i_laws_szLockS (EndsB [.tmp 4] rs) (init ds)) : Fn Try.prog k_laws_szLockS (lent ds) false rs :=
  Fn.introB' (by kernel_rfl) Try.func25 (by kernel_rfl) i_laws_szLockS_ok (by kernel_rfl) hle h.h

abbrev i_laws_toLock_r0 : List RO := [
  ⟨⟨none, .box 1 (.t 0)⟩, 0, []⟩,
  ⟨⟨none, .var 2 [(.d (.int .i64 0)), (.d (.int .i64 0)), (.d (.int .i64 0)), (.d (.int .i64 0))]⟩, 0, []⟩]

abbrev i_laws_toLock_r1 : List RO := [
  ⟨⟨none, .var 3 [(.d (.int .i64 0)), (.d (.int .i64 0)), (.d (.int .i64 0)), (.d (.int .i64 0))]⟩, 0, []⟩]

abbrev i_laws_toLock_r2 : List RO := [
  ⟨⟨none, .faddr 4 0 (.t 1)⟩, 0, []⟩,
  ⟨⟨none, .load 5 none (.t 4)⟩, 0, []⟩,
  ⟨⟨none, .faddr 6 0 (.t 3)⟩, 0, []⟩,
  ⟨⟨none, .store 1 [(.int .i64 0)] (.t 6) (.t 5)⟩, 0, []⟩]

abbrev i_laws_toLock_r3 : List RO := [
  ⟨⟨none, .faddr 7 1 (.t 1)⟩, 0, []⟩,
  ⟨⟨none, .load 8 none (.t 7)⟩, 0, []⟩,
  ⟨⟨none, .faddr 9 1 (.t 3)⟩, 0, []⟩,
  ⟨⟨none, .store 1 [(.int .i64 0)] (.t 9) (.t 8)⟩, 0, []⟩]

abbrev i_laws_toLock_r4 : List RO := [
  ⟨⟨none, .faddr 10 2 (.t 1)⟩, 0, []⟩,
  ⟨⟨none, .load 11 none (.t 10)⟩, 0, []⟩,
  ⟨⟨none, .faddr 12 2 (.t 3)⟩, 0, []⟩,
  ⟨⟨none, .store 1 [(.int .i64 0)] (.t 12) (.t 11)⟩, 0, []⟩]

abbrev i_laws_toLock_r5 : List RO := [
  ⟨⟨none, .faddr 13 3 (.t 1)⟩, 0, []⟩,
  ⟨⟨none, .load 14 none (.t 13)⟩, 0, []⟩,
  ⟨⟨none, .faddr 15 3 (.t 3)⟩, 0, []⟩,
  ⟨⟨none, .store 1 [(.int .i64 0)] (.t 15) (.t 14)⟩, 0, []⟩]

abbrev i_laws_toLock_r6 : List RO := [
  ⟨⟨none, .load 16 (some 4) (.t 3)⟩, 0, []⟩,
  ⟨⟨none, .store 4 [(.int .i64 0), (.int .i64 0), (.int .i64 0), (.int .i64 0)] (.t 2) (.t 16)⟩, 0, []⟩]

def i_laws_toLock : IC := (.seq (.reg i_laws_toLock_r0)
  (.seq (.reg i_laws_toLock_r1)
  (.seq (.reg i_laws_toLock_r2)
  (.seq (.reg i_laws_toLock_r3)
  (.seq (.reg i_laws_toLock_r4)
  (.seq (.reg i_laws_toLock_r5)
  (.seq (.reg i_laws_toLock_r6)
  .ret)))))))

theorem i_laws_toLock_ok : (Try.f73.body.bind fun c => toIC Try.prog 17 c []) = some (i_laws_toLock, []) := by kernel_rfl

theorem i_laws_toLock_fn {ds rs : List D} (hle : ds.length ≤ 17) (h : AW Try.prog 17 i_laws_toLock (Ends [.cell 2 (some 4)] rs) (init ds)) : Fn Try.prog k_laws_toLock (lent ds) true rs :=
  Fn.intro' (by kernel_rfl) Try.func73 (by kernel_rfl) i_laws_toLock_ok (by kernel_rfl) hle h.h

theorem i_laws_toLock_fnB {ds rs : List D} (hle : ds.length ≤ 17) (h : AW Try.prog 17 i_laws_toLock (EndsB [.cell 2 (some 4)] rs) (init ds)) : Fn Try.prog k_laws_toLock (lent ds) false rs :=
  Fn.introB' (by kernel_rfl) Try.func73 (by kernel_rfl) i_laws_toLock_ok (by kernel_rfl) hle h.h

abbrev i_laws_toLockS_r0 : List RO := [
  ⟨⟨none, .mov 2 (.c (.one .zs))⟩, 0, []⟩]

abbrev i_laws_toLockS_r1 : List RO := [
  ⟨⟨none, .mov 5 (.t 0)⟩, 0, []⟩,
  ⟨⟨none, .len 6 false (.t 5)⟩, 0, []⟩,
  ⟨⟨none, .mksl 7 4 32 [(.int .i64 0), (.int .i64 0), (.int .i64 0), (.int .i64 0)] (.t 6) (.t 6)⟩, 0, []⟩,
  ⟨⟨none, .mov 3 (.t 7)⟩, 0, []⟩]

abbrev i_laws_toLockS_r2 : List RO := [
  ⟨⟨none, .mov 4 (.c (.one (.d (.int .i64 0))))⟩, 0, []⟩]

abbrev i_laws_toLockS_r3 : List RO := [
  ⟨⟨none, .mov 8 (.t 4)⟩, 0, []⟩,
  ⟨⟨none, .mov 9 (.t 0)⟩, 0, []⟩,
  ⟨⟨none, .len 10 false (.t 9)⟩, 0, []⟩,
  ⟨⟨none, .bin 11 .lss (.t 8) (.t 10)⟩, 0, []⟩]

abbrev i_laws_toLockS_r4 : List RO := [
  ⟨⟨none, .mov 14 (.t 3)⟩, 0, []⟩,
  ⟨⟨none, .mov 15 (.t 4)⟩, 0, []⟩,
  ⟨⟨none, .mov 16 (.t 0)⟩, 0, []⟩,
  ⟨⟨none, .mov 17 (.t 4)⟩, 0, []⟩,
  ⟨⟨none, .iaddr 18 4 (.t 16) (.t 17)⟩, 0, []⟩,
  ⟨⟨none, .load 19 (some 4) (.t 18)⟩, 0, []⟩,
  ⟨⟨none, .callv 20 (.c (.one (.fn k_laws_toLock []))) [(.t 19)]⟩, 0, []⟩,
  ⟨⟨none, .iaddr 21 4 (.t 14) (.t 15)⟩, 0, []⟩,
  ⟨⟨none, .store 4 [(.int .i64 0), (.int .i64 0), (.int .i64 0), (.int .i64 0)] (.t 21) (.t 20)⟩, 0, []⟩]

abbrev i_laws_toLockS_r5 : List RO := [
  ⟨⟨none, .mov 12 (.t 4)⟩, 0, []⟩,
  ⟨⟨none, .bin 13 .add (.t 12) (.c (.one (.d (.int .i64 1))))⟩, 0, []⟩,
  ⟨⟨none, .mov 4 (.t 13)⟩, 0, []⟩]

abbrev i_laws_toLockS_r6 : List RO := [
  ⟨⟨none, .mov 22 (.t 3)⟩, 0, []⟩,
  ⟨⟨none, .mov 2 (.t 22)⟩, 0, []⟩]

def i_laws_toLockS : IC := (.seq (.reg i_laws_toLockS_r0)
  (.seq (.reg i_laws_toLockS_r1)
  (.seq (.seq (.reg i_laws_toLockS_r2)
  (.block 0 (.loop (.seq (.seq (.reg i_laws_toLockS_r3)
  (.cond (.t 11) .skip (.exit 0)))
  (.seq (.block 1 (.reg i_laws_toLockS_r4))
  (.reg i_laws_toLockS_r5))))))
  (.seq (.reg i_laws_toLockS_r6)
  .ret))))

theorem i_laws_toLockS_ok : (Try.f27.body.bind fun c => toIC Try.prog 23 c []) = some (i_laws_toLockS, []) := by kernel_rfl

theorem i_laws_toLockS_fn {ds rs : List D} (hle : ds.length ≤ 23) (h : AW Try.prog 23 i_laws_toLockS (Ends [.tmp 2] rs) (init ds)) : Fn Try.prog k_laws_toLockS (lent ds) true rs :=
  Fn.intro' (by kernel_rfl) Try.func27 (by kernel_rfl) i_laws_toLockS_ok (by kernel_rfl) hle h.h

theorem i_laws_toLockS_fnB {ds rs : List D} (hle : ds.length ≤ 23) (h : AW Try.prog 23 i_laws_toLockS (EndsB [.tmp 2] rs) (init ds)) : Fn Try.prog k_laws_toLockS (lent ds) false rs :=
  Fn.introB' (by kernel_rfl) Try.func27 (by kernel_rfl) i_laws_toLockS_ok (by kernel_rfl) hle h.h

abbrev i_spec_l12Tx_r0 : List RO := [
  ⟨⟨none, .mov 2 (.c (.one (.d (.bool false))))⟩, 0, []⟩]

abbrev i_spec_l12Tx_r1 : List RO := [
  ⟨⟨none, .mov 3 (.t 0)⟩, 0, []⟩,
  ⟨⟨none, .callv 4 (.c (.one (.fn k_spec_l1In []))) [(.t 3), (.c (.one (.d (.int .i64 1)))), (.c (.one (.d (.int .i64 60))))]⟩, 0, []⟩,
  ⟨⟨none, .mov 2 (.t 4)⟩, 0, []⟩]

def i_spec_l12Tx : IC := (.seq (.reg i_spec_l12Tx_r0)
  (.seq (.reg i_spec_l12Tx_r1)
  .ret))

theorem i_spec_l12Tx_ok : (Try.f128.body.bind fun c => toIC Try.prog 5 c []) = some (i_spec_l12Tx, []) := by kernel_rfl

theorem i_spec_l12Tx_fn {ds rs : List D} (hle : ds.length ≤ 5) (h : AW Try.prog 5 i_spec_l12Tx (Ends [.tmp 2] rs) (init ds)) : Fn Try.prog k_spec_l12Tx (lent ds) true rs :=
  Fn.intro' (by kernel_rfl) Try.func128 (by kernel_rfl) i_spec_l12Tx_ok (by kernel_rfl) hle h.h

theorem i_spec_l12Tx_fnB {ds rs : List D} (hle : ds.length ≤ 5) (h : AW Try.prog 5 i_spec_l12Tx (EndsB [.tmp 2] rs) (init ds)) : Fn Try.prog k_spec_l12Tx (lent ds) false rs :=
  Fn.introB' (by kernel_rfl) Try.func128 (by kernel_rfl) i_spec_l12Tx_ok (by kernel_rfl) hle h.h

abbrev i_spec_l12Range_r0 : List RO := [
  ⟨⟨none, .box 1 (.t 0)⟩, 0, []⟩,
  ⟨⟨none, .var 2 [(.d (.int .i64 0)), (.d (.int .i64 0))]⟩, 0, []⟩]

abbrev i_spec_l12Range_r1 : List RO := [
  ⟨⟨none, .faddr 3 1 (.t 1)⟩, 0, []⟩,
  ⟨⟨none, .load 4 none (.t 3)⟩, 0, []⟩,
  ⟨⟨none, .faddr 5 2 (.t 1)⟩, 0, []⟩,
  ⟨⟨none, .load 6 none (.t 5)⟩, 0, []⟩,
  ⟨⟨none, .build 7 [(.d (.int .i64 0)), (.d (.int .i64 0))] [(0, 1, (.t 4)), (1, 1, (.t 6))]⟩, 0, []⟩,
  ⟨⟨none, .store 2 [(.int .i64 0), (.int .i64 0)] (.t 2) (.t 7)⟩, 0, []⟩]

def i_spec_l12Range : IC := (.seq (.reg i_spec_l12Range_r0)
  (.seq (.reg i_spec_l12Range_r1)
  .ret))

theorem i_spec_l12Range_ok : (Try.f129.body.bind fun c => toIC Try.prog 8 c []) = some (i_spec_l12Range, []) := by kernel_rfl

theorem i_spec_l12Range_fn {ds rs : List D} (hle : ds.length ≤ 8) (h : AW Try.prog 8 i_spec_l12Range (Ends [.cell 2 (some 2)] rs) (init ds)) : Fn Try.prog k_spec_l12Range (lent ds) true rs :=
  Fn.intro' (by kernel_rfl) Try.func129 (by kernel_rfl) i_spec_l12Range_ok (by kernel_rfl) hle h.h

theorem i_spec_l12Range_fnB {ds rs : List D} (hle : ds.length ≤ 8) (h : AW Try.prog 8 i_spec_l12Range (EndsB [.cell 2 (some 2)] rs) (init ds)) : Fn Try.prog k_spec_l12Range (lent ds) false rs :=
  Fn.introB' (by kernel_rfl) Try.func129 (by kernel_rfl) i_spec_l12Range_ok (by kernel_rfl) hle h.h

abbrev i_spec_l12Mode_r0 : List RO := [
  ⟨⟨none, .mov 2 (.c (.one (.d (.bool false))))⟩, 0, []⟩]

abbrev i_spec_l12Mode_r1 : List RO := [
  ⟨⟨none, .mov 3 (.t 0)⟩, 0, []⟩,
  ⟨⟨none, .bin 4 .eql (.t 3) (.c (.one (.d (.int .i64 1))))⟩, 0, []⟩,
  ⟨⟨none, .mov 5 (.t 4)⟩, 0, []⟩,
  ⟨⟨some (5, false), .mov 6 (.t 0)⟩, 0, []⟩,
  ⟨⟨some (5, false), .bin 7 .eql (.t 6) (.c (.one (.d (.int .i64 2))))⟩, 0, []⟩,
  ⟨⟨none, .pick 8 (.t 5) (.c (.one (.d (.bool true)))) (.t 7)⟩, 0, []⟩,
  ⟨⟨none, .mov 2 (.t 8)⟩, 0, []⟩]

def i_spec_l12Mode : IC := (.seq (.reg i_spec_l12Mode_r0)
  (.seq (.reg i_spec_l12Mode_r1)
  .ret))

theorem i_spec_l12Mode_ok : (Try.f130.body.bind fun c => toIC Try.prog 9 c []) = some (i_spec_l12Mode, []) := by kernel_rfl

theorem i_spec_l12Mode_fn {ds rs : List D} (hle : ds.length ≤ 9) (h : AW Try.prog 9 i_spec_l12Mode (Ends [.tmp 2] rs) (init ds)) : Fn Try.prog k_spec_l12Mode (lent ds) true rs :=
  Fn.intro' (by kernel_rfl) Try.func130 (by kernel_rfl) i_spec_l12Mode_ok (by kernel_rfl) hle h.h

theorem i_spec_l12Mode_fnB {ds rs : List D} (hle : ds.length ≤ 9) (h : AW Try.prog 9 i_spec_l12Mode (EndsB [.tmp 2] rs) (init ds)) : Fn Try.prog k_spec_l12Mode (lent ds) false rs :=
  Fn.introB' (by kernel_rfl) Try.func130 (by kernel_rfl) i_spec_l12Mode_ok (by kernel_rfl) hle h.h

abbrev i_spec_l1Max_r0 : List RO := [
  ⟨⟨none, .mov 4 (.c (.one (.d (.int .i64 0))))⟩, 0, []⟩]

abbrev i_spec_l1Max_r1 : List RO := [
  ⟨⟨none, .mov 5 (.t 0)⟩, 0, []⟩,
  ⟨⟨none, .mov 6 (.t 1)⟩, 0, []⟩,
  ⟨⟨none, .bin 7 .gtr (.t 5) (.t 6)⟩, 0, []⟩]

abbrev i_spec_l1Max_r2 : List RO := [
  ⟨⟨none, .mov 8 (.t 0)⟩, 0, []⟩,
  ⟨⟨none, .mov 4 (.t 8)⟩, 0, []⟩]

abbrev i_spec_l1Max_r3 : List RO := [
  ⟨⟨none, .mov 9 (.t 1)⟩, 0, []⟩,
  ⟨⟨none, .mov 4 (.t 9)⟩, 0, []⟩]

def i_spec_l1Max : IC := (.seq (.reg i_spec_l1Max_r0)
  (.seq (.seq (.reg i_spec_l1Max_r1)
  (.cond (.t 7) (.seq (.reg i_spec_l1Max_r2)
  .ret) .skip))
  (.seq (.reg i_spec_l1Max_r3)
  .ret)))

theorem i_spec_l1Max_ok : (Try.f184.body.bind fun c => toIC Try.prog 10 c []) = some (i_spec_l1Max, []) := by kernel_rfl

theorem i_spec_l1Max_fn {ds rs : List D} (hle : ds.length ≤ 10) (h : AW Try.prog 10 i_spec_l1Max (Ends [.tmp 4] rs) (init ds)) : Fn Try.prog k_spec_l1Max (lent ds) true rs :=
  Fn.intro' (by kernel_rfl) Try.func184 (by kernel_rfl) i_spec_l1Max_ok (by kernel_rfl) hle h.h

theorem i_spec_l1Max_fnB {ds rs : List D} (hle : ds.length ≤ 10) (h : AW Try.prog 10 i_spec_l1Max (EndsB [.tmp 4] rs) (init ds)) : Fn Try.prog k_spec_l1Max (lent ds) false rs :=
  Fn.introB' (by kernel_rfl) Try.func184 (by kernel_rfl) i_spec_l1Max_ok (by kernel_rfl) hle h.h

abbrev i_spec_l1Min_r0 : List RO := [
  ⟨⟨none, .mov 4 (.c (.one (.d (.int .i64 0))))⟩, 0, []⟩]

abbrev i_spec_l1Min_r1 : List RO := [
  ⟨⟨none, .mov 5 (.t 0)⟩, 0, []⟩,
  ⟨⟨none, .mov 6 (.t 1)⟩, 0, []⟩,
  ⟨⟨none, .bin 7 .lss (.t 5) (.t 6)⟩, 0, []⟩]

abbrev i_spec_l1Min_r2 : List RO := [
  ⟨⟨none, .mov 8 (.t 0)⟩, 0, []⟩,
  ⟨⟨none, .mov 4 (.t 8)⟩, 0, []⟩]

abbrev i_spec_l1Min_r3 : List RO := [
  ⟨⟨none, .mov 9 (.t 1)⟩, 0, []⟩,
  ⟨⟨none, .mov 4 (.t 9)⟩, 0, []⟩]

def i_spec_l1Min : IC := (.seq (.reg i_spec_l1Min_r0)
  (.seq (.seq (.reg i_spec_l1Min_r1)
  (.cond (.t 7) (.seq (.reg i_spec_l1Min_r2)
  .ret) .skip))
  (.seq (.reg i_spec_l1Min_r3)
  .ret)))

theorem i_spec_l1Min_ok : (Try.f149.body.bind fun c => toIC Try.prog 10 c []) = some (i_spec_l1Min, []) := by kernel_rfl

theorem i_spec_l1Min_fn {ds rs : List D} (hle : ds.length ≤ 10) (h : AW Try.prog 10 i_spec_l1Min (Ends [.tmp 4] rs) (init ds)) : Fn Try.prog k_spec_l1Min (lent ds) true rs :=
  Fn.intro' (by kernel_rfl) Try.func149 (by kernel_rfl) i_spec_l1Min_ok (by kernel_rfl) hle h.h

theorem i_spec_l1Min_fnB {ds rs : List D} (hle : ds.length ≤ 10) (h : AW Try.prog 10 i_spec_l1Min (EndsB [.tmp 4] rs) (init ds)) : Fn Try.prog k_spec_l1Min (lent ds) false rs :=
  Fn.introB' (by kernel_rfl) Try.func149 (by kernel_rfl) i_spec_l1Min_ok (by kernel_rfl) hle h.h

abbrev i_spec_RangeMeet_r0 : List RO := [
  ⟨⟨none, .box 2 (.t 0)⟩, 0, []⟩,
  ⟨⟨none, .box 3 (.t 1)⟩, 0, []⟩,
  ⟨⟨none, .var 4 [(.d (.int .i64 0)), (.d (.int .i64 0))]⟩, 0, []⟩,
  ⟨⟨none, .mov 5 (.c (.one (.d (.bool false))))⟩, 0, []⟩]

abbrev i_spec_RangeMeet_r1 : List RO := [
  ⟨⟨none, .faddr 7 0 (.t 2)⟩, 0, []⟩,
  ⟨⟨none, .load 8 none (.t 7)⟩, 1, [6]⟩,
  ⟨⟨none, .faddr 9 0 (.t 3)⟩, 0, []⟩,
  ⟨⟨none, .load 10 none (.t 9)⟩, 4, [6]⟩,
  ⟨⟨none, .callv 11 (.c (.one (.fn k_spec_l1Max []))) [(.t 8), (.t 10)]⟩, 15, [6]⟩,
  ⟨⟨none, .faddr 12 1 (.t 2)⟩, 0, []⟩,
  ⟨⟨none, .load 13 none (.t 12)⟩, 32, [11, 6]⟩,
  ⟨⟨none, .faddr 14 1 (.t 3)⟩, 0, []⟩,
  ⟨⟨none, .load 15 none (.t 14)⟩, 128, [11, 6]⟩,
  ⟨⟨none, .callv 16 (.c (.one (.fn k_spec_l1Min []))) [(.t 13), (.t 15)]⟩, 511, [6]⟩,
  ⟨⟨none, .build 17 [(.d (.int .i64 0)), (.d (.int .i64 0))] [(0, 1, (.t 11)), (1, 1, (.t 16))]⟩, 1023, []⟩,
  ⟨⟨none, .var 6 [(.d (.int .i64 0)), (.d (.int .i64 0))]⟩, 0, [11, 16]⟩,
  ⟨⟨none, .store 2 [(.int .i64 0), (.int .i64 0)] (.t 6) (.t 17)⟩, 4095, []⟩]

abbrev i_spec_RangeMeet_r2 : List RO := [
  ⟨⟨none, .load 18 (some 2) (.t 2)⟩, 0, []⟩,
  ⟨⟨none, .callv 19 (.c (.one (.fn k_spec_RangeOk []))) [(.t 18)]⟩, 0, []⟩,
  ⟨⟨none, .inv 20 (.t 19)⟩, 0, []⟩,
  ⟨⟨none, .mov 21 (.t 20)⟩, 0, []⟩,
  ⟨⟨some (21, false), .load 22 (some 2) (.t 3)⟩, 0, []⟩,
  ⟨⟨some (21, false), .callv 23 (.c (.one (.fn k_spec_RangeOk []))) [(.t 22)]⟩, 0, []⟩,
  ⟨⟨some (21, false), .inv 24 (.t 23)⟩, 0, []⟩,
  ⟨⟨none, .pick 25 (.t 21) (.c (.one (.d (.bool true)))) (.t 24)⟩, 0, []⟩,
  ⟨⟨none, .mov 26 (.t 25)⟩, 0, []⟩,
  ⟨⟨some (26, false), .load 27 (some 2) (.t 6)⟩, 0, []⟩,
  ⟨⟨some (26, false), .callv 28 (.c (.one (.fn k_spec_RangeOk []))) [(.t 27)]⟩, 0, []⟩,
  ⟨⟨some (26, false), .inv 29 (.t 28)⟩, 0, []⟩,
  ⟨⟨none, .pick 30 (.t 26) (.c (.one (.d (.bool true)))) (.t 29)⟩, 0, []⟩]

abbrev i_spec_RangeMeet_r3 : List RO := [
  ⟨⟨none, .build 31 [(.d (.int .i64 0)), (.d (.int .i64 0))] []⟩, 0, []⟩,
  ⟨⟨none, .store 2 [(.int .i64 0), (.int .i64 0)] (.t 4) (.t 31)⟩, 0, []⟩,
  ⟨⟨none, .mov 5 (.c (.one (.d (.bool false))))⟩, 0, []⟩]

abbrev i_spec_RangeMeet_r4 : List RO := [
  ⟨⟨none, .load 32 (some 2) (.t 6)⟩, 0, []⟩,
  ⟨⟨none, .store 2 [(.int .i64 0), (.int .i64 0)] (.t 4) (.t 32)⟩, 0, []⟩,
  ⟨⟨none, .mov 5 (.c (.one (.d (.bool true))))⟩, 0, []⟩]

def i_spec_RangeMeet : IC := (.seq (.reg i_spec_RangeMeet_r0)
  (.seq (.regd i_spec_RangeMeet_r1)
  (.seq (.seq (.reg i_spec_RangeMeet_r2)
  (.cond (.t 30) (.seq (.reg i_spec_RangeMeet_r3)
  .ret) .skip))
  (.seq (.reg i_spec_RangeMeet_r4)
  .ret))))

theorem i_spec_RangeMeet_ok : (Try.f164.body.bind fun c => toIC Try.prog 33 c [[(0, []), (1, [6]), (0, []), (4, [6]), (15, [6]), (0, []), (32, [11, 6]), (0, []), (128, [11, 6]), (511, [6]), (1023, []), (0, [11, 16]), (4095, [])]]) = some (i_spec_RangeMeet, []) := by kernel_rfl

theorem i_spec_RangeMeet_fn {ds rs : List D} (hle : ds.length ≤ 33) (h : AW Try.prog 33 i_spec_RangeMeet (Ends [.cell 4 (some 2), .tmp 5] rs) (init ds)) : Fn Try.prog k_spec_RangeMeet (lent ds) true rs :=
  Fn.intro' (by kernel_rfl) Try.func164 (by kernel_rfl) i_spec_RangeMeet_ok (by kernel_rfl) hle h.h

theorem i_spec_RangeMeet_fnB {ds rs : List D} (hle : ds.length ≤ 33) (h : AW Try.prog 33 i_spec_RangeMeet (EndsB [.cell 4 (some 2), .tmp 5] rs) (init ds)) : Fn Try.prog k_spec_RangeMeet (lent ds) false rs :=
  Fn.introB' (by kernel_rfl) Try.func164 (by kernel_rfl) i_spec_RangeMeet_ok (by kernel_rfl) hle h.h

abbrev i_spec_l12Clash_r0 : List RO := [
  ⟨⟨none, .box 2 (.t 0)⟩, 0, []⟩,
  ⟨⟨none, .box 3 (.t 1)⟩, 0, []⟩,
  ⟨⟨none, .mov 4 (.c (.one (.d (.bool false))))⟩, 0, []⟩]

abbrev i_spec_l12Clash_r1 : List RO := [
  ⟨⟨none, .load 8 (some 4) (.t 2)⟩, 0, [5]⟩,
  ⟨⟨none, .callv 9 (.c (.one (.fn k_spec_l12Range []))) [(.t 8)]⟩, 1, [5]⟩,
  ⟨⟨none, .load 10 (some 4) (.t 3)⟩, 0, [9, 5]⟩,
  ⟨⟨none, .callv 11 (.c (.one (.fn k_spec_l12Range []))) [(.t 10)]⟩, 7, [5]⟩,
  ⟨⟨none, .callv 12 (.c (.one (.fn k_spec_RangeMeet []))) [(.t 9), (.t 11)]⟩, 15, [5]⟩,
  ⟨⟨none, .mov 7 (.t 12)⟩, 31, []⟩,
  ⟨⟨none, .ext 13 (.t 7) 0⟩, 63, []⟩,
  ⟨⟨none, .ext 14 (.t 7) 1⟩, 63, []⟩,
  ⟨⟨none, .var 5 [(.d (.int .i64 0)), (.d (.int .i64 0))]⟩, 0, [9, 11, 12]⟩,
  ⟨⟨none, .store 2 [(.int .i64 0), (.int .i64 0)] (.t 5) (.t 13)⟩, 383, []⟩,
  ⟨⟨none, .mov 6 (.t 14)⟩, 1023, []⟩]

abbrev i_spec_l12Clash_r2 : List RO := [
  ⟨⟨none, .mov 15 (.t 6)⟩, 0, []⟩,
  ⟨⟨none, .mov 16 (.t 15)⟩, 0, []⟩,
  ⟨⟨some (16, true), .faddr 17 0 (.t 2)⟩, 0, []⟩,
  ⟨⟨some (16, true), .load 18 none (.t 17)⟩, 0, []⟩,
  ⟨⟨some (16, true), .faddr 19 0 (.t 3)⟩, 0, []⟩,
  ⟨⟨some (16, true), .load 20 none (.t 19)⟩, 0, []⟩,
  ⟨⟨some (16, true), .bin 21 .neq (.t 18) (.t 20)⟩, 0, []⟩,
  ⟨⟨none, .pick 22 (.t 16) (.t 21) (.c (.one (.d (.bool false))))⟩, 0, []⟩,
  ⟨⟨none, .mov 23 (.t 22)⟩, 0, []⟩,
  ⟨⟨some (23, true), .faddr 24 3 (.t 2)⟩, 0, []⟩,
  ⟨⟨some (23, true), .load 25 none (.t 24)⟩, 0, []⟩,
  ⟨⟨some (23, true), .bin 26 .eql (.t 25) (.c (.one (.d (.int .i64 2))))⟩, 0, []⟩,
  ⟨⟨some (23, true), .mov 27 (.t 26)⟩, 0, []⟩,
  ⟨⟨some (27, false), .faddr 28 3 (.t 3)⟩, 0, []⟩,
  ⟨⟨some (27, false), .load 29 none (.t 28)⟩, 0, []⟩,
  ⟨⟨some (27, false), .bin 30 .eql (.t 29) (.c (.one (.d (.int .i64 2))))⟩, 0, []⟩,
  ⟨⟨some (23, true), .pick 31 (.t 27) (.c (.one (.d (.bool true)))) (.t 30)⟩, 0, []⟩,
  ⟨⟨none, .pick 32 (.t 23) (.t 31) (.c (.one (.d (.bool false))))⟩, 0, []⟩,
  ⟨⟨none, .mov 4 (.t 32)⟩, 0, []⟩]

def i_spec_l12Clash : IC := (.seq (.reg i_spec_l12Clash_r0)
  (.seq (.regd i_spec_l12Clash_r1)
  (.seq (.reg i_spec_l12Clash_r2)
  .ret)))

theorem i_spec_l12Clash_ok : (Try.f131.body.bind fun c => toIC Try.prog 33 c [[(0, [5]), (1, [5]), (0, [9, 5]), (7, [5]), (15, [5]), (31, []), (63, []), (63, []), (0, [9, 11, 12]), (383, []), (1023, [])]]) = some (i_spec_l12Clash, []) := by kernel_rfl

theorem i_spec_l12Clash_fn {ds rs : List D} (hle : ds.length ≤ 33) (h : AW Try.prog 33 i_spec_l12Clash (Ends [.tmp 4] rs) (init ds)) : Fn Try.prog k_spec_l12Clash (lent ds) true rs :=
  Fn.intro' (by kernel_rfl) Try.func131 (by kernel_rfl) i_spec_l12Clash_ok (by kernel_rfl) hle h.h

theorem i_spec_l12Clash_fnB {ds rs : List D} (hle : ds.length ≤ 33) (h : AW Try.prog 33 i_spec_l12Clash (EndsB [.tmp 4] rs) (init ds)) : Fn Try.prog k_spec_l12Clash (lent ds) false rs :=
  Fn.introB' (by kernel_rfl) Try.func131 (by kernel_rfl) i_spec_l12Clash_ok (by kernel_rfl) hle h.h

abbrev i_spec_LocksOk_r0 : List RO := [
  ⟨⟨none, .mov 2 (.c (.one (.d (.bool false))))⟩, 0, []⟩]

abbrev i_spec_LocksOk_r1 : List RO := [
  ⟨⟨none, .mov 5 (.t 0)⟩, 0, []⟩,
  ⟨⟨none, .len 6 false (.t 5)⟩, 0, []⟩,
  ⟨⟨none, .bin 7 .gtr (.t 6) (.c (.one (.d (.int .i64 40))))⟩, 0, []⟩]

abbrev i_spec_LocksOk_r2 : List RO := [
  ⟨⟨none, .mov 2 (.c (.one (.d (.bool false))))⟩, 0, []⟩]

abbrev i_spec_LocksOk_r3 : List RO := [
  ⟨⟨none, .mov 3 (.c (.one (.d (.int .i64 0))))⟩, 0, []⟩]

abbrev i_spec_LocksOk_r4 : List RO := [
  ⟨⟨none, .mov 8 (.t 3)⟩, 0, []⟩,
  ⟨⟨none, .mov 9 (.t 0)⟩, 0, []⟩,
  ⟨⟨none, .len 10 false (.t 9)⟩, 0, []⟩,
  ⟨⟨none, .bin 11 .lss (.t 8) (.t 10)⟩, 0, []⟩]

abbrev i_spec_LocksOk_r5 : List RO := [
  ⟨⟨none, .mov 14 (.t 0)⟩, 0, []⟩,
  ⟨⟨none, .mov 15 (.t 3)⟩, 0, []⟩,
  ⟨⟨none, .iaddr 16 4 (.t 14) (.t 15)⟩, 0, []⟩,
  ⟨⟨none, .faddr 17 0 (.t 16)⟩, 0, []⟩,
  ⟨⟨none, .load 18 none (.t 17)⟩, 0, []⟩,
  ⟨⟨none, .callv 19 (.c (.one (.fn k_spec_l12Tx []))) [(.t 18)]⟩, 0, []⟩,
  ⟨⟨none, .inv 20 (.t 19)⟩, 0, []⟩,
  ⟨⟨none, .mov 21 (.t 20)⟩, 0, []⟩,
  ⟨⟨some (21, false), .mov 22 (.t 0)⟩, 0, []⟩,
  ⟨⟨some (21, false), .mov 23 (.t 3)⟩, 0, []⟩,
  ⟨⟨some (21, false), .iaddr 24 4 (.t 22) (.t 23)⟩, 0, []⟩,
  ⟨⟨some (21, false), .load 25 (some 4) (.t 24)⟩, 0, []⟩,
  ⟨⟨some (21, false), .callv 26 (.c (.one (.fn k_spec_l12Range []))) [(.t 25)]⟩, 0, []⟩,
  ⟨⟨some (21, false), .callv 27 (.c (.one (.fn k_spec_RangeOk []))) [(.t 26)]⟩, 0, []⟩,
  ⟨⟨some (21, false), .inv 28 (.t 27)⟩, 0, []⟩,
  ⟨⟨none, .pick 29 (.t 21) (.c (.one (.d (.bool true)))) (.t 28)⟩, 0, []⟩,
  ⟨⟨none, .mov 30 (.t 29)⟩, 0, []⟩,
  ⟨⟨some (30, false), .mov 31 (.t 0)⟩, 0, []⟩,
  ⟨⟨some (30, false), .mov 32 (.t 3)⟩, 0, []⟩,
  ⟨⟨some (30, false), .iaddr 33 4 (.t 31) (.t 32)⟩, 0, []⟩,
  ⟨⟨some (30, false), .faddr 34 3 (.t 33)⟩, 0, []⟩,
  ⟨⟨some (30, false), .load 35 none (.t 34)⟩, 0, []⟩,
  ⟨⟨some (30, false), .callv 36 (.c (.one (.fn k_spec_l12Mode []))) [(.t 35)]⟩, 0, []⟩,
  ⟨⟨some (30, false), .inv 37 (.t 36)⟩, 0, []⟩,
  ⟨⟨none, .pick 38 (.t 30) (.c (.one (.d (.bool true)))) (.t 37)⟩, 0, []⟩]

abbrev i_spec_LocksOk_r6 : List RO := [
  ⟨⟨none, .mov 2 (.c (.one (.d (.bool false))))⟩, 0, []⟩]

abbrev i_spec_LocksOk_r7 : List RO := [
  ⟨⟨none, .mov 4 (.c (.one (.d (.int .i64 0))))⟩, 0, []⟩]

abbrev i_spec_LocksOk_r8 : List RO := [
  ⟨⟨none, .mov 39 (.t 4)⟩, 0, []⟩,
  ⟨⟨none, .mov 40 (.t 3)⟩, 0, []⟩,
  ⟨⟨none, .bin 41 .lss (.t 39) (.t 40)⟩, 0, []⟩]

abbrev i_spec_LocksOk_r9 : List RO := [
  ⟨⟨none, .mov 44 (.t 0)⟩, 0, []⟩,
  ⟨⟨none, .mov 45 (.t 3)⟩, 0, []⟩,
  ⟨⟨none, .iaddr 46 4 (.t 44) (.t 45)⟩, 3, []⟩,
  ⟨⟨none, .load 47 (some 4) (.t 46)⟩, 7, []⟩,
  ⟨⟨none, .mov 48 (.t 0)⟩, 0, []⟩,
  ⟨⟨none, .mov 49 (.t 4)⟩, 0, []⟩,
  ⟨⟨none, .iaddr 50 4 (.t 48) (.t 49)⟩, 48, []⟩,
  ⟨⟨none, .load 51 (some 4) (.t 50)⟩, 112, []⟩,
  ⟨⟨none, .callv 52 (.c (.one (.fn k_spec_l12Clash []))) [(.t 47), (.t 51)]⟩, 255, []⟩]

abbrev i_spec_LocksOk_r10 : List RO := [
  ⟨⟨none, .mov 2 (.c (.one (.d (.bool false))))⟩, 0, []⟩]

abbrev i_spec_LocksOk_r11 : List RO := [
  ⟨⟨none, .mov 42 (.t 4)⟩, 0, []⟩,
  ⟨⟨none, .bin 43 .add (.t 42) (.c (.one (.d (.int .i64 1))))⟩, 0, []⟩,
  ⟨⟨none, .mov 4 (.t 43)⟩, 0, []⟩]

abbrev i_spec_LocksOk_r12 : List RO := [
  ⟨⟨none, .mov 12 (.t 3)⟩, 0, []⟩,
  ⟨⟨none, .bin 13 .add (.t 12) (.c (.one (.d (.int .i64 1))))⟩, 0, []⟩,
  ⟨⟨none, .mov 3 (.t 13)⟩, 0, []⟩]

abbrev i_spec_LocksOk_r13 : List RO := [
  ⟨⟨none, .mov 2 (.c (.one (.d (.bool true))))⟩, 0, []⟩]

def i_spec_LocksOk : IC := (.seq (.reg i_spec_LocksOk_r0)
  (.seq (.seq (.reg i_spec_LocksOk_r1)
  (.cond (.t 7) (.seq (.reg i_spec_LocksOk_r2)
  .ret) .skip))
  (.seq (.seq (.reg i_spec_LocksOk_r3)
  (.block 0 (.loop (.seq (.seq (.reg i_spec_LocksOk_r4)
  (.cond (.t 11) .skip (.exit 0)))
  (.seq (.block 1 (.seq (.seq (.reg i_spec_LocksOk_r5)
  (.cond (.t 38) (.seq (.reg i_spec_LocksOk_r6)
  .ret) .skip))
  (.seq (.reg i_spec_LocksOk_r7)
  (.block 2 (.loop (.seq (.seq (.reg i_spec_LocksOk_r8)
  (.cond (.t 41) .skip (.exit 2)))
  (.seq (.block 3 (.seq (.regd i_spec_LocksOk_r9)
  (.cond (.t 52) (.seq (.reg i_spec_LocksOk_r10)
  .ret) .skip)))
  (.reg i_spec_LocksOk_r11))))))))
  (.reg i_spec_LocksOk_r12))))))
  (.seq (.reg i_spec_LocksOk_r13)
  .ret))))

theorem i_spec_LocksOk_ok : (Try.f71.body.bind fun c => toIC Try.prog 53 c [[(0, []), (0, []), (3, []), (7, []), (0, []), (0, []), (48, []), (112, []), (255, [])]]) = some (i_spec_LocksOk, []) := by kernel_rfl

theorem i_spec_LocksOk_fn {ds rs : List D} (hle : ds.length ≤ 53) (h : AW Try.prog 53 i_spec_LocksOk (Ends [.tmp 2] rs) (init ds)) : Fn Try.prog k_spec_LocksOk (lent ds) true rs :=
  Fn.intro' (by kernel_rfl) Try.func71 (by kernel_rfl) i_spec_LocksOk_ok (by kernel_rfl) hle h.h

theorem i_spec_LocksOk_fnB {ds rs : List D} (hle : ds.length ≤ 53) (h : AW Try.prog 53 i_spec_LocksOk (EndsB [.tmp 2] rs) (init ds)) : Fn Try.prog k_spec_LocksOk (lent ds) false rs :=
  Fn.introB' (by kernel_rfl) Try.func71 (by kernel_rfl) i_spec_LocksOk_ok (by kernel_rfl) hle h.h

abbrev i_spec_l12Keep_r0 : List RO := [
  ⟨⟨none, .mov 6 (.c (.one .zs))⟩, 0, []⟩]

abbrev i_spec_l12Keep_r1 : List RO := [
  ⟨⟨none, .bslice 9 4 [] []⟩, 0, []⟩,
  ⟨⟨none, .mov 7 (.t 9)⟩, 0, []⟩]

abbrev i_spec_l12Keep_r2 : List RO := [
  ⟨⟨none, .mov 8 (.c (.one (.d (.int .i64 0))))⟩, 0, []⟩]

abbrev i_spec_l12Keep_r3 : List RO := [
  ⟨⟨none, .mov 10 (.t 8)⟩, 0, []⟩,
  ⟨⟨none, .mov 11 (.t 0)⟩, 0, []⟩,
  ⟨⟨none, .len 12 false (.t 11)⟩, 0, []⟩,
  ⟨⟨none, .bin 13 .lss (.t 10) (.t 12)⟩, 0, []⟩]

abbrev i_spec_l12Keep_r4 : List RO := [
  ⟨⟨none, .mov 16 (.t 0)⟩, 0, []⟩,
  ⟨⟨none, .mov 17 (.t 8)⟩, 0, []⟩,
  ⟨⟨none, .iaddr 18 4 (.t 16) (.t 17)⟩, 0, []⟩,
  ⟨⟨none, .faddr 19 0 (.t 18)⟩, 0, []⟩,
  ⟨⟨none, .load 20 none (.t 19)⟩, 0, []⟩,
  ⟨⟨none, .mov 21 (.t 1)⟩, 0, []⟩,
  ⟨⟨none, .bin 22 .eql (.t 20) (.t 21)⟩, 0, []⟩,
  ⟨⟨none, .mov 23 (.t 2)⟩, 0, []⟩,
  ⟨⟨none, .beq 24 false (.t 22) (.t 23)⟩, 0, []⟩]

abbrev i_spec_l12Keep_r5 : List RO := [
  ⟨⟨none, .mov 25 (.t 7)⟩, 0, []⟩,
  ⟨⟨none, .mov 26 (.t 0)⟩, 0, []⟩,
  ⟨⟨none, .mov 27 (.t 8)⟩, 0, []⟩,
  ⟨⟨none, .iaddr 28 4 (.t 26) (.t 27)⟩, 0, []⟩,
  ⟨⟨none, .load 29 (some 4) (.t 28)⟩, 0, []⟩,
  ⟨⟨none, .bslice 30 4 [(.d (.int .i64 0)), (.d (.int .i64 0)), (.d (.int .i64 0)), (.d (.int .i64 0))] [(0, 4, (.t 29))]⟩, 0, []⟩,
  ⟨⟨none, .app 31 4 32 [(.int .i64 0), (.int .i64 0), (.int .i64 0), (.int .i64 0)] (.t 25) (.t 30)⟩, 0, []⟩,
  ⟨⟨none, .mov 7 (.t 31)⟩, 0, []⟩]

abbrev i_spec_l12Keep_r6 : List RO := [
  ⟨⟨none, .mov 14 (.t 8)⟩, 0, []⟩,
  ⟨⟨none, .bin 15 .add (.t 14) (.c (.one (.d (.int .i64 1))))⟩, 0, []⟩,
  ⟨⟨none, .mov 8 (.t 15)⟩, 0, []⟩]

abbrev i_spec_l12Keep_r7 : List RO := [
  ⟨⟨none, .mov 32 (.t 7)⟩, 0, []⟩,
  ⟨⟨none, .mov 6 (.t 32)⟩, 0, []⟩]

def i_spec_l12Keep : IC := (.seq (.reg i_spec_l12Keep_r0)
  (.seq (.reg i_spec_l12Keep_r1)
  (.seq (.seq (.reg i_spec_l12Keep_r2)
  (.block 0 (.loop (.seq (.seq (.reg i_spec_l12Keep_r3)
  (.cond (.t 13) .skip (.exit 0)))
  (.seq (.block 1 (.seq (.reg i_spec_l12Keep_r4)
  (.cond (.t 24) (.reg i_spec_l12Keep_r5) .skip)))
  (.reg i_spec_l12Keep_r6))))))
  (.seq (.reg i_spec_l12Keep_r7)
  .ret))))

theorem i_spec_l12Keep_ok : (Try.f72.body.bind fun c => toIC Try.prog 33 c []) = some (i_spec_l12Keep, []) := by kernel_rfl

theorem i_spec_l12Keep_fn {ds rs : List D} (hle : ds.length ≤ 33) (h : AW Try.prog 33 i_spec_l12Keep (Ends [.tmp 6] rs) (init ds)) : Fn Try.prog k_spec_l12Keep (lent ds) true rs :=
  Fn.intro' (by kernel_rfl) Try.func72 (by kernel_rfl) i_spec_l12Keep_ok (by kernel_rfl) hle h.h

theorem i_spec_l12Keep_fnB {ds rs : List D} (hle : ds.length ≤ 33) (h : AW Try.prog 33 i_spec_l12Keep (EndsB [.tmp 6] rs) (init ds)) : Fn Try.prog k_spec_l12Keep (lent ds) false rs :=
  Fn.introB' (by kernel_rfl) Try.func72 (by kernel_rfl) i_spec_l12Keep_ok (by kernel_rfl) hle h.h

abbrev i_spec_LocksDrop_r0 : List RO := [
  ⟨⟨none, .mov 4 (.c (.one .zs))⟩, 0, []⟩]

abbrev i_spec_LocksDrop_r1 : List RO := [
  ⟨⟨none, .mov 5 (.t 0)⟩, 0, []⟩,
  ⟨⟨none, .callv 6 (.c (.one (.fn k_spec_LocksOk []))) [(.t 5)]⟩, 0, []⟩,
  ⟨⟨none, .inv 7 (.t 6)⟩, 0, []⟩]

abbrev i_spec_LocksDrop_r2 : List RO := [
  ⟨⟨none, .bslice 8 4 [] []⟩, 0, []⟩,
  ⟨⟨none, .mov 4 (.t 8)⟩, 0, []⟩]

abbrev i_spec_LocksDrop_r3 : List RO := [
  ⟨⟨none, .mov 9 (.t 0)⟩, 0, []⟩,
  ⟨⟨none, .mov 10 (.t 1)⟩, 0, []⟩,
  ⟨⟨none, .callv 11 (.c (.one (.fn k_spec_l12Keep []))) [(.t 9), (.t 10), (.c (.one (.d (.bool false))))]⟩, 0, []⟩,
  ⟨⟨none, .mov 4 (.t 11)⟩, 0, []⟩]

def i_spec_LocksDrop : IC := (.seq (.reg i_spec_LocksDrop_r0)
  (.seq (.seq (.reg i_spec_LocksDrop_r1)
  (.cond (.t 7) (.seq (.reg i_spec_LocksDrop_r2)
  .ret) .skip))
  (.seq (.reg i_spec_LocksDrop_r3)
  .ret)))

theorem i_spec_LocksDrop_ok : (Try.f26.body.bind fun c => toIC Try.prog 12 c []) = some (i_spec_LocksDrop, []) := by kernel_rfl

theorem i_spec_LocksDrop_fn {ds rs : List D} (hle : ds.length ≤ 12) (h : AW Try.prog 12 i_spec_LocksDrop (Ends [.tmp 4] rs) (init ds)) : Fn Try.prog k_spec_LocksDrop (lent ds) true rs :=
  Fn.intro' (by kernel_rfl) Try.func26 (by kernel_rfl) i_spec_LocksDrop_ok (by kernel_rfl) hle h.h

theorem i_spec_LocksDrop_fnB {ds rs : List D} (hle : ds.length ≤ 12) (h : AW Try.prog 12 i_spec_LocksDrop (EndsB [.tmp 4] rs) (init ds)) : Fn Try.prog k_spec_LocksDrop (lent ds) false rs :=
  Fn.introB' (by kernel_rfl) Try.func26 (by kernel_rfl) i_spec_LocksDrop_ok (by kernel_rfl) hle h.h

abbrev i_impl_isTx_r0 : List RO := [
  ⟨⟨none, .mov 2 (.c (.one (.d (.bool false))))⟩, 0, []⟩]

abbrev i_impl_isTx_r1 : List RO := [
  ⟨⟨none, .mov 3 (.t 0)⟩, 0, []⟩,
  ⟨⟨none, .callv 4 (.c (.one (.fn k_impl_from []))) [(.t 3), (.c (.one (.d (.int .i64 1)))), (.c (.one (.d (.int .i64 60))))]⟩, 0, []⟩,
  ⟨⟨none, .mov 2 (.t 4)⟩, 0, []⟩]

def i_impl_isTx : IC := (.seq (.reg i_impl_isTx_r0)
  (.seq (.reg i_impl_isTx_r1)
  .ret))

theorem i_impl_isTx_ok : (Try.f132.body.bind fun c => toIC Try.prog 5 c []) = some (i_impl_isTx, []) := by kernel_rfl

theorem i_impl_isTx_fn {ds rs : List D} (hle : ds.length ≤ 5) (h : AW Try.prog 5 i_impl_isTx (Ends [.tmp 2] rs) (init ds)) : Fn Try.prog k_impl_isTx (lent ds) true rs :=
  Fn.intro' (by kernel_rfl) Try.func132 (by kernel_rfl) i_impl_isTx_ok (by kernel_rfl) hle h.h

theorem i_impl_isTx_fnB {ds rs : List D} (hle : ds.length ≤ 5) (h : AW Try.prog 5 i_impl_isTx (EndsB [.tmp 2] rs) (init ds)) : Fn Try.prog k_impl_isTx (lent ds) false rs :=
  Fn.introB' (by kernel_rfl) Try.func132 (by kernel_rfl) i_impl_isTx_ok (by kernel_rfl) hle h.h

abbrev i__impl_Lock_keys_r0 : List RO := [
  ⟨⟨none, .box 1 (.t 0)⟩, 0, []⟩,
  ⟨⟨none, .var 2 [(.d (.int .i64 0)), (.d (.int .i64 0))]⟩, 0, []⟩]

abbrev i__impl_Lock_keys_r1 : List RO := [
  ⟨⟨none, .faddr 3 1 (.t 1)⟩, 0, []⟩,
  ⟨⟨none, .load 4 none (.t 3)⟩, 0, []⟩,
  ⟨⟨none, .faddr 5 2 (.t 1)⟩, 0, []⟩,
  ⟨⟨none, .load 6 none (.t 5)⟩, 0, []⟩,
  ⟨⟨none, .build 7 [(.d (.int .i64 0)), (.d (.int .i64 0))] [(0, 1, (.t 4)), (1, 1, (.t 6))]⟩, 0, []⟩,
  ⟨⟨none, .store 2 [(.int .i64 0), (.int .i64 0)] (.t 2) (.t 7)⟩, 0, []⟩]

def i__impl_Lock_keys : IC := (.seq (.reg i__impl_Lock_keys_r0)
  (.seq (.reg i__impl_Lock_keys_r1)
  .ret))

theorem i__impl_Lock_keys_ok : (Try.f133.body.bind fun c => toIC Try.prog 8 c []) = some (i__impl_Lock_keys, []) := by kernel_rfl

theorem i__impl_Lock_keys_fn {ds rs : List D} (hle : ds.length ≤ 8) (h : AW Try.prog 8 i__impl_Lock_keys (Ends [.cell 2 (some 2)] rs) (init ds)) : Fn Try.prog k__impl_Lock_keys (lent ds) true rs :=
  Fn.intro' (by kernel_rfl) Try.func133 (by kernel_rfl) i__impl_Lock_keys_ok (by kernel_rfl) hle h.h

theorem i__impl_Lock_keys_fnB {ds rs : List D} (hle : ds.length ≤ 8) (h : AW Try.prog 8 i__impl_Lock_keys (EndsB [.cell 2 (some 2)] rs) (init ds)) : Fn Try.prog k__impl_Lock_keys (lent ds) false rs :=
  Fn.introB' (by kernel_rfl) Try.func133 (by kernel_rfl) i__impl_Lock_keys_ok (by kernel_rfl) hle h.h

abbrev i_impl_isMode_r0 : List RO := [
  ⟨⟨none, .mov 2 (.c (.one (.d (.bool false))))⟩, 0, []⟩]

abbrev i_impl_isMode_r1 : List RO := [
  ⟨⟨none, .mov 3 (.t 0)⟩, 0, []⟩,
  ⟨⟨none, .bin 4 .eql (.t 3) (.c (.one (.d (.int .i64 1))))⟩, 0, []⟩,
  ⟨⟨none, .mov 5 (.t 4)⟩, 0, []⟩,
  ⟨⟨some (5, false), .mov 6 (.t 0)⟩, 0, []⟩,
  ⟨⟨some (5, false), .bin 7 .eql (.t 6) (.c (.one (.d (.int .i64 2))))⟩, 0, []⟩,
  ⟨⟨none, .pick 8 (.t 5) (.c (.one (.d (.bool true)))) (.t 7)⟩, 0, []⟩,
  ⟨⟨none, .mov 2 (.t 8)⟩, 0, []⟩]

def i_impl_isMode : IC := (.seq (.reg i_impl_isMode_r0)
  (.seq (.reg i_impl_isMode_r1)
  .ret))

theorem i_impl_isMode_ok : (Try.f134.body.bind fun c => toIC Try.prog 9 c []) = some (i_impl_isMode, []) := by kernel_rfl

theorem i_impl_isMode_fn {ds rs : List D} (hle : ds.length ≤ 9) (h : AW Try.prog 9 i_impl_isMode (Ends [.tmp 2] rs) (init ds)) : Fn Try.prog k_impl_isMode (lent ds) true rs :=
  Fn.intro' (by kernel_rfl) Try.func134 (by kernel_rfl) i_impl_isMode_ok (by kernel_rfl) hle h.h

theorem i_impl_isMode_fnB {ds rs : List D} (hle : ds.length ≤ 9) (h : AW Try.prog 9 i_impl_isMode (EndsB [.tmp 2] rs) (init ds)) : Fn Try.prog k_impl_isMode (lent ds) false rs :=
  Fn.introB' (by kernel_rfl) Try.func134 (by kernel_rfl) i_impl_isMode_ok (by kernel_rfl) hle h.h

abbrev i_impl_meets_r0 : List RO := [
  ⟨⟨none, .box 2 (.t 0)⟩, 0, []⟩,
  ⟨⟨none, .box 3 (.t 1)⟩, 0, []⟩,
  ⟨⟨none, .mov 4 (.c (.one (.d (.bool false))))⟩, 0, []⟩]

abbrev i_impl_meets_r1 : List RO := [
  ⟨⟨none, .faddr 5 0 (.t 2)⟩, 0, []⟩,
  ⟨⟨none, .load 6 none (.t 5)⟩, 0, []⟩,
  ⟨⟨none, .faddr 7 1 (.t 3)⟩, 0, []⟩,
  ⟨⟨none, .load 8 none (.t 7)⟩, 0, []⟩,
  ⟨⟨none, .bin 9 .lss (.t 6) (.t 8)⟩, 0, []⟩,
  ⟨⟨none, .mov 10 (.t 9)⟩, 0, []⟩,
  ⟨⟨some (10, true), .faddr 11 0 (.t 3)⟩, 0, []⟩,
  ⟨⟨some (10, true), .load 12 none (.t 11)⟩, 0, []⟩,
  ⟨⟨some (10, true), .faddr 13 1 (.t 2)⟩, 0, []⟩,
  ⟨⟨some (10, true), .load 14 none (.t 13)⟩, 0, []⟩,
  ⟨⟨some (10, true), .bin 15 .lss (.t 12) (.t 14)⟩, 0, []⟩,
  ⟨⟨none, .pick 16 (.t 10) (.t 15) (.c (.one (.d (.bool false))))⟩, 0, []⟩,
  ⟨⟨none, .mov 4 (.t 16)⟩, 0, []⟩]

def i_impl_meets : IC := (.seq (.reg i_impl_meets_r0)
  (.seq (.reg i_impl_meets_r1)
  .ret))

theorem i_impl_meets_ok : (Try.f165.body.bind fun c => toIC Try.prog 17 c []) = some (i_impl_meets, []) := by kernel_rfl

theorem i_impl_meets_fn {ds rs : List D} (hle : ds.length ≤ 17) (h : AW Try.prog 17 i_impl_meets (Ends [.tmp 4] rs) (init ds)) : Fn Try.prog k_impl_meets (lent ds) true rs :=
  Fn.intro' (by kernel_rfl) Try.func165 (by kernel_rfl) i_impl_meets_ok (by kernel_rfl) hle h.h

theorem i_impl_meets_fnB {ds rs : List D} (hle : ds.length ≤ 17) (h : AW Try.prog 17 i_impl_meets (EndsB [.tmp 4] rs) (init ds)) : Fn Try.prog k_impl_meets (lent ds) false rs :=
  Fn.introB' (by kernel_rfl) Try.func165 (by kernel_rfl) i_impl_meets_ok (by kernel_rfl) hle h.h

abbrev i_impl_clash_r0 : List RO := [
  ⟨⟨none, .box 2 (.t 0)⟩, 0, []⟩,
  ⟨⟨none, .box 3 (.t 1)⟩, 0, []⟩,
  ⟨⟨none, .mov 4 (.c (.one (.d (.bool false))))⟩, 0, []⟩]

abbrev i_impl_clash_r1 : List RO := [
  ⟨⟨none, .faddr 5 0 (.t 2)⟩, 0, []⟩,
  ⟨⟨none, .load 6 none (.t 5)⟩, 1, []⟩,
  ⟨⟨none, .faddr 7 0 (.t 3)⟩, 0, []⟩,
  ⟨⟨none, .load 8 none (.t 7)⟩, 4, []⟩,
  ⟨⟨none, .bin 9 .neq (.t 6) (.t 8)⟩, 15, []⟩,
  ⟨⟨none, .mov 10 (.t 9)⟩, 31, []⟩,
  ⟨⟨some (10, true), .faddr 11 3 (.t 2)⟩, 63, []⟩,
  ⟨⟨some (10, true), .load 12 none (.t 11)⟩, 127, []⟩,
  ⟨⟨some (10, true), .bin 13 .eql (.t 12) (.c (.one (.d (.int .i64 2))))⟩, 255, []⟩,
  ⟨⟨some (10, true), .mov 14 (.t 13)⟩, 511, []⟩,
  ⟨⟨some (14, false), .faddr 15 3 (.t 3)⟩, 1023, []⟩,
  ⟨⟨some (14, false), .load 16 none (.t 15)⟩, 2047, []⟩,
  ⟨⟨some (14, false), .bin 17 .eql (.t 16) (.c (.one (.d (.int .i64 2))))⟩, 4095, []⟩,
  ⟨⟨some (10, true), .pick 18 (.t 14) (.c (.one (.d (.bool true)))) (.t 17)⟩, 8191, []⟩,
  ⟨⟨none, .pick 19 (.t 10) (.t 18) (.c (.one (.d (.bool false))))⟩, 16383, []⟩,
  ⟨⟨none, .mov 20 (.t 19)⟩, 32767, []⟩,
  ⟨⟨some (20, true), .load 21 (some 4) (.t 2)⟩, 65535, []⟩,
  ⟨⟨some (20, true), .callv 22 (.c (.one (.fn k__impl_Lock_keys []))) [(.t 21)]⟩, 131071, []⟩,
  ⟨⟨some (20, true), .load 23 (some 4) (.t 3)⟩, 65535, [22]⟩,
  ⟨⟨some (20, true), .callv 24 (.c (.one (.fn k__impl_Lock_keys []))) [(.t 23)]⟩, 524287, []⟩,
  ⟨⟨some (20, true), .callv 25 (.c (.one (.fn k_impl_meets []))) [(.t 22), (.t 24)]⟩, 1048575, []⟩,
  ⟨⟨none, .pick 26 (.t 20) (.t 25) (.c (.one (.d (.bool false))))⟩, 2097151, []⟩,
  ⟨⟨none, .mov 4 (.t 26)⟩, 4194303, []⟩]

def i_impl_clash : IC := (.seq (.reg i_impl_clash_r0)
  (.seq (.regd i_impl_clash_r1)
  .ret))

theorem i_impl_clash_ok : (Try.f137.body.bind fun c => toIC Try.prog 27 c [[(0, []), (1, []), (0, []), (4, []), (15, []), (31, []), (63, []), (127, []), (255, []), (511, []), (1023, []), (2047, []), (4095, []), (8191, []), (16383, []), (32767, []), (65535, []), (131071, []), (65535, [22]), (524287, []), (1048575, []), (2097151, []), (4194303, [])]]) = some (i_impl_clash, []) := by kernel_rfl

theorem i_impl_clash_fn {ds rs : List D} (hle : ds.length ≤ 27) (h : AW Try.prog 27 i_impl_clash (Ends [.tmp 4] rs) (init ds)) : Fn Try.prog k_impl_clash (lent ds) true rs :=
  Fn.intro' (by kernel_rfl) Try.func137 (by kernel_rfl) i_impl_clash_ok (by kernel_rfl) hle h.h

theorem i_impl_clash_fnB {ds rs : List D} (hle : ds.length ≤ 27) (h : AW Try.prog 27 i_impl_clash (EndsB [.tmp 4] rs) (init ds)) : Fn Try.prog k_impl_clash (lent ds) false rs :=
  Fn.introB' (by kernel_rfl) Try.func137 (by kernel_rfl) i_impl_clash_ok (by kernel_rfl) hle h.h

abbrev i_impl_LocksOk_1_r0 : List RO := [
  ⟨⟨none, .box 2 (.t 0)⟩, 0, []⟩,
  ⟨⟨none, .mov 3 (.c (.one (.d (.bool false))))⟩, 0, []⟩]

abbrev i_impl_LocksOk_1_r1 : List RO := [
  ⟨⟨none, .load 4 (some 4) (.t 1)⟩, 0, []⟩,
  ⟨⟨none, .load 5 (some 4) (.t 2)⟩, 0, []⟩,
  ⟨⟨none, .callv 6 (.c (.one (.fn k_impl_clash []))) [(.t 4), (.t 5)]⟩, 0, []⟩,
  ⟨⟨none, .mov 3 (.t 6)⟩, 0, []⟩]

def i_impl_LocksOk_1 : IC := (.seq (.reg i_impl_LocksOk_1_r0)
  (.seq (.reg i_impl_LocksOk_1_r1)
  .ret))

theorem i_impl_LocksOk_1_ok : (Try.f136.body.bind fun c => toIC Try.prog 7 c []) = some (i_impl_LocksOk_1, []) := by kernel_rfl

theorem i_impl_LocksOk_1_fn {ds rs : List D} (hle : ds.length ≤ 7) (h : AW Try.prog 7 i_impl_LocksOk_1 (Ends [.tmp 3] rs) (init ds)) : Fn Try.prog k_impl_LocksOk_1 (lent ds) true rs :=
  Fn.intro' (by kernel_rfl) Try.func136 (by kernel_rfl) i_impl_LocksOk_1_ok (by kernel_rfl) hle h.h

theorem i_impl_LocksOk_1_fnB {ds rs : List D} (hle : ds.length ≤ 7) (h : AW Try.prog 7 i_impl_LocksOk_1 (EndsB [.tmp 3] rs) (init ds)) : Fn Try.prog k_impl_LocksOk_1 (lent ds) false rs :=
  Fn.introB' (by kernel_rfl) Try.func136 (by kernel_rfl) i_impl_LocksOk_1_ok (by kernel_rfl) hle h.h

abbrev i_slices_IndexFunc___impl_Lock_impl_Lock__r0 : List RO := [
  ⟨⟨none, .mov 4 (.c (.one (.d (.int .i64 0))))⟩, 0, []⟩]

abbrev i_slices_IndexFunc___impl_Lock_impl_Lock__r1 : List RO := [
  ⟨⟨none, .mov 6 (.t 0)⟩, 0, []⟩,
  ⟨⟨none, .len 7 false (.t 6)⟩, 0, []⟩,
  ⟨⟨none, .mov 8 (.c (.one (.d (.int .i64 0))))⟩, 0, []⟩]

abbrev i_slices_IndexFunc___impl_Lock_impl_Lock__r2 : List RO := [
  ⟨⟨none, .bin 9 .lss (.t 8) (.t 7)⟩, 0, []⟩]

abbrev i_slices_IndexFunc___impl_Lock_impl_Lock__r3 : List RO := [
  ⟨⟨none, .mov 10 (.t 8)⟩, 0, []⟩,
  ⟨⟨none, .mov 5 (.t 10)⟩, 0, []⟩]

abbrev i_slices_IndexFunc___impl_Lock_impl_Lock__r4 : List RO := [
  ⟨⟨none, .mov 11 (.t 1)⟩, 0, []⟩,
  ⟨⟨none, .mov 12 (.t 0)⟩, 0, []⟩,
  ⟨⟨none, .mov 13 (.t 5)⟩, 0, []⟩,
  ⟨⟨none, .iaddr 14 4 (.t 12) (.t 13)⟩, 0, []⟩,
  ⟨⟨none, .load 15 (some 4) (.t 14)⟩, 0, []⟩,
  ⟨⟨none, .callv 16 (.t 11) [(.t 15)]⟩, 0, []⟩]

abbrev i_slices_IndexFunc___impl_Lock_impl_Lock__r5 : List RO := [
  ⟨⟨none, .mov 17 (.t 5)⟩, 0, []⟩,
  ⟨⟨none, .mov 4 (.t 17)⟩, 0, []⟩]

abbrev i_slices_IndexFunc___impl_Lock_impl_Lock__r6 : List RO := [
  ⟨⟨none, .bin 18 .add (.t 8) (.c (.one (.d (.int .i64 1))))⟩, 0, []⟩,
  ⟨⟨none, .mov 8 (.t 18)⟩, 0, []⟩]

abbrev i_slices_IndexFunc___impl_Lock_impl_Lock__r7 : List RO := [
  ⟨⟨none, .mov 4 (.c (.one (.d (.int .i64 (-1)))))⟩, 0, []⟩]

def i_slices_IndexFunc___impl_Lock_impl_Lock_ : IC := (.seq (.reg i_slices_IndexFunc___impl_Lock_impl_Lock__r0)
  (.seq (.seq (.reg i_slices_IndexFunc___impl_Lock_impl_Lock__r1)
  (.block 0 (.loop (.seq (.reg i_slices_IndexFunc___impl_Lock_impl_Lock__r2)
  (.seq (.cond (.t 9) .skip (.exit 0))
  (.seq (.block 1 (.seq (.reg i_slices_IndexFunc___impl_Lock_impl_Lock__r3)
  (.seq (.reg i_slices_IndexFunc___impl_Lock_impl_Lock__r4)
  (.cond (.t 16) (.seq (.reg i_slices_IndexFunc___impl_Lock_impl_Lock__r5)
  .ret) .skip))))
  (.reg i_slices_IndexFunc___impl_Lock_impl_Lock__r6)))))))
  (.seq (.reg i_slices_IndexFunc___impl_Lock_impl_Lock__r7)
  .ret)))

theorem i_slices_IndexFunc___impl_Lock_impl_Lock__ok : (Try.f138.body.bind fun c => toIC Try.prog 19 c []) = some (i_slices_IndexFunc___impl_Lock_impl_Lock_, []) := by kernel_rfl

theorem i_slices_IndexFunc___impl_Lock_impl_Lock__fn {ds rs : List D} (hle : ds.length ≤ 19) (h : AW Try.prog 19 i_slices_IndexFunc___impl_Lock_impl_Lock_ (Ends [.tmp 4] rs) (init ds)) : Fn Try.prog k_slices_IndexFunc___impl_Lock_impl_Lock_ (lent ds) true rs :=
  Fn.intro' (by kernel_rfl) Try.func138 (by kernel_rfl) i_slices_IndexFunc___impl_Lock_impl_Lock__ok (by kernel_rfl) hle h.h

theorem i_slices_IndexFunc___impl_Lock_impl_Lock__fnB {ds rs : List D} (hle : ds.length ≤ 19) (h : AW Try.prog 19 i_slices_IndexFunc___impl_Lock_impl_Lock_ (EndsB [.tmp 4] rs) (init ds)) : Fn Try.prog k_slices_IndexFunc___impl_Lock_impl_Lock_ (lent ds) false rs :=
  Fn.introB' (by kernel_rfl) Try.func138 (by kernel_rfl) i_slices_IndexFunc___impl_Lock_impl_Lock__ok (by kernel_rfl) hle h.h

abbrev i_slices_ContainsFunc___impl_Lock_impl_Lock__r0 : List RO := [
  ⟨⟨none, .mov 4 (.c (.one (.d (.bool false))))⟩, 0, []⟩]

abbrev i_slices_ContainsFunc___impl_Lock_impl_Lock__r1 : List RO := [
  ⟨⟨none, .mov 5 (.t 0)⟩, 0, []⟩,
  ⟨⟨none, .mov 6 (.t 1)⟩, 0, []⟩,
  ⟨⟨none, .callv 7 (.c (.one (.fn k_slices_IndexFunc___impl_Lock_impl_Lock_ []))) [(.t 5), (.t 6)]⟩, 0, []⟩,
  ⟨⟨none, .bin 8 .geq (.t 7) (.c (.one (.d (.int .i64 0))))⟩, 0, []⟩,
  ⟨⟨none, .mov 4 (.t 8)⟩, 0, []⟩]

def i_slices_ContainsFunc___impl_Lock_impl_Lock_ : IC := (.seq (.reg i_slices_ContainsFunc___impl_Lock_impl_Lock__r0)
  (.seq (.reg i_slices_ContainsFunc___impl_Lock_impl_Lock__r1)
  .ret))

theorem i_slices_ContainsFunc___impl_Lock_impl_Lock__ok : (Try.f135.body.bind fun c => toIC Try.prog 9 c []) = some (i_slices_ContainsFunc___impl_Lock_impl_Lock_, []) := by kernel_rfl

theorem i_slices_ContainsFunc___impl_Lock_impl_Lock__fn {ds rs : List D} (hle : ds.length ≤ 9) (h : AW Try.prog 9 i_slices_ContainsFunc___impl_Lock_impl_Lock_ (Ends [.tmp 4] rs) (init ds)) : Fn Try.prog k_slices_ContainsFunc___impl_Lock_impl_Lock_ (lent ds) true rs :=
  Fn.intro' (by kernel_rfl) Try.func135 (by kernel_rfl) i_slices_ContainsFunc___impl_Lock_impl_Lock__ok (by kernel_rfl) hle h.h

theorem i_slices_ContainsFunc___impl_Lock_impl_Lock__fnB {ds rs : List D} (hle : ds.length ≤ 9) (h : AW Try.prog 9 i_slices_ContainsFunc___impl_Lock_impl_Lock_ (EndsB [.tmp 4] rs) (init ds)) : Fn Try.prog k_slices_ContainsFunc___impl_Lock_impl_Lock_ (lent ds) false rs :=
  Fn.introB' (by kernel_rfl) Try.func135 (by kernel_rfl) i_slices_ContainsFunc___impl_Lock_impl_Lock__ok (by kernel_rfl) hle h.h

abbrev i_impl_LocksOk_r0 : List RO := [
  ⟨⟨none, .mov 2 (.c (.one (.d (.bool false))))⟩, 0, []⟩]

abbrev i_impl_LocksOk_r1 : List RO := [
  ⟨⟨none, .mov 5 (.t 0)⟩, 0, []⟩,
  ⟨⟨none, .len 6 false (.t 5)⟩, 0, []⟩,
  ⟨⟨none, .mov 7 (.c (.one (.d (.int .i64 0))))⟩, 0, []⟩]

abbrev i_impl_LocksOk_r2 : List RO := [
  ⟨⟨none, .bin 8 .lss (.t 7) (.t 6)⟩, 0, []⟩]

abbrev i_impl_LocksOk_r3 : List RO := [
  ⟨⟨none, .mov 9 (.t 7)⟩, 0, []⟩,
  ⟨⟨none, .iaddr 10 4 (.t 5) (.t 7)⟩, 0, []⟩,
  ⟨⟨none, .load 11 (some 4) (.t 10)⟩, 0, []⟩,
  ⟨⟨none, .var 4 [(.d (.int .i64 0)), (.d (.int .i64 0)), (.d (.int .i64 0)), (.d (.int .i64 0))]⟩, 0, []⟩,
  ⟨⟨none, .mov 3 (.t 9)⟩, 0, []⟩,
  ⟨⟨none, .store 4 [(.int .i64 0), (.int .i64 0), (.int .i64 0), (.int .i64 0)] (.t 4) (.t 11)⟩, 0, []⟩]

abbrev i_impl_LocksOk_r4 : List RO := [
  ⟨⟨none, .faddr 12 0 (.t 4)⟩, 0, []⟩,
  ⟨⟨none, .load 13 none (.t 12)⟩, 0, []⟩,
  ⟨⟨none, .callv 14 (.c (.one (.fn k_impl_isTx []))) [(.t 13)]⟩, 0, []⟩,
  ⟨⟨none, .inv 15 (.t 14)⟩, 0, []⟩,
  ⟨⟨none, .mov 16 (.t 15)⟩, 0, []⟩,
  ⟨⟨some (16, false), .load 17 (some 4) (.t 4)⟩, 0, []⟩,
  ⟨⟨some (16, false), .callv 18 (.c (.one (.fn k__impl_Lock_keys []))) [(.t 17)]⟩, 0, []⟩,
  ⟨⟨some (16, false), .callv 19 (.c (.one (.fn k_impl_RangeOk []))) [(.t 18)]⟩, 0, []⟩,
  ⟨⟨some (16, false), .inv 20 (.t 19)⟩, 0, []⟩,
  ⟨⟨none, .pick 21 (.t 16) (.c (.one (.d (.bool true)))) (.t 20)⟩, 0, []⟩,
  ⟨⟨none, .mov 22 (.t 21)⟩, 0, []⟩,
  ⟨⟨some (22, false), .faddr 23 3 (.t 4)⟩, 0, []⟩,
  ⟨⟨some (22, false), .load 24 none (.t 23)⟩, 0, []⟩,
  ⟨⟨some (22, false), .callv 25 (.c (.one (.fn k_impl_isMode []))) [(.t 24)]⟩, 0, []⟩,
  ⟨⟨some (22, false), .inv 26 (.t 25)⟩, 0, []⟩,
  ⟨⟨none, .pick 27 (.t 22) (.c (.one (.d (.bool true)))) (.t 26)⟩, 0, []⟩,
  ⟨⟨none, .mov 28 (.t 27)⟩, 0, []⟩,
  ⟨⟨some (28, false), .mov 29 (.t 0)⟩, 0, []⟩,
  ⟨⟨some (28, false), .mov 30 (.t 3)⟩, 0, []⟩,
  ⟨⟨some (28, false), .slice 31 4 (.t 29) none (some (.t 30)) none⟩, 0, []⟩,
  ⟨⟨some (28, false), .mkfn 32 k_impl_LocksOk_1 [(.t 4)]⟩, 0, []⟩,
  ⟨⟨some (28, false), .callv 33 (.c (.one (.fn k_slices_ContainsFunc___impl_Lock_impl_Lock_ []))) [(.t 31), (.t 32)]⟩, 0, []⟩,
  ⟨⟨none, .pick 34 (.t 28) (.c (.one (.d (.bool true)))) (.t 33)⟩, 0, []⟩]

abbrev i_impl_LocksOk_r5 : List RO := [
  ⟨⟨none, .mov 2 (.c (.one (.d (.bool false))))⟩, 0, []⟩]

abbrev i_impl_LocksOk_r6 : List RO := [
  ⟨⟨none, .bin 35 .add (.t 7) (.c (.one (.d (.int .i64 1))))⟩, 0, []⟩,
  ⟨⟨none, .mov 7 (.t 35)⟩, 0, []⟩]

abbrev i_impl_LocksOk_r7 : List RO := [
  ⟨⟨none, .mov 36 (.t 0)⟩, 0, []⟩,
  ⟨⟨none, .len 37 false (.t 36)⟩, 0, []⟩,
  ⟨⟨none, .bin 38 .leq (.t 37) (.c (.one (.d (.int .i64 40))))⟩, 0, []⟩,
  ⟨⟨none, .mov 2 (.t 38)⟩, 0, []⟩]

def i_impl_LocksOk : IC := (.seq (.reg i_impl_LocksOk_r0)
  (.seq (.seq (.reg i_impl_LocksOk_r1)
  (.block 0 (.loop (.seq (.reg i_impl_LocksOk_r2)
  (.seq (.cond (.t 8) .skip (.exit 0))
  (.seq (.block 1 (.seq (.reg i_impl_LocksOk_r3)
  (.seq (.reg i_impl_LocksOk_r4)
  (.cond (.t 34) (.seq (.reg i_impl_LocksOk_r5)
  .ret) .skip))))
  (.reg i_impl_LocksOk_r6)))))))
  (.seq (.reg i_impl_LocksOk_r7)
  .ret)))

theorem i_impl_LocksOk_ok : (Try.f74.body.bind fun c => toIC Try.prog 39 c []) = some (i_impl_LocksOk, []) := by kernel_rfl

theorem i_impl_LocksOk_fn {ds rs : List D} (hle : ds.length ≤ 39) (h : AW Try.prog 39 i_impl_LocksOk (Ends [.tmp 2] rs) (init ds)) : Fn Try.prog k_impl_LocksOk (lent ds) true rs :=
  Fn.intro' (by kernel_rfl) Try.func74 (by kernel_rfl) i_impl_LocksOk_ok (by kernel_rfl) hle h.h

theorem i_impl_LocksOk_fnB {ds rs : List D} (hle : ds.length ≤ 39) (h : AW Try.prog 39 i_impl_LocksOk (EndsB [.tmp 2] rs) (init ds)) : Fn Try.prog k_impl_LocksOk (lent ds) false rs :=
  Fn.introB' (by kernel_rfl) Try.func74 (by kernel_rfl) i_impl_LocksOk_ok (by kernel_rfl) hle h.h

abbrev i_slices_Clone___impl_Lock_impl_Lock__r0 : List RO := [
  ⟨⟨none, .mov 2 (.c (.one .zs))⟩, 0, []⟩]

abbrev i_slices_Clone___impl_Lock_impl_Lock__r1 : List RO := [
  ⟨⟨none, .mov 3 (.t 0)⟩, 0, []⟩,
  ⟨⟨none, .isnil 4 false (.t 3)⟩, 0, []⟩]

abbrev i_slices_Clone___impl_Lock_impl_Lock__r2 : List RO := [
  ⟨⟨none, .mov 2 (.c (.one .zs))⟩, 0, []⟩]

abbrev i_slices_Clone___impl_Lock_impl_Lock__r3 : List RO := [
  ⟨⟨none, .bslice 5 4 [] []⟩, 0, []⟩,
  ⟨⟨none, .mov 6 (.t 0)⟩, 0, []⟩,
  ⟨⟨none, .app 7 4 32 [(.int .i64 0), (.int .i64 0), (.int .i64 0), (.int .i64 0)] (.t 5) (.t 6)⟩, 0, []⟩,
  ⟨⟨none, .mov 2 (.t 7)⟩, 0, []⟩]

def i_slices_Clone___impl_Lock_impl_Lock_ : IC := (.seq (.reg i_slices_Clone___impl_Lock_impl_Lock__r0)
  (.seq (.seq (.reg i_slices_Clone___impl_Lock_impl_Lock__r1)
  (.cond (.t 4) (.seq (.reg i_slices_Clone___impl_Lock_impl_Lock__r2)
  .ret) .skip))
  (.seq (.reg i_slices_Clone___impl_Lock_impl_Lock__r3)
  .ret)))

theorem i_slices_Clone___impl_Lock_impl_Lock__ok : (Try.f76.body.bind fun c => toIC Try.prog 8 c []) = some (i_slices_Clone___impl_Lock_impl_Lock_, []) := by kernel_rfl

theorem i_slices_Clone___impl_Lock_impl_Lock__fn {ds rs : List D} (hle : ds.length ≤ 8) (h : AW Try.prog 8 i_slices_Clone___impl_Lock_impl_Lock_ (Ends [.tmp 2] rs) (init ds)) : Fn Try.prog k_slices_Clone___impl_Lock_impl_Lock_ (lent ds) true rs :=
  Fn.intro' (by kernel_rfl) Try.func76 (by kernel_rfl) i_slices_Clone___impl_Lock_impl_Lock__ok (by kernel_rfl) hle h.h

theorem i_slices_Clone___impl_Lock_impl_Lock__fnB {ds rs : List D} (hle : ds.length ≤ 8) (h : AW Try.prog 8 i_slices_Clone___impl_Lock_impl_Lock_ (EndsB [.tmp 2] rs) (init ds)) : Fn Try.prog k_slices_Clone___impl_Lock_impl_Lock_ (lent ds) false rs :=
  Fn.introB' (by kernel_rfl) Try.func76 (by kernel_rfl) i_slices_Clone___impl_Lock_impl_Lock__ok (by kernel_rfl) hle h.h

abbrev i_impl_LocksDrop_1_r0 : List RO := [
  ⟨⟨none, .box 2 (.t 0)⟩, 0, []⟩,
  ⟨⟨none, .mov 3 (.c (.one (.d (.bool false))))⟩, 0, []⟩]

abbrev i_impl_LocksDrop_1_r1 : List RO := [
  ⟨⟨none, .faddr 4 0 (.t 2)⟩, 0, []⟩,
  ⟨⟨none, .load 5 none (.t 4)⟩, 0, []⟩,
  ⟨⟨none, .load 6 none (.t 1)⟩, 0, []⟩,
  ⟨⟨none, .bin 7 .eql (.t 5) (.t 6)⟩, 0, []⟩,
  ⟨⟨none, .mov 3 (.t 7)⟩, 0, []⟩]

def i_impl_LocksDrop_1 : IC := (.seq (.reg i_impl_LocksDrop_1_r0)
  (.seq (.reg i_impl_LocksDrop_1_r1)
  .ret))

theorem i_impl_LocksDrop_1_ok : (Try.f77.body.bind fun c => toIC Try.prog 8 c []) = some (i_impl_LocksDrop_1, []) := by kernel_rfl

theorem i_impl_LocksDrop_1_fn {ds rs : List D} (hle : ds.length ≤ 8) (h : AW Try.prog 8 i_impl_LocksDrop_1 (Ends [.tmp 3] rs) (init ds)) : Fn Try.prog k_impl_LocksDrop_1 (lent ds) true rs :=
  Fn.intro' (by kernel_rfl) Try.func77 (by kernel_rfl) i_impl_LocksDrop_1_ok (by kernel_rfl) hle h.h

theorem i_impl_LocksDrop_1_fnB {ds rs : List D} (hle : ds.length ≤ 8) (h : AW Try.prog 8 i_impl_LocksDrop_1 (EndsB [.tmp 3] rs) (init ds)) : Fn Try.prog k_impl_LocksDrop_1 (lent ds) false rs :=
  Fn.introB' (by kernel_rfl) Try.func77 (by kernel_rfl) i_impl_LocksDrop_1_ok (by kernel_rfl) hle h.h

abbrev i_slices_DeleteFunc___impl_Lock_impl_Lock__r0 : List RO := [
  ⟨⟨none, .mov 4 (.c (.one .zs))⟩, 0, []⟩]

abbrev i_slices_DeleteFunc___impl_Lock_impl_Lock__r1 : List RO := [
  ⟨⟨none, .mov 8 (.t 0)⟩, 0, []⟩,
  ⟨⟨none, .mov 9 (.t 1)⟩, 0, []⟩,
  ⟨⟨none, .callv 10 (.c (.one (.fn k_slices_IndexFunc___impl_Lock_impl_Lock_ []))) [(.t 8), (.t 9)]⟩, 0, []⟩,
  ⟨⟨none, .mov 5 (.t 10)⟩, 0, []⟩]

abbrev i_slices_DeleteFunc___impl_Lock_impl_Lock__r2 : List RO := [
  ⟨⟨none, .mov 11 (.t 5)⟩, 0, []⟩,
  ⟨⟨none, .bin 12 .eql (.t 11) (.c (.one (.d (.int .i64 (-1)))))⟩, 0, []⟩]

abbrev i_slices_DeleteFunc___impl_Lock_impl_Lock__r3 : List RO := [
  ⟨⟨none, .mov 13 (.t 0)⟩, 0, []⟩,
  ⟨⟨none, .mov 4 (.t 13)⟩, 0, []⟩]

abbrev i_slices_DeleteFunc___impl_Lock_impl_Lock__r4 : List RO := [
  ⟨⟨none, .mov 14 (.t 5)⟩, 0, []⟩,
  ⟨⟨none, .bin 15 .add (.t 14) (.c (.one (.d (.int .i64 1))))⟩, 0, []⟩,
  ⟨⟨none, .mov 6 (.t 15)⟩, 0, []⟩]

abbrev i_slices_DeleteFunc___impl_Lock_impl_Lock__r5 : List RO := [
  ⟨⟨none, .mov 16 (.t 6)⟩, 0, []⟩,
  ⟨⟨none, .mov 17 (.t 0)⟩, 0, []⟩,
  ⟨⟨none, .len 18 false (.t 17)⟩, 0, []⟩,
  ⟨⟨none, .bin 19 .lss (.t 16) (.t 18)⟩, 0, []⟩]

abbrev i_slices_DeleteFunc___impl_Lock_impl_Lock__r6 : List RO := [
  ⟨⟨none, .mov 22 (.t 0)⟩, 0, []⟩,
  ⟨⟨none, .mov 23 (.t 6)⟩, 0, []⟩,
  ⟨⟨none, .iaddr 24 4 (.t 22) (.t 23)⟩, 0, []⟩,
  ⟨⟨none, .load 25 (some 4) (.t 24)⟩, 0, []⟩,
  ⟨⟨none, .var 7 [(.d (.int .i64 0)), (.d (.int .i64 0)), (.d (.int .i64 0)), (.d (.int .i64 0))]⟩, 0, []⟩,
  ⟨⟨none, .store 4 [(.int .i64 0), (.int .i64 0), (.int .i64 0), (.int .i64 0)] (.t 7) (.t 25)⟩, 0, []⟩]

abbrev i_slices_DeleteFunc___impl_Lock_impl_Lock__r7 : List RO := [
  ⟨⟨none, .mov 26 (.t 1)⟩, 0, []⟩,
  ⟨⟨none, .load 27 (some 4) (.t 7)⟩, 0, []⟩,
  ⟨⟨none, .callv 28 (.t 26) [(.t 27)]⟩, 0, []⟩,
  ⟨⟨none, .inv 29 (.t 28)⟩, 0, []⟩]

abbrev i_slices_DeleteFunc___impl_Lock_impl_Lock__r8 : List RO := [
  ⟨⟨none, .mov 30 (.t 0)⟩, 0, []⟩,
  ⟨⟨none, .mov 31 (.t 5)⟩, 0, []⟩,
  ⟨⟨none, .load 32 (some 4) (.t 7)⟩, 0, []⟩,
  ⟨⟨none, .iaddr 33 4 (.t 30) (.t 31)⟩, 0, []⟩,
  ⟨⟨none, .store 4 [(.int .i64 0), (.int .i64 0), (.int .i64 0), (.int .i64 0)] (.t 33) (.t 32)⟩, 0, []⟩]

abbrev i_slices_DeleteFunc___impl_Lock_impl_Lock__r9 : List RO := [
  ⟨⟨none, .mov 34 (.t 5)⟩, 0, []⟩,
  ⟨⟨none, .bin 35 .add (.t 34) (.c (.one (.d (.int .i64 1))))⟩, 0, []⟩,
  ⟨⟨none, .mov 5 (.t 35)⟩, 0, []⟩]

abbrev i_slices_DeleteFunc___impl_Lock_impl_Lock__r10 : List RO := [
  ⟨⟨none, .mov 20 (.t 6)⟩, 0, []⟩,
  ⟨⟨none, .bin 21 .add (.t 20) (.c (.one (.d (.int .i64 1))))⟩, 0, []⟩,
  ⟨⟨none, .mov 6 (.t 21)⟩, 0, []⟩]

abbrev i_slices_DeleteFunc___impl_Lock_impl_Lock__r11 : List RO := [
  ⟨⟨none, .mov 36 (.t 0)⟩, 0, []⟩,
  ⟨⟨none, .mov 37 (.t 5)⟩, 0, []⟩,
  ⟨⟨none, .slice 38 4 (.t 36) (some (.t 37)) none none⟩, 0, []⟩,
  ⟨⟨none, .clear 4 [(.int .i64 0), (.int .i64 0), (.int .i64 0), (.int .i64 0)] (.t 38)⟩, 0, []⟩]

abbrev i_slices_DeleteFunc___impl_Lock_impl_Lock__r12 : List RO := [
  ⟨⟨none, .mov 39 (.t 0)⟩, 0, []⟩,
  ⟨⟨none, .mov 40 (.t 5)⟩, 0, []⟩,
  ⟨⟨none, .slice 41 4 (.t 39) none (some (.t 40)) none⟩, 0, []⟩,
  ⟨⟨none, .mov 4 (.t 41)⟩, 0, []⟩]

def i_slices_DeleteFunc___impl_Lock_impl_Lock_ : IC := (.seq (.reg i_slices_DeleteFunc___impl_Lock_impl_Lock__r0)
  (.seq (.reg i_slices_DeleteFunc___impl_Lock_impl_Lock__r1)
  (.seq (.seq (.reg i_slices_DeleteFunc___impl_Lock_impl_Lock__r2)
  (.cond (.t 12) (.seq (.reg i_slices_DeleteFunc___impl_Lock_impl_Lock__r3)
  .ret) .skip))
  (.seq (.seq (.reg i_slices_DeleteFunc___impl_Lock_impl_Lock__r4)
  (.block 0 (.loop (.seq (.seq (.reg i_slices_DeleteFunc___impl_Lock_impl_Lock__r5)
  (.cond (.t 19) .skip (.exit 0)))
  (.seq (.block 1 (.seq (.reg i_slices_DeleteFunc___impl_Lock_impl_Lock__r6)
  (.seq (.reg i_slices_DeleteFunc___impl_Lock_impl_Lock__r7)
  (.cond (.t 29) (.seq (.reg i_slices_DeleteFunc___impl_Lock_impl_Lock__r8)
  (.reg i_slices_DeleteFunc___impl_Lock_impl_Lock__r9)) .skip))))
  (.reg i_slices_DeleteFunc___impl_Lock_impl_Lock__r10))))))
  (.seq (.reg i_slices_DeleteFunc___impl_Lock_impl_Lock__r11)
  (.seq (.reg i_slices_DeleteFunc___impl_Lock_impl_Lock__r12)
  .ret))))))

theorem i_slices_DeleteFunc___impl_Lock_impl_Lock__ok : (Try.f75.body.bind fun c => toIC Try.prog 42 c []) = some (i_slices_DeleteFunc___impl_Lock_impl_Lock_, []) := by kernel_rfl

theorem i_slices_DeleteFunc___impl_Lock_impl_Lock__fn {ds rs : List D} (hle : ds.length ≤ 42) (h : AW Try.prog 42 i_slices_DeleteFunc___impl_Lock_impl_Lock_ (Ends [.tmp 4] rs) (init ds)) : Fn Try.prog k_slices_DeleteFunc___impl_Lock_impl_Lock_ (lent ds) true rs :=
  Fn.intro' (by kernel_rfl) Try.func75 (by kernel_rfl) i_slices_DeleteFunc___impl_Lock_impl_Lock__ok (by kernel_rfl) hle h.h

theorem i_slices_DeleteFunc___impl_Lock_impl_Lock__fnB {ds rs : List D} (hle : ds.length ≤ 42) (h : AW Try.prog 42 i_slices_DeleteFunc___impl_Lock_impl_Lock_ (EndsB [.tmp 4] rs) (init ds)) : Fn Try.prog k_slices_DeleteFunc___impl_Lock_impl_Lock_ (lent ds) false rs :=
  Fn.introB' (by kernel_rfl) Try.func75 (by kernel_rfl) i_slices_DeleteFunc___impl_Lock_impl_Lock__ok (by kernel_rfl) hle h.h

theorem i_slices_DeleteFunc___impl_Lock_impl_Lock__fnM {ars : List Ar} {rs : List D} (hle : ars.length ≤ 42) (hfr : freshL ⟨fun _ => .top, fun _ => none, fun _ => .top⟩ ((argB 0 ars).2.map (·.1))) (hlt : ((argB 0 ars).2.map (·.1)).all (fun n => Nat.ble n 1999999) = true) (h : AW Try.prog 42 i_slices_DeleteFunc___impl_Lock_impl_Lock_ (EndsM ars [.tmp 4] rs) (initM ars)) : Fn Try.prog k_slices_DeleteFunc___impl_Lock_impl_Lock_ ars true rs :=
  Fn.introM' (by kernel_rfl) Try.func75 (by kernel_rfl) i_slices_DeleteFunc___impl_Lock_impl_Lock__ok (by kernel_rfl) hle hfr hlt h.h

abbrev i_impl_LocksDrop_r0 : List RO := [
  ⟨⟨none, .box 3 (.t 1)⟩, 0, []⟩,
  ⟨⟨none, .mov 4 (.c (.one .zs))⟩, 0, []⟩]

abbrev i_impl_LocksDrop_r1 : List RO := [
  ⟨⟨none, .mov 5 (.t 0)⟩, 0, []⟩,
  ⟨⟨none, .callv 6 (.c (.one (.fn k_impl_LocksOk []))) [(.t 5)]⟩, 0, []⟩,
  ⟨⟨none, .inv 7 (.t 6)⟩, 0, []⟩]

abbrev i_impl_LocksDrop_r2 : List RO := [
  ⟨⟨none, .mov 4 (.c (.one .zs))⟩, 0, []⟩]

abbrev i_impl_LocksDrop_r3 : List RO := [
  ⟨⟨none, .mov 8 (.t 0)⟩, 0, []⟩,
  ⟨⟨none, .callv 9 (.c (.one (.fn k_slices_Clone___impl_Lock_impl_Lock_ []))) [(.t 8)]⟩, 0, []⟩,
  ⟨⟨none, .mkfn 10 k_impl_LocksDrop_1 [(.t 3)]⟩, 0, []⟩,
  ⟨⟨none, .callv 11 (.c (.one (.fn k_slices_DeleteFunc___impl_Lock_impl_Lock_ []))) [(.t 9), (.t 10)]⟩, 0, []⟩,
  ⟨⟨none, .mov 4 (.t 11)⟩, 0, []⟩]

def i_impl_LocksDrop : IC := (.seq (.reg i_impl_LocksDrop_r0)
  (.seq (.seq (.reg i_impl_LocksDrop_r1)
  (.cond (.t 7) (.seq (.reg i_impl_LocksDrop_r2)
  .ret) .skip))
  (.seq (.reg i_impl_LocksDrop_r3)
  .ret)))

theorem i_impl_LocksDrop_ok : (Try.f28.body.bind fun c => toIC Try.prog 12 c []) = some (i_impl_LocksDrop, []) := by kernel_rfl

theorem i_impl_LocksDrop_fn {ds rs : List D} (hle : ds.length ≤ 12) (h : AW Try.prog 12 i_impl_LocksDrop (Ends [.tmp 4] rs) (init ds)) : Fn Try.prog k_impl_LocksDrop (lent ds) true rs :=
  Fn.intro' (by kernel_rfl) Try.func28 (by kernel_rfl) i_impl_LocksDrop_ok (by kernel_rfl) hle h.h

theorem i_impl_LocksDrop_fnB {ds rs : List D} (hle : ds.length ≤ 12) (h : AW Try.prog 12 i_impl_LocksDrop (EndsB [.tmp 4] rs) (init ds)) : Fn Try.prog k_impl_LocksDrop (lent ds) false rs :=
  Fn.introB' (by kernel_rfl) Try.func28 (by kernel_rfl) i_impl_LocksDrop_ok (by kernel_rfl) hle h.h

abbrev i_laws_eqLock_r0 : List RO := [
  ⟨⟨none, .box 2 (.t 0)⟩, 0, []⟩,
  ⟨⟨none, .box 3 (.t 1)⟩, 0, []⟩,
  ⟨⟨none, .mov 4 (.c (.one (.d (.bool false))))⟩, 0, []⟩]

abbrev i_laws_eqLock_r1 : List RO := [
  ⟨⟨none, .faddr 5 0 (.t 2)⟩, 0, []⟩,
  ⟨⟨none, .load 6 none (.t 5)⟩, 0, []⟩,
  ⟨⟨none, .faddr 7 0 (.t 3)⟩, 0, []⟩,
  ⟨⟨none, .load 8 none (.t 7)⟩, 0, []⟩,
  ⟨⟨none, .bin 9 .neq (.t 6) (.t 8)⟩, 0, []⟩]

abbrev i_laws_eqLock_r2 : List RO := [
  ⟨⟨none, .mov 4 (.c (.one (.d (.bool false))))⟩, 0, []⟩]

abbrev i_laws_eqLock_r3 : List RO := [
  ⟨⟨none, .faddr 10 1 (.t 2)⟩, 0, []⟩,
  ⟨⟨none, .load 11 none (.t 10)⟩, 0, []⟩,
  ⟨⟨none, .faddr 12 1 (.t 3)⟩, 0, []⟩,
  ⟨⟨none, .load 13 none (.t 12)⟩, 0, []⟩,
  ⟨⟨none, .bin 14 .neq (.t 11) (.t 13)⟩, 0, []⟩]

abbrev i_laws_eqLock_r4 : List RO := [
  ⟨⟨none, .mov 4 (.c (.one (.d (.bool false))))⟩, 0, []⟩]

abbrev i_laws_eqLock_r5 : List RO := [
  ⟨⟨none, .faddr 15 2 (.t 2)⟩, 0, []⟩,
  ⟨⟨none, .load 16 none (.t 15)⟩, 0, []⟩,
  ⟨⟨none, .faddr 17 2 (.t 3)⟩, 0, []⟩,
  ⟨⟨none, .load 18 none (.t 17)⟩, 0, []⟩,
  ⟨⟨none, .bin 19 .neq (.t 16) (.t 18)⟩, 0, []⟩]

abbrev i_laws_eqLock_r6 : List RO := [
  ⟨⟨none, .mov 4 (.c (.one (.d (.bool false))))⟩, 0, []⟩]

abbrev i_laws_eqLock_r7 : List RO := [
  ⟨⟨none, .faddr 20 3 (.t 2)⟩, 0, []⟩,
  ⟨⟨none, .load 21 none (.t 20)⟩, 0, []⟩,
  ⟨⟨none, .faddr 22 3 (.t 3)⟩, 0, []⟩,
  ⟨⟨none, .load 23 none (.t 22)⟩, 0, []⟩,
  ⟨⟨none, .bin 24 .neq (.t 21) (.t 23)⟩, 0, []⟩]

abbrev i_laws_eqLock_r8 : List RO := [
  ⟨⟨none, .mov 4 (.c (.one (.d (.bool false))))⟩, 0, []⟩]

abbrev i_laws_eqLock_r9 : List RO := [
  ⟨⟨none, .mov 4 (.c (.one (.d (.bool true))))⟩, 0, []⟩]

def i_laws_eqLock : IC := (.seq (.reg i_laws_eqLock_r0)
  (.seq (.seq (.reg i_laws_eqLock_r1)
  (.cond (.t 9) (.seq (.reg i_laws_eqLock_r2)
  .ret) .skip))
  (.seq (.seq (.reg i_laws_eqLock_r3)
  (.cond (.t 14) (.seq (.reg i_laws_eqLock_r4)
  .ret) .skip))
  (.seq (.seq (.reg i_laws_eqLock_r5)
  (.cond (.t 19) (.seq (.reg i_laws_eqLock_r6)
  .ret) .skip))
  (.seq (.seq (.reg i_laws_eqLock_r7)
  (.cond (.t 24) (.seq (.reg i_laws_eqLock_r8)
  .ret) .skip))
  (.seq (.reg i_laws_eqLock_r9)
  .ret))))))

theorem i_laws_eqLock_ok : (Try.f78.body.bind fun c => toIC Try.prog 25 c []) = some (i_laws_eqLock, []) := by kernel_rfl

theorem i_laws_eqLock_fn {ds rs : List D} (hle : ds.length ≤ 25) (h : AW Try.prog 25 i_laws_eqLock (Ends [.tmp 4] rs) (init ds)) : Fn Try.prog k_laws_eqLock (lent ds) true rs :=
  Fn.intro' (by kernel_rfl) Try.func78 (by kernel_rfl) i_laws_eqLock_ok (by kernel_rfl) hle h.h

theorem i_laws_eqLock_fnB {ds rs : List D} (hle : ds.length ≤ 25) (h : AW Try.prog 25 i_laws_eqLock (EndsB [.tmp 4] rs) (init ds)) : Fn Try.prog k_laws_eqLock (lent ds) false rs :=
  Fn.introB' (by kernel_rfl) Try.func78 (by kernel_rfl) i_laws_eqLock_ok (by kernel_rfl) hle h.h

abbrev i_laws_eqLockS_r0 : List RO := [
  ⟨⟨none, .mov 4 (.c (.one (.d (.bool false))))⟩, 0, []⟩]

abbrev i_laws_eqLockS_r1 : List RO := [
  ⟨⟨none, .mov 6 (.t 0)⟩, 0, []⟩,
  ⟨⟨none, .len 7 false (.t 6)⟩, 0, []⟩,
  ⟨⟨none, .mov 8 (.t 1)⟩, 0, []⟩,
  ⟨⟨none, .len 9 false (.t 8)⟩, 0, []⟩,
  ⟨⟨none, .bin 10 .neq (.t 7) (.t 9)⟩, 0, []⟩]

abbrev i_laws_eqLockS_r2 : List RO := [
  ⟨⟨none, .mov 4 (.c (.one (.d (.bool false))))⟩, 0, []⟩]

abbrev i_laws_eqLockS_r3 : List RO := [
  ⟨⟨none, .mov 5 (.c (.one (.d (.int .i64 0))))⟩, 0, []⟩]

abbrev i_laws_eqLockS_r4 : List RO := [
  ⟨⟨none, .mov 11 (.t 5)⟩, 0, []⟩,
  ⟨⟨none, .mov 12 (.t 0)⟩, 0, []⟩,
  ⟨⟨none, .len 13 false (.t 12)⟩, 0, []⟩,
  ⟨⟨none, .bin 14 .lss (.t 11) (.t 13)⟩, 0, []⟩]

abbrev i_laws_eqLockS_r5 : List RO := [
  ⟨⟨none, .mov 17 (.t 0)⟩, 0, []⟩,
  ⟨⟨none, .mov 18 (.t 5)⟩, 0, []⟩,
  ⟨⟨none, .iaddr 19 4 (.t 17) (.t 18)⟩, 3, []⟩,
  ⟨⟨none, .load 20 (some 4) (.t 19)⟩, 7, []⟩,
  ⟨⟨none, .mov 21 (.t 1)⟩, 0, []⟩,
  ⟨⟨none, .mov 22 (.t 5)⟩, 0, []⟩,
  ⟨⟨none, .iaddr 23 4 (.t 21) (.t 22)⟩, 48, []⟩,
  ⟨⟨none, .load 24 (some 4) (.t 23)⟩, 112, []⟩,
  ⟨⟨none, .callv 25 (.c (.one (.fn k_laws_eqLock []))) [(.t 20), (.t 24)]⟩, 255, []⟩,
  ⟨⟨none, .inv 26 (.t 25)⟩, 511, []⟩]

abbrev i_laws_eqLockS_r6 : List RO := [
  ⟨⟨none, .mov 4 (.c (.one (.d (.bool false))))⟩, 0, []⟩]

abbrev i_laws_eqLockS_r7 : List RO := [
  ⟨⟨none, .mov 15 (.t 5)⟩, 0, []⟩,
  ⟨⟨none, .bin 16 .add (.t 15) (.c (.one (.d (.int .i64 1))))⟩, 0, []⟩,
  ⟨⟨none, .mov 5 (.t 16)⟩, 0, []⟩]

abbrev i_laws_eqLockS_r8 : List RO := [
  ⟨⟨none, .mov 4 (.c (.one (.d (.bool true))))⟩, 0, []⟩]

def i_laws_eqLockS : IC := (.seq (.reg i_laws_eqLockS_r0)
  (.seq (.seq (.reg i_laws_eqLockS_r1)
  (.cond (.t 10) (.seq (.reg i_laws_eqLockS_r2)
  .ret) .skip))
  (.seq (.seq (.reg i_laws_eqLockS_r3)
  (.block 0 (.loop (.seq (.seq (.reg i_laws_eqLockS_r4)
  (.cond (.t 14) .skip (.exit 0)))
  (.seq (.block 1 (.seq (.regd i_laws_eqLockS_r5)
  (.cond (.t 26) (.seq (.reg i_laws_eqLockS_r6)
  .ret) .skip)))
  (.reg i_laws_eqLockS_r7))))))
  (.seq (.reg i_laws_eqLockS_r8)
  .ret))))

theorem i_laws_eqLockS_ok : (Try.f29.body.bind fun c => toIC Try.prog 27 c [[(0, []), (0, []), (3, []), (7, []), (0, []), (0, []), (48, []), (112, []), (255, []), (511, [])]]) = some (i_laws_eqLockS, []) := by kernel_rfl

theorem i_laws_eqLockS_fn {ds rs : List D} (hle : ds.length ≤ 27) (h : AW Try.prog 27 i_laws_eqLockS (Ends [.tmp 4] rs) (init ds)) : Fn Try.prog k_laws_eqLockS (lent ds) true rs :=
  Fn.intro' (by kernel_rfl) Try.func29 (by kernel_rfl) i_laws_eqLockS_ok (by kernel_rfl) hle h.h

theorem i_laws_eqLockS_fnB {ds rs : List D} (hle : ds.length ≤ 27) (h : AW Try.prog 27 i_laws_eqLockS (EndsB [.tmp 4] rs) (init ds)) : Fn Try.prog k_laws_eqLockS (lent ds) false rs :=
  Fn.introB' (by kernel_rfl) Try.func29 (by kernel_rfl) i_laws_eqLockS_ok (by kernel_rfl) hle h.h

abbrev i_laws_markLockS_r0 : List RO := [
  ⟨⟨none, .mov 4 (.c (.one (.d (.int .i64 0))))⟩, 0, []⟩]

abbrev i_laws_markLockS_r1 : List RO := [
  ⟨⟨none, .mov 5 (.c (.one (.d (.int .i64 0))))⟩, 0, []⟩]

abbrev i_laws_markLockS_r2 : List RO := [
  ⟨⟨none, .mov 6 (.t 5)⟩, 0, []⟩,
  ⟨⟨none, .mov 7 (.t 0)⟩, 0, []⟩,
  ⟨⟨none, .len 8 false (.t 7)⟩, 0, []⟩,
  ⟨⟨none, .bin 9 .lss (.t 6) (.t 8)⟩, 0, []⟩]

abbrev i_laws_markLockS_r3 : List RO := [
  ⟨⟨none, .mov 12 (.t 0)⟩, 0, []⟩,
  ⟨⟨none, .mov 13 (.t 5)⟩, 0, []⟩,
  ⟨⟨none, .mov 14 (.t 1)⟩, 0, []⟩,
  ⟨⟨none, .iaddr 15 4 (.t 12) (.t 13)⟩, 0, []⟩,
  ⟨⟨none, .faddr 16 0 (.t 15)⟩, 0, []⟩,
  ⟨⟨none, .store 1 [(.int .i64 0)] (.t 16) (.t 14)⟩, 0, []⟩]

abbrev i_laws_markLockS_r4 : List RO := [
  ⟨⟨none, .mov 17 (.t 1)⟩, 0, []⟩,
  ⟨⟨none, .bin 18 .add (.t 17) (.c (.one (.d (.int .i64 1))))⟩, 0, []⟩,
  ⟨⟨none, .mov 1 (.t 18)⟩, 0, []⟩]

abbrev i_laws_markLockS_r5 : List RO := [
  ⟨⟨none, .mov 19 (.t 0)⟩, 0, []⟩,
  ⟨⟨none, .mov 20 (.t 5)⟩, 0, []⟩,
  ⟨⟨none, .mov 21 (.t 1)⟩, 0, []⟩,
  ⟨⟨none, .iaddr 22 4 (.t 19) (.t 20)⟩, 0, []⟩,
  ⟨⟨none, .faddr 23 1 (.t 22)⟩, 0, []⟩,
  ⟨⟨none, .store 1 [(.int .i64 0)] (.t 23) (.t 21)⟩, 0, []⟩]

abbrev i_laws_markLockS_r6 : List RO := [
  ⟨⟨none, .mov 24 (.t 1)⟩, 0, []⟩,
  ⟨⟨none, .bin 25 .add (.t 24) (.c (.one (.d (.int .i64 1))))⟩, 0, []⟩,
  ⟨⟨none, .mov 1 (.t 25)⟩, 0, []⟩]

abbrev i_laws_markLockS_r7 : List RO := [
  ⟨⟨none, .mov 26 (.t 0)⟩, 0, []⟩,
  ⟨⟨none, .mov 27 (.t 5)⟩, 0, []⟩,
  ⟨⟨none, .mov 28 (.t 1)⟩, 0, []⟩,
  ⟨⟨none, .iaddr 29 4 (.t 26) (.t 27)⟩, 0, []⟩,
  ⟨⟨none, .faddr 30 2 (.t 29)⟩, 0, []⟩,
  ⟨⟨none, .store 1 [(.int .i64 0)] (.t 30) (.t 28)⟩, 0, []⟩]

abbrev i_laws_markLockS_r8 : List RO := [
  ⟨⟨none, .mov 31 (.t 1)⟩, 0, []⟩,
  ⟨⟨none, .bin 32 .add (.t 31) (.c (.one (.d (.int .i64 1))))⟩, 0, []⟩,
  ⟨⟨none, .mov 1 (.t 32)⟩, 0, []⟩]

abbrev i_laws_markLockS_r9 : List RO := [
  ⟨⟨none, .mov 33 (.t 0)⟩, 0, []⟩,
  ⟨⟨none, .mov 34 (.t 5)⟩, 0, []⟩,
  ⟨⟨none, .mov 35 (.t 1)⟩, 0, []⟩,
  ⟨⟨none, .iaddr 36 4 (.t 33) (.t 34)⟩, 0, []⟩,
  ⟨⟨none, .faddr 37 3 (.t 36)⟩, 0, []⟩,
  ⟨⟨none, .store 1 [(.int .i64 0)] (.t 37) (.t 35)⟩, 0, []⟩]

abbrev i_laws_markLockS_r10 : List RO := [
  ⟨⟨none, .mov 38 (.t 1)⟩, 0, []⟩,
  ⟨⟨none, .bin 39 .add (.t 38) (.c (.one (.d (.int .i64 1))))⟩, 0, []⟩,
  ⟨⟨none, .mov 1 (.t 39)⟩, 0, []⟩]

abbrev i_laws_markLockS_r11 : List RO := [
  ⟨⟨none, .mov 10 (.t 5)⟩, 0, []⟩,
  ⟨⟨none, .bin 11 .add (.t 10) (.c (.one (.d (.int .i64 1))))⟩, 0, []⟩,
  ⟨⟨none, .mov 5 (.t 11)⟩, 0, []⟩]

abbrev i_laws_markLockS_r12 : List RO := [
  ⟨⟨none, .mov 40 (.t 1)⟩, 0, []⟩,
  ⟨⟨none, .mov 4 (.t 40)⟩, 0, []⟩]

def i_laws_markLockS : IC := (.seq (.reg i_laws_markLockS_r0)
  (.seq (.seq (.reg i_laws_markLockS_r1)
  (.block 0 (.loop (.seq (.seq (.reg i_laws_markLockS_r2)
  (.cond (.t 9) .skip (.exit 0)))
  (.seq (.block 1 (.seq (.reg i_laws_markLockS_r3)
  (.seq (.reg i_laws_markLockS_r4)
  (.seq (.reg i_laws_markLockS_r5)
  (.seq (.reg i_laws_markLockS_r6)
  (.seq (.reg i_laws_markLockS_r7)
  (.seq (.reg i_laws_markLockS_r8)
  (.seq (.reg i_laws_markLockS_r9)
  (.reg i_laws_markLockS_r10)))))))))
  (.reg i_laws_markLockS_r11))))))
  (.seq (.reg i_laws_markLockS_r12)
  .ret)))

theorem i_laws_markLockS_ok : (Try.f30.body.bind fun c => toIC Try.prog 41 c []) = some (i_laws_markLockS, []) := by kernel_rfl

theorem i_laws_markLockS_fn {ds rs : List D} (hle : ds.length ≤ 41) (h : AW Try.prog 41 i_laws_markLockS (Ends [.tmp 4] rs) (init ds)) : Fn Try.prog k_laws_markLockS (lent ds) true rs :=
  Fn.intro' (by kernel_rfl) Try.func30 (by kernel_rfl) i_laws_markLockS_ok (by kernel_rfl) hle h.h

theorem i_laws_markLockS_fnB {ds rs : List D} (hle : ds.length ≤ 41) (h : AW Try.prog 41 i_laws_markLockS (EndsB [.tmp 4] rs) (init ds)) : Fn Try.prog k_laws_markLockS (lent ds) false rs :=
  Fn.introB' (by kernel_rfl) Try.func30 (by kernel_rfl) i_laws_markLockS_ok (by kernel_rfl) hle h.h

theorem i_laws_markLockS_fnM {ars : List Ar} {rs : List D} (hle : ars.length ≤ 41) (hfr : freshL ⟨fun _ => .top, fun _ => none, fun _ => .top⟩ ((argB 0 ars).2.map (·.1))) (hlt : ((argB 0 ars).2.map (·.1)).all (fun n => Nat.ble n 1999999) = true) (h : AW Try.prog 41 i_laws_markLockS (EndsM ars [.tmp 4] rs) (initM ars)) : Fn Try.prog k_laws_markLockS ars true rs :=
  Fn.introM' (by kernel_rfl) Try.func30 (by kernel_rfl) i_laws_markLockS_ok (by kernel_rfl) hle hfr hlt h.h

abbrev i_laws_heldLockS_r0 : List RO := [
  ⟨⟨none, .mov 4 (.c (.one (.d (.int .i64 0))))⟩, 0, []⟩]

abbrev i_laws_heldLockS_r1 : List RO := [
  ⟨⟨none, .mov 5 (.c (.one (.d (.int .i64 0))))⟩, 0, []⟩]

abbrev i_laws_heldLockS_r2 : List RO := [
  ⟨⟨none, .mov 6 (.t 5)⟩, 0, []⟩,
  ⟨⟨none, .mov 7 (.t 0)⟩, 0, []⟩,
  ⟨⟨none, .len 8 false (.t 7)⟩, 0, []⟩,
  ⟨⟨none, .bin 9 .lss (.t 6) (.t 8)⟩, 0, []⟩]

abbrev i_laws_heldLockS_r3 : List RO := [
  ⟨⟨none, .mov 12 (.t 0)⟩, 0, []⟩,
  ⟨⟨none, .mov 13 (.t 5)⟩, 0, []⟩,
  ⟨⟨none, .iaddr 14 4 (.t 12) (.t 13)⟩, 0, []⟩,
  ⟨⟨none, .faddr 15 0 (.t 14)⟩, 0, []⟩,
  ⟨⟨none, .load 16 none (.t 15)⟩, 0, []⟩,
  ⟨⟨none, .mov 17 (.t 1)⟩, 0, []⟩,
  ⟨⟨none, .bin 18 .neq (.t 16) (.t 17)⟩, 0, []⟩]

abbrev i_laws_heldLockS_r4 : List RO := [
  ⟨⟨none, .mov 4 (.c (.one (.d (.int .i64 (-1)))))⟩, 0, []⟩]

abbrev i_laws_heldLockS_r5 : List RO := [
  ⟨⟨none, .mov 19 (.t 1)⟩, 0, []⟩,
  ⟨⟨none, .bin 20 .add (.t 19) (.c (.one (.d (.int .i64 1))))⟩, 0, []⟩,
  ⟨⟨none, .mov 1 (.t 20)⟩, 0, []⟩]

abbrev i_laws_heldLockS_r6 : List RO := [
  ⟨⟨none, .mov 21 (.t 0)⟩, 0, []⟩,
  ⟨⟨none, .mov 22 (.t 5)⟩, 0, []⟩,
  ⟨⟨none, .iaddr 23 4 (.t 21) (.t 22)⟩, 0, []⟩,
  ⟨⟨none, .faddr 24 1 (.t 23)⟩, 0, []⟩,
  ⟨⟨none, .load 25 none (.t 24)⟩, 0, []⟩,
  ⟨⟨none, .mov 26 (.t 1)⟩, 0, []⟩,
  ⟨⟨none, .bin 27 .neq (.t 25) (.t 26)⟩, 0, []⟩]

abbrev i_laws_heldLockS_r7 : List RO := [
  ⟨⟨none, .mov 4 (.c (.one (.d (.int .i64 (-1)))))⟩, 0, []⟩]

abbrev i_laws_heldLockS_r8 : List RO := [
  ⟨⟨none, .mov 28 (.t 1)⟩, 0, []⟩,
  ⟨⟨none, .bin 29 .add (.t 28) (.c (.one (.d (.int .i64 1))))⟩, 0, []⟩,
  ⟨⟨none, .mov 1 (.t 29)⟩, 0, []⟩]

abbrev i_laws_heldLockS_r9 : List RO := [
  ⟨⟨none, .mov 30 (.t 0)⟩, 0, []⟩,
  ⟨⟨none, .mov 31 (.t 5)⟩, 0, []⟩,
  ⟨⟨none, .iaddr 32 4 (.t 30) (.t 31)⟩, 0, []⟩,
  ⟨⟨none, .faddr 33 2 (.t 32)⟩, 0, []⟩,
  ⟨⟨none, .load 34 none (.t 33)⟩, 0, []⟩,
  ⟨⟨none, .mov 35 (.t 1)⟩, 0, []⟩,
  ⟨⟨none, .bin 36 .neq (.t 34) (.t 35)⟩, 0, []⟩]

abbrev i_laws_heldLockS_r10 : List RO := [
  ⟨⟨none, .mov 4 (.c (.one (.d (.int .i64 (-1)))))⟩, 0, []⟩]

abbrev i_laws_heldLockS_r11 : List RO := [
  ⟨⟨none, .mov 37 (.t 1)⟩, 0, []⟩,
  ⟨⟨none, .bin 38 .add (.t 37) (.c (.one (.d (.int .i64 1))))⟩, 0, []⟩,
  ⟨⟨none, .mov 1 (.t 38)⟩, 0, []⟩]

abbrev i_laws_heldLockS_r12 : List RO := [
  ⟨⟨none, .mov 39 (.t 0)⟩, 0, []⟩,
  ⟨⟨none, .mov 40 (.t 5)⟩, 0, []⟩,
  ⟨⟨none, .iaddr 41 4 (.t 39) (.t 40)⟩, 0, []⟩,
  ⟨⟨none, .faddr 42 3 (.t 41)⟩, 0, []⟩,
  ⟨⟨none, .load 43 none (.t 42)⟩, 0, []⟩,
  ⟨⟨none, .mov 44 (.t 1)⟩, 0, []⟩,
  ⟨⟨none, .bin 45 .neq (.t 43) (.t 44)⟩, 0, []⟩]

abbrev i_laws_heldLockS_r13 : List RO := [
  ⟨⟨none, .mov 4 (.c (.one (.d (.int .i64 (-1)))))⟩, 0, []⟩]

abbrev i_laws_heldLockS_r14 : List RO := [
  ⟨⟨none, .mov 46 (.t 1)⟩, 0, []⟩,
  ⟨⟨none, .bin 47 .add (.t 46) (.c (.one (.d (.int .i64 1))))⟩, 0, []⟩,
  ⟨⟨none, .mov 1 (.t 47)⟩, 0, []⟩]

abbrev i_laws_heldLockS_r15 : List RO := [
  ⟨⟨none, .mov 10 (.t 5)⟩, 0, []⟩,
  ⟨⟨none, .bin 11 .add (.t 10) (.c (.one (.d (.int .i64 1))))⟩, 0, []⟩,
  ⟨⟨none, .mov 5 (.t 11)⟩, 0, []⟩]

abbrev i_laws_heldLockS_r16 : List RO := [
  ⟨⟨none, .mov 48 (.t 1)⟩, 0, []⟩,
  ⟨⟨none, .mov 4 (.t 48)⟩, 0, []⟩]

def i_laws_heldLockS : IC := (.seq (.reg i_laws_heldLockS_r0)
  (.seq (.seq (.reg i_laws_heldLockS_r1)
  (.block 0 (.loop (.seq (.seq (.reg i_laws_heldLockS_r2)
  (.cond (.t 9) .skip (.exit 0)))
  (.seq (.block 1 (.seq (.seq (.reg i_laws_heldLockS_r3)
  (.cond (.t 18) (.seq (.reg i_laws_heldLockS_r4)
  .ret) .skip))
  (.seq (.reg i_laws_heldLockS_r5)
  (.seq (.seq (.reg i_laws_heldLockS_r6)
  (.cond (.t 27) (.seq (.reg i_laws_heldLockS_r7)
  .ret) .skip))
  (.seq (.reg i_laws_heldLockS_r8)
  (.seq (.seq (.reg i_laws_heldLockS_r9)
  (.cond (.t 36) (.seq (.reg i_laws_heldLockS_r10)
  .ret) .skip))
  (.seq (.reg i_laws_heldLockS_r11)
  (.seq (.seq (.reg i_laws_heldLockS_r12)
  (.cond (.t 45) (.seq (.reg i_laws_heldLockS_r13)
  .ret) .skip))
  (.reg i_laws_heldLockS_r14)))))))))
  (.reg i_laws_heldLockS_r15))))))
  (.seq (.reg i_laws_heldLockS_r16)
  .ret)))

theorem i_laws_heldLockS_ok : (Try.f31.body.bind fun c => toIC Try.prog 49 c []) = some (i_laws_heldLockS, []) := by kernel_rfl

theorem i_laws_heldLockS_fn {ds rs : List D} (hle : ds.length ≤ 49) (h : AW Try.prog 49 i_laws_heldLockS (Ends [.tmp 4] rs) (init ds)) : Fn Try.prog k_laws_heldLockS (lent ds) true rs :=
  Fn.intro' (by kernel_rfl) Try.func31 (by kernel_rfl) i_laws_heldLockS_ok (by kernel_rfl) hle h.h

theorem i_laws_heldLockS_fnB {ds rs : List D} (hle : ds.length ≤ 49) (h : AW Try.prog 49 i_laws_heldLockS (EndsB [.tmp 4] rs) (init ds)) : Fn Try.prog k_laws_heldLockS (lent ds) false rs :=
  Fn.introB' (by kernel_rfl) Try.func31 (by kernel_rfl) i_laws_heldLockS_ok (by kernel_rfl) hle h.h

abbrev i_laws_FnExactLocksDrop_r0 : List RO := [
  ⟨⟨none, .mov 4 (.c (.one (.d (.bool false))))⟩, 0, []⟩]

abbrev i_laws_FnExactLocksDrop_r1 : List RO := [
  ⟨⟨none, .mov 5 (.c (.one (.d (.int .i64 1048576))))⟩, 0, []⟩]

abbrev i_laws_FnExactLocksDrop_r2 : List RO := [
  ⟨⟨none, .mov 13 (.t 0)⟩, 0, []⟩,
  ⟨⟨none, .mov 14 (.t 5)⟩, 0, []⟩,
  ⟨⟨none, .callv 15 (.c (.one (.fn k_laws_szLockS []))) [(.t 13), (.t 14)]⟩, 0, []⟩,
  ⟨⟨none, .mov 5 (.t 15)⟩, 0, []⟩]

abbrev i_laws_FnExactLocksDrop_r3 : List RO := [
  ⟨⟨none, .mov 16 (.t 5)⟩, 0, []⟩,
  ⟨⟨none, .bin 17 .lss (.t 16) (.c (.one (.d (.int .i64 0))))⟩, 0, []⟩]

abbrev i_laws_FnExactLocksDrop_r4 : List RO := [
  ⟨⟨none, .mov 4 (.c (.one (.d (.bool true))))⟩, 0, []⟩]

abbrev i_laws_FnExactLocksDrop_r5 : List RO := [
  ⟨⟨none, .mov 18 (.t 0)⟩, 0, []⟩,
  ⟨⟨none, .callv 19 (.c (.one (.fn k_laws_toLockS []))) [(.t 18)]⟩, 0, []⟩,
  ⟨⟨none, .mov 20 (.t 1)⟩, 0, []⟩,
  ⟨⟨none, .callv 21 (.c (.one (.fn k_spec_LocksDrop []))) [(.t 19), (.t 20)]⟩, 0, []⟩,
  ⟨⟨none, .mov 6 (.t 21)⟩, 0, []⟩]

abbrev i_laws_FnExactLocksDrop_r6 : List RO := [
  ⟨⟨none, .mov 22 (.t 0)⟩, 0, []⟩,
  ⟨⟨none, .callv 23 (.c (.one (.fn k_laws_toLockS []))) [(.t 22)]⟩, 0, []⟩,
  ⟨⟨none, .mov 7 (.t 23)⟩, 0, []⟩]

abbrev i_laws_FnExactLocksDrop_r7 : List RO := [
  ⟨⟨none, .mov 24 (.t 7)⟩, 0, []⟩,
  ⟨⟨none, .mov 25 (.t 1)⟩, 0, []⟩,
  ⟨⟨none, .callv 26 (.c (.one (.fn k_impl_LocksDrop []))) [(.t 24), (.t 25)]⟩, 0, []⟩,
  ⟨⟨none, .mov 8 (.t 26)⟩, 0, []⟩]

abbrev i_laws_FnExactLocksDrop_r8 : List RO := [
  ⟨⟨none, .mov 27 (.t 8)⟩, 0, []⟩,
  ⟨⟨none, .mov 28 (.t 6)⟩, 0, []⟩,
  ⟨⟨none, .callv 29 (.c (.one (.fn k_laws_eqLockS []))) [(.t 27), (.t 28)]⟩, 0, []⟩,
  ⟨⟨none, .inv 30 (.t 29)⟩, 0, []⟩]

abbrev i_laws_FnExactLocksDrop_r9 : List RO := [
  ⟨⟨none, .mov 4 (.c (.one (.d (.bool false))))⟩, 0, []⟩]

abbrev i_laws_FnExactLocksDrop_r10 : List RO := [
  ⟨⟨none, .mov 31 (.t 7)⟩, 0, []⟩,
  ⟨⟨none, .mov 32 (.t 0)⟩, 0, []⟩,
  ⟨⟨none, .callv 33 (.c (.one (.fn k_laws_toLockS []))) [(.t 32)]⟩, 0, []⟩,
  ⟨⟨none, .callv 34 (.c (.one (.fn k_laws_eqLockS []))) [(.t 31), (.t 33)]⟩, 0, []⟩,
  ⟨⟨none, .inv 35 (.t 34)⟩, 0, []⟩]

abbrev i_laws_FnExactLocksDrop_r11 : List RO := [
  ⟨⟨none, .mov 4 (.c (.one (.d (.bool false))))⟩, 0, []⟩]

abbrev i_laws_FnExactLocksDrop_r12 : List RO := [
  ⟨⟨none, .mov 9 (.c (.one (.d (.int .i64 1))))⟩, 0, []⟩]

abbrev i_laws_FnExactLocksDrop_r13 : List RO := [
  ⟨⟨none, .mov 36 (.t 7)⟩, 0, []⟩,
  ⟨⟨none, .mov 37 (.t 9)⟩, 0, []⟩,
  ⟨⟨none, .callv 38 (.c (.one (.fn k_laws_markLockS []))) [(.t 36), (.t 37)]⟩, 0, []⟩,
  ⟨⟨none, .mov 9 (.t 38)⟩, 0, []⟩]

abbrev i_laws_FnExactLocksDrop_r14 : List RO := [
  ⟨⟨none, .mov 39 (.t 9)⟩, 0, []⟩,
  ⟨⟨none, .bin 40 .lss (.t 39) (.c (.one (.d (.int .i64 0))))⟩, 0, []⟩,
  ⟨⟨none, .mov 41 (.t 40)⟩, 0, []⟩,
  ⟨⟨some (41, false), .mov 42 (.t 8)⟩, 0, []⟩,
  ⟨⟨some (41, false), .mov 43 (.t 6)⟩, 0, []⟩,
  ⟨⟨some (41, false), .callv 44 (.c (.one (.fn k_laws_eqLockS []))) [(.t 42), (.t 43)]⟩, 0, []⟩,
  ⟨⟨some (41, false), .inv 45 (.t 44)⟩, 0, []⟩,
  ⟨⟨none, .pick 46 (.t 41) (.c (.one (.d (.bool true)))) (.t 45)⟩, 0, []⟩]

abbrev i_laws_FnExactLocksDrop_r15 : List RO := [
  ⟨⟨none, .mov 4 (.c (.one (.d (.bool false))))⟩, 0, []⟩]

abbrev i_laws_FnExactLocksDrop_r16 : List RO := [
  ⟨⟨none, .mov 10 (.c (.one (.d (.int .i64 1))))⟩, 0, []⟩]

abbrev i_laws_FnExactLocksDrop_r17 : List RO := [
  ⟨⟨none, .mov 47 (.t 8)⟩, 0, []⟩,
  ⟨⟨none, .mov 48 (.t 10)⟩, 0, []⟩,
  ⟨⟨none, .callv 49 (.c (.one (.fn k_laws_markLockS []))) [(.t 47), (.t 48)]⟩, 0, []⟩,
  ⟨⟨none, .mov 10 (.t 49)⟩, 0, []⟩]

abbrev i_laws_FnExactLocksDrop_r18 : List RO := [
  ⟨⟨none, .mov 11 (.c (.one (.d (.int .i64 1))))⟩, 0, []⟩]

abbrev i_laws_FnExactLocksDrop_r19 : List RO := [
  ⟨⟨none, .mov 50 (.t 8)⟩, 0, []⟩,
  ⟨⟨none, .mov 51 (.t 11)⟩, 0, []⟩,
  ⟨⟨none, .callv 52 (.c (.one (.fn k_laws_heldLockS []))) [(.t 50), (.t 51)]⟩, 0, []⟩,
  ⟨⟨none, .mov 11 (.t 52)⟩, 0, []⟩]

abbrev i_laws_FnExactLocksDrop_r20 : List RO := [
  ⟨⟨none, .mov 53 (.t 11)⟩, 0, []⟩,
  ⟨⟨none, .bin 54 .lss (.t 53) (.c (.one (.d (.int .i64 0))))⟩, 0, []⟩]

abbrev i_laws_FnExactLocksDrop_r21 : List RO := [
  ⟨⟨none, .mov 4 (.c (.one (.d (.bool false))))⟩, 0, []⟩]

abbrev i_laws_FnExactLocksDrop_r22 : List RO := [
  ⟨⟨none, .mov 55 (.t 11)⟩, 0, []⟩,
  ⟨⟨none, .mov 56 (.t 10)⟩, 0, []⟩,
  ⟨⟨none, .bin 57 .neq (.t 55) (.t 56)⟩, 0, []⟩]

abbrev i_laws_FnExactLocksDrop_r23 : List RO := [
  ⟨⟨none, .mov 4 (.c (.one (.d (.bool false))))⟩, 0, []⟩]

abbrev i_laws_FnExactLocksDrop_r24 : List RO := [
  ⟨⟨none, .mov 58 (.t 0)⟩, 0, []⟩,
  ⟨⟨none, .callv 59 (.c (.one (.fn k_laws_toLockS []))) [(.t 58)]⟩, 0, []⟩,
  ⟨⟨none, .mov 60 (.t 1)⟩, 0, []⟩,
  ⟨⟨none, .callv 61 (.c (.one (.fn k_impl_LocksDrop []))) [(.t 59), (.t 60)]⟩, 0, []⟩,
  ⟨⟨none, .mov 12 (.t 61)⟩, 0, []⟩]

abbrev i_laws_FnExactLocksDrop_r25 : List RO := [
  ⟨⟨none, .mov 62 (.t 12)⟩, 0, []⟩,
  ⟨⟨none, .mov 63 (.t 6)⟩, 0, []⟩,
  ⟨⟨none, .callv 64 (.c (.one (.fn k_laws_eqLockS []))) [(.t 62), (.t 63)]⟩, 0, []⟩,
  ⟨⟨none, .inv 65 (.t 64)⟩, 0, []⟩]

abbrev i_laws_FnExactLocksDrop_r26 : List RO := [
  ⟨⟨none, .mov 4 (.c (.one (.d (.bool false))))⟩, 0, []⟩]

abbrev i_laws_FnExactLocksDrop_r27 : List RO := [
  ⟨⟨none, .mov 11 (.c (.one (.d (.int .i64 1))))⟩, 0, []⟩]

abbrev i_laws_FnExactLocksDrop_r28 : List RO := [
  ⟨⟨none, .mov 66 (.t 8)⟩, 0, []⟩,
  ⟨⟨none, .mov 67 (.t 11)⟩, 0, []⟩,
  ⟨⟨none, .callv 68 (.c (.one (.fn k_laws_heldLockS []))) [(.t 66), (.t 67)]⟩, 0, []⟩,
  ⟨⟨none, .mov 11 (.t 68)⟩, 0, []⟩]

abbrev i_laws_FnExactLocksDrop_r29 : List RO := [
  ⟨⟨none, .mov 69 (.t 11)⟩, 0, []⟩,
  ⟨⟨none, .bin 70 .lss (.t 69) (.c (.one (.d (.int .i64 0))))⟩, 0, []⟩]

abbrev i_laws_FnExactLocksDrop_r30 : List RO := [
  ⟨⟨none, .mov 4 (.c (.one (.d (.bool false))))⟩, 0, []⟩]

abbrev i_laws_FnExactLocksDrop_r31 : List RO := [
  ⟨⟨none, .mov 71 (.t 11)⟩, 0, []⟩,
  ⟨⟨none, .mov 72 (.t 10)⟩, 0, []⟩,
  ⟨⟨none, .bin 73 .neq (.t 71) (.t 72)⟩, 0, []⟩]

abbrev i_laws_FnExactLocksDrop_r32 : List RO := [
  ⟨⟨none, .mov 4 (.c (.one (.d (.bool false))))⟩, 0, []⟩]

abbrev i_laws_FnExactLocksDrop_r33 : List RO := [
  ⟨⟨none, .mov 4 (.c (.one (.d (.bool true))))⟩, 0, []⟩]

def i_laws_FnExactLocksDrop : IC := (.seq (.reg i_laws_FnExactLocksDrop_r0)
  (.seq (.reg i_laws_FnExactLocksDrop_r1)
  (.seq (.reg i_laws_FnExactLocksDrop_r2)
  (.seq (.seq (.reg i_laws_FnExactLocksDrop_r3)
  (.cond (.t 17) (.seq (.reg i_laws_FnExactLocksDrop_r4)
  .ret) .skip))
  (.seq (.reg i_laws_FnExactLocksDrop_r5)
  (.seq (.reg i_laws_FnExactLocksDrop_r6)
  (.seq (.reg i_laws_FnExactLocksDrop_r7)
  (.seq (.seq (.reg i_laws_FnExactLocksDrop_r8)
  (.cond (.t 30) (.seq (.reg i_laws_FnExactLocksDrop_r9)
  .ret) .skip))
  (.seq (.seq (.reg i_laws_FnExactLocksDrop_r10)
  (.cond (.t 35) (.seq (.reg i_laws_FnExactLocksDrop_r11)
  .ret) .skip))
  (.seq (.reg i_laws_FnExactLocksDrop_r12)
  (.seq (.reg i_laws_FnExactLocksDrop_r13)
  (.seq (.seq (.reg i_laws_FnExactLocksDrop_r14)
  (.cond (.t 46) (.seq (.reg i_laws_FnExactLocksDrop_r15)
  .ret) .skip))
  (.seq (.reg i_laws_FnExactLocksDrop_r16)
  (.seq (.reg i_laws_FnExactLocksDrop_r17)
  (.seq (.reg i_laws_FnExactLocksDrop_r18)
  (.seq (.reg i_laws_FnExactLocksDrop_r19)
  (.seq (.seq (.reg i_laws_FnExactLocksDrop_r20)
  (.cond (.t 54) (.seq (.reg i_laws_FnExactLocksDrop_r21)
  .ret) .skip))
  (.seq (.seq (.reg i_laws_FnExactLocksDrop_r22)
  (.cond (.t 57) (.seq (.reg i_laws_FnExactLocksDrop_r23)
  .ret) .skip))
  (.seq (.reg i_laws_FnExactLocksDrop_r24)
  (.seq (.seq (.reg i_laws_FnExactLocksDrop_r25)
  (.cond (.t 65) (.seq (.reg i_laws_FnExactLocksDrop_r26)
  .ret) .skip))
  (.seq (.reg i_laws_FnExactLocksDrop_r27)
  (.seq (.reg i_laws_FnExactLocksDrop_r28)
  (.seq (.seq (.reg i_laws_FnExactLocksDrop_r29)
  (.cond (.t 70) (.seq (.reg i_laws_FnExactLocksDrop_r30)
  .ret) .skip))
  (.seq (.seq (.reg i_laws_FnExactLocksDrop_r31)
  (.cond (.t 73) (.seq (.reg i_laws_FnExactLocksDrop_r32)
  .ret) .skip))
  (.seq (.reg i_laws_FnExactLocksDrop_r33)
  .ret)))))))))))))))))))))))))

theorem i_laws_FnExactLocksDrop_ok : (Try.f5.body.bind fun c => toIC Try.prog 74 c []) = some (i_laws_FnExactLocksDrop, []) := by kernel_rfl

theorem i_laws_FnExactLocksDrop_fn {ds rs : List D} (hle : ds.length ≤ 74) (h : AW Try.prog 74 i_laws_FnExactLocksDrop (Ends [.tmp 4] rs) (init ds)) : Fn Try.prog k_laws_FnExactLocksDrop (lent ds) true rs :=
  Fn.intro' (by kernel_rfl) Try.func5 (by kernel_rfl) i_laws_FnExactLocksDrop_ok (by kernel_rfl) hle h.h

theorem i_laws_FnExactLocksDrop_fnB {ds rs : List D} (hle : ds.length ≤ 74) (h : AW Try.prog 74 i_laws_FnExactLocksDrop (EndsB [.tmp 4] rs) (init ds)) : Fn Try.prog k_laws_FnExactLocksDrop (lent ds) false rs :=
  Fn.introB' (by kernel_rfl) Try.func5 (by kernel_rfl) i_laws_FnExactLocksDrop_ok (by kernel_rfl) hle h.h

abbrev i_spec_LocksOf_r0 : List RO := [
  ⟨⟨none, .mov 4 (.c (.one .zs))⟩, 0, []⟩]

abbrev i_spec_LocksOf_r1 : List RO := [
  ⟨⟨none, .mov 5 (.t 0)⟩, 0, []⟩,
  ⟨⟨none, .callv 6 (.c (.one (.fn k_spec_LocksOk []))) [(.t 5)]⟩, 0, []⟩,
  ⟨⟨none, .inv 7 (.t 6)⟩, 0, []⟩]

abbrev i_spec_LocksOf_r2 : List RO := [
  ⟨⟨none, .bslice 8 4 [] []⟩, 0, []⟩,
  ⟨⟨none, .mov 4 (.t 8)⟩, 0, []⟩]

abbrev i_spec_LocksOf_r3 : List RO := [
  ⟨⟨none, .mov 9 (.t 0)⟩, 0, []⟩,
  ⟨⟨none, .mov 10 (.t 1)⟩, 0, []⟩,
  ⟨⟨none, .callv 11 (.c (.one (.fn k_spec_l12Keep []))) [(.t 9), (.t 10), (.c (.one (.d (.bool true))))]⟩, 0, []⟩,
  ⟨⟨none, .mov 4 (.t 11)⟩, 0, []⟩]

def i_spec_LocksOf : IC := (.seq (.reg i_spec_LocksOf_r0)
  (.seq (.seq (.reg i_spec_LocksOf_r1)
  (.cond (.t 7) (.seq (.reg i_spec_LocksOf_r2)
  .ret) .skip))
  (.seq (.reg i_spec_LocksOf_r3)
  .ret)))

theorem i_spec_LocksOf_ok : (Try.f32.body.bind fun c => toIC Try.prog 12 c []) = some (i_spec_LocksOf, []) := by kernel_rfl

theorem i_spec_LocksOf_fn {ds rs : List D} (hle : ds.length ≤ 12) (h : AW Try.prog 12 i_spec_LocksOf (Ends [.tmp 4] rs) (init ds)) : Fn Try.prog k_spec_LocksOf (lent ds) true rs :=
  Fn.intro' (by kernel_rfl) Try.func32 (by kernel_rfl) i_spec_LocksOf_ok (by kernel_rfl) hle h.h

theorem i_spec_LocksOf_fnB {ds rs : List D} (hle : ds.length ≤ 12) (h : AW Try.prog 12 i_spec_LocksOf (EndsB [.tmp 4] rs) (init ds)) : Fn Try.prog k_spec_LocksOf (lent ds) false rs :=
  Fn.introB' (by kernel_rfl) Try.func32 (by kernel_rfl) i_spec_LocksOf_ok (by kernel_rfl) hle h.h

abbrev i_impl_LocksOf_1_r0 : List RO := [
  ⟨⟨none, .box 2 (.t 0)⟩, 0, []⟩,
  ⟨⟨none, .mov 3 (.c (.one (.d (.bool false))))⟩, 0, []⟩]

abbrev i_impl_LocksOf_1_r1 : List RO := [
  ⟨⟨none, .faddr 4 0 (.t 2)⟩, 0, []⟩,
  ⟨⟨none, .load 5 none (.t 4)⟩, 0, []⟩,
  ⟨⟨none, .load 6 none (.t 1)⟩, 0, []⟩,
  ⟨⟨none, .bin 7 .neq (.t 5) (.t 6)⟩, 0, []⟩,
  ⟨⟨none, .mov 3 (.t 7)⟩, 0, []⟩]

def i_impl_LocksOf_1 : IC := (.seq (.reg i_impl_LocksOf_1_r0)
  (.seq (.reg i_impl_LocksOf_1_r1)
  .ret))

theorem i_impl_LocksOf_1_ok : (Try.f79.body.bind fun c => toIC Try.prog 8 c []) = some (i_impl_LocksOf_1, []) := by kernel_rfl

theorem i_impl_LocksOf_1_fn {ds rs : List D} (hle : ds.length ≤ 8) (h : AW Try.prog 8 i_impl_LocksOf_1 (Ends [.tmp 3] rs) (init ds)) : Fn Try.prog k_impl_LocksOf_1 (lent ds) true rs :=
  Fn.intro' (by kernel_rfl) Try.func79 (by kernel_rfl) i_impl_LocksOf_1_ok (by kernel_rfl) hle h.h

theorem i_impl_LocksOf_1_fnB {ds rs : List D} (hle : ds.length ≤ 8) (h : AW Try.prog 8 i_impl_LocksOf_1 (EndsB [.tmp 3] rs) (init ds)) : Fn Try.prog k_impl_LocksOf_1 (lent ds) false rs :=
  Fn.introB' (by kernel_rfl) Try.func79 (by kernel_rfl) i_impl_LocksOf_1_ok (by kernel_rfl) hle h.h

abbrev i_impl_LocksOf_r0 : List RO := [
  ⟨⟨none, .box 3 (.t 1)⟩, 0, []⟩,
  ⟨⟨none, .mov 4 (.c (.one .zs))⟩, 0, []⟩]

abbrev i_impl_LocksOf_r1 : List RO := [
  ⟨⟨none, .mov 5 (.t 0)⟩, 0, []⟩,
  ⟨⟨none, .callv 6 (.c (.one (.fn k_impl_LocksOk []))) [(.t 5)]⟩, 0, []⟩,
  ⟨⟨none, .inv 7 (.t 6)⟩, 0, []⟩]

abbrev i_impl_LocksOf_r2 : List RO := [
  ⟨⟨none, .mov 4 (.c (.one .zs))⟩, 0, []⟩]

abbrev i_impl_LocksOf_r3 : List RO := [
  ⟨⟨none, .mov 8 (.t 0)⟩, 0, []⟩,
  ⟨⟨none, .callv 9 (.c (.one (.fn k_slices_Clone___impl_Lock_impl_Lock_ []))) [(.t 8)]⟩, 0, []⟩,
  ⟨⟨none, .mkfn 10 k_impl_LocksOf_1 [(.t 3)]⟩, 0, []⟩,
  ⟨⟨none, .callv 11 (.c (.one (.fn k_slices_DeleteFunc___impl_Lock_impl_Lock_ []))) [(.t 9), (.t 10)]⟩, 0, []⟩,
  ⟨⟨none, .mov 4 (.t 11)⟩, 0, []⟩]

def i_impl_LocksOf : IC := (.seq (.reg i_impl_LocksOf_r0)
  (.seq (.seq (.reg i_impl_LocksOf_r1)
  (.cond (.t 7) (.seq (.reg i_impl_LocksOf_r2)
  .ret) .skip))
  (.seq (.reg i_impl_LocksOf_r3)
  .ret)))

theorem i_impl_LocksOf_ok : (Try.f33.body.bind fun c => toIC Try.prog 12 c []) = some (i_impl_LocksOf, []) := by kernel_rfl

theorem i_impl_LocksOf_fn {ds rs : List D} (hle : ds.length ≤ 12) (h : AW Try.prog 12 i_impl_LocksOf (Ends [.tmp 4] rs) (init ds)) : Fn Try.prog k_impl_LocksOf (lent ds) true rs :=
  Fn.intro' (by kernel_rfl) Try.func33 (by kernel_rfl) i_impl_LocksOf_ok (by kernel_rfl) hle h.h

theorem i_impl_LocksOf_fnB {ds rs : List D} (hle : ds.length ≤ 12) (h : AW Try.prog 12 i_impl_LocksOf (EndsB [.tmp 4] rs) (init ds)) : Fn Try.prog k_impl_LocksOf (lent ds) false rs :=
  Fn.introB' (by kernel_rfl) Try.func33 (by kernel_rfl) i_impl_LocksOf_ok (by kernel_rfl) hle h.h

abbrev i_laws_FnExactLocksOf_r0 : List RO := [
  ⟨⟨none, .mov 4 (.c (.one (.d (.bool false))))⟩, 0, []⟩]

abbrev i_laws_FnExactLocksOf_r1 : List RO := [
  ⟨⟨none, .mov 5 (.c (.one (.d (.int .i64 1048576))))⟩, 0, []⟩]

abbrev i_laws_FnExactLocksOf_r2 : List RO := [
  ⟨⟨none, .mov 13 (.t 0)⟩, 0, []⟩,
  ⟨⟨none, .mov 14 (.t 5)⟩, 0, []⟩,
  ⟨⟨none, .callv 15 (.c (.one (.fn k_laws_szLockS []))) [(.t 13), (.t 14)]⟩, 0, []⟩,
  ⟨⟨none, .mov 5 (.t 15)⟩, 0, []⟩]

abbrev i_laws_FnExactLocksOf_r3 : List RO := [
  ⟨⟨none, .mov 16 (.t 5)⟩, 0, []⟩,
  ⟨⟨none, .bin 17 .lss (.t 16) (.c (.one (.d (.int .i64 0))))⟩, 0, []⟩]

abbrev i_laws_FnExactLocksOf_r4 : List RO := [
  ⟨⟨none, .mov 4 (.c (.one (.d (.bool true))))⟩, 0, []⟩]

abbrev i_laws_FnExactLocksOf_r5 : List RO := [
  ⟨⟨none, .mov 18 (.t 0)⟩, 0, []⟩,
  ⟨⟨none, .callv 19 (.c (.one (.fn k_laws_toLockS []))) [(.t 18)]⟩, 0, []⟩,
  ⟨⟨none, .mov 20 (.t 1)⟩, 0, []⟩,
  ⟨⟨none, .callv 21 (.c (.one (.fn k_spec_LocksOf []))) [(.t 19), (.t 20)]⟩, 0, []⟩,
  ⟨⟨none, .mov 6 (.t 21)⟩, 0, []⟩]

abbrev i_laws_FnExactLocksOf_r6 : List RO := [
  ⟨⟨none, .mov 22 (.t 0)⟩, 0, []⟩,
  ⟨⟨none, .callv 23 (.c (.one (.fn k_laws_toLockS []))) [(.t 22)]⟩, 0, []⟩,
  ⟨⟨none, .mov 7 (.t 23)⟩, 0, []⟩]

abbrev i_laws_FnExactLocksOf_r7 : List RO := [
  ⟨⟨none, .mov 24 (.t 7)⟩, 0, []⟩,
  ⟨⟨none, .mov 25 (.t 1)⟩, 0, []⟩,
  ⟨⟨none, .callv 26 (.c (.one (.fn k_impl_LocksOf []))) [(.t 24), (.t 25)]⟩, 0, []⟩,
  ⟨⟨none, .mov 8 (.t 26)⟩, 0, []⟩]

abbrev i_laws_FnExactLocksOf_r8 : List RO := [
  ⟨⟨none, .mov 27 (.t 8)⟩, 0, []⟩,
  ⟨⟨none, .mov 28 (.t 6)⟩, 0, []⟩,
  ⟨⟨none, .callv 29 (.c (.one (.fn k_laws_eqLockS []))) [(.t 27), (.t 28)]⟩, 0, []⟩,
  ⟨⟨none, .inv 30 (.t 29)⟩, 0, []⟩]

abbrev i_laws_FnExactLocksOf_r9 : List RO := [
  ⟨⟨none, .mov 4 (.c (.one (.d (.bool false))))⟩, 0, []⟩]

abbrev i_laws_FnExactLocksOf_r10 : List RO := [
  ⟨⟨none, .mov 31 (.t 7)⟩, 0, []⟩,
  ⟨⟨none, .mov 32 (.t 0)⟩, 0, []⟩,
  ⟨⟨none, .callv 33 (.c (.one (.fn k_laws_toLockS []))) [(.t 32)]⟩, 0, []⟩,
  ⟨⟨none, .callv 34 (.c (.one (.fn k_laws_eqLockS []))) [(.t 31), (.t 33)]⟩, 0, []⟩,
  ⟨⟨none, .inv 35 (.t 34)⟩, 0, []⟩]

abbrev i_laws_FnExactLocksOf_r11 : List RO := [
  ⟨⟨none, .mov 4 (.c (.one (.d (.bool false))))⟩, 0, []⟩]

abbrev i_laws_FnExactLocksOf_r12 : List RO := [
  ⟨⟨none, .mov 9 (.c (.one (.d (.int .i64 1))))⟩, 0, []⟩]

abbrev i_laws_FnExactLocksOf_r13 : List RO := [
  ⟨⟨none, .mov 36 (.t 7)⟩, 0, []⟩,
  ⟨⟨none, .mov 37 (.t 9)⟩, 0, []⟩,
  ⟨⟨none, .callv 38 (.c (.one (.fn k_laws_markLockS []))) [(.t 36), (.t 37)]⟩, 0, []⟩,
  ⟨⟨none, .mov 9 (.t 38)⟩, 0, []⟩]

abbrev i_laws_FnExactLocksOf_r14 : List RO := [
  ⟨⟨none, .mov 39 (.t 9)⟩, 0, []⟩,
  ⟨⟨none, .bin 40 .lss (.t 39) (.c (.one (.d (.int .i64 0))))⟩, 0, []⟩,
  ⟨⟨none, .mov 41 (.t 40)⟩, 0, []⟩,
  ⟨⟨some (41, false), .mov 42 (.t 8)⟩, 0, []⟩,
  ⟨⟨some (41, false), .mov 43 (.t 6)⟩, 0, []⟩,
  ⟨⟨some (41, false), .callv 44 (.c (.one (.fn k_laws_eqLockS []))) [(.t 42), (.t 43)]⟩, 0, []⟩,
  ⟨⟨some (41, false), .inv 45 (.t 44)⟩, 0, []⟩,
  ⟨⟨none, .pick 46 (.t 41) (.c (.one (.d (.bool true)))) (.t 45)⟩, 0, []⟩]

abbrev i_laws_FnExactLocksOf_r15 : List RO := [
  ⟨⟨none, .mov 4 (.c (.one (.d (.bool false))))⟩, 0, []⟩]

abbrev i_laws_FnExactLocksOf_r16 : List RO := [
  ⟨⟨none, .mov 10 (.c (.one (.d (.int .i64 1))))⟩, 0, []⟩]

abbrev i_laws_FnExactLocksOf_r17 : List RO := [
  ⟨⟨none, .mov 47 (.t 8)⟩, 0, []⟩,
  ⟨⟨none, .mov 48 (.t 10)⟩, 0, []⟩,
  ⟨⟨none, .callv 49 (.c (.one (.fn k_laws_markLockS []))) [(.t 47), (.t 48)]⟩, 0, []⟩,
  ⟨⟨none, .mov 10 (.t 49)⟩, 0, []⟩]

abbrev i_laws_FnExactLocksOf_r18 : List RO := [
  ⟨⟨none, .mov 11 (.c (.one (.d (.int .i64 1))))⟩, 0, []⟩]

abbrev i_laws_FnExactLocksOf_r19 : List RO := [
  ⟨⟨none, .mov 50 (.t 8)⟩, 0, []⟩,
  ⟨⟨none, .mov 51 (.t 11)⟩, 0, []⟩,
  ⟨⟨none, .callv 52 (.c (.one (.fn k_laws_heldLockS []))) [(.t 50), (.t 51)]⟩, 0, []⟩,
  ⟨⟨none, .mov 11 (.t 52)⟩, 0, []⟩]

abbrev i_laws_FnExactLocksOf_r20 : List RO := [
  ⟨⟨none, .mov 53 (.t 11)⟩, 0, []⟩,
  ⟨⟨none, .bin 54 .lss (.t 53) (.c (.one (.d (.int .i64 0))))⟩, 0, []⟩]

abbrev i_laws_FnExactLocksOf_r21 : List RO := [
  ⟨⟨none, .mov 4 (.c (.one (.d (.bool false))))⟩, 0, []⟩]

abbrev i_laws_FnExactLocksOf_r22 : List RO := [
  ⟨⟨none, .mov 55 (.t 11)⟩, 0, []⟩,
  ⟨⟨none, .mov 56 (.t 10)⟩, 0, []⟩,
  ⟨⟨none, .bin 57 .neq (.t 55) (.t 56)⟩, 0, []⟩]

abbrev i_laws_FnExactLocksOf_r23 : List RO := [
  ⟨⟨none, .mov 4 (.c (.one (.d (.bool false))))⟩, 0, []⟩]

abbrev i_laws_FnExactLocksOf_r24 : List RO := [
  ⟨⟨none, .mov 58 (.t 0)⟩, 0, []⟩,
  ⟨⟨none, .callv 59 (.c (.one (.fn k_laws_toLockS []))) [(.t 58)]⟩, 0, []⟩,
  ⟨⟨none, .mov 60 (.t 1)⟩, 0, []⟩,
  ⟨⟨none, .callv 61 (.c (.one (.fn k_impl_LocksOf []))) [(.t 59), (.t 60)]⟩, 0, []⟩,
  ⟨⟨none, .mov 12 (.t 61)⟩, 0, []⟩]

abbrev i_laws_FnExactLocksOf_r25 : List RO := [
  ⟨⟨none, .mov 62 (.t 12)⟩, 0, []⟩,
  ⟨⟨none, .mov 63 (.t 6)⟩, 0, []⟩,
  ⟨⟨none, .callv 64 (.c (.one (.fn k_laws_eqLockS []))) [(.t 62), (.t 63)]⟩, 0, []⟩,
  ⟨⟨none, .inv 65 (.t 64)⟩, 0, []⟩]

abbrev i_laws_FnExactLocksOf_r26 : List RO := [
  ⟨⟨none, .mov 4 (.c (.one (.d (.bool false))))⟩, 0, []⟩]

abbrev i_laws_FnExactLocksOf_r27 : List RO := [
  ⟨⟨none, .mov 11 (.c (.one (.d (.int .i64 1))))⟩, 0, []⟩]

abbrev i_laws_FnExactLocksOf_r28 : List RO := [
  ⟨⟨none, .mov 66 (.t 8)⟩, 0, []⟩,
  ⟨⟨none, .mov 67 (.t 11)⟩, 0, []⟩,
  ⟨⟨none, .callv 68 (.c (.one (.fn k_laws_heldLockS []))) [(.t 66), (.t 67)]⟩, 0, []⟩,
  ⟨⟨none, .mov 11 (.t 68)⟩, 0, []⟩]

abbrev i_laws_FnExactLocksOf_r29 : List RO := [
  ⟨⟨none, .mov 69 (.t 11)⟩, 0, []⟩,
  ⟨⟨none, .bin 70 .lss (.t 69) (.c (.one (.d (.int .i64 0))))⟩, 0, []⟩]

abbrev i_laws_FnExactLocksOf_r30 : List RO := [
  ⟨⟨none, .mov 4 (.c (.one (.d (.bool false))))⟩, 0, []⟩]

abbrev i_laws_FnExactLocksOf_r31 : List RO := [
  ⟨⟨none, .mov 71 (.t 11)⟩, 0, []⟩,
  ⟨⟨none, .mov 72 (.t 10)⟩, 0, []⟩,
  ⟨⟨none, .bin 73 .neq (.t 71) (.t 72)⟩, 0, []⟩]

abbrev i_laws_FnExactLocksOf_r32 : List RO := [
  ⟨⟨none, .mov 4 (.c (.one (.d (.bool false))))⟩, 0, []⟩]

abbrev i_laws_FnExactLocksOf_r33 : List RO := [
  ⟨⟨none, .mov 4 (.c (.one (.d (.bool true))))⟩, 0, []⟩]

def i_laws_FnExactLocksOf : IC := (.seq (.reg i_laws_FnExactLocksOf_r0)
  (.seq (.reg i_laws_FnExactLocksOf_r1)
  (.seq (.reg i_laws_FnExactLocksOf_r2)
  (.seq (.seq (.reg i_laws_FnExactLocksOf_r3)
  (.cond (.t 17) (.seq (.reg i_laws_FnExactLocksOf_r4)
  .ret) .skip))
  (.seq (.reg i_laws_FnExactLocksOf_r5)
  (.seq (.reg i_laws_FnExactLocksOf_r6)
  (.seq (.reg i_laws_FnExactLocksOf_r7)
  (.seq (.seq (.reg i_laws_FnExactLocksOf_r8)
  (.cond (.t 30) (.seq (.reg i_laws_FnExactLocksOf_r9)
  .ret) .skip))
  (.seq (.seq (.reg i_laws_FnExactLocksOf_r10)
  (.cond (.t 35) (.seq (.reg i_laws_FnExactLocksOf_r11)
  .ret) .skip))
  (.seq (.reg i_laws_FnExactLocksOf_r12)
  (.seq (.reg i_laws_FnExactLocksOf_r13)
  (.seq (.seq (.reg i_laws_FnExactLocksOf_r14)
  (.cond (.t 46) (.seq (.reg i_laws_FnExactLocksOf_r15)
  .ret) .skip))
  (.seq (.reg i_laws_FnExactLocksOf_r16)
  (.seq (.reg i_laws_FnExactLocksOf_r17)
  (.seq (.reg i_laws_FnExactLocksOf_r18)
  (.seq (.reg i_laws_FnExactLocksOf_r19)
  (.seq (.seq (.reg i_laws_FnExactLocksOf_r20)
  (.cond (.t 54) (.seq (.reg i_laws_FnExactLocksOf_r21)
  .ret) .skip))
  (.seq (.seq (.reg i_laws_FnExactLocksOf_r22)
  (.cond (.t 57) (.seq (.reg i_laws_FnExactLocksOf_r23)
  .ret) .skip))
  (.seq (.reg i_laws_FnExactLocksOf_r24)
  (.seq (.seq (.reg i_laws_FnExactLocksOf_r25)
  (.cond (.t 65) (.seq (.reg i_laws_FnExactLocksOf_r26)
  .ret) .skip))
  (.seq (.reg i_laws_FnExactLocksOf_r27)
  (.seq (.reg i_laws_FnExactLocksOf_r28)
  (.seq (.seq (.reg i_laws_FnExactLocksOf_r29)
  (.cond (.t 70) (.seq (.reg i_laws_FnExactLocksOf_r30)
  .ret) .skip))
  (.seq (.seq (.reg i_laws_FnExactLocksOf_r31)
  (.cond (.t 73) (.seq (.reg i_laws_FnExactLocksOf_r32)
  .ret) .skip))
  (.seq (.reg i_laws_FnExactLocksOf_r33)
  .ret)))))))))))))))))))))))))

theorem i_laws_FnExactLocksOf_ok : (Try.f6.body.bind fun c => toIC Try.prog 74 c []) = some (i_laws_FnExactLocksOf, []) := by kernel_rfl

theorem i_laws_FnExactLocksOf_fn {ds rs : List D} (hle : ds.length ≤ 74) (h : AW Try.prog 74 i_laws_FnExactLocksOf (Ends [.tmp 4] rs) (init ds)) : Fn Try.prog k_laws_FnExactLocksOf (lent ds) true rs :=
  Fn.intro' (by kernel_rfl) Try.func6 (by kernel_rfl) i_laws_FnExactLocksOf_ok (by kernel_rfl) hle h.h

theorem i_laws_FnExactLocksOf_fnB {ds rs : List D} (hle : ds.length ≤ 74) (h : AW Try.prog 74 i_laws_FnExactLocksOf (EndsB [.tmp 4] rs) (init ds)) : Fn Try.prog k_laws_FnExactLocksOf (lent ds) false rs :=
  Fn.introB' (by kernel_rfl) Try.func6 (by kernel_rfl) i_laws_FnExactLocksOf_ok (by kernel_rfl) hle h.h

end Go.AW
