/- The compact code of functions of the program, and that it is the program's: made by a program of the prover's own (tool/GenIC.lean). Conditions: none. -/
import Derived.Test.YtkjjdnfbaejdkaaYc
import Derived.Test.YtkjjdnfbaejdkaaRows
import Derived.KernelRfl
set_option linter.unusedVariables false
set_option maxRecDepth 100000
namespace Go.AW
open Go.Proofs

abbrev k_main_main : Nat := 0
abbrev k_gosem_cut : Nat := 1
abbrev k_gosem_cut_init : Nat := 2
abbrev k_laws_FnExactStoreCut : Nat := 3
abbrev k_laws_FnExactStoreScan : Nat := 4
abbrev k_laws_FnExactLocksDrop : Nat := 5
abbrev k_laws_FnExactLocksOf : Nat := 6
abbrev k_laws_FnExactStoreApply : Nat := 7
abbrev k_laws_FnExactNewAtlas : Nat := 8
abbrev k_laws_FnExactAtlasGone : Nat := 9
abbrev k_laws_FnExactAtlasFrozen : Nat := 10
abbrev k_laws_FnExactAtlasMove : Nat := 11
abbrev k_laws_FnExactAtlasInstalled : Nat := 12
abbrev k_laws_FnExactLocksWaits : Nat := 13
abbrev k_laws_FnExactStoreJoin : Nat := 14
abbrev k_laws_szCellS : Nat := 15
abbrev k_spec_StoreCut : Nat := 16
abbrev k_laws_toCellS : Nat := 17
abbrev k_laws_toRange : Nat := 18
abbrev k_impl_StoreCut : Nat := 19
abbrev k_laws_eqCellS : Nat := 20
abbrev k_laws_markCellS : Nat := 21
abbrev k_laws_heldCellS : Nat := 22
abbrev k_spec_StoreScan : Nat := 23
abbrev k_impl_StoreScan : Nat := 24
abbrev k_laws_szLockS : Nat := 25
abbrev k_spec_LocksDrop : Nat := 26
abbrev k_laws_toLockS : Nat := 27
abbrev k_impl_LocksDrop : Nat := 28
abbrev k_laws_eqLockS : Nat := 29
abbrev k_laws_markLockS : Nat := 30
abbrev k_laws_heldLockS : Nat := 31
abbrev k_spec_LocksOf : Nat := 32
abbrev k_impl_LocksOf : Nat := 33
abbrev k_laws_szWriteS : Nat := 34
abbrev k_spec_StoreApply : Nat := 35
abbrev k_laws_toWriteS : Nat := 36
abbrev k_impl_StoreApply : Nat := 37
abbrev k_laws_eqWriteS : Nat := 38
abbrev k_laws_markWriteS : Nat := 39
abbrev k_laws_szPartS : Nat := 40
abbrev k_spec_NewAtlas : Nat := 41
abbrev k_laws_toPartS : Nat := 42
abbrev k_impl_NewAtlas : Nat := 43
abbrev k_laws_eqAtlas : Nat := 44
abbrev k_laws_eqPartS : Nat := 45
abbrev k_laws_markPartS : Nat := 46
abbrev k_laws_markAtlas : Nat := 47
abbrev k_laws_heldAtlas : Nat := 48
abbrev k_laws_szAtlas : Nat := 49
abbrev k_spec_AtlasGone : Nat := 50
abbrev k_laws_toAtlas : Nat := 51
abbrev k_impl_AtlasGone : Nat := 52
abbrev k_spec_AtlasFrozen : Nat := 53
abbrev k_impl_AtlasFrozen : Nat := 54
abbrev k_spec_AtlasMove : Nat := 55
abbrev k_impl_AtlasMove : Nat := 56
abbrev k_spec_AtlasInstalled : Nat := 57
abbrev k_impl_AtlasInstalled : Nat := 58
abbrev k_spec_LocksWaits : Nat := 59
abbrev k_laws_toIntS : Nat := 60
abbrev k_impl_LocksWaits : Nat := 61
abbrev k_laws_eqIntS : Nat := 62
abbrev k_laws_markIntS : Nat := 63
abbrev k_laws_heldIntS : Nat := 64
abbrev k_spec_StoreJoin : Nat := 65
abbrev k_impl_StoreJoin : Nat := 66
abbrev k_spec_l11Scan : Nat := 67
abbrev k_laws_toCell : Nat := 68
abbrev k_impl_within : Nat := 69
abbrev k_laws_eqCell : Nat := 70
abbrev k_spec_LocksOk : Nat := 71
abbrev k_spec_l12Keep : Nat := 72
abbrev k_laws_toLock : Nat := 73
abbrev k_impl_LocksOk : Nat := 74
abbrev k_slices_DeleteFunc___impl_Lock_impl_Lock_ : Nat := 75
abbrev k_slices_Clone___impl_Lock_impl_Lock_ : Nat := 76
abbrev k_impl_LocksDrop_1 : Nat := 77
abbrev k_laws_eqLock : Nat := 78
abbrev k_impl_LocksOf_1 : Nat := 79
abbrev k_spec_StoreOk : Nat := 80
abbrev k_spec_WritesOk : Nat := 81
abbrev k_spec_l2Cells : Nat := 82
abbrev k_laws_toWrite : Nat := 83
abbrev k_impl_StoreOk : Nat := 84
abbrev k_impl_WritesOk : Nat := 85
abbrev k_impl_written : Nat := 86
abbrev k_slices_Clone___impl_Cell_impl_Cell_ : Nat := 87
abbrev k_laws_eqWrite : Nat := 88
abbrev k_spec_AtlasOk : Nat := 89
abbrev k_laws_toPart : Nat := 90
abbrev k_slices_Clone___impl_Part_impl_Part_ : Nat := 91
abbrev k_impl_AtlasOk : Nat := 92
abbrev k_laws_eqMove : Nat := 93
abbrev k_laws_eqPart : Nat := 94
abbrev k_laws_markMove : Nat := 95
abbrev k_laws_heldPartS : Nat := 96
abbrev k_laws_heldMove : Nat := 97
abbrev k_laws_szMove : Nat := 98
abbrev k_spec_l15Copy : Nat := 99
abbrev k_spec_MoveRank : Nat := 100
abbrev k_laws_toMove : Nat := 101
abbrev k_impl_copyAtlas : Nat := 102
abbrev k_impl_MoveRank : Nat := 103
abbrev k_spec_l15In : Nat := 104
abbrev k_impl_cellsIn : Nat := 105
abbrev k__impl_Move_keys : Nat := 106
abbrev k_spec_PartAt : Nat := 107
abbrev k_spec_l15Group : Nat := 108
abbrev k_impl_partAt : Nat := 109
abbrev k_impl_isGroup : Nat := 110
abbrev k_impl_RangeIn : Nat := 111
abbrev k_spec_l12Right : Nat := 112
abbrev k_spec_l12Holds : Nat := 113
abbrev k_spec_l12Foes : Nat := 114
abbrev k_spec_l12Has : Nat := 115
abbrev k_impl_LockAsk : Nat := 116
abbrev k_impl_clashing : Nat := 117
abbrev k_spec_l11Get : Nat := 118
abbrev k_slices_Concat___impl_Cell_impl_Cell_ : Nat := 119
abbrev k_slices_SortFunc___impl_Cell_impl_Cell_ : Nat := 120
abbrev k_impl_StoreJoin_1 : Nat := 121
abbrev k_spec_RangeOk : Nat := 122
abbrev k_spec_l1In : Nat := 123
abbrev k_impl_RangeOk : Nat := 124
abbrev k_slices_DeleteFunc___impl_Cell_impl_Cell_ : Nat := 125
abbrev k_impl_within_1 : Nat := 126
abbrev k__impl_Range_has : Nat := 127
abbrev k_spec_l12Tx : Nat := 128
abbrev k_spec_l12Range : Nat := 129
abbrev k_spec_l12Mode : Nat := 130
abbrev k_spec_l12Clash : Nat := 131
abbrev k_impl_isTx : Nat := 132
abbrev k__impl_Lock_keys : Nat := 133
abbrev k_impl_isMode : Nat := 134
abbrev k_slices_ContainsFunc___impl_Lock_impl_Lock_ : Nat := 135
abbrev k_impl_LocksOk_1 : Nat := 136
abbrev k_impl_clash : Nat := 137
abbrev k_slices_IndexFunc___impl_Lock_impl_Lock_ : Nat := 138
abbrev k_spec_l10Key : Nat := 139
abbrev k_spec_l1Whole : Nat := 140
abbrev k_impl_isKey : Nat := 141
abbrev k_impl_isWhole : Nat := 142
abbrev k_impl_isAnswer : Nat := 143
abbrev k_impl_put : Nat := 144
abbrev k_spec_PartsOk : Nat := 145
abbrev k_impl_from : Nat := 146
abbrev k_impl_PartsOk : Nat := 147
abbrev k_impl_moveOk : Nat := 148
abbrev k_spec_l1Min : Nat := 149
abbrev k_slices_ContainsFunc___impl_Cell_impl_Cell_ : Nat := 150
abbrev k_impl_cellsIn_1 : Nat := 151
abbrev k_slices_IndexFunc___impl_Part_impl_Part_ : Nat := 152
abbrev k_impl_partAt_1 : Nat := 153
abbrev k_spec_RangeIn : Nat := 154
abbrev k_spec_l12Put : Nat := 155
abbrev k_impl_LocksHold : Nat := 156
abbrev k_impl_LockAsk_1 : Nat := 157
abbrev k_slices_Contains___int_int_ : Nat := 158
abbrev k_impl_inserted : Nat := 159
abbrev k_slices_Grow___impl_Cell_impl_Cell_ : Nat := 160
abbrev k_slices_pdqsortCmpFunc_impl_Cell_ : Nat := 161
abbrev k_math_bits_Len : Nat := 162
abbrev k_slices_IndexFunc___impl_Cell_impl_Cell_ : Nat := 163
abbrev k_spec_RangeMeet : Nat := 164
abbrev k_impl_meets : Nat := 165
abbrev k_impl_cellFor : Nat := 166
abbrev k_slices_Delete___impl_Cell_impl_Cell_ : Nat := 167
abbrev k_slices_Insert___impl_Cell_impl_Cell_ : Nat := 168
abbrev k_impl_LocksHold_1 : Nat := 169
abbrev k_slices_Index___int_int_ : Nat := 170
abbrev k_slices_BinarySearch___int_int_ : Nat := 171
abbrev k_slices_Insert___int_int_ : Nat := 172
abbrev k_slices_Clone___int_int_ : Nat := 173
abbrev k_slices_insertionSortCmpFunc_impl_Cell_ : Nat := 174
abbrev k_slices_heapSortCmpFunc_impl_Cell_ : Nat := 175
abbrev k_slices_breakPatternsCmpFunc_impl_Cell_ : Nat := 176
abbrev k_slices_choosePivotCmpFunc_impl_Cell_ : Nat := 177
abbrev k_slices_reverseRangeCmpFunc_impl_Cell_ : Nat := 178
abbrev k_slices_partialInsertionSortCmpFunc_impl_Cell_ : Nat := 179
abbrev k_slices_partitionEqualCmpFunc_impl_Cell_ : Nat := 180
abbrev k_slices_partitionCmpFunc_impl_Cell_ : Nat := 181
abbrev k_math_bits_Len32 : Nat := 182
abbrev k_math_bits_Len64 : Nat := 183
abbrev k_spec_l1Max : Nat := 184
abbrev k_slices_BinarySearchFunc___impl_Cell_impl_Cell_int_ : Nat := 185
abbrev k_impl_cellFor_1 : Nat := 186
abbrev k_slices_overlaps_impl_Cell_ : Nat := 187
abbrev k_slices_rotateRight_impl_Cell_ : Nat := 188
abbrev k_cmp_Less_int_ : Nat := 189
abbrev k_slices_isNaN_int_ : Nat := 190
abbrev k_slices_overlaps_int_ : Nat := 191
abbrev k_slices_rotateRight_int_ : Nat := 192
abbrev k_slices_siftDownCmpFunc_impl_Cell_ : Nat := 193
abbrev k_slices_nextPowerOfTwo : Nat := 194
abbrev k_slices_xorshift_Next : Nat := 195
abbrev k_slices_medianAdjacentCmpFunc_impl_Cell_ : Nat := 196
abbrev k_slices_medianCmpFunc_impl_Cell_ : Nat := 197
abbrev k_slices_rotateLeft_impl_Cell_ : Nat := 198
abbrev k_cmp_isNaN_int_ : Nat := 199
abbrev k_slices_rotateLeft_int_ : Nat := 200
abbrev k_slices_order2CmpFunc_impl_Cell_ : Nat := 201
abbrev k_slices_Reverse___impl_Cell_impl_Cell_ : Nat := 202
abbrev k_slices_Reverse___int_int_ : Nat := 203
abbrev k__runtime_boundsError_Error : Nat := 204
abbrev k__runtime_boundsError_RuntimeError : Nat := 205
abbrev k__runtime_errorString_Error : Nat := 206
abbrev k__runtime_errorString_RuntimeError : Nat := 207
abbrev k__runtime_plainError_Error : Nat := 208
abbrev k__runtime_plainError_RuntimeError : Nat := 209
abbrev k__runtime_errorAddressString_Error : Nat := 210
abbrev k__runtime_errorAddressString_RuntimeError : Nat := 211
abbrev k_runtime_TypeAssertionError_Error : Nat := 212
abbrev k_runtime_TypeAssertionError_RuntimeError : Nat := 213
abbrev k_runtime_PanicNilError_Error : Nat := 214
abbrev k_runtime_PanicNilError_RuntimeError : Nat := 215
abbrev k_internal_abi_Type_Align : Nat := 216
abbrev k__internal_runtime_maps_unhashableTypeError_Error : Nat := 217
abbrev k__internal_runtime_maps_unhashableTypeError_RuntimeError : Nat := 218
abbrev k__internal_abi_Kind_String : Nat := 219
abbrev i_laws_szCellS_r0 : List RO := [
  ⟨⟨none, .mov 4 (.c (.one (.d (.int .i64 0))))⟩, 0, []⟩]

abbrev i_laws_szCellS_r1 : List RO := [
  ⟨⟨none, .mov 5 (.t 1)⟩, 0, []⟩,
  ⟨⟨none, .mov 6 (.t 0)⟩, 0, []⟩,
  ⟨⟨none, .len 7 false (.t 6)⟩, 0, []⟩,
  ⟨⟨none, .bin 8 .sub (.t 5) (.t 7)⟩, 0, []⟩,
  ⟨⟨none, .mov 1 (.t 8)⟩, 0, []⟩]

abbrev i_laws_szCellS_r2 : List RO := [
  ⟨⟨none, .mov 9 (.t 1)⟩, 0, []⟩,
  ⟨⟨none, .bin 10 .lss (.t 9) (.c (.one (.d (.int .i64 0))))⟩, 0, []⟩]

abbrev i_laws_szCellS_r3 : List RO := [
  ⟨⟨none, .mov 4 (.c (.one (.d (.int .i64 (-1)))))⟩, 0, []⟩]

abbrev i_laws_szCellS_r4 : List RO := [
  ⟨⟨none, .mov 11 (.t 1)⟩, 0, []⟩,
  ⟨⟨none, .mov 4 (.t 11)⟩, 0, []⟩]

def i_laws_szCellS : IC := (.seq (.reg i_laws_szCellS_r0)
  (.seq (.reg i_laws_szCellS_r1)
  (.seq (.seq (.reg i_laws_szCellS_r2)
  (.cond (.t 10) (.seq (.reg i_laws_szCellS_r3)
  .ret) .skip))
  (.seq (.reg i_laws_szCellS_r4)
  .ret))))

theorem i_laws_szCellS_ok : (Try.f15.body.bind fun c => toIC Try.prog 12 c []) = some (i_laws_szCellS, []) := by kernel_rfl

theorem i_laws_szCellS_fn {ds rs : List D} (hle : ds.length ≤ 12) (h : AW Try.prog 12 i_laws_szCellS (Ends [.tmp 4] rs) (init ds)) : Fn Try.prog k_laws_szCellS (lent ds) true rs :=
  Fn.intro' (by kernel_rfl) Try.func15 (by kernel_rfl) i_laws_szCellS_ok (by kernel_rfl) hle h.h

theorem i_laws_szCellS_fnB {ds rs : List D} (hle : ds.length ≤ 12) (h : AW Try.prog 12 i_laws_szCellS (EndsB [.tmp 4] rs) (init ds)) : Fn Try.prog k_laws_szCellS (lent ds) false rs :=
  Fn.introB' (by kernel_rfl) Try.func15 (by kernel_rfl) i_laws_szCellS_ok (by kernel_rfl) hle h.h

abbrev i_laws_szWriteS_r0 : List RO := [
  ⟨⟨none, .mov 4 (.c (.one (.d (.int .i64 0))))⟩, 0, []⟩]

abbrev i_laws_szWriteS_r1 : List RO := [
  ⟨⟨none, .mov 5 (.t 1)⟩, 0, []⟩,
  ⟨⟨none, .mov 6 (.t 0)⟩, 0, []⟩,
  ⟨⟨none, .len 7 false (.t 6)⟩, 0, []⟩,
  ⟨⟨none, .bin 8 .sub (.t 5) (.t 7)⟩, 0, []⟩,
  ⟨⟨none, .mov 1 (.t 8)⟩, 0, []⟩]

abbrev i_laws_szWriteS_r2 : List RO := [
  ⟨⟨none, .mov 9 (.t 1)⟩, 0, []⟩,
  ⟨⟨none, .bin 10 .lss (.t 9) (.c (.one (.d (.int .i64 0))))⟩, 0, []⟩]

abbrev i_laws_szWriteS_r3 : List RO := [
  ⟨⟨none, .mov 4 (.c (.one (.d (.int .i64 (-1)))))⟩, 0, []⟩]

abbrev i_laws_szWriteS_r4 : List RO := [
  ⟨⟨none, .mov 11 (.t 1)⟩, 0, []⟩,
  ⟨⟨none, .mov 4 (.t 11)⟩, 0, []⟩]

def i_laws_szWriteS : IC := (.seq (.reg i_laws_szWriteS_r0)
  (.seq (.reg i_laws_szWriteS_r1)
  (.seq (.seq (.reg i_laws_szWriteS_r2)
  (.cond (.t 10) (.seq (.reg i_laws_szWriteS_r3)
  .ret) .skip))
  (.seq (.reg i_laws_szWriteS_r4)
  .ret))))

theorem i_laws_szWriteS_ok : (Try.f34.body.bind fun c => toIC Try.prog 12 c []) = some (i_laws_szWriteS, []) := by kernel_rfl

theorem i_laws_szWriteS_fn {ds rs : List D} (hle : ds.length ≤ 12) (h : AW Try.prog 12 i_laws_szWriteS (Ends [.tmp 4] rs) (init ds)) : Fn Try.prog k_laws_szWriteS (lent ds) true rs :=
  Fn.intro' (by kernel_rfl) Try.func34 (by kernel_rfl) i_laws_szWriteS_ok (by kernel_rfl) hle h.h

theorem i_laws_szWriteS_fnB {ds rs : List D} (hle : ds.length ≤ 12) (h : AW Try.prog 12 i_laws_szWriteS (EndsB [.tmp 4] rs) (init ds)) : Fn Try.prog k_laws_szWriteS (lent ds) false rs :=
  Fn.introB' (by kernel_rfl) Try.func34 (by kernel_rfl) i_laws_szWriteS_ok (by kernel_rfl) hle h.h

abbrev i_laws_toCell_r0 : List RO := [
  ⟨⟨none, .box 1 (.t 0)⟩, 0, []⟩,
  ⟨⟨none, .var 2 [(.d (.int .i64 0)), (.d (.int .i64 0))]⟩, 0, []⟩]

abbrev i_laws_toCell_r1 : List RO := [
  ⟨⟨none, .var 3 [(.d (.int .i64 0)), (.d (.int .i64 0))]⟩, 0, []⟩]

abbrev i_laws_toCell_r2 : List RO := [
  ⟨⟨none, .faddr 4 0 (.t 1)⟩, 0, []⟩,
  ⟨⟨none, .load 5 none (.t 4)⟩, 0, []⟩,
  ⟨⟨none, .faddr 6 0 (.t 3)⟩, 0, []⟩,
  ⟨⟨none, .store 1 [(.int .i64 0)] (.t 6) (.t 5)⟩, 0, []⟩]

abbrev i_laws_toCell_r3 : List RO := [
  ⟨⟨none, .faddr 7 1 (.t 1)⟩, 0, []⟩,
  ⟨⟨none, .load 8 none (.t 7)⟩, 0, []⟩,
  ⟨⟨none, .faddr 9 1 (.t 3)⟩, 0, []⟩,
  ⟨⟨none, .store 1 [(.int .i64 0)] (.t 9) (.t 8)⟩, 0, []⟩]

abbrev i_laws_toCell_r4 : List RO := [
  ⟨⟨none, .load 10 (some 2) (.t 3)⟩, 0, []⟩,
  ⟨⟨none, .store 2 [(.int .i64 0), (.int .i64 0)] (.t 2) (.t 10)⟩, 0, []⟩]

def i_laws_toCell : IC := (.seq (.reg i_laws_toCell_r0)
  (.seq (.reg i_laws_toCell_r1)
  (.seq (.reg i_laws_toCell_r2)
  (.seq (.reg i_laws_toCell_r3)
  (.seq (.reg i_laws_toCell_r4)
  .ret)))))

theorem i_laws_toCell_ok : (Try.f68.body.bind fun c => toIC Try.prog 11 c []) = some (i_laws_toCell, []) := by kernel_rfl

theorem i_laws_toCell_fn {ds rs : List D} (hle : ds.length ≤ 11) (h : AW Try.prog 11 i_laws_toCell (Ends [.cell 2 (some 2)] rs) (init ds)) : Fn Try.prog k_laws_toCell (lent ds) true rs :=
  Fn.intro' (by kernel_rfl) Try.func68 (by kernel_rfl) i_laws_toCell_ok (by kernel_rfl) hle h.h

theorem i_laws_toCell_fnB {ds rs : List D} (hle : ds.length ≤ 11) (h : AW Try.prog 11 i_laws_toCell (EndsB [.cell 2 (some 2)] rs) (init ds)) : Fn Try.prog k_laws_toCell (lent ds) false rs :=
  Fn.introB' (by kernel_rfl) Try.func68 (by kernel_rfl) i_laws_toCell_ok (by kernel_rfl) hle h.h

abbrev i_laws_toCellS_r0 : List RO := [
  ⟨⟨none, .mov 2 (.c (.one .zs))⟩, 0, []⟩]

abbrev i_laws_toCellS_r1 : List RO := [
  ⟨⟨none, .mov 5 (.t 0)⟩, 0, []⟩,
  ⟨⟨none, .len 6 false (.t 5)⟩, 0, []⟩,
  ⟨⟨none, .mksl 7 2 16 [(.int .i64 0), (.int .i64 0)] (.t 6) (.t 6)⟩, 0, []⟩,
  ⟨⟨none, .mov 3 (.t 7)⟩, 0, []⟩]

abbrev i_laws_toCellS_r2 : List RO := [
  ⟨⟨none, .mov 4 (.c (.one (.d (.int .i64 0))))⟩, 0, []⟩]

abbrev i_laws_toCellS_r3 : List RO := [
  ⟨⟨none, .mov 8 (.t 4)⟩, 0, []⟩,
  ⟨⟨none, .mov 9 (.t 0)⟩, 0, []⟩,
  ⟨⟨none, .len 10 false (.t 9)⟩, 0, []⟩,
  ⟨⟨none, .bin 11 .lss (.t 8) (.t 10)⟩, 0, []⟩]

abbrev i_laws_toCellS_r4 : List RO := [
  ⟨⟨none, .mov 14 (.t 3)⟩, 0, []⟩,
  ⟨⟨none, .mov 15 (.t 4)⟩, 0, []⟩,
  ⟨⟨none, .mov 16 (.t 0)⟩, 0, []⟩,
  ⟨⟨none, .mov 17 (.t 4)⟩, 0, []⟩,
  ⟨⟨none, .iaddr 18 2 (.t 16) (.t 17)⟩, 0, []⟩,
  ⟨⟨none, .load 19 (some 2) (.t 18)⟩, 0, []⟩,
  ⟨⟨none, .callv 20 (.c (.one (.fn k_laws_toCell []))) [(.t 19)]⟩, 0, []⟩,
  ⟨⟨none, .iaddr 21 2 (.t 14) (.t 15)⟩, 0, []⟩,
  ⟨⟨none, .store 2 [(.int .i64 0), (.int .i64 0)] (.t 21) (.t 20)⟩, 0, []⟩]

abbrev i_laws_toCellS_r5 : List RO := [
  ⟨⟨none, .mov 12 (.t 4)⟩, 0, []⟩,
  ⟨⟨none, .bin 13 .add (.t 12) (.c (.one (.d (.int .i64 1))))⟩, 0, []⟩,
  ⟨⟨none, .mov 4 (.t 13)⟩, 0, []⟩]

abbrev i_laws_toCellS_r6 : List RO := [
  ⟨⟨none, .mov 22 (.t 3)⟩, 0, []⟩,
  ⟨⟨none, .mov 2 (.t 22)⟩, 0, []⟩]

def i_laws_toCellS : IC := (.seq (.reg i_laws_toCellS_r0)
  (.seq (.reg i_laws_toCellS_r1)
  (.seq (.seq (.reg i_laws_toCellS_r2)
  (.block 0 (.loop (.seq (.seq (.reg i_laws_toCellS_r3)
  (.cond (.t 11) .skip (.exit 0)))
  (.seq (.block 1 (.reg i_laws_toCellS_r4))
  (.reg i_laws_toCellS_r5))))))
  (.seq (.reg i_laws_toCellS_r6)
  .ret))))

theorem i_laws_toCellS_ok : (Try.f17.body.bind fun c => toIC Try.prog 23 c []) = some (i_laws_toCellS, []) := by kernel_rfl

theorem i_laws_toCellS_fn {ds rs : List D} (hle : ds.length ≤ 23) (h : AW Try.prog 23 i_laws_toCellS (Ends [.tmp 2] rs) (init ds)) : Fn Try.prog k_laws_toCellS (lent ds) true rs :=
  Fn.intro' (by kernel_rfl) Try.func17 (by kernel_rfl) i_laws_toCellS_ok (by kernel_rfl) hle h.h

theorem i_laws_toCellS_fnB {ds rs : List D} (hle : ds.length ≤ 23) (h : AW Try.prog 23 i_laws_toCellS (EndsB [.tmp 2] rs) (init ds)) : Fn Try.prog k_laws_toCellS (lent ds) false rs :=
  Fn.introB' (by kernel_rfl) Try.func17 (by kernel_rfl) i_laws_toCellS_ok (by kernel_rfl) hle h.h

abbrev i_laws_toWrite_r0 : List RO := [
  ⟨⟨none, .box 1 (.t 0)⟩, 0, []⟩,
  ⟨⟨none, .var 2 [(.d (.int .i64 0)), (.d (.int .i64 0))]⟩, 0, []⟩]

abbrev i_laws_toWrite_r1 : List RO := [
  ⟨⟨none, .var 3 [(.d (.int .i64 0)), (.d (.int .i64 0))]⟩, 0, []⟩]

abbrev i_laws_toWrite_r2 : List RO := [
  ⟨⟨none, .faddr 4 0 (.t 1)⟩, 0, []⟩,
  ⟨⟨none, .load 5 none (.t 4)⟩, 0, []⟩,
  ⟨⟨none, .faddr 6 0 (.t 3)⟩, 0, []⟩,
  ⟨⟨none, .store 1 [(.int .i64 0)] (.t 6) (.t 5)⟩, 0, []⟩]

abbrev i_laws_toWrite_r3 : List RO := [
  ⟨⟨none, .faddr 7 1 (.t 1)⟩, 0, []⟩,
  ⟨⟨none, .load 8 none (.t 7)⟩, 0, []⟩,
  ⟨⟨none, .faddr 9 1 (.t 3)⟩, 0, []⟩,
  ⟨⟨none, .store 1 [(.int .i64 0)] (.t 9) (.t 8)⟩, 0, []⟩]

abbrev i_laws_toWrite_r4 : List RO := [
  ⟨⟨none, .load 10 (some 2) (.t 3)⟩, 0, []⟩,
  ⟨⟨none, .store 2 [(.int .i64 0), (.int .i64 0)] (.t 2) (.t 10)⟩, 0, []⟩]

def i_laws_toWrite : IC := (.seq (.reg i_laws_toWrite_r0)
  (.seq (.reg i_laws_toWrite_r1)
  (.seq (.reg i_laws_toWrite_r2)
  (.seq (.reg i_laws_toWrite_r3)
  (.seq (.reg i_laws_toWrite_r4)
  .ret)))))

theorem i_laws_toWrite_ok : (Try.f83.body.bind fun c => toIC Try.prog 11 c []) = some (i_laws_toWrite, []) := by kernel_rfl

theorem i_laws_toWrite_fn {ds rs : List D} (hle : ds.length ≤ 11) (h : AW Try.prog 11 i_laws_toWrite (Ends [.cell 2 (some 2)] rs) (init ds)) : Fn Try.prog k_laws_toWrite (lent ds) true rs :=
  Fn.intro' (by kernel_rfl) Try.func83 (by kernel_rfl) i_laws_toWrite_ok (by kernel_rfl) hle h.h

theorem i_laws_toWrite_fnB {ds rs : List D} (hle : ds.length ≤ 11) (h : AW Try.prog 11 i_laws_toWrite (EndsB [.cell 2 (some 2)] rs) (init ds)) : Fn Try.prog k_laws_toWrite (lent ds) false rs :=
  Fn.introB' (by kernel_rfl) Try.func83 (by kernel_rfl) i_laws_toWrite_ok (by kernel_rfl) hle h.h

abbrev i_laws_toWriteS_r0 : List RO := [
  ⟨⟨none, .mov 2 (.c (.one .zs))⟩, 0, []⟩]

abbrev i_laws_toWriteS_r1 : List RO := [
  ⟨⟨none, .mov 5 (.t 0)⟩, 0, []⟩,
  ⟨⟨none, .len 6 false (.t 5)⟩, 0, []⟩,
  ⟨⟨none, .mksl 7 2 16 [(.int .i64 0), (.int .i64 0)] (.t 6) (.t 6)⟩, 0, []⟩,
  ⟨⟨none, .mov 3 (.t 7)⟩, 0, []⟩]

abbrev i_laws_toWriteS_r2 : List RO := [
  ⟨⟨none, .mov 4 (.c (.one (.d (.int .i64 0))))⟩, 0, []⟩]

abbrev i_laws_toWriteS_r3 : List RO := [
  ⟨⟨none, .mov 8 (.t 4)⟩, 0, []⟩,
  ⟨⟨none, .mov 9 (.t 0)⟩, 0, []⟩,
  ⟨⟨none, .len 10 false (.t 9)⟩, 0, []⟩,
  ⟨⟨none, .bin 11 .lss (.t 8) (.t 10)⟩, 0, []⟩]

abbrev i_laws_toWriteS_r4 : List RO := [
  ⟨⟨none, .mov 14 (.t 3)⟩, 0, []⟩,
  ⟨⟨none, .mov 15 (.t 4)⟩, 0, []⟩,
  ⟨⟨none, .mov 16 (.t 0)⟩, 0, []⟩,
  ⟨⟨none, .mov 17 (.t 4)⟩, 0, []⟩,
  ⟨⟨none, .iaddr 18 2 (.t 16) (.t 17)⟩, 0, []⟩,
  ⟨⟨none, .load 19 (some 2) (.t 18)⟩, 0, []⟩,
  ⟨⟨none, .callv 20 (.c (.one (.fn k_laws_toWrite []))) [(.t 19)]⟩, 0, []⟩,
  ⟨⟨none, .iaddr 21 2 (.t 14) (.t 15)⟩, 0, []⟩,
  ⟨⟨none, .store 2 [(.int .i64 0), (.int .i64 0)] (.t 21) (.t 20)⟩, 0, []⟩]

abbrev i_laws_toWriteS_r5 : List RO := [
  ⟨⟨none, .mov 12 (.t 4)⟩, 0, []⟩,
  ⟨⟨none, .bin 13 .add (.t 12) (.c (.one (.d (.int .i64 1))))⟩, 0, []⟩,
  ⟨⟨none, .mov 4 (.t 13)⟩, 0, []⟩]

abbrev i_laws_toWriteS_r6 : List RO := [
  ⟨⟨none, .mov 22 (.t 3)⟩, 0, []⟩,
  ⟨⟨none, .mov 2 (.t 22)⟩, 0, []⟩]

def i_laws_toWriteS : IC := (.seq (.reg i_laws_toWriteS_r0)
  (.seq (.reg i_laws_toWriteS_r1)
  (.seq (.seq (.reg i_laws_toWriteS_r2)
  (.block 0 (.loop (.seq (.seq (.reg i_laws_toWriteS_r3)
  (.cond (.t 11) .skip (.exit 0)))
  (.seq (.block 1 (.reg i_laws_toWriteS_r4))
  (.reg i_laws_toWriteS_r5))))))
  (.seq (.reg i_laws_toWriteS_r6)
  .ret))))

theorem i_laws_toWriteS_ok : (Try.f36.body.bind fun c => toIC Try.prog 23 c []) = some (i_laws_toWriteS, []) := by kernel_rfl

theorem i_laws_toWriteS_fn {ds rs : List D} (hle : ds.length ≤ 23) (h : AW Try.prog 23 i_laws_toWriteS (Ends [.tmp 2] rs) (init ds)) : Fn Try.prog k_laws_toWriteS (lent ds) true rs :=
  Fn.intro' (by kernel_rfl) Try.func36 (by kernel_rfl) i_laws_toWriteS_ok (by kernel_rfl) hle h.h

theorem i_laws_toWriteS_fnB {ds rs : List D} (hle : ds.length ≤ 23) (h : AW Try.prog 23 i_laws_toWriteS (EndsB [.tmp 2] rs) (init ds)) : Fn Try.prog k_laws_toWriteS (lent ds) false rs :=
  Fn.introB' (by kernel_rfl) Try.func36 (by kernel_rfl) i_laws_toWriteS_ok (by kernel_rfl) hle h.h

abbrev i_spec_l1In_r0 : List RO := [
  ⟨⟨none, .mov 6 (.c (.one (.d (.bool false))))⟩, 0, []⟩]

abbrev i_spec_l1In_r1 : List RO := [
  ⟨⟨none, .mov 7 (.t 0)⟩, 0, []⟩,
  ⟨⟨none, .mov 8 (.t 1)⟩, 0, []⟩,
  ⟨⟨none, .bin 9 .geq (.t 7) (.t 8)⟩, 0, []⟩,
  ⟨⟨none, .mov 10 (.t 9)⟩, 0, []⟩,
  ⟨⟨some (10, true), .mov 11 (.t 0)⟩, 0, []⟩,
  ⟨⟨some (10, true), .mov 12 (.t 2)⟩, 0, []⟩,
  ⟨⟨some (10, true), .bin 13 .leq (.t 11) (.t 12)⟩, 0, []⟩,
  ⟨⟨none, .pick 14 (.t 10) (.t 13) (.c (.one (.d (.bool false))))⟩, 0, []⟩,
  ⟨⟨none, .mov 6 (.t 14)⟩, 0, []⟩]

def i_spec_l1In : IC := (.seq (.reg i_spec_l1In_r0)
  (.seq (.reg i_spec_l1In_r1)
  .ret))

theorem i_spec_l1In_ok : (Try.f123.body.bind fun c => toIC Try.prog 15 c []) = some (i_spec_l1In, []) := by kernel_rfl

theorem i_spec_l1In_fn {ds rs : List D} (hle : ds.length ≤ 15) (h : AW Try.prog 15 i_spec_l1In (Ends [.tmp 6] rs) (init ds)) : Fn Try.prog k_spec_l1In (lent ds) true rs :=
  Fn.intro' (by kernel_rfl) Try.func123 (by kernel_rfl) i_spec_l1In_ok (by kernel_rfl) hle h.h

theorem i_spec_l1In_fnB {ds rs : List D} (hle : ds.length ≤ 15) (h : AW Try.prog 15 i_spec_l1In (EndsB [.tmp 6] rs) (init ds)) : Fn Try.prog k_spec_l1In (lent ds) false rs :=
  Fn.introB' (by kernel_rfl) Try.func123 (by kernel_rfl) i_spec_l1In_ok (by kernel_rfl) hle h.h

abbrev i_spec_l10Key_r0 : List RO := [
  ⟨⟨none, .mov 2 (.c (.one (.d (.bool false))))⟩, 0, []⟩]

abbrev i_spec_l10Key_r1 : List RO := [
  ⟨⟨none, .mov 3 (.t 0)⟩, 0, []⟩,
  ⟨⟨none, .callv 4 (.c (.one (.fn k_spec_l1In []))) [(.t 3), (.c (.one (.d (.int .i64 0)))), (.c (.one (.d (.int .i64 999))))]⟩, 0, []⟩,
  ⟨⟨none, .mov 2 (.t 4)⟩, 0, []⟩]

def i_spec_l10Key : IC := (.seq (.reg i_spec_l10Key_r0)
  (.seq (.reg i_spec_l10Key_r1)
  .ret))

theorem i_spec_l10Key_ok : (Try.f139.body.bind fun c => toIC Try.prog 5 c []) = some (i_spec_l10Key, []) := by kernel_rfl

theorem i_spec_l10Key_fn {ds rs : List D} (hle : ds.length ≤ 5) (h : AW Try.prog 5 i_spec_l10Key (Ends [.tmp 2] rs) (init ds)) : Fn Try.prog k_spec_l10Key (lent ds) true rs :=
  Fn.intro' (by kernel_rfl) Try.func139 (by kernel_rfl) i_spec_l10Key_ok (by kernel_rfl) hle h.h

theorem i_spec_l10Key_fnB {ds rs : List D} (hle : ds.length ≤ 5) (h : AW Try.prog 5 i_spec_l10Key (EndsB [.tmp 2] rs) (init ds)) : Fn Try.prog k_spec_l10Key (lent ds) false rs :=
  Fn.introB' (by kernel_rfl) Try.func139 (by kernel_rfl) i_spec_l10Key_ok (by kernel_rfl) hle h.h

abbrev i_spec_l1Whole_r0 : List RO := [
  ⟨⟨none, .mov 2 (.c (.one (.d (.bool false))))⟩, 0, []⟩]

abbrev i_spec_l1Whole_r1 : List RO := [
  ⟨⟨none, .mov 3 (.t 0)⟩, 0, []⟩,
  ⟨⟨none, .callv 4 (.c (.one (.fn k_spec_l1In []))) [(.t 3), (.c (.one (.d (.int .i64 0)))), (.c (.one (.d (.int .i64 1000000000))))]⟩, 0, []⟩,
  ⟨⟨none, .mov 2 (.t 4)⟩, 0, []⟩]

def i_spec_l1Whole : IC := (.seq (.reg i_spec_l1Whole_r0)
  (.seq (.reg i_spec_l1Whole_r1)
  .ret))

theorem i_spec_l1Whole_ok : (Try.f140.body.bind fun c => toIC Try.prog 5 c []) = some (i_spec_l1Whole, []) := by kernel_rfl

theorem i_spec_l1Whole_fn {ds rs : List D} (hle : ds.length ≤ 5) (h : AW Try.prog 5 i_spec_l1Whole (Ends [.tmp 2] rs) (init ds)) : Fn Try.prog k_spec_l1Whole (lent ds) true rs :=
  Fn.intro' (by kernel_rfl) Try.func140 (by kernel_rfl) i_spec_l1Whole_ok (by kernel_rfl) hle h.h

theorem i_spec_l1Whole_fnB {ds rs : List D} (hle : ds.length ≤ 5) (h : AW Try.prog 5 i_spec_l1Whole (EndsB [.tmp 2] rs) (init ds)) : Fn Try.prog k_spec_l1Whole (lent ds) false rs :=
  Fn.introB' (by kernel_rfl) Try.func140 (by kernel_rfl) i_spec_l1Whole_ok (by kernel_rfl) hle h.h

abbrev i_spec_StoreOk_r0 : List RO := [
  ⟨⟨none, .mov 2 (.c (.one (.d (.bool false))))⟩, 0, []⟩]

abbrev i_spec_StoreOk_r1 : List RO := [
  ⟨⟨none, .mov 4 (.t 0)⟩, 0, []⟩,
  ⟨⟨none, .len 5 false (.t 4)⟩, 0, []⟩,
  ⟨⟨none, .bin 6 .gtr (.t 5) (.c (.one (.d (.int .i64 60))))⟩, 0, []⟩]

abbrev i_spec_StoreOk_r2 : List RO := [
  ⟨⟨none, .mov 2 (.c (.one (.d (.bool false))))⟩, 0, []⟩]

abbrev i_spec_StoreOk_r3 : List RO := [
  ⟨⟨none, .mov 3 (.c (.one (.d (.int .i64 0))))⟩, 0, []⟩]

abbrev i_spec_StoreOk_r4 : List RO := [
  ⟨⟨none, .mov 7 (.t 3)⟩, 0, []⟩,
  ⟨⟨none, .mov 8 (.t 0)⟩, 0, []⟩,
  ⟨⟨none, .len 9 false (.t 8)⟩, 0, []⟩,
  ⟨⟨none, .bin 10 .lss (.t 7) (.t 9)⟩, 0, []⟩]

abbrev i_spec_StoreOk_r5 : List RO := [
  ⟨⟨none, .mov 13 (.t 0)⟩, 0, []⟩,
  ⟨⟨none, .mov 14 (.t 3)⟩, 0, []⟩,
  ⟨⟨none, .iaddr 15 2 (.t 13) (.t 14)⟩, 3, []⟩,
  ⟨⟨none, .faddr 16 0 (.t 15)⟩, 7, []⟩,
  ⟨⟨none, .load 17 none (.t 16)⟩, 15, []⟩,
  ⟨⟨none, .callv 18 (.c (.one (.fn k_spec_l10Key []))) [(.t 17)]⟩, 31, []⟩,
  ⟨⟨none, .inv 19 (.t 18)⟩, 63, []⟩,
  ⟨⟨none, .mov 20 (.t 19)⟩, 127, []⟩,
  ⟨⟨some (20, false), .mov 21 (.t 0)⟩, 255, []⟩,
  ⟨⟨some (20, false), .mov 22 (.t 3)⟩, 255, []⟩,
  ⟨⟨some (20, false), .iaddr 23 2 (.t 21) (.t 22)⟩, 1023, []⟩,
  ⟨⟨some (20, false), .faddr 24 1 (.t 23)⟩, 2047, []⟩,
  ⟨⟨some (20, false), .load 25 none (.t 24)⟩, 4095, []⟩,
  ⟨⟨some (20, false), .callv 26 (.c (.one (.fn k_spec_l1Whole []))) [(.t 25)]⟩, 8191, []⟩,
  ⟨⟨some (20, false), .inv 27 (.t 26)⟩, 16383, []⟩,
  ⟨⟨none, .pick 28 (.t 20) (.c (.one (.d (.bool true)))) (.t 27)⟩, 32767, []⟩,
  ⟨⟨none, .mov 29 (.t 28)⟩, 65535, []⟩,
  ⟨⟨some (29, false), .mov 30 (.t 3)⟩, 131071, []⟩,
  ⟨⟨some (29, false), .bin 31 .gtr (.t 30) (.c (.one (.d (.int .i64 0))))⟩, 262143, []⟩,
  ⟨⟨some (29, false), .mov 32 (.t 31)⟩, 524287, []⟩,
  ⟨⟨some (32, true), .mov 33 (.t 0)⟩, 1048575, []⟩,
  ⟨⟨some (32, true), .mov 34 (.t 3)⟩, 1048575, []⟩,
  ⟨⟨some (32, true), .bin 35 .sub (.t 34) (.c (.one (.d (.int .i64 1))))⟩, 3145727, []⟩,
  ⟨⟨some (32, true), .iaddr 36 2 (.t 33) (.t 35)⟩, 8388607, []⟩,
  ⟨⟨some (32, true), .faddr 37 0 (.t 36)⟩, 16777215, []⟩,
  ⟨⟨some (32, true), .load 38 none (.t 37)⟩, 33554431, []⟩,
  ⟨⟨some (32, true), .mov 39 (.t 0)⟩, 1048575, []⟩,
  ⟨⟨some (32, true), .mov 40 (.t 3)⟩, 1048575, []⟩,
  ⟨⟨some (32, true), .iaddr 41 2 (.t 39) (.t 40)⟩, 202375167, []⟩,
  ⟨⟨some (32, true), .faddr 42 0 (.t 41)⟩, 470810623, []⟩,
  ⟨⟨some (32, true), .load 43 none (.t 42)⟩, 1007681535, []⟩,
  ⟨⟨some (32, true), .bin 44 .geq (.t 38) (.t 43)⟩, 2147483647, []⟩,
  ⟨⟨some (29, false), .pick 45 (.t 32) (.t 44) (.c (.one (.d (.bool false))))⟩, 4294967295, []⟩,
  ⟨⟨none, .pick 46 (.t 29) (.c (.one (.d (.bool true)))) (.t 45)⟩, 8589934591, []⟩]

abbrev i_spec_StoreOk_r6 : List RO := [
  ⟨⟨none, .mov 2 (.c (.one (.d (.bool false))))⟩, 0, []⟩]

abbrev i_spec_StoreOk_r7 : List RO := [
  ⟨⟨none, .mov 11 (.t 3)⟩, 0, []⟩,
  ⟨⟨none, .bin 12 .add (.t 11) (.c (.one (.d (.int .i64 1))))⟩, 0, []⟩,
  ⟨⟨none, .mov 3 (.t 12)⟩, 0, []⟩]

abbrev i_spec_StoreOk_r8 : List RO := [
  ⟨⟨none, .mov 2 (.c (.one (.d (.bool true))))⟩, 0, []⟩]

def i_spec_StoreOk : IC := (.seq (.reg i_spec_StoreOk_r0)
  (.seq (.seq (.reg i_spec_StoreOk_r1)
  (.cond (.t 6) (.seq (.reg i_spec_StoreOk_r2)
  .ret) .skip))
  (.seq (.seq (.reg i_spec_StoreOk_r3)
  (.block 0 (.loop (.seq (.seq (.reg i_spec_StoreOk_r4)
  (.cond (.t 10) .skip (.exit 0)))
  (.seq (.block 1 (.seq (.regd i_spec_StoreOk_r5)
  (.cond (.t 46) (.seq (.reg i_spec_StoreOk_r6)
  .ret) .skip)))
  (.reg i_spec_StoreOk_r7))))))
  (.seq (.reg i_spec_StoreOk_r8)
  .ret))))

theorem i_spec_StoreOk_ok : (Try.f80.body.bind fun c => toIC Try.prog 47 c [[(0, []), (0, []), (3, []), (7, []), (15, []), (31, []), (63, []), (127, []), (255, []), (255, []), (1023, []), (2047, []), (4095, []), (8191, []), (16383, []), (32767, []), (65535, []), (131071, []), (262143, []), (524287, []), (1048575, []), (1048575, []), (3145727, []), (8388607, []), (16777215, []), (33554431, []), (1048575, []), (1048575, []), (202375167, []), (470810623, []), (1007681535, []), (2147483647, []), (4294967295, []), (8589934591, [])]]) = some (i_spec_StoreOk, []) := by kernel_rfl

theorem i_spec_StoreOk_fn {ds rs : List D} (hle : ds.length ≤ 47) (h : AW Try.prog 47 i_spec_StoreOk (Ends [.tmp 2] rs) (init ds)) : Fn Try.prog k_spec_StoreOk (lent ds) true rs :=
  Fn.intro' (by kernel_rfl) Try.func80 (by kernel_rfl) i_spec_StoreOk_ok (by kernel_rfl) hle h.h

theorem i_spec_StoreOk_fnB {ds rs : List D} (hle : ds.length ≤ 47) (h : AW Try.prog 47 i_spec_StoreOk (EndsB [.tmp 2] rs) (init ds)) : Fn Try.prog k_spec_StoreOk (lent ds) false rs :=
  Fn.introB' (by kernel_rfl) Try.func80 (by kernel_rfl) i_spec_StoreOk_ok (by kernel_rfl) hle h.h

abbrev i_spec_WritesOk_r0 : List RO := [
  ⟨⟨none, .mov 2 (.c (.one (.d (.bool false))))⟩, 0, []⟩]

abbrev i_spec_WritesOk_r1 : List RO := [
  ⟨⟨none, .mov 4 (.t 0)⟩, 0, []⟩,
  ⟨⟨none, .len 5 false (.t 4)⟩, 0, []⟩,
  ⟨⟨none, .bin 6 .gtr (.t 5) (.c (.one (.d (.int .i64 60))))⟩, 0, []⟩]

abbrev i_spec_WritesOk_r2 : List RO := [
  ⟨⟨none, .mov 2 (.c (.one (.d (.bool false))))⟩, 0, []⟩]

abbrev i_spec_WritesOk_r3 : List RO := [
  ⟨⟨none, .mov 3 (.c (.one (.d (.int .i64 0))))⟩, 0, []⟩]

abbrev i_spec_WritesOk_r4 : List RO := [
  ⟨⟨none, .mov 7 (.t 3)⟩, 0, []⟩,
  ⟨⟨none, .mov 8 (.t 0)⟩, 0, []⟩,
  ⟨⟨none, .len 9 false (.t 8)⟩, 0, []⟩,
  ⟨⟨none, .bin 10 .lss (.t 7) (.t 9)⟩, 0, []⟩]

abbrev i_spec_WritesOk_r5 : List RO := [
  ⟨⟨none, .mov 13 (.t 0)⟩, 0, []⟩,
  ⟨⟨none, .mov 14 (.t 3)⟩, 0, []⟩,
  ⟨⟨none, .iaddr 15 2 (.t 13) (.t 14)⟩, 3, []⟩,
  ⟨⟨none, .faddr 16 0 (.t 15)⟩, 7, []⟩,
  ⟨⟨none, .load 17 none (.t 16)⟩, 15, []⟩,
  ⟨⟨none, .callv 18 (.c (.one (.fn k_spec_l10Key []))) [(.t 17)]⟩, 31, []⟩,
  ⟨⟨none, .inv 19 (.t 18)⟩, 63, []⟩,
  ⟨⟨none, .mov 20 (.t 19)⟩, 127, []⟩,
  ⟨⟨some (20, false), .mov 21 (.t 0)⟩, 255, []⟩,
  ⟨⟨some (20, false), .mov 22 (.t 3)⟩, 255, []⟩,
  ⟨⟨some (20, false), .iaddr 23 2 (.t 21) (.t 22)⟩, 1023, []⟩,
  ⟨⟨some (20, false), .faddr 24 1 (.t 23)⟩, 2047, []⟩,
  ⟨⟨some (20, false), .load 25 none (.t 24)⟩, 4095, []⟩,
  ⟨⟨some (20, false), .callv 26 (.c (.one (.fn k_spec_l1In []))) [(.t 25), (.c (.one (.d (.int .i64 (-1))))), (.c (.one (.d (.int .i64 1000000000))))]⟩, 8191, []⟩,
  ⟨⟨some (20, false), .inv 27 (.t 26)⟩, 16383, []⟩,
  ⟨⟨none, .pick 28 (.t 20) (.c (.one (.d (.bool true)))) (.t 27)⟩, 32767, []⟩,
  ⟨⟨none, .mov 29 (.t 28)⟩, 65535, []⟩,
  ⟨⟨some (29, false), .mov 30 (.t 3)⟩, 131071, []⟩,
  ⟨⟨some (29, false), .bin 31 .gtr (.t 30) (.c (.one (.d (.int .i64 0))))⟩, 262143, []⟩,
  ⟨⟨some (29, false), .mov 32 (.t 31)⟩, 524287, []⟩,
  ⟨⟨some (32, true), .mov 33 (.t 0)⟩, 1048575, []⟩,
  ⟨⟨some (32, true), .mov 34 (.t 3)⟩, 1048575, []⟩,
  ⟨⟨some (32, true), .bin 35 .sub (.t 34) (.c (.one (.d (.int .i64 1))))⟩, 3145727, []⟩,
  ⟨⟨some (32, true), .iaddr 36 2 (.t 33) (.t 35)⟩, 8388607, []⟩,
  ⟨⟨some (32, true), .faddr 37 0 (.t 36)⟩, 16777215, []⟩,
  ⟨⟨some (32, true), .load 38 none (.t 37)⟩, 33554431, []⟩,
  ⟨⟨some (32, true), .mov 39 (.t 0)⟩, 1048575, []⟩,
  ⟨⟨some (32, true), .mov 40 (.t 3)⟩, 1048575, []⟩,
  ⟨⟨some (32, true), .iaddr 41 2 (.t 39) (.t 40)⟩, 202375167, []⟩,
  ⟨⟨some (32, true), .faddr 42 0 (.t 41)⟩, 470810623, []⟩,
  ⟨⟨some (32, true), .load 43 none (.t 42)⟩, 1007681535, []⟩,
  ⟨⟨some (32, true), .bin 44 .geq (.t 38) (.t 43)⟩, 2147483647, []⟩,
  ⟨⟨some (29, false), .pick 45 (.t 32) (.t 44) (.c (.one (.d (.bool false))))⟩, 4294967295, []⟩,
  ⟨⟨none, .pick 46 (.t 29) (.c (.one (.d (.bool true)))) (.t 45)⟩, 8589934591, []⟩]

abbrev i_spec_WritesOk_r6 : List RO := [
  ⟨⟨none, .mov 2 (.c (.one (.d (.bool false))))⟩, 0, []⟩]

abbrev i_spec_WritesOk_r7 : List RO := [
  ⟨⟨none, .mov 11 (.t 3)⟩, 0, []⟩,
  ⟨⟨none, .bin 12 .add (.t 11) (.c (.one (.d (.int .i64 1))))⟩, 0, []⟩,
  ⟨⟨none, .mov 3 (.t 12)⟩, 0, []⟩]

abbrev i_spec_WritesOk_r8 : List RO := [
  ⟨⟨none, .mov 2 (.c (.one (.d (.bool true))))⟩, 0, []⟩]

def i_spec_WritesOk : IC := (.seq (.reg i_spec_WritesOk_r0)
  (.seq (.seq (.reg i_spec_WritesOk_r1)
  (.cond (.t 6) (.seq (.reg i_spec_WritesOk_r2)
  .ret) .skip))
  (.seq (.seq (.reg i_spec_WritesOk_r3)
  (.block 0 (.loop (.seq (.seq (.reg i_spec_WritesOk_r4)
  (.cond (.t 10) .skip (.exit 0)))
  (.seq (.block 1 (.seq (.regd i_spec_WritesOk_r5)
  (.cond (.t 46) (.seq (.reg i_spec_WritesOk_r6)
  .ret) .skip)))
  (.reg i_spec_WritesOk_r7))))))
  (.seq (.reg i_spec_WritesOk_r8)
  .ret))))

theorem i_spec_WritesOk_ok : (Try.f81.body.bind fun c => toIC Try.prog 47 c [[(0, []), (0, []), (3, []), (7, []), (15, []), (31, []), (63, []), (127, []), (255, []), (255, []), (1023, []), (2047, []), (4095, []), (8191, []), (16383, []), (32767, []), (65535, []), (131071, []), (262143, []), (524287, []), (1048575, []), (1048575, []), (3145727, []), (8388607, []), (16777215, []), (33554431, []), (1048575, []), (1048575, []), (202375167, []), (470810623, []), (1007681535, []), (2147483647, []), (4294967295, []), (8589934591, [])]]) = some (i_spec_WritesOk, []) := by kernel_rfl

theorem i_spec_WritesOk_fn {ds rs : List D} (hle : ds.length ≤ 47) (h : AW Try.prog 47 i_spec_WritesOk (Ends [.tmp 2] rs) (init ds)) : Fn Try.prog k_spec_WritesOk (lent ds) true rs :=
  Fn.intro' (by kernel_rfl) Try.func81 (by kernel_rfl) i_spec_WritesOk_ok (by kernel_rfl) hle h.h

theorem i_spec_WritesOk_fnB {ds rs : List D} (hle : ds.length ≤ 47) (h : AW Try.prog 47 i_spec_WritesOk (EndsB [.tmp 2] rs) (init ds)) : Fn Try.prog k_spec_WritesOk (lent ds) false rs :=
  Fn.introB' (by kernel_rfl) Try.func81 (by kernel_rfl) i_spec_WritesOk_ok (by kernel_rfl) hle h.h

abbrev i_spec_l2Cells_r0 : List RO := [
  ⟨⟨none, .mov 8 (.c (.one .zs))⟩, 0, []⟩]

abbrev i_spec_l2Cells_r1 : List RO := [
  ⟨⟨none, .bslice 12 2 [] []⟩, 0, []⟩,
  ⟨⟨none, .mov 9 (.t 12)⟩, 0, []⟩]

abbrev i_spec_l2Cells_r2 : List RO := [
  ⟨⟨none, .mov 13 (.t 3)⟩, 0, []⟩,
  ⟨⟨none, .inv 14 (.t 13)⟩, 0, []⟩,
  ⟨⟨none, .mov 10 (.t 14)⟩, 0, []⟩]

abbrev i_spec_l2Cells_r3 : List RO := [
  ⟨⟨none, .mov 11 (.c (.one (.d (.int .i64 0))))⟩, 0, []⟩]

abbrev i_spec_l2Cells_r4 : List RO := [
  ⟨⟨none, .mov 15 (.t 11)⟩, 0, []⟩,
  ⟨⟨none, .mov 16 (.t 0)⟩, 0, []⟩,
  ⟨⟨none, .len 17 false (.t 16)⟩, 0, []⟩,
  ⟨⟨none, .bin 18 .lss (.t 15) (.t 17)⟩, 0, []⟩]

abbrev i_spec_l2Cells_r5 : List RO := [
  ⟨⟨none, .mov 21 (.t 10)⟩, 0, []⟩,
  ⟨⟨none, .inv 22 (.t 21)⟩, 0, []⟩,
  ⟨⟨none, .mov 23 (.t 22)⟩, 0, []⟩,
  ⟨⟨some (23, true), .mov 24 (.t 0)⟩, 0, []⟩,
  ⟨⟨some (23, true), .mov 25 (.t 11)⟩, 0, []⟩,
  ⟨⟨some (23, true), .iaddr 26 2 (.t 24) (.t 25)⟩, 0, []⟩,
  ⟨⟨some (23, true), .faddr 27 0 (.t 26)⟩, 0, []⟩,
  ⟨⟨some (23, true), .load 28 none (.t 27)⟩, 0, []⟩,
  ⟨⟨some (23, true), .mov 29 (.t 1)⟩, 0, []⟩,
  ⟨⟨some (23, true), .bin 30 .geq (.t 28) (.t 29)⟩, 0, []⟩,
  ⟨⟨none, .pick 31 (.t 23) (.t 30) (.c (.one (.d (.bool false))))⟩, 0, []⟩]

abbrev i_spec_l2Cells_r6 : List RO := [
  ⟨⟨none, .mov 32 (.t 9)⟩, 0, []⟩,
  ⟨⟨none, .mov 33 (.t 1)⟩, 0, []⟩,
  ⟨⟨none, .mov 34 (.t 2)⟩, 0, []⟩,
  ⟨⟨none, .build 35 [(.d (.int .i64 0)), (.d (.int .i64 0))] [(0, 1, (.t 33)), (1, 1, (.t 34))]⟩, 0, []⟩,
  ⟨⟨none, .bslice 36 2 [(.d (.int .i64 0)), (.d (.int .i64 0))] [(0, 2, (.t 35))]⟩, 0, []⟩,
  ⟨⟨none, .app 37 2 16 [(.int .i64 0), (.int .i64 0)] (.t 32) (.t 36)⟩, 0, []⟩,
  ⟨⟨none, .mov 9 (.t 37)⟩, 0, []⟩]

abbrev i_spec_l2Cells_r7 : List RO := [
  ⟨⟨none, .mov 10 (.c (.one (.d (.bool true))))⟩, 0, []⟩]

abbrev i_spec_l2Cells_r8 : List RO := [
  ⟨⟨none, .mov 38 (.t 0)⟩, 0, []⟩,
  ⟨⟨none, .mov 39 (.t 11)⟩, 0, []⟩,
  ⟨⟨none, .iaddr 40 2 (.t 38) (.t 39)⟩, 0, []⟩,
  ⟨⟨none, .faddr 41 0 (.t 40)⟩, 0, []⟩,
  ⟨⟨none, .load 42 none (.t 41)⟩, 0, []⟩,
  ⟨⟨none, .mov 43 (.t 1)⟩, 0, []⟩,
  ⟨⟨none, .bin 44 .neq (.t 42) (.t 43)⟩, 0, []⟩]

abbrev i_spec_l2Cells_r9 : List RO := [
  ⟨⟨none, .mov 45 (.t 9)⟩, 0, []⟩,
  ⟨⟨none, .mov 46 (.t 0)⟩, 0, []⟩,
  ⟨⟨none, .mov 47 (.t 11)⟩, 0, []⟩,
  ⟨⟨none, .iaddr 48 2 (.t 46) (.t 47)⟩, 0, []⟩,
  ⟨⟨none, .load 49 (some 2) (.t 48)⟩, 0, []⟩,
  ⟨⟨none, .bslice 50 2 [(.d (.int .i64 0)), (.d (.int .i64 0))] [(0, 2, (.t 49))]⟩, 0, []⟩,
  ⟨⟨none, .app 51 2 16 [(.int .i64 0), (.int .i64 0)] (.t 45) (.t 50)⟩, 0, []⟩,
  ⟨⟨none, .mov 9 (.t 51)⟩, 0, []⟩]

abbrev i_spec_l2Cells_r10 : List RO := [
  ⟨⟨none, .mov 19 (.t 11)⟩, 0, []⟩,
  ⟨⟨none, .bin 20 .add (.t 19) (.c (.one (.d (.int .i64 1))))⟩, 0, []⟩,
  ⟨⟨none, .mov 11 (.t 20)⟩, 0, []⟩]

abbrev i_spec_l2Cells_r11 : List RO := [
  ⟨⟨none, .mov 52 (.t 10)⟩, 0, []⟩,
  ⟨⟨none, .inv 53 (.t 52)⟩, 0, []⟩]

abbrev i_spec_l2Cells_r12 : List RO := [
  ⟨⟨none, .mov 54 (.t 9)⟩, 0, []⟩,
  ⟨⟨none, .mov 55 (.t 1)⟩, 0, []⟩,
  ⟨⟨none, .mov 56 (.t 2)⟩, 0, []⟩,
  ⟨⟨none, .build 57 [(.d (.int .i64 0)), (.d (.int .i64 0))] [(0, 1, (.t 55)), (1, 1, (.t 56))]⟩, 0, []⟩,
  ⟨⟨none, .bslice 58 2 [(.d (.int .i64 0)), (.d (.int .i64 0))] [(0, 2, (.t 57))]⟩, 0, []⟩,
  ⟨⟨none, .app 59 2 16 [(.int .i64 0), (.int .i64 0)] (.t 54) (.t 58)⟩, 0, []⟩,
  ⟨⟨none, .mov 9 (.t 59)⟩, 0, []⟩]

abbrev i_spec_l2Cells_r13 : List RO := [
  ⟨⟨none, .mov 60 (.t 9)⟩, 0, []⟩,
  ⟨⟨none, .mov 8 (.t 60)⟩, 0, []⟩]

def i_spec_l2Cells : IC := (.seq (.reg i_spec_l2Cells_r0)
  (.seq (.reg i_spec_l2Cells_r1)
  (.seq (.reg i_spec_l2Cells_r2)
  (.seq (.seq (.reg i_spec_l2Cells_r3)
  (.block 0 (.loop (.seq (.seq (.reg i_spec_l2Cells_r4)
  (.cond (.t 18) .skip (.exit 0)))
  (.seq (.block 1 (.seq (.seq (.reg i_spec_l2Cells_r5)
  (.cond (.t 31) (.seq (.reg i_spec_l2Cells_r6)
  (.reg i_spec_l2Cells_r7)) .skip))
  (.seq (.reg i_spec_l2Cells_r8)
  (.cond (.t 44) (.reg i_spec_l2Cells_r9) .skip))))
  (.reg i_spec_l2Cells_r10))))))
  (.seq (.seq (.reg i_spec_l2Cells_r11)
  (.cond (.t 53) (.reg i_spec_l2Cells_r12) .skip))
  (.seq (.reg i_spec_l2Cells_r13)
  .ret))))))

theorem i_spec_l2Cells_ok : (Try.f82.body.bind fun c => toIC Try.prog 61 c []) = some (i_spec_l2Cells, []) := by kernel_rfl

theorem i_spec_l2Cells_fn {ds rs : List D} (hle : ds.length ≤ 61) (h : AW Try.prog 61 i_spec_l2Cells (Ends [.tmp 8] rs) (init ds)) : Fn Try.prog k_spec_l2Cells (lent ds) true rs :=
  Fn.intro' (by kernel_rfl) Try.func82 (by kernel_rfl) i_spec_l2Cells_ok (by kernel_rfl) hle h.h

theorem i_spec_l2Cells_fnB {ds rs : List D} (hle : ds.length ≤ 61) (h : AW Try.prog 61 i_spec_l2Cells (EndsB [.tmp 8] rs) (init ds)) : Fn Try.prog k_spec_l2Cells (lent ds) false rs :=
  Fn.introB' (by kernel_rfl) Try.func82 (by kernel_rfl) i_spec_l2Cells_ok (by kernel_rfl) hle h.h

abbrev i_spec_StoreApply_r0 : List RO := [
  ⟨⟨none, .mov 4 (.c (.one .zs))⟩, 0, []⟩,
  ⟨⟨none, .mov 5 (.c (.one (.d (.bool false))))⟩, 0, []⟩]

abbrev i_spec_StoreApply_r1 : List RO := [
  ⟨⟨none, .mov 8 (.t 0)⟩, 0, []⟩,
  ⟨⟨none, .callv 9 (.c (.one (.fn k_spec_StoreOk []))) [(.t 8)]⟩, 0, []⟩,
  ⟨⟨none, .inv 10 (.t 9)⟩, 0, []⟩,
  ⟨⟨none, .mov 11 (.t 10)⟩, 0, []⟩,
  ⟨⟨some (11, false), .mov 12 (.t 1)⟩, 0, []⟩,
  ⟨⟨some (11, false), .callv 13 (.c (.one (.fn k_spec_WritesOk []))) [(.t 12)]⟩, 0, []⟩,
  ⟨⟨some (11, false), .inv 14 (.t 13)⟩, 0, []⟩,
  ⟨⟨none, .pick 15 (.t 11) (.c (.one (.d (.bool true)))) (.t 14)⟩, 0, []⟩]

abbrev i_spec_StoreApply_r2 : List RO := [
  ⟨⟨none, .bslice 16 2 [] []⟩, 0, []⟩,
  ⟨⟨none, .mov 4 (.t 16)⟩, 0, []⟩,
  ⟨⟨none, .mov 5 (.c (.one (.d (.bool false))))⟩, 0, []⟩]

abbrev i_spec_StoreApply_r3 : List RO := [
  ⟨⟨none, .bslice 17 2 [] []⟩, 0, []⟩,
  ⟨⟨none, .mov 18 (.t 0)⟩, 0, []⟩,
  ⟨⟨none, .app 19 2 16 [(.int .i64 0), (.int .i64 0)] (.t 17) (.t 18)⟩, 0, []⟩,
  ⟨⟨none, .mov 6 (.t 19)⟩, 0, []⟩]

abbrev i_spec_StoreApply_r4 : List RO := [
  ⟨⟨none, .mov 7 (.c (.one (.d (.int .i64 0))))⟩, 0, []⟩]

abbrev i_spec_StoreApply_r5 : List RO := [
  ⟨⟨none, .mov 20 (.t 7)⟩, 0, []⟩,
  ⟨⟨none, .mov 21 (.t 1)⟩, 0, []⟩,
  ⟨⟨none, .len 22 false (.t 21)⟩, 0, []⟩,
  ⟨⟨none, .bin 23 .lss (.t 20) (.t 22)⟩, 0, []⟩]

abbrev i_spec_StoreApply_r6 : List RO := [
  ⟨⟨none, .mov 26 (.t 6)⟩, 0, []⟩,
  ⟨⟨none, .mov 27 (.t 1)⟩, 0, []⟩,
  ⟨⟨none, .mov 28 (.t 7)⟩, 0, []⟩,
  ⟨⟨none, .iaddr 29 2 (.t 27) (.t 28)⟩, 6, []⟩,
  ⟨⟨none, .faddr 30 0 (.t 29)⟩, 14, []⟩,
  ⟨⟨none, .load 31 none (.t 30)⟩, 30, []⟩,
  ⟨⟨none, .mov 32 (.t 1)⟩, 0, []⟩,
  ⟨⟨none, .mov 33 (.t 7)⟩, 0, []⟩,
  ⟨⟨none, .iaddr 34 2 (.t 32) (.t 33)⟩, 192, []⟩,
  ⟨⟨none, .faddr 35 1 (.t 34)⟩, 448, []⟩,
  ⟨⟨none, .load 36 none (.t 35)⟩, 960, []⟩,
  ⟨⟨none, .mov 37 (.t 1)⟩, 0, []⟩,
  ⟨⟨none, .mov 38 (.t 7)⟩, 0, []⟩,
  ⟨⟨none, .iaddr 39 2 (.t 37) (.t 38)⟩, 6144, []⟩,
  ⟨⟨none, .faddr 40 1 (.t 39)⟩, 14336, []⟩,
  ⟨⟨none, .load 41 none (.t 40)⟩, 30720, []⟩,
  ⟨⟨none, .bin 42 .geq (.t 41) (.c (.one (.d (.int .i64 0))))⟩, 63488, []⟩,
  ⟨⟨none, .callv 43 (.c (.one (.fn k_spec_l2Cells []))) [(.t 26), (.t 31), (.t 36), (.t 42)]⟩, 131071, []⟩,
  ⟨⟨none, .mov 6 (.t 43)⟩, 262143, []⟩]

abbrev i_spec_StoreApply_r7 : List RO := [
  ⟨⟨none, .mov 24 (.t 7)⟩, 0, []⟩,
  ⟨⟨none, .bin 25 .add (.t 24) (.c (.one (.d (.int .i64 1))))⟩, 0, []⟩,
  ⟨⟨none, .mov 7 (.t 25)⟩, 0, []⟩]

abbrev i_spec_StoreApply_r8 : List RO := [
  ⟨⟨none, .mov 44 (.t 6)⟩, 0, []⟩,
  ⟨⟨none, .len 45 false (.t 44)⟩, 0, []⟩,
  ⟨⟨none, .bin 46 .gtr (.t 45) (.c (.one (.d (.int .i64 60))))⟩, 0, []⟩]

abbrev i_spec_StoreApply_r9 : List RO := [
  ⟨⟨none, .bslice 47 2 [] []⟩, 0, []⟩,
  ⟨⟨none, .mov 4 (.t 47)⟩, 0, []⟩,
  ⟨⟨none, .mov 5 (.c (.one (.d (.bool false))))⟩, 0, []⟩]

abbrev i_spec_StoreApply_r10 : List RO := [
  ⟨⟨none, .mov 48 (.t 6)⟩, 0, []⟩,
  ⟨⟨none, .mov 4 (.t 48)⟩, 0, []⟩,
  ⟨⟨none, .mov 5 (.c (.one (.d (.bool true))))⟩, 0, []⟩]

def i_spec_StoreApply : IC := (.seq (.reg i_spec_StoreApply_r0)
  (.seq (.seq (.reg i_spec_StoreApply_r1)
  (.cond (.t 15) (.seq (.reg i_spec_StoreApply_r2)
  .ret) .skip))
  (.seq (.reg i_spec_StoreApply_r3)
  (.seq (.seq (.reg i_spec_StoreApply_r4)
  (.block 0 (.loop (.seq (.seq (.reg i_spec_StoreApply_r5)
  (.cond (.t 23) .skip (.exit 0)))
  (.seq (.block 1 (.regd i_spec_StoreApply_r6))
  (.reg i_spec_StoreApply_r7))))))
  (.seq (.seq (.reg i_spec_StoreApply_r8)
  (.cond (.t 46) (.seq (.reg i_spec_StoreApply_r9)
  .ret) .skip))
  (.seq (.reg i_spec_StoreApply_r10)
  .ret))))))

theorem i_spec_StoreApply_ok : (Try.f35.body.bind fun c => toIC Try.prog 49 c [[(0, []), (0, []), (0, []), (6, []), (14, []), (30, []), (0, []), (0, []), (192, []), (448, []), (960, []), (0, []), (0, []), (6144, []), (14336, []), (30720, []), (63488, []), (131071, []), (262143, [])]]) = some (i_spec_StoreApply, []) := by kernel_rfl

theorem i_spec_StoreApply_fn {ds rs : List D} (hle : ds.length ≤ 49) (h : AW Try.prog 49 i_spec_StoreApply (Ends [.tmp 4, .tmp 5] rs) (init ds)) : Fn Try.prog k_spec_StoreApply (lent ds) true rs :=
  Fn.intro' (by kernel_rfl) Try.func35 (by kernel_rfl) i_spec_StoreApply_ok (by kernel_rfl) hle h.h

theorem i_spec_StoreApply_fnB {ds rs : List D} (hle : ds.length ≤ 49) (h : AW Try.prog 49 i_spec_StoreApply (EndsB [.tmp 4, .tmp 5] rs) (init ds)) : Fn Try.prog k_spec_StoreApply (lent ds) false rs :=
  Fn.introB' (by kernel_rfl) Try.func35 (by kernel_rfl) i_spec_StoreApply_ok (by kernel_rfl) hle h.h

abbrev i_impl_from_r0 : List RO := [
  ⟨⟨none, .mov 6 (.c (.one (.d (.bool false))))⟩, 0, []⟩]

abbrev i_impl_from_r1 : List RO := [
  ⟨⟨none, .mov 7 (.t 0)⟩, 0, []⟩,
  ⟨⟨none, .mov 8 (.t 1)⟩, 0, []⟩,
  ⟨⟨none, .bin 9 .geq (.t 7) (.t 8)⟩, 0, []⟩,
  ⟨⟨none, .mov 10 (.t 9)⟩, 0, []⟩,
  ⟨⟨some (10, true), .mov 11 (.t 0)⟩, 0, []⟩,
  ⟨⟨some (10, true), .mov 12 (.t 2)⟩, 0, []⟩,
  ⟨⟨some (10, true), .bin 13 .leq (.t 11) (.t 12)⟩, 0, []⟩,
  ⟨⟨none, .pick 14 (.t 10) (.t 13) (.c (.one (.d (.bool false))))⟩, 0, []⟩,
  ⟨⟨none, .mov 6 (.t 14)⟩, 0, []⟩]

def i_impl_from : IC := (.seq (.reg i_impl_from_r0)
  (.seq (.reg i_impl_from_r1)
  .ret))

theorem i_impl_from_ok : (Try.f146.body.bind fun c => toIC Try.prog 15 c []) = some (i_impl_from, []) := by kernel_rfl

theorem i_impl_from_fn {ds rs : List D} (hle : ds.length ≤ 15) (h : AW Try.prog 15 i_impl_from (Ends [.tmp 6] rs) (init ds)) : Fn Try.prog k_impl_from (lent ds) true rs :=
  Fn.intro' (by kernel_rfl) Try.func146 (by kernel_rfl) i_impl_from_ok (by kernel_rfl) hle h.h

theorem i_impl_from_fnB {ds rs : List D} (hle : ds.length ≤ 15) (h : AW Try.prog 15 i_impl_from (EndsB [.tmp 6] rs) (init ds)) : Fn Try.prog k_impl_from (lent ds) false rs :=
  Fn.introB' (by kernel_rfl) Try.func146 (by kernel_rfl) i_impl_from_ok (by kernel_rfl) hle h.h

abbrev i_impl_isKey_r0 : List RO := [
  ⟨⟨none, .mov 2 (.c (.one (.d (.bool false))))⟩, 0, []⟩]

abbrev i_impl_isKey_r1 : List RO := [
  ⟨⟨none, .mov 3 (.t 0)⟩, 0, []⟩,
  ⟨⟨none, .callv 4 (.c (.one (.fn k_impl_from []))) [(.t 3), (.c (.one (.d (.int .i64 0)))), (.c (.one (.d (.int .i64 999))))]⟩, 0, []⟩,
  ⟨⟨none, .mov 2 (.t 4)⟩, 0, []⟩]

def i_impl_isKey : IC := (.seq (.reg i_impl_isKey_r0)
  (.seq (.reg i_impl_isKey_r1)
  .ret))

theorem i_impl_isKey_ok : (Try.f141.body.bind fun c => toIC Try.prog 5 c []) = some (i_impl_isKey, []) := by kernel_rfl

theorem i_impl_isKey_fn {ds rs : List D} (hle : ds.length ≤ 5) (h : AW Try.prog 5 i_impl_isKey (Ends [.tmp 2] rs) (init ds)) : Fn Try.prog k_impl_isKey (lent ds) true rs :=
  Fn.intro' (by kernel_rfl) Try.func141 (by kernel_rfl) i_impl_isKey_ok (by kernel_rfl) hle h.h

theorem i_impl_isKey_fnB {ds rs : List D} (hle : ds.length ≤ 5) (h : AW Try.prog 5 i_impl_isKey (EndsB [.tmp 2] rs) (init ds)) : Fn Try.prog k_impl_isKey (lent ds) false rs :=
  Fn.introB' (by kernel_rfl) Try.func141 (by kernel_rfl) i_impl_isKey_ok (by kernel_rfl) hle h.h

abbrev i_impl_isWhole_r0 : List RO := [
  ⟨⟨none, .mov 2 (.c (.one (.d (.bool false))))⟩, 0, []⟩]

abbrev i_impl_isWhole_r1 : List RO := [
  ⟨⟨none, .mov 3 (.t 0)⟩, 0, []⟩,
  ⟨⟨none, .callv 4 (.c (.one (.fn k_impl_from []))) [(.t 3), (.c (.one (.d (.int .i64 0)))), (.c (.one (.d (.int .i64 1000000000))))]⟩, 0, []⟩,
  ⟨⟨none, .mov 2 (.t 4)⟩, 0, []⟩]

def i_impl_isWhole : IC := (.seq (.reg i_impl_isWhole_r0)
  (.seq (.reg i_impl_isWhole_r1)
  .ret))

theorem i_impl_isWhole_ok : (Try.f142.body.bind fun c => toIC Try.prog 5 c []) = some (i_impl_isWhole, []) := by kernel_rfl

theorem i_impl_isWhole_fn {ds rs : List D} (hle : ds.length ≤ 5) (h : AW Try.prog 5 i_impl_isWhole (Ends [.tmp 2] rs) (init ds)) : Fn Try.prog k_impl_isWhole (lent ds) true rs :=
  Fn.intro' (by kernel_rfl) Try.func142 (by kernel_rfl) i_impl_isWhole_ok (by kernel_rfl) hle h.h

theorem i_impl_isWhole_fnB {ds rs : List D} (hle : ds.length ≤ 5) (h : AW Try.prog 5 i_impl_isWhole (EndsB [.tmp 2] rs) (init ds)) : Fn Try.prog k_impl_isWhole (lent ds) false rs :=
  Fn.introB' (by kernel_rfl) Try.func142 (by kernel_rfl) i_impl_isWhole_ok (by kernel_rfl) hle h.h

abbrev i_impl_StoreOk_r0 : List RO := [
  ⟨⟨none, .mov 2 (.c (.one (.d (.bool false))))⟩, 0, []⟩]

abbrev i_impl_StoreOk_r1 : List RO := [
  ⟨⟨none, .mov 5 (.t 0)⟩, 0, []⟩,
  ⟨⟨none, .len 6 false (.t 5)⟩, 0, []⟩,
  ⟨⟨none, .mov 7 (.c (.one (.d (.int .i64 0))))⟩, 0, []⟩]

abbrev i_impl_StoreOk_r2 : List RO := [
  ⟨⟨none, .bin 8 .lss (.t 7) (.t 6)⟩, 0, []⟩]

abbrev i_impl_StoreOk_r3 : List RO := [
  ⟨⟨none, .mov 9 (.t 7)⟩, 0, []⟩,
  ⟨⟨none, .iaddr 10 2 (.t 5) (.t 7)⟩, 0, []⟩,
  ⟨⟨none, .load 11 (some 2) (.t 10)⟩, 0, []⟩,
  ⟨⟨none, .var 4 [(.d (.int .i64 0)), (.d (.int .i64 0))]⟩, 0, []⟩,
  ⟨⟨none, .mov 3 (.t 9)⟩, 0, []⟩,
  ⟨⟨none, .store 2 [(.int .i64 0), (.int .i64 0)] (.t 4) (.t 11)⟩, 0, []⟩]

abbrev i_impl_StoreOk_r4 : List RO := [
  ⟨⟨none, .faddr 12 0 (.t 4)⟩, 0, []⟩,
  ⟨⟨none, .load 13 none (.t 12)⟩, 1, []⟩,
  ⟨⟨none, .callv 14 (.c (.one (.fn k_impl_isKey []))) [(.t 13)]⟩, 3, []⟩,
  ⟨⟨none, .inv 15 (.t 14)⟩, 7, []⟩,
  ⟨⟨none, .mov 16 (.t 15)⟩, 15, []⟩,
  ⟨⟨some (16, false), .faddr 17 1 (.t 4)⟩, 31, []⟩,
  ⟨⟨some (16, false), .load 18 none (.t 17)⟩, 63, []⟩,
  ⟨⟨some (16, false), .callv 19 (.c (.one (.fn k_impl_isWhole []))) [(.t 18)]⟩, 127, []⟩,
  ⟨⟨some (16, false), .inv 20 (.t 19)⟩, 255, []⟩,
  ⟨⟨none, .pick 21 (.t 16) (.c (.one (.d (.bool true)))) (.t 20)⟩, 511, []⟩,
  ⟨⟨none, .mov 22 (.t 21)⟩, 1023, []⟩,
  ⟨⟨some (22, false), .mov 23 (.t 3)⟩, 2047, []⟩,
  ⟨⟨some (22, false), .bin 24 .gtr (.t 23) (.c (.one (.d (.int .i64 0))))⟩, 4095, []⟩,
  ⟨⟨some (22, false), .mov 25 (.t 24)⟩, 8191, []⟩,
  ⟨⟨some (25, true), .mov 26 (.t 0)⟩, 16383, []⟩,
  ⟨⟨some (25, true), .mov 27 (.t 3)⟩, 16383, []⟩,
  ⟨⟨some (25, true), .bin 28 .sub (.t 27) (.c (.one (.d (.int .i64 1))))⟩, 49151, []⟩,
  ⟨⟨some (25, true), .iaddr 29 2 (.t 26) (.t 28)⟩, 131071, []⟩,
  ⟨⟨some (25, true), .faddr 30 0 (.t 29)⟩, 262143, []⟩,
  ⟨⟨some (25, true), .load 31 none (.t 30)⟩, 524287, []⟩,
  ⟨⟨some (25, true), .faddr 32 0 (.t 4)⟩, 16383, []⟩,
  ⟨⟨some (25, true), .load 33 none (.t 32)⟩, 1064959, []⟩,
  ⟨⟨some (25, true), .bin 34 .geq (.t 31) (.t 33)⟩, 4194303, []⟩,
  ⟨⟨some (22, false), .pick 35 (.t 25) (.t 34) (.c (.one (.d (.bool false))))⟩, 8388607, []⟩,
  ⟨⟨none, .pick 36 (.t 22) (.c (.one (.d (.bool true)))) (.t 35)⟩, 16777215, []⟩]

abbrev i_impl_StoreOk_r5 : List RO := [
  ⟨⟨none, .mov 2 (.c (.one (.d (.bool false))))⟩, 0, []⟩]

abbrev i_impl_StoreOk_r6 : List RO := [
  ⟨⟨none, .bin 37 .add (.t 7) (.c (.one (.d (.int .i64 1))))⟩, 0, []⟩,
  ⟨⟨none, .mov 7 (.t 37)⟩, 0, []⟩]

abbrev i_impl_StoreOk_r7 : List RO := [
  ⟨⟨none, .mov 38 (.t 0)⟩, 0, []⟩,
  ⟨⟨none, .len 39 false (.t 38)⟩, 0, []⟩,
  ⟨⟨none, .bin 40 .leq (.t 39) (.c (.one (.d (.int .i64 60))))⟩, 0, []⟩,
  ⟨⟨none, .mov 2 (.t 40)⟩, 0, []⟩]

def i_impl_StoreOk : IC := (.seq (.reg i_impl_StoreOk_r0)
  (.seq (.seq (.reg i_impl_StoreOk_r1)
  (.block 0 (.loop (.seq (.reg i_impl_StoreOk_r2)
  (.seq (.cond (.t 8) .skip (.exit 0))
  (.seq (.block 1 (.seq (.reg i_impl_StoreOk_r3)
  (.seq (.regd i_impl_StoreOk_r4)
  (.cond (.t 36) (.seq (.reg i_impl_StoreOk_r5)
  .ret) .skip))))
  (.reg i_impl_StoreOk_r6)))))))
  (.seq (.reg i_impl_StoreOk_r7)
  .ret)))

theorem i_impl_StoreOk_ok : (Try.f84.body.bind fun c => toIC Try.prog 41 c [[(0, []), (1, []), (3, []), (7, []), (15, []), (31, []), (63, []), (127, []), (255, []), (511, []), (1023, []), (2047, []), (4095, []), (8191, []), (16383, []), (16383, []), (49151, []), (131071, []), (262143, []), (524287, []), (16383, []), (1064959, []), (4194303, []), (8388607, []), (16777215, [])]]) = some (i_impl_StoreOk, []) := by kernel_rfl

theorem i_impl_StoreOk_fn {ds rs : List D} (hle : ds.length ≤ 41) (h : AW Try.prog 41 i_impl_StoreOk (Ends [.tmp 2] rs) (init ds)) : Fn Try.prog k_impl_StoreOk (lent ds) true rs :=
  Fn.intro' (by kernel_rfl) Try.func84 (by kernel_rfl) i_impl_StoreOk_ok (by kernel_rfl) hle h.h

theorem i_impl_StoreOk_fnB {ds rs : List D} (hle : ds.length ≤ 41) (h : AW Try.prog 41 i_impl_StoreOk (EndsB [.tmp 2] rs) (init ds)) : Fn Try.prog k_impl_StoreOk (lent ds) false rs :=
  Fn.introB' (by kernel_rfl) Try.func84 (by kernel_rfl) i_impl_StoreOk_ok (by kernel_rfl) hle h.h

abbrev i_impl_isAnswer_r0 : List RO := [
  ⟨⟨none, .mov 2 (.c (.one (.d (.bool false))))⟩, 0, []⟩]

abbrev i_impl_isAnswer_r1 : List RO := [
  ⟨⟨none, .mov 3 (.t 0)⟩, 0, []⟩,
  ⟨⟨none, .callv 4 (.c (.one (.fn k_impl_from []))) [(.t 3), (.c (.one (.d (.int .i64 (-1))))), (.c (.one (.d (.int .i64 1000000000))))]⟩, 0, []⟩,
  ⟨⟨none, .mov 2 (.t 4)⟩, 0, []⟩]

def i_impl_isAnswer : IC := (.seq (.reg i_impl_isAnswer_r0)
  (.seq (.reg i_impl_isAnswer_r1)
  .ret))

theorem i_impl_isAnswer_ok : (Try.f143.body.bind fun c => toIC Try.prog 5 c []) = some (i_impl_isAnswer, []) := by kernel_rfl

theorem i_impl_isAnswer_fn {ds rs : List D} (hle : ds.length ≤ 5) (h : AW Try.prog 5 i_impl_isAnswer (Ends [.tmp 2] rs) (init ds)) : Fn Try.prog k_impl_isAnswer (lent ds) true rs :=
  Fn.intro' (by kernel_rfl) Try.func143 (by kernel_rfl) i_impl_isAnswer_ok (by kernel_rfl) hle h.h

theorem i_impl_isAnswer_fnB {ds rs : List D} (hle : ds.length ≤ 5) (h : AW Try.prog 5 i_impl_isAnswer (EndsB [.tmp 2] rs) (init ds)) : Fn Try.prog k_impl_isAnswer (lent ds) false rs :=
  Fn.introB' (by kernel_rfl) Try.func143 (by kernel_rfl) i_impl_isAnswer_ok (by kernel_rfl) hle h.h

abbrev i_impl_WritesOk_r0 : List RO := [
  ⟨⟨none, .mov 2 (.c (.one (.d (.bool false))))⟩, 0, []⟩]

abbrev i_impl_WritesOk_r1 : List RO := [
  ⟨⟨none, .mov 5 (.t 0)⟩, 0, []⟩,
  ⟨⟨none, .len 6 false (.t 5)⟩, 0, []⟩,
  ⟨⟨none, .mov 7 (.c (.one (.d (.int .i64 0))))⟩, 0, []⟩]

abbrev i_impl_WritesOk_r2 : List RO := [
  ⟨⟨none, .bin 8 .lss (.t 7) (.t 6)⟩, 0, []⟩]

abbrev i_impl_WritesOk_r3 : List RO := [
  ⟨⟨none, .mov 9 (.t 7)⟩, 0, []⟩,
  ⟨⟨none, .iaddr 10 2 (.t 5) (.t 7)⟩, 0, []⟩,
  ⟨⟨none, .load 11 (some 2) (.t 10)⟩, 0, []⟩,
  ⟨⟨none, .var 4 [(.d (.int .i64 0)), (.d (.int .i64 0))]⟩, 0, []⟩,
  ⟨⟨none, .mov 3 (.t 9)⟩, 0, []⟩,
  ⟨⟨none, .store 2 [(.int .i64 0), (.int .i64 0)] (.t 4) (.t 11)⟩, 0, []⟩]

abbrev i_impl_WritesOk_r4 : List RO := [
  ⟨⟨none, .faddr 12 0 (.t 4)⟩, 0, []⟩,
  ⟨⟨none, .load 13 none (.t 12)⟩, 1, []⟩,
  ⟨⟨none, .callv 14 (.c (.one (.fn k_impl_isKey []))) [(.t 13)]⟩, 3, []⟩,
  ⟨⟨none, .inv 15 (.t 14)⟩, 7, []⟩,
  ⟨⟨none, .mov 16 (.t 15)⟩, 15, []⟩,
  ⟨⟨some (16, false), .faddr 17 1 (.t 4)⟩, 31, []⟩,
  ⟨⟨some (16, false), .load 18 none (.t 17)⟩, 63, []⟩,
  ⟨⟨some (16, false), .callv 19 (.c (.one (.fn k_impl_isAnswer []))) [(.t 18)]⟩, 127, []⟩,
  ⟨⟨some (16, false), .inv 20 (.t 19)⟩, 255, []⟩,
  ⟨⟨none, .pick 21 (.t 16) (.c (.one (.d (.bool true)))) (.t 20)⟩, 511, []⟩,
  ⟨⟨none, .mov 22 (.t 21)⟩, 1023, []⟩,
  ⟨⟨some (22, false), .mov 23 (.t 3)⟩, 2047, []⟩,
  ⟨⟨some (22, false), .bin 24 .gtr (.t 23) (.c (.one (.d (.int .i64 0))))⟩, 4095, []⟩,
  ⟨⟨some (22, false), .mov 25 (.t 24)⟩, 8191, []⟩,
  ⟨⟨some (25, true), .mov 26 (.t 0)⟩, 16383, []⟩,
  ⟨⟨some (25, true), .mov 27 (.t 3)⟩, 16383, []⟩,
  ⟨⟨some (25, true), .bin 28 .sub (.t 27) (.c (.one (.d (.int .i64 1))))⟩, 49151, []⟩,
  ⟨⟨some (25, true), .iaddr 29 2 (.t 26) (.t 28)⟩, 131071, []⟩,
  ⟨⟨some (25, true), .faddr 30 0 (.t 29)⟩, 262143, []⟩,
  ⟨⟨some (25, true), .load 31 none (.t 30)⟩, 524287, []⟩,
  ⟨⟨some (25, true), .faddr 32 0 (.t 4)⟩, 16383, []⟩,
  ⟨⟨some (25, true), .load 33 none (.t 32)⟩, 1064959, []⟩,
  ⟨⟨some (25, true), .bin 34 .geq (.t 31) (.t 33)⟩, 4194303, []⟩,
  ⟨⟨some (22, false), .pick 35 (.t 25) (.t 34) (.c (.one (.d (.bool false))))⟩, 8388607, []⟩,
  ⟨⟨none, .pick 36 (.t 22) (.c (.one (.d (.bool true)))) (.t 35)⟩, 16777215, []⟩]

abbrev i_impl_WritesOk_r5 : List RO := [
  ⟨⟨none, .mov 2 (.c (.one (.d (.bool false))))⟩, 0, []⟩]

abbrev i_impl_WritesOk_r6 : List RO := [
  ⟨⟨none, .bin 37 .add (.t 7) (.c (.one (.d (.int .i64 1))))⟩, 0, []⟩,
  ⟨⟨none, .mov 7 (.t 37)⟩, 0, []⟩]

abbrev i_impl_WritesOk_r7 : List RO := [
  ⟨⟨none, .mov 38 (.t 0)⟩, 0, []⟩,
  ⟨⟨none, .len 39 false (.t 38)⟩, 0, []⟩,
  ⟨⟨none, .bin 40 .leq (.t 39) (.c (.one (.d (.int .i64 60))))⟩, 0, []⟩,
  ⟨⟨none, .mov 2 (.t 40)⟩, 0, []⟩]

def i_impl_WritesOk : IC := (.seq (.reg i_impl_WritesOk_r0)
  (.seq (.seq (.reg i_impl_WritesOk_r1)
  (.block 0 (.loop (.seq (.reg i_impl_WritesOk_r2)
  (.seq (.cond (.t 8) .skip (.exit 0))
  (.seq (.block 1 (.seq (.reg i_impl_WritesOk_r3)
  (.seq (.regd i_impl_WritesOk_r4)
  (.cond (.t 36) (.seq (.reg i_impl_WritesOk_r5)
  .ret) .skip))))
  (.reg i_impl_WritesOk_r6)))))))
  (.seq (.reg i_impl_WritesOk_r7)
  .ret)))

theorem i_impl_WritesOk_ok : (Try.f85.body.bind fun c => toIC Try.prog 41 c [[(0, []), (1, []), (3, []), (7, []), (15, []), (31, []), (63, []), (127, []), (255, []), (511, []), (1023, []), (2047, []), (4095, []), (8191, []), (16383, []), (16383, []), (49151, []), (131071, []), (262143, []), (524287, []), (16383, []), (1064959, []), (4194303, []), (8388607, []), (16777215, [])]]) = some (i_impl_WritesOk, []) := by kernel_rfl

theorem i_impl_WritesOk_fn {ds rs : List D} (hle : ds.length ≤ 41) (h : AW Try.prog 41 i_impl_WritesOk (Ends [.tmp 2] rs) (init ds)) : Fn Try.prog k_impl_WritesOk (lent ds) true rs :=
  Fn.intro' (by kernel_rfl) Try.func85 (by kernel_rfl) i_impl_WritesOk_ok (by kernel_rfl) hle h.h

theorem i_impl_WritesOk_fnB {ds rs : List D} (hle : ds.length ≤ 41) (h : AW Try.prog 41 i_impl_WritesOk (EndsB [.tmp 2] rs) (init ds)) : Fn Try.prog k_impl_WritesOk (lent ds) false rs :=
  Fn.introB' (by kernel_rfl) Try.func85 (by kernel_rfl) i_impl_WritesOk_ok (by kernel_rfl) hle h.h

abbrev i_slices_Clone___impl_Cell_impl_Cell__r0 : List RO := [
  ⟨⟨none, .mov 2 (.c (.one .zs))⟩, 0, []⟩]

abbrev i_slices_Clone___impl_Cell_impl_Cell__r1 : List RO := [
  ⟨⟨none, .mov 3 (.t 0)⟩, 0, []⟩,
  ⟨⟨none, .isnil 4 false (.t 3)⟩, 0, []⟩]

abbrev i_slices_Clone___impl_Cell_impl_Cell__r2 : List RO := [
  ⟨⟨none, .mov 2 (.c (.one .zs))⟩, 0, []⟩]

abbrev i_slices_Clone___impl_Cell_impl_Cell__r3 : List RO := [
  ⟨⟨none, .bslice 5 2 [] []⟩, 0, []⟩,
  ⟨⟨none, .mov 6 (.t 0)⟩, 0, []⟩,
  ⟨⟨none, .app 7 2 16 [(.int .i64 0), (.int .i64 0)] (.t 5) (.t 6)⟩, 0, []⟩,
  ⟨⟨none, .mov 2 (.t 7)⟩, 0, []⟩]

def i_slices_Clone___impl_Cell_impl_Cell_ : IC := (.seq (.reg i_slices_Clone___impl_Cell_impl_Cell__r0)
  (.seq (.seq (.reg i_slices_Clone___impl_Cell_impl_Cell__r1)
  (.cond (.t 4) (.seq (.reg i_slices_Clone___impl_Cell_impl_Cell__r2)
  .ret) .skip))
  (.seq (.reg i_slices_Clone___impl_Cell_impl_Cell__r3)
  .ret)))

theorem i_slices_Clone___impl_Cell_impl_Cell__ok : (Try.f87.body.bind fun c => toIC Try.prog 8 c []) = some (i_slices_Clone___impl_Cell_impl_Cell_, []) := by kernel_rfl

theorem i_slices_Clone___impl_Cell_impl_Cell__fn {ds rs : List D} (hle : ds.length ≤ 8) (h : AW Try.prog 8 i_slices_Clone___impl_Cell_impl_Cell_ (Ends [.tmp 2] rs) (init ds)) : Fn Try.prog k_slices_Clone___impl_Cell_impl_Cell_ (lent ds) true rs :=
  Fn.intro' (by kernel_rfl) Try.func87 (by kernel_rfl) i_slices_Clone___impl_Cell_impl_Cell__ok (by kernel_rfl) hle h.h

theorem i_slices_Clone___impl_Cell_impl_Cell__fnB {ds rs : List D} (hle : ds.length ≤ 8) (h : AW Try.prog 8 i_slices_Clone___impl_Cell_impl_Cell_ (EndsB [.tmp 2] rs) (init ds)) : Fn Try.prog k_slices_Clone___impl_Cell_impl_Cell_ (lent ds) false rs :=
  Fn.introB' (by kernel_rfl) Try.func87 (by kernel_rfl) i_slices_Clone___impl_Cell_impl_Cell__ok (by kernel_rfl) hle h.h

abbrev i_impl_cellFor_1_r0 : List RO := [
  ⟨⟨none, .box 2 (.t 0)⟩, 0, []⟩,
  ⟨⟨none, .mov 4 (.c (.one (.d (.int .i64 0))))⟩, 0, []⟩]

abbrev i_impl_cellFor_1_r1 : List RO := [
  ⟨⟨none, .faddr 5 0 (.t 2)⟩, 0, []⟩,
  ⟨⟨none, .load 6 none (.t 5)⟩, 0, []⟩,
  ⟨⟨none, .mov 7 (.t 1)⟩, 0, []⟩,
  ⟨⟨none, .bin 8 .sub (.t 6) (.t 7)⟩, 0, []⟩,
  ⟨⟨none, .mov 4 (.t 8)⟩, 0, []⟩]

def i_impl_cellFor_1 : IC := (.seq (.reg i_impl_cellFor_1_r0)
  (.seq (.reg i_impl_cellFor_1_r1)
  .ret))

theorem i_impl_cellFor_1_ok : (Try.f186.body.bind fun c => toIC Try.prog 9 c []) = some (i_impl_cellFor_1, []) := by kernel_rfl

theorem i_impl_cellFor_1_fn {ds rs : List D} (hle : ds.length ≤ 9) (h : AW Try.prog 9 i_impl_cellFor_1 (Ends [.tmp 4] rs) (init ds)) : Fn Try.prog k_impl_cellFor_1 (lent ds) true rs :=
  Fn.intro' (by kernel_rfl) Try.func186 (by kernel_rfl) i_impl_cellFor_1_ok (by kernel_rfl) hle h.h

theorem i_impl_cellFor_1_fnB {ds rs : List D} (hle : ds.length ≤ 9) (h : AW Try.prog 9 i_impl_cellFor_1 (EndsB [.tmp 4] rs) (init ds)) : Fn Try.prog k_impl_cellFor_1 (lent ds) false rs :=
  Fn.introB' (by kernel_rfl) Try.func186 (by kernel_rfl) i_impl_cellFor_1_ok (by kernel_rfl) hle h.h

abbrev i_slices_BinarySearchFunc___impl_Cell_impl_Cell_int__r0 : List RO := [
  ⟨⟨none, .mov 6 (.c (.one (.d (.int .i64 0))))⟩, 0, []⟩,
  ⟨⟨none, .mov 7 (.c (.one (.d (.bool false))))⟩, 0, []⟩]

abbrev i_slices_BinarySearchFunc___impl_Cell_impl_Cell_int__r1 : List RO := [
  ⟨⟨none, .mov 12 (.t 0)⟩, 0, []⟩,
  ⟨⟨none, .len 13 false (.t 12)⟩, 0, []⟩,
  ⟨⟨none, .mov 8 (.t 13)⟩, 0, []⟩]

abbrev i_slices_BinarySearchFunc___impl_Cell_impl_Cell_int__r2 : List RO := [
  ⟨⟨none, .mov 14 (.t 8)⟩, 0, []⟩,
  ⟨⟨none, .mov 9 (.c (.one (.d (.int .i64 0))))⟩, 0, []⟩,
  ⟨⟨none, .mov 10 (.t 14)⟩, 0, []⟩]

abbrev i_slices_BinarySearchFunc___impl_Cell_impl_Cell_int__r3 : List RO := [
  ⟨⟨none, .mov 15 (.t 9)⟩, 0, []⟩,
  ⟨⟨none, .mov 16 (.t 10)⟩, 0, []⟩,
  ⟨⟨none, .bin 17 .lss (.t 15) (.t 16)⟩, 0, []⟩]

abbrev i_slices_BinarySearchFunc___impl_Cell_impl_Cell_int__r4 : List RO := [
  ⟨⟨none, .mov 18 (.t 9)⟩, 0, []⟩,
  ⟨⟨none, .mov 19 (.t 10)⟩, 0, []⟩,
  ⟨⟨none, .bin 20 .add (.t 18) (.t 19)⟩, 0, []⟩,
  ⟨⟨none, .conv 21 .u64 (.t 20)⟩, 0, []⟩,
  ⟨⟨none, .bin 22 .shr (.t 21) (.c (.one (.d (.int .u64 1))))⟩, 0, []⟩,
  ⟨⟨none, .conv 23 .i64 (.t 22)⟩, 0, []⟩,
  ⟨⟨none, .mov 11 (.t 23)⟩, 0, []⟩]

abbrev i_slices_BinarySearchFunc___impl_Cell_impl_Cell_int__r5 : List RO := [
  ⟨⟨none, .mov 24 (.t 2)⟩, 0, []⟩,
  ⟨⟨none, .mov 25 (.t 0)⟩, 0, []⟩,
  ⟨⟨none, .mov 26 (.t 11)⟩, 0, []⟩,
  ⟨⟨none, .iaddr 27 2 (.t 25) (.t 26)⟩, 0, []⟩,
  ⟨⟨none, .load 28 (some 2) (.t 27)⟩, 0, []⟩,
  ⟨⟨none, .mov 29 (.t 1)⟩, 0, []⟩,
  ⟨⟨none, .callv 30 (.t 24) [(.t 28), (.t 29)]⟩, 0, []⟩,
  ⟨⟨none, .bin 31 .lss (.t 30) (.c (.one (.d (.int .i64 0))))⟩, 0, []⟩]

abbrev i_slices_BinarySearchFunc___impl_Cell_impl_Cell_int__r6 : List RO := [
  ⟨⟨none, .mov 32 (.t 11)⟩, 0, []⟩,
  ⟨⟨none, .bin 33 .add (.t 32) (.c (.one (.d (.int .i64 1))))⟩, 0, []⟩,
  ⟨⟨none, .mov 9 (.t 33)⟩, 0, []⟩]

abbrev i_slices_BinarySearchFunc___impl_Cell_impl_Cell_int__r7 : List RO := [
  ⟨⟨none, .mov 34 (.t 11)⟩, 0, []⟩,
  ⟨⟨none, .mov 10 (.t 34)⟩, 0, []⟩]

abbrev i_slices_BinarySearchFunc___impl_Cell_impl_Cell_int__r8 : List RO := [
  ⟨⟨none, .mov 35 (.t 9)⟩, 0, []⟩,
  ⟨⟨none, .mov 36 (.t 9)⟩, 0, []⟩,
  ⟨⟨none, .mov 37 (.t 8)⟩, 0, []⟩,
  ⟨⟨none, .bin 38 .lss (.t 36) (.t 37)⟩, 0, []⟩,
  ⟨⟨none, .mov 39 (.t 38)⟩, 0, []⟩,
  ⟨⟨some (39, true), .mov 40 (.t 2)⟩, 0, []⟩,
  ⟨⟨some (39, true), .mov 41 (.t 0)⟩, 0, []⟩,
  ⟨⟨some (39, true), .mov 42 (.t 9)⟩, 0, []⟩,
  ⟨⟨some (39, true), .iaddr 43 2 (.t 41) (.t 42)⟩, 0, []⟩,
  ⟨⟨some (39, true), .load 44 (some 2) (.t 43)⟩, 0, []⟩,
  ⟨⟨some (39, true), .mov 45 (.t 1)⟩, 0, []⟩,
  ⟨⟨some (39, true), .callv 46 (.t 40) [(.t 44), (.t 45)]⟩, 0, []⟩,
  ⟨⟨some (39, true), .bin 47 .eql (.t 46) (.c (.one (.d (.int .i64 0))))⟩, 0, []⟩,
  ⟨⟨none, .pick 48 (.t 39) (.t 47) (.c (.one (.d (.bool false))))⟩, 0, []⟩,
  ⟨⟨none, .mov 6 (.t 35)⟩, 0, []⟩,
  ⟨⟨none, .mov 7 (.t 48)⟩, 0, []⟩]

def i_slices_BinarySearchFunc___impl_Cell_impl_Cell_int_ : IC := (.seq (.reg i_slices_BinarySearchFunc___impl_Cell_impl_Cell_int__r0)
  (.seq (.reg i_slices_BinarySearchFunc___impl_Cell_impl_Cell_int__r1)
  (.seq (.reg i_slices_BinarySearchFunc___impl_Cell_impl_Cell_int__r2)
  (.seq (.block 0 (.loop (.seq (.seq (.reg i_slices_BinarySearchFunc___impl_Cell_impl_Cell_int__r3)
  (.cond (.t 17) .skip (.exit 0)))
  (.block 1 (.seq (.reg i_slices_BinarySearchFunc___impl_Cell_impl_Cell_int__r4)
  (.seq (.reg i_slices_BinarySearchFunc___impl_Cell_impl_Cell_int__r5)
  (.cond (.t 31) (.reg i_slices_BinarySearchFunc___impl_Cell_impl_Cell_int__r6) (.reg i_slices_BinarySearchFunc___impl_Cell_impl_Cell_int__r7))))))))
  (.seq (.reg i_slices_BinarySearchFunc___impl_Cell_impl_Cell_int__r8)
  .ret)))))

theorem i_slices_BinarySearchFunc___impl_Cell_impl_Cell_int__ok : (Try.f185.body.bind fun c => toIC Try.prog 49 c []) = some (i_slices_BinarySearchFunc___impl_Cell_impl_Cell_int_, []) := by kernel_rfl

theorem i_slices_BinarySearchFunc___impl_Cell_impl_Cell_int__fn {ds rs : List D} (hle : ds.length ≤ 49) (h : AW Try.prog 49 i_slices_BinarySearchFunc___impl_Cell_impl_Cell_int_ (Ends [.tmp 6, .tmp 7] rs) (init ds)) : Fn Try.prog k_slices_BinarySearchFunc___impl_Cell_impl_Cell_int_ (lent ds) true rs :=
  Fn.intro' (by kernel_rfl) Try.func185 (by kernel_rfl) i_slices_BinarySearchFunc___impl_Cell_impl_Cell_int__ok (by kernel_rfl) hle h.h

theorem i_slices_BinarySearchFunc___impl_Cell_impl_Cell_int__fnB {ds rs : List D} (hle : ds.length ≤ 49) (h : AW Try.prog 49 i_slices_BinarySearchFunc___impl_Cell_impl_Cell_int_ (EndsB [.tmp 6, .tmp 7] rs) (init ds)) : Fn Try.prog k_slices_BinarySearchFunc___impl_Cell_impl_Cell_int_ (lent ds) false rs :=
  Fn.introB' (by kernel_rfl) Try.func185 (by kernel_rfl) i_slices_BinarySearchFunc___impl_Cell_impl_Cell_int__ok (by kernel_rfl) hle h.h

abbrev i_impl_cellFor_r0 : List RO := [
  ⟨⟨none, .mov 4 (.c (.one (.d (.int .i64 0))))⟩, 0, []⟩,
  ⟨⟨none, .mov 5 (.c (.one (.d (.bool false))))⟩, 0, []⟩]

abbrev i_impl_cellFor_r1 : List RO := [
  ⟨⟨none, .mov 6 (.t 0)⟩, 0, []⟩,
  ⟨⟨none, .mov 7 (.t 1)⟩, 0, []⟩,
  ⟨⟨none, .callv 8 (.c (.one (.fn k_slices_BinarySearchFunc___impl_Cell_impl_Cell_int_ []))) [(.t 6), (.t 7), (.c (.one (.fn k_impl_cellFor_1 [])))]⟩, 0, []⟩,
  ⟨⟨none, .ext 9 (.t 8) 0⟩, 0, []⟩,
  ⟨⟨none, .ext 10 (.t 8) 1⟩, 0, []⟩,
  ⟨⟨none, .mov 4 (.t 9)⟩, 0, []⟩,
  ⟨⟨none, .mov 5 (.t 10)⟩, 0, []⟩]

def i_impl_cellFor : IC := (.seq (.reg i_impl_cellFor_r0)
  (.seq (.reg i_impl_cellFor_r1)
  .ret))

theorem i_impl_cellFor_ok : (Try.f166.body.bind fun c => toIC Try.prog 11 c []) = some (i_impl_cellFor, []) := by kernel_rfl

theorem i_impl_cellFor_fn {ds rs : List D} (hle : ds.length ≤ 11) (h : AW Try.prog 11 i_impl_cellFor (Ends [.tmp 4, .tmp 5] rs) (init ds)) : Fn Try.prog k_impl_cellFor (lent ds) true rs :=
  Fn.intro' (by kernel_rfl) Try.func166 (by kernel_rfl) i_impl_cellFor_ok (by kernel_rfl) hle h.h

theorem i_impl_cellFor_fnB {ds rs : List D} (hle : ds.length ≤ 11) (h : AW Try.prog 11 i_impl_cellFor (EndsB [.tmp 4, .tmp 5] rs) (init ds)) : Fn Try.prog k_impl_cellFor (lent ds) false rs :=
  Fn.introB' (by kernel_rfl) Try.func166 (by kernel_rfl) i_impl_cellFor_ok (by kernel_rfl) hle h.h

abbrev i_slices_Delete___impl_Cell_impl_Cell__r0 : List RO := [
  ⟨⟨none, .mov 6 (.c (.one .zs))⟩, 0, []⟩]

abbrev i_slices_Delete___impl_Cell_impl_Cell__r1 : List RO := [
  ⟨⟨none, .mov 8 (.t 0)⟩, 0, []⟩,
  ⟨⟨none, .mov 9 (.t 1)⟩, 0, []⟩,
  ⟨⟨none, .mov 10 (.t 2)⟩, 0, []⟩,
  ⟨⟨none, .mov 11 (.t 0)⟩, 0, []⟩,
  ⟨⟨none, .len 12 false (.t 11)⟩, 0, []⟩,
  ⟨⟨none, .slice 13 2 (.t 8) (some (.t 9)) (some (.t 10)) (some (.t 12))⟩, 0, []⟩]

abbrev i_slices_Delete___impl_Cell_impl_Cell__r2 : List RO := [
  ⟨⟨none, .mov 14 (.t 1)⟩, 0, []⟩,
  ⟨⟨none, .mov 15 (.t 2)⟩, 0, []⟩,
  ⟨⟨none, .bin 16 .eql (.t 14) (.t 15)⟩, 0, []⟩]

abbrev i_slices_Delete___impl_Cell_impl_Cell__r3 : List RO := [
  ⟨⟨none, .mov 17 (.t 0)⟩, 0, []⟩,
  ⟨⟨none, .mov 6 (.t 17)⟩, 0, []⟩]

abbrev i_slices_Delete___impl_Cell_impl_Cell__r4 : List RO := [
  ⟨⟨none, .mov 18 (.t 0)⟩, 0, []⟩,
  ⟨⟨none, .len 19 false (.t 18)⟩, 0, []⟩,
  ⟨⟨none, .mov 7 (.t 19)⟩, 0, []⟩]

abbrev i_slices_Delete___impl_Cell_impl_Cell__r5 : List RO := [
  ⟨⟨none, .mov 20 (.t 0)⟩, 0, []⟩,
  ⟨⟨none, .mov 21 (.t 1)⟩, 0, []⟩,
  ⟨⟨none, .slice 22 2 (.t 20) none (some (.t 21)) none⟩, 3, []⟩,
  ⟨⟨none, .mov 23 (.t 0)⟩, 0, []⟩,
  ⟨⟨none, .mov 24 (.t 2)⟩, 0, []⟩,
  ⟨⟨none, .slice 25 2 (.t 23) (some (.t 24)) none none⟩, 24, []⟩,
  ⟨⟨none, .app 26 2 16 [(.int .i64 0), (.int .i64 0)] (.t 22) (.t 25)⟩, 63, []⟩,
  ⟨⟨none, .mov 0 (.t 26)⟩, 127, []⟩]

abbrev i_slices_Delete___impl_Cell_impl_Cell__r6 : List RO := [
  ⟨⟨none, .mov 27 (.t 0)⟩, 0, []⟩,
  ⟨⟨none, .mov 28 (.t 0)⟩, 0, []⟩,
  ⟨⟨none, .len 29 false (.t 28)⟩, 0, []⟩,
  ⟨⟨none, .mov 30 (.t 7)⟩, 0, []⟩,
  ⟨⟨none, .slice 31 2 (.t 27) (some (.t 29)) (some (.t 30)) none⟩, 0, []⟩,
  ⟨⟨none, .clear 2 [(.int .i64 0), (.int .i64 0)] (.t 31)⟩, 0, []⟩]

abbrev i_slices_Delete___impl_Cell_impl_Cell__r7 : List RO := [
  ⟨⟨none, .mov 32 (.t 0)⟩, 0, []⟩,
  ⟨⟨none, .mov 6 (.t 32)⟩, 0, []⟩]

def i_slices_Delete___impl_Cell_impl_Cell_ : IC := (.seq (.reg i_slices_Delete___impl_Cell_impl_Cell__r0)
  (.seq (.reg i_slices_Delete___impl_Cell_impl_Cell__r1)
  (.seq (.seq (.reg i_slices_Delete___impl_Cell_impl_Cell__r2)
  (.cond (.t 16) (.seq (.reg i_slices_Delete___impl_Cell_impl_Cell__r3)
  .ret) .skip))
  (.seq (.reg i_slices_Delete___impl_Cell_impl_Cell__r4)
  (.seq (.regd i_slices_Delete___impl_Cell_impl_Cell__r5)
  (.seq (.reg i_slices_Delete___impl_Cell_impl_Cell__r6)
  (.seq (.reg i_slices_Delete___impl_Cell_impl_Cell__r7)
  .ret)))))))

theorem i_slices_Delete___impl_Cell_impl_Cell__ok : (Try.f167.body.bind fun c => toIC Try.prog 33 c [[(0, []), (0, []), (3, []), (0, []), (0, []), (24, []), (63, []), (127, [])]]) = some (i_slices_Delete___impl_Cell_impl_Cell_, []) := by kernel_rfl

theorem i_slices_Delete___impl_Cell_impl_Cell__fn {ds rs : List D} (hle : ds.length ≤ 33) (h : AW Try.prog 33 i_slices_Delete___impl_Cell_impl_Cell_ (Ends [.tmp 6] rs) (init ds)) : Fn Try.prog k_slices_Delete___impl_Cell_impl_Cell_ (lent ds) true rs :=
  Fn.intro' (by kernel_rfl) Try.func167 (by kernel_rfl) i_slices_Delete___impl_Cell_impl_Cell__ok (by kernel_rfl) hle h.h

theorem i_slices_Delete___impl_Cell_impl_Cell__fnB {ds rs : List D} (hle : ds.length ≤ 33) (h : AW Try.prog 33 i_slices_Delete___impl_Cell_impl_Cell_ (EndsB [.tmp 6] rs) (init ds)) : Fn Try.prog k_slices_Delete___impl_Cell_impl_Cell_ (lent ds) false rs :=
  Fn.introB' (by kernel_rfl) Try.func167 (by kernel_rfl) i_slices_Delete___impl_Cell_impl_Cell__ok (by kernel_rfl) hle h.h

theorem i_slices_Delete___impl_Cell_impl_Cell__fnM {ars : List Ar} {rs : List D} (hle : ars.length ≤ 33) (hfr : freshL ⟨fun _ => .top, fun _ => none, fun _ => .top⟩ ((argB 0 ars).2.map (·.1))) (hlt : ((argB 0 ars).2.map (·.1)).all (fun n => Nat.ble n 1999999) = true) (h : AW Try.prog 33 i_slices_Delete___impl_Cell_impl_Cell_ (EndsM ars [.tmp 6] rs) (initM ars)) : Fn Try.prog k_slices_Delete___impl_Cell_impl_Cell_ ars true rs :=
  Fn.introM' (by kernel_rfl) Try.func167 (by kernel_rfl) i_slices_Delete___impl_Cell_impl_Cell__ok (by kernel_rfl) hle hfr hlt h.h

abbrev i_slices_Insert___impl_Cell_impl_Cell__r0 : List RO := [
  ⟨⟨none, .mov 6 (.c (.one .zs))⟩, 0, []⟩]

abbrev i_slices_Insert___impl_Cell_impl_Cell__r1 : List RO := [
  ⟨⟨none, .mov 10 (.t 0)⟩, 0, []⟩,
  ⟨⟨none, .mov 11 (.t 1)⟩, 0, []⟩,
  ⟨⟨none, .slice 12 2 (.t 10) (some (.t 11)) none none⟩, 0, []⟩]

abbrev i_slices_Insert___impl_Cell_impl_Cell__r2 : List RO := [
  ⟨⟨none, .mov 13 (.t 2)⟩, 0, []⟩,
  ⟨⟨none, .len 14 false (.t 13)⟩, 0, []⟩,
  ⟨⟨none, .mov 7 (.t 14)⟩, 0, []⟩]

abbrev i_slices_Insert___impl_Cell_impl_Cell__r3 : List RO := [
  ⟨⟨none, .mov 15 (.t 7)⟩, 0, []⟩,
  ⟨⟨none, .bin 16 .eql (.t 15) (.c (.one (.d (.int .i64 0))))⟩, 0, []⟩]

abbrev i_slices_Insert___impl_Cell_impl_Cell__r4 : List RO := [
  ⟨⟨none, .mov 17 (.t 0)⟩, 0, []⟩,
  ⟨⟨none, .mov 6 (.t 17)⟩, 0, []⟩]

abbrev i_slices_Insert___impl_Cell_impl_Cell__r5 : List RO := [
  ⟨⟨none, .mov 18 (.t 0)⟩, 0, []⟩,
  ⟨⟨none, .len 19 false (.t 18)⟩, 0, []⟩,
  ⟨⟨none, .mov 8 (.t 19)⟩, 0, []⟩]

abbrev i_slices_Insert___impl_Cell_impl_Cell__r6 : List RO := [
  ⟨⟨none, .mov 20 (.t 1)⟩, 0, []⟩,
  ⟨⟨none, .mov 21 (.t 8)⟩, 0, []⟩,
  ⟨⟨none, .bin 22 .eql (.t 20) (.t 21)⟩, 0, []⟩]

abbrev i_slices_Insert___impl_Cell_impl_Cell__r7 : List RO := [
  ⟨⟨none, .mov 23 (.t 0)⟩, 0, []⟩,
  ⟨⟨none, .mov 24 (.t 2)⟩, 0, []⟩,
  ⟨⟨none, .app 25 2 16 [(.int .i64 0), (.int .i64 0)] (.t 23) (.t 24)⟩, 0, []⟩,
  ⟨⟨none, .mov 6 (.t 25)⟩, 0, []⟩]

abbrev i_slices_Insert___impl_Cell_impl_Cell__r8 : List RO := [
  ⟨⟨none, .mov 26 (.t 8)⟩, 0, []⟩,
  ⟨⟨none, .mov 27 (.t 7)⟩, 0, []⟩,
  ⟨⟨none, .bin 28 .add (.t 26) (.t 27)⟩, 0, []⟩,
  ⟨⟨none, .mov 29 (.t 0)⟩, 0, []⟩,
  ⟨⟨none, .cap 30 (.t 29)⟩, 0, []⟩,
  ⟨⟨none, .bin 31 .gtr (.t 28) (.t 30)⟩, 0, []⟩]

abbrev i_slices_Insert___impl_Cell_impl_Cell__r9 : List RO := [
  ⟨⟨none, .mov 32 (.t 0)⟩, 0, []⟩,
  ⟨⟨none, .mov 33 (.t 1)⟩, 0, []⟩,
  ⟨⟨none, .slice 34 2 (.t 32) none (some (.t 33)) none⟩, 0, []⟩,
  ⟨⟨none, .mov 35 (.t 8)⟩, 0, []⟩,
  ⟨⟨none, .mov 36 (.t 7)⟩, 0, []⟩,
  ⟨⟨none, .bin 37 .add (.t 35) (.t 36)⟩, 0, []⟩,
  ⟨⟨none, .mov 38 (.t 1)⟩, 0, []⟩,
  ⟨⟨none, .bin 39 .sub (.t 37) (.t 38)⟩, 0, []⟩,
  ⟨⟨none, .apm 40 2 16 [(.int .i64 0), (.int .i64 0)] (.t 34) (.t 39)⟩, 0, []⟩,
  ⟨⟨none, .mov 9 (.t 40)⟩, 0, []⟩]

abbrev i_slices_Insert___impl_Cell_impl_Cell__r10 : List RO := [
  ⟨⟨none, .mov 41 (.t 9)⟩, 0, []⟩,
  ⟨⟨none, .mov 42 (.t 1)⟩, 0, []⟩,
  ⟨⟨none, .slice 43 2 (.t 41) (some (.t 42)) none none⟩, 0, []⟩,
  ⟨⟨none, .mov 44 (.t 2)⟩, 0, []⟩,
  ⟨⟨none, .copy 45 2 (.t 43) (.t 44)⟩, 0, []⟩]

abbrev i_slices_Insert___impl_Cell_impl_Cell__r11 : List RO := [
  ⟨⟨none, .mov 46 (.t 9)⟩, 0, []⟩,
  ⟨⟨none, .mov 47 (.t 1)⟩, 0, []⟩,
  ⟨⟨none, .mov 48 (.t 7)⟩, 0, []⟩,
  ⟨⟨none, .bin 49 .add (.t 47) (.t 48)⟩, 6, []⟩,
  ⟨⟨none, .slice 50 2 (.t 46) (some (.t 49)) none none⟩, 15, []⟩,
  ⟨⟨none, .mov 51 (.t 0)⟩, 0, []⟩,
  ⟨⟨none, .mov 52 (.t 1)⟩, 0, []⟩,
  ⟨⟨none, .slice 53 2 (.t 51) (some (.t 52)) none none⟩, 96, []⟩,
  ⟨⟨none, .copy 54 2 (.t 50) (.t 53)⟩, 255, []⟩]

abbrev i_slices_Insert___impl_Cell_impl_Cell__r12 : List RO := [
  ⟨⟨none, .mov 55 (.t 9)⟩, 0, []⟩,
  ⟨⟨none, .mov 6 (.t 55)⟩, 0, []⟩]

abbrev i_slices_Insert___impl_Cell_impl_Cell__r13 : List RO := [
  ⟨⟨none, .mov 56 (.t 0)⟩, 0, []⟩,
  ⟨⟨none, .mov 57 (.t 8)⟩, 0, []⟩,
  ⟨⟨none, .mov 58 (.t 7)⟩, 0, []⟩,
  ⟨⟨none, .bin 59 .add (.t 57) (.t 58)⟩, 0, []⟩,
  ⟨⟨none, .slice 60 2 (.t 56) none (some (.t 59)) none⟩, 0, []⟩,
  ⟨⟨none, .mov 0 (.t 60)⟩, 0, []⟩]

abbrev i_slices_Insert___impl_Cell_impl_Cell__r14 : List RO := [
  ⟨⟨none, .mov 61 (.t 2)⟩, 0, []⟩,
  ⟨⟨none, .mov 62 (.t 0)⟩, 0, []⟩,
  ⟨⟨none, .mov 63 (.t 1)⟩, 0, []⟩,
  ⟨⟨none, .mov 64 (.t 7)⟩, 0, []⟩,
  ⟨⟨none, .bin 65 .add (.t 63) (.t 64)⟩, 0, []⟩,
  ⟨⟨none, .slice 66 2 (.t 62) (some (.t 65)) none none⟩, 0, []⟩,
  ⟨⟨none, .callv 67 (.c (.one (.fn k_slices_overlaps_impl_Cell_ []))) [(.t 61), (.t 66)]⟩, 0, []⟩,
  ⟨⟨none, .inv 68 (.t 67)⟩, 0, []⟩]

abbrev i_slices_Insert___impl_Cell_impl_Cell__r15 : List RO := [
  ⟨⟨none, .mov 69 (.t 0)⟩, 0, []⟩,
  ⟨⟨none, .mov 70 (.t 1)⟩, 0, []⟩,
  ⟨⟨none, .mov 71 (.t 7)⟩, 0, []⟩,
  ⟨⟨none, .bin 72 .add (.t 70) (.t 71)⟩, 6, []⟩,
  ⟨⟨none, .slice 73 2 (.t 69) (some (.t 72)) none none⟩, 15, []⟩,
  ⟨⟨none, .mov 74 (.t 0)⟩, 0, []⟩,
  ⟨⟨none, .mov 75 (.t 1)⟩, 0, []⟩,
  ⟨⟨none, .slice 76 2 (.t 74) (some (.t 75)) none none⟩, 96, []⟩,
  ⟨⟨none, .copy 77 2 (.t 73) (.t 76)⟩, 255, []⟩]

abbrev i_slices_Insert___impl_Cell_impl_Cell__r16 : List RO := [
  ⟨⟨none, .mov 78 (.t 0)⟩, 0, []⟩,
  ⟨⟨none, .mov 79 (.t 1)⟩, 0, []⟩,
  ⟨⟨none, .slice 80 2 (.t 78) (some (.t 79)) none none⟩, 0, []⟩,
  ⟨⟨none, .mov 81 (.t 2)⟩, 0, []⟩,
  ⟨⟨none, .copy 82 2 (.t 80) (.t 81)⟩, 0, []⟩]

abbrev i_slices_Insert___impl_Cell_impl_Cell__r17 : List RO := [
  ⟨⟨none, .mov 83 (.t 0)⟩, 0, []⟩,
  ⟨⟨none, .mov 6 (.t 83)⟩, 0, []⟩]

abbrev i_slices_Insert___impl_Cell_impl_Cell__r18 : List RO := [
  ⟨⟨none, .mov 84 (.t 0)⟩, 0, []⟩,
  ⟨⟨none, .mov 85 (.t 8)⟩, 0, []⟩,
  ⟨⟨none, .slice 86 2 (.t 84) (some (.t 85)) none none⟩, 0, []⟩,
  ⟨⟨none, .mov 87 (.t 2)⟩, 0, []⟩,
  ⟨⟨none, .copy 88 2 (.t 86) (.t 87)⟩, 0, []⟩]

abbrev i_slices_Insert___impl_Cell_impl_Cell__r19 : List RO := [
  ⟨⟨none, .mov 89 (.t 0)⟩, 0, []⟩,
  ⟨⟨none, .mov 90 (.t 1)⟩, 0, []⟩,
  ⟨⟨none, .slice 91 2 (.t 89) (some (.t 90)) none none⟩, 0, []⟩,
  ⟨⟨none, .mov 92 (.t 7)⟩, 0, []⟩,
  ⟨⟨none, .callv 93 (.c (.one (.fn k_slices_rotateRight_impl_Cell_ []))) [(.t 91), (.t 92)]⟩, 0, []⟩]

abbrev i_slices_Insert___impl_Cell_impl_Cell__r20 : List RO := [
  ⟨⟨none, .mov 94 (.t 0)⟩, 0, []⟩,
  ⟨⟨none, .mov 6 (.t 94)⟩, 0, []⟩]

def i_slices_Insert___impl_Cell_impl_Cell_ : IC := (.seq (.reg i_slices_Insert___impl_Cell_impl_Cell__r0)
  (.seq (.reg i_slices_Insert___impl_Cell_impl_Cell__r1)
  (.seq (.reg i_slices_Insert___impl_Cell_impl_Cell__r2)
  (.seq (.seq (.reg i_slices_Insert___impl_Cell_impl_Cell__r3)
  (.cond (.t 16) (.seq (.reg i_slices_Insert___impl_Cell_impl_Cell__r4)
  .ret) .skip))
  (.seq (.reg i_slices_Insert___impl_Cell_impl_Cell__r5)
  (.seq (.seq (.reg i_slices_Insert___impl_Cell_impl_Cell__r6)
  (.cond (.t 22) (.seq (.reg i_slices_Insert___impl_Cell_impl_Cell__r7)
  .ret) .skip))
  (.seq (.seq (.reg i_slices_Insert___impl_Cell_impl_Cell__r8)
  (.cond (.t 31) (.seq (.reg i_slices_Insert___impl_Cell_impl_Cell__r9)
  (.seq (.reg i_slices_Insert___impl_Cell_impl_Cell__r10)
  (.seq (.regd i_slices_Insert___impl_Cell_impl_Cell__r11)
  (.seq (.reg i_slices_Insert___impl_Cell_impl_Cell__r12)
  .ret)))) .skip))
  (.seq (.reg i_slices_Insert___impl_Cell_impl_Cell__r13)
  (.seq (.seq (.reg i_slices_Insert___impl_Cell_impl_Cell__r14)
  (.cond (.t 68) (.seq (.regd i_slices_Insert___impl_Cell_impl_Cell__r15)
  (.seq (.reg i_slices_Insert___impl_Cell_impl_Cell__r16)
  (.seq (.reg i_slices_Insert___impl_Cell_impl_Cell__r17)
  .ret))) .skip))
  (.seq (.reg i_slices_Insert___impl_Cell_impl_Cell__r18)
  (.seq (.reg i_slices_Insert___impl_Cell_impl_Cell__r19)
  (.seq (.reg i_slices_Insert___impl_Cell_impl_Cell__r20)
  .ret))))))))))))

theorem i_slices_Insert___impl_Cell_impl_Cell__ok : (Try.f168.body.bind fun c => toIC Try.prog 95 c [[(0, []), (0, []), (0, []), (6, []), (15, []), (0, []), (0, []), (96, []), (255, [])], [(0, []), (0, []), (0, []), (6, []), (15, []), (0, []), (0, []), (96, []), (255, [])]]) = some (i_slices_Insert___impl_Cell_impl_Cell_, []) := by kernel_rfl

theorem i_slices_Insert___impl_Cell_impl_Cell__fn {ds rs : List D} (hle : ds.length ≤ 95) (h : AW Try.prog 95 i_slices_Insert___impl_Cell_impl_Cell_ (Ends [.tmp 6] rs) (init ds)) : Fn Try.prog k_slices_Insert___impl_Cell_impl_Cell_ (lent ds) true rs :=
  Fn.intro' (by kernel_rfl) Try.func168 (by kernel_rfl) i_slices_Insert___impl_Cell_impl_Cell__ok (by kernel_rfl) hle h.h

theorem i_slices_Insert___impl_Cell_impl_Cell__fnB {ds rs : List D} (hle : ds.length ≤ 95) (h : AW Try.prog 95 i_slices_Insert___impl_Cell_impl_Cell_ (EndsB [.tmp 6] rs) (init ds)) : Fn Try.prog k_slices_Insert___impl_Cell_impl_Cell_ (lent ds) false rs :=
  Fn.introB' (by kernel_rfl) Try.func168 (by kernel_rfl) i_slices_Insert___impl_Cell_impl_Cell__ok (by kernel_rfl) hle h.h

theorem i_slices_Insert___impl_Cell_impl_Cell__fnM {ars : List Ar} {rs : List D} (hle : ars.length ≤ 95) (hfr : freshL ⟨fun _ => .top, fun _ => none, fun _ => .top⟩ ((argB 0 ars).2.map (·.1))) (hlt : ((argB 0 ars).2.map (·.1)).all (fun n => Nat.ble n 1999999) = true) (h : AW Try.prog 95 i_slices_Insert___impl_Cell_impl_Cell_ (EndsM ars [.tmp 6] rs) (initM ars)) : Fn Try.prog k_slices_Insert___impl_Cell_impl_Cell_ ars true rs :=
  Fn.introM' (by kernel_rfl) Try.func168 (by kernel_rfl) i_slices_Insert___impl_Cell_impl_Cell__ok (by kernel_rfl) hle hfr hlt h.h

abbrev i_impl_put_r0 : List RO := [
  ⟨⟨none, .mov 6 (.c (.one .zs))⟩, 0, []⟩]

abbrev i_impl_put_r1 : List RO := [
  ⟨⟨none, .mov 11 (.t 0)⟩, 0, []⟩,
  ⟨⟨none, .mov 12 (.t 1)⟩, 0, []⟩,
  ⟨⟨none, .callv 13 (.c (.one (.fn k_impl_cellFor []))) [(.t 11), (.t 12)]⟩, 0, []⟩,
  ⟨⟨none, .mov 10 (.t 13)⟩, 0, []⟩,
  ⟨⟨none, .ext 14 (.t 10) 0⟩, 0, []⟩,
  ⟨⟨none, .ext 15 (.t 10) 1⟩, 0, []⟩,
  ⟨⟨none, .mov 7 (.t 14)⟩, 0, []⟩,
  ⟨⟨none, .mov 8 (.t 15)⟩, 0, []⟩]

abbrev i_impl_put_r2 : List RO := [
  ⟨⟨none, .mov 17 (.t 2)⟩, 0, []⟩,
  ⟨⟨none, .bin 18 .eql (.t 17) (.c (.one (.d (.int .i64 (-1)))))⟩, 0, []⟩,
  ⟨⟨none, .mov 19 (.t 18)⟩, 0, []⟩,
  ⟨⟨some (19, true), .mov 20 (.t 8)⟩, 0, []⟩,
  ⟨⟨none, .pick 21 (.t 19) (.t 20) (.c (.one (.d (.bool false))))⟩, 0, []⟩,
  ⟨⟨none, .mov 16 (.t 21)⟩, 0, []⟩]

abbrev i_impl_put_r3 : List RO := [
  ⟨⟨none, .mov 22 (.t 0)⟩, 0, []⟩,
  ⟨⟨none, .callv 23 (.c (.one (.fn k_slices_Clone___impl_Cell_impl_Cell_ []))) [(.t 22)]⟩, 0, []⟩,
  ⟨⟨none, .mov 24 (.t 7)⟩, 0, []⟩,
  ⟨⟨none, .mov 25 (.t 7)⟩, 0, []⟩,
  ⟨⟨none, .bin 26 .add (.t 25) (.c (.one (.d (.int .i64 1))))⟩, 0, []⟩,
  ⟨⟨none, .callv 27 (.c (.one (.fn k_slices_Delete___impl_Cell_impl_Cell_ []))) [(.t 23), (.t 24), (.t 26)]⟩, 0, []⟩,
  ⟨⟨none, .mov 6 (.t 27)⟩, 0, []⟩]

abbrev i_impl_put_r4 : List RO := [
  ⟨⟨none, .mov 29 (.t 2)⟩, 0, []⟩,
  ⟨⟨none, .bin 30 .eql (.t 29) (.c (.one (.d (.int .i64 (-1)))))⟩, 0, []⟩,
  ⟨⟨none, .mov 28 (.t 30)⟩, 0, []⟩]

abbrev i_impl_put_r5 : List RO := [
  ⟨⟨none, .mov 31 (.t 0)⟩, 0, []⟩,
  ⟨⟨none, .callv 32 (.c (.one (.fn k_slices_Clone___impl_Cell_impl_Cell_ []))) [(.t 31)]⟩, 0, []⟩,
  ⟨⟨none, .mov 6 (.t 32)⟩, 0, []⟩]

abbrev i_impl_put_r6 : List RO := [
  ⟨⟨none, .mov 34 (.t 8)⟩, 0, []⟩,
  ⟨⟨none, .mov 33 (.t 34)⟩, 0, []⟩]

abbrev i_impl_put_r7 : List RO := [
  ⟨⟨none, .mov 35 (.t 0)⟩, 0, []⟩,
  ⟨⟨none, .callv 36 (.c (.one (.fn k_slices_Clone___impl_Cell_impl_Cell_ []))) [(.t 35)]⟩, 0, []⟩,
  ⟨⟨none, .mov 9 (.t 36)⟩, 0, []⟩]

abbrev i_impl_put_r8 : List RO := [
  ⟨⟨none, .mov 37 (.t 9)⟩, 0, []⟩,
  ⟨⟨none, .mov 38 (.t 7)⟩, 0, []⟩,
  ⟨⟨none, .mov 39 (.t 2)⟩, 0, []⟩,
  ⟨⟨none, .iaddr 40 2 (.t 37) (.t 38)⟩, 0, []⟩,
  ⟨⟨none, .faddr 41 1 (.t 40)⟩, 0, []⟩,
  ⟨⟨none, .store 1 [(.int .i64 0)] (.t 41) (.t 39)⟩, 0, []⟩]

abbrev i_impl_put_r9 : List RO := [
  ⟨⟨none, .mov 42 (.t 9)⟩, 0, []⟩,
  ⟨⟨none, .mov 6 (.t 42)⟩, 0, []⟩]

abbrev i_impl_put_r10 : List RO := [
  ⟨⟨none, .mov 43 (.t 0)⟩, 0, []⟩,
  ⟨⟨none, .callv 44 (.c (.one (.fn k_slices_Clone___impl_Cell_impl_Cell_ []))) [(.t 43)]⟩, 0, []⟩,
  ⟨⟨none, .mov 45 (.t 7)⟩, 0, []⟩,
  ⟨⟨none, .mov 46 (.t 1)⟩, 0, []⟩,
  ⟨⟨none, .mov 47 (.t 2)⟩, 0, []⟩,
  ⟨⟨none, .build 48 [(.d (.int .i64 0)), (.d (.int .i64 0))] [(0, 1, (.t 46)), (1, 1, (.t 47))]⟩, 0, []⟩,
  ⟨⟨none, .bslice 49 2 [(.d (.int .i64 0)), (.d (.int .i64 0))] [(0, 2, (.t 48))]⟩, 0, []⟩,
  ⟨⟨none, .callv 50 (.c (.one (.fn k_slices_Insert___impl_Cell_impl_Cell_ []))) [(.t 44), (.t 45), (.t 49)]⟩, 0, []⟩,
  ⟨⟨none, .mov 6 (.t 50)⟩, 0, []⟩]

def i_impl_put : IC := (.seq (.reg i_impl_put_r0)
  (.seq (.reg i_impl_put_r1)
  (.seq (.block 0 (.seq (.reg i_impl_put_r2)
  (.cond (.t 16) (.seq (.reg i_impl_put_r3)
  .ret) (.seq (.reg i_impl_put_r4)
  (.cond (.t 28) (.seq (.reg i_impl_put_r5)
  .ret) (.seq (.reg i_impl_put_r6)
  (.cond (.t 33) (.seq (.reg i_impl_put_r7)
  (.seq (.reg i_impl_put_r8)
  (.seq (.reg i_impl_put_r9)
  .ret))) .skip)))))))
  (.seq (.reg i_impl_put_r10)
  .ret))))

theorem i_impl_put_ok : (Try.f144.body.bind fun c => toIC Try.prog 51 c []) = some (i_impl_put, []) := by kernel_rfl

theorem i_impl_put_fn {ds rs : List D} (hle : ds.length ≤ 51) (h : AW Try.prog 51 i_impl_put (Ends [.tmp 6] rs) (init ds)) : Fn Try.prog k_impl_put (lent ds) true rs :=
  Fn.intro' (by kernel_rfl) Try.func144 (by kernel_rfl) i_impl_put_ok (by kernel_rfl) hle h.h

theorem i_impl_put_fnB {ds rs : List D} (hle : ds.length ≤ 51) (h : AW Try.prog 51 i_impl_put (EndsB [.tmp 6] rs) (init ds)) : Fn Try.prog k_impl_put (lent ds) false rs :=
  Fn.introB' (by kernel_rfl) Try.func144 (by kernel_rfl) i_impl_put_ok (by kernel_rfl) hle h.h

abbrev i_impl_written_r0 : List RO := [
  ⟨⟨none, .mov 4 (.c (.one .zs))⟩, 0, []⟩]

abbrev i_impl_written_r1 : List RO := [
  ⟨⟨none, .mov 7 (.t 1)⟩, 0, []⟩,
  ⟨⟨none, .len 8 false (.t 7)⟩, 0, []⟩,
  ⟨⟨none, .mov 9 (.c (.one (.d (.int .i64 0))))⟩, 0, []⟩]

abbrev i_impl_written_r2 : List RO := [
  ⟨⟨none, .bin 10 .lss (.t 9) (.t 8)⟩, 0, []⟩]

abbrev i_impl_written_r3 : List RO := [
  ⟨⟨none, .iaddr 11 2 (.t 7) (.t 9)⟩, 0, []⟩,
  ⟨⟨none, .load 12 (some 2) (.t 11)⟩, 0, []⟩,
  ⟨⟨none, .var 6 [(.d (.int .i64 0)), (.d (.int .i64 0))]⟩, 0, []⟩,
  ⟨⟨none, .store 2 [(.int .i64 0), (.int .i64 0)] (.t 6) (.t 12)⟩, 0, []⟩]

abbrev i_impl_written_r4 : List RO := [
  ⟨⟨none, .mov 13 (.t 0)⟩, 0, []⟩,
  ⟨⟨none, .faddr 14 0 (.t 6)⟩, 0, []⟩,
  ⟨⟨none, .load 15 none (.t 14)⟩, 0, []⟩,
  ⟨⟨none, .faddr 16 1 (.t 6)⟩, 0, []⟩,
  ⟨⟨none, .load 17 none (.t 16)⟩, 0, []⟩,
  ⟨⟨none, .callv 18 (.c (.one (.fn k_impl_put []))) [(.t 13), (.t 15), (.t 17)]⟩, 0, []⟩,
  ⟨⟨none, .mov 0 (.t 18)⟩, 0, []⟩]

abbrev i_impl_written_r5 : List RO := [
  ⟨⟨none, .bin 19 .add (.t 9) (.c (.one (.d (.int .i64 1))))⟩, 0, []⟩,
  ⟨⟨none, .mov 9 (.t 19)⟩, 0, []⟩]

abbrev i_impl_written_r6 : List RO := [
  ⟨⟨none, .mov 20 (.t 0)⟩, 0, []⟩,
  ⟨⟨none, .mov 4 (.t 20)⟩, 0, []⟩]

def i_impl_written : IC := (.seq (.reg i_impl_written_r0)
  (.seq (.seq (.reg i_impl_written_r1)
  (.block 0 (.loop (.seq (.reg i_impl_written_r2)
  (.seq (.cond (.t 10) .skip (.exit 0))
  (.seq (.block 1 (.seq (.reg i_impl_written_r3)
  (.reg i_impl_written_r4)))
  (.reg i_impl_written_r5)))))))
  (.seq (.reg i_impl_written_r6)
  .ret)))

theorem i_impl_written_ok : (Try.f86.body.bind fun c => toIC Try.prog 21 c []) = some (i_impl_written, []) := by kernel_rfl

theorem i_impl_written_fn {ds rs : List D} (hle : ds.length ≤ 21) (h : AW Try.prog 21 i_impl_written (Ends [.tmp 4] rs) (init ds)) : Fn Try.prog k_impl_written (lent ds) true rs :=
  Fn.intro' (by kernel_rfl) Try.func86 (by kernel_rfl) i_impl_written_ok (by kernel_rfl) hle h.h

theorem i_impl_written_fnB {ds rs : List D} (hle : ds.length ≤ 21) (h : AW Try.prog 21 i_impl_written (EndsB [.tmp 4] rs) (init ds)) : Fn Try.prog k_impl_written (lent ds) false rs :=
  Fn.introB' (by kernel_rfl) Try.func86 (by kernel_rfl) i_impl_written_ok (by kernel_rfl) hle h.h

theorem i_impl_written_fnM {ars : List Ar} {rs : List D} (hle : ars.length ≤ 21) (hfr : freshL ⟨fun _ => .top, fun _ => none, fun _ => .top⟩ ((argB 0 ars).2.map (·.1))) (hlt : ((argB 0 ars).2.map (·.1)).all (fun n => Nat.ble n 1999999) = true) (h : AW Try.prog 21 i_impl_written (EndsM ars [.tmp 4] rs) (initM ars)) : Fn Try.prog k_impl_written ars true rs :=
  Fn.introM' (by kernel_rfl) Try.func86 (by kernel_rfl) i_impl_written_ok (by kernel_rfl) hle hfr hlt h.h

abbrev i_impl_StoreApply_r0 : List RO := [
  ⟨⟨none, .mov 4 (.c (.one .zs))⟩, 0, []⟩,
  ⟨⟨none, .mov 5 (.c (.one (.d (.bool false))))⟩, 0, []⟩]

abbrev i_impl_StoreApply_r1 : List RO := [
  ⟨⟨none, .mov 7 (.t 0)⟩, 0, []⟩,
  ⟨⟨none, .callv 8 (.c (.one (.fn k_impl_StoreOk []))) [(.t 7)]⟩, 0, []⟩,
  ⟨⟨none, .inv 9 (.t 8)⟩, 0, []⟩,
  ⟨⟨none, .mov 10 (.t 9)⟩, 0, []⟩,
  ⟨⟨some (10, false), .mov 11 (.t 1)⟩, 0, []⟩,
  ⟨⟨some (10, false), .callv 12 (.c (.one (.fn k_impl_WritesOk []))) [(.t 11)]⟩, 0, []⟩,
  ⟨⟨some (10, false), .inv 13 (.t 12)⟩, 0, []⟩,
  ⟨⟨none, .pick 14 (.t 10) (.c (.one (.d (.bool true)))) (.t 13)⟩, 0, []⟩]

abbrev i_impl_StoreApply_r2 : List RO := [
  ⟨⟨none, .mov 4 (.c (.one .zs))⟩, 0, []⟩,
  ⟨⟨none, .mov 5 (.c (.one (.d (.bool false))))⟩, 0, []⟩]

abbrev i_impl_StoreApply_r3 : List RO := [
  ⟨⟨none, .mov 15 (.t 0)⟩, 0, []⟩,
  ⟨⟨none, .callv 16 (.c (.one (.fn k_slices_Clone___impl_Cell_impl_Cell_ []))) [(.t 15)]⟩, 0, []⟩,
  ⟨⟨none, .mov 17 (.t 1)⟩, 0, []⟩,
  ⟨⟨none, .callv 18 (.c (.one (.fn k_impl_written []))) [(.t 16), (.t 17)]⟩, 0, []⟩,
  ⟨⟨none, .mov 6 (.t 18)⟩, 0, []⟩]

abbrev i_impl_StoreApply_r4 : List RO := [
  ⟨⟨none, .mov 19 (.t 6)⟩, 0, []⟩,
  ⟨⟨none, .len 20 false (.t 19)⟩, 0, []⟩,
  ⟨⟨none, .bin 21 .gtr (.t 20) (.c (.one (.d (.int .i64 60))))⟩, 0, []⟩]

abbrev i_impl_StoreApply_r5 : List RO := [
  ⟨⟨none, .mov 4 (.c (.one .zs))⟩, 0, []⟩,
  ⟨⟨none, .mov 5 (.c (.one (.d (.bool false))))⟩, 0, []⟩]

abbrev i_impl_StoreApply_r6 : List RO := [
  ⟨⟨none, .mov 22 (.t 6)⟩, 0, []⟩,
  ⟨⟨none, .mov 4 (.t 22)⟩, 0, []⟩,
  ⟨⟨none, .mov 5 (.c (.one (.d (.bool true))))⟩, 0, []⟩]

def i_impl_StoreApply : IC := (.seq (.reg i_impl_StoreApply_r0)
  (.seq (.seq (.reg i_impl_StoreApply_r1)
  (.cond (.t 14) (.seq (.reg i_impl_StoreApply_r2)
  .ret) .skip))
  (.seq (.reg i_impl_StoreApply_r3)
  (.seq (.seq (.reg i_impl_StoreApply_r4)
  (.cond (.t 21) (.seq (.reg i_impl_StoreApply_r5)
  .ret) .skip))
  (.seq (.reg i_impl_StoreApply_r6)
  .ret)))))

theorem i_impl_StoreApply_ok : (Try.f37.body.bind fun c => toIC Try.prog 23 c []) = some (i_impl_StoreApply, []) := by kernel_rfl

theorem i_impl_StoreApply_fn {ds rs : List D} (hle : ds.length ≤ 23) (h : AW Try.prog 23 i_impl_StoreApply (Ends [.tmp 4, .tmp 5] rs) (init ds)) : Fn Try.prog k_impl_StoreApply (lent ds) true rs :=
  Fn.intro' (by kernel_rfl) Try.func37 (by kernel_rfl) i_impl_StoreApply_ok (by kernel_rfl) hle h.h

theorem i_impl_StoreApply_fnB {ds rs : List D} (hle : ds.length ≤ 23) (h : AW Try.prog 23 i_impl_StoreApply (EndsB [.tmp 4, .tmp 5] rs) (init ds)) : Fn Try.prog k_impl_StoreApply (lent ds) false rs :=
  Fn.introB' (by kernel_rfl) Try.func37 (by kernel_rfl) i_impl_StoreApply_ok (by kernel_rfl) hle h.h

abbrev i_laws_eqCell_r0 : List RO := [
  ⟨⟨none, .box 2 (.t 0)⟩, 0, []⟩,
  ⟨⟨none, .box 3 (.t 1)⟩, 0, []⟩,
  ⟨⟨none, .mov 4 (.c (.one (.d (.bool false))))⟩, 0, []⟩]

abbrev i_laws_eqCell_r1 : List RO := [
  ⟨⟨none, .faddr 5 0 (.t 2)⟩, 0, []⟩,
  ⟨⟨none, .load 6 none (.t 5)⟩, 0, []⟩,
  ⟨⟨none, .faddr 7 0 (.t 3)⟩, 0, []⟩,
  ⟨⟨none, .load 8 none (.t 7)⟩, 0, []⟩,
  ⟨⟨none, .bin 9 .neq (.t 6) (.t 8)⟩, 0, []⟩]

abbrev i_laws_eqCell_r2 : List RO := [
  ⟨⟨none, .mov 4 (.c (.one (.d (.bool false))))⟩, 0, []⟩]

abbrev i_laws_eqCell_r3 : List RO := [
  ⟨⟨none, .faddr 10 1 (.t 2)⟩, 0, []⟩,
  ⟨⟨none, .load 11 none (.t 10)⟩, 0, []⟩,
  ⟨⟨none, .faddr 12 1 (.t 3)⟩, 0, []⟩,
  ⟨⟨none, .load 13 none (.t 12)⟩, 0, []⟩,
  ⟨⟨none, .bin 14 .neq (.t 11) (.t 13)⟩, 0, []⟩]

abbrev i_laws_eqCell_r4 : List RO := [
  ⟨⟨none, .mov 4 (.c (.one (.d (.bool false))))⟩, 0, []⟩]

abbrev i_laws_eqCell_r5 : List RO := [
  ⟨⟨none, .mov 4 (.c (.one (.d (.bool true))))⟩, 0, []⟩]

def i_laws_eqCell : IC := (.seq (.reg i_laws_eqCell_r0)
  (.seq (.seq (.reg i_laws_eqCell_r1)
  (.cond (.t 9) (.seq (.reg i_laws_eqCell_r2)
  .ret) .skip))
  (.seq (.seq (.reg i_laws_eqCell_r3)
  (.cond (.t 14) (.seq (.reg i_laws_eqCell_r4)
  .ret) .skip))
  (.seq (.reg i_laws_eqCell_r5)
  .ret))))

theorem i_laws_eqCell_ok : (Try.f70.body.bind fun c => toIC Try.prog 15 c []) = some (i_laws_eqCell, []) := by kernel_rfl

theorem i_laws_eqCell_fn {ds rs : List D} (hle : ds.length ≤ 15) (h : AW Try.prog 15 i_laws_eqCell (Ends [.tmp 4] rs) (init ds)) : Fn Try.prog k_laws_eqCell (lent ds) true rs :=
  Fn.intro' (by kernel_rfl) Try.func70 (by kernel_rfl) i_laws_eqCell_ok (by kernel_rfl) hle h.h

theorem i_laws_eqCell_fnB {ds rs : List D} (hle : ds.length ≤ 15) (h : AW Try.prog 15 i_laws_eqCell (EndsB [.tmp 4] rs) (init ds)) : Fn Try.prog k_laws_eqCell (lent ds) false rs :=
  Fn.introB' (by kernel_rfl) Try.func70 (by kernel_rfl) i_laws_eqCell_ok (by kernel_rfl) hle h.h

abbrev i_laws_eqCellS_r0 : List RO := [
  ⟨⟨none, .mov 4 (.c (.one (.d (.bool false))))⟩, 0, []⟩]

abbrev i_laws_eqCellS_r1 : List RO := [
  ⟨⟨none, .mov 6 (.t 0)⟩, 0, []⟩,
  ⟨⟨none, .len 7 false (.t 6)⟩, 0, []⟩,
  ⟨⟨none, .mov 8 (.t 1)⟩, 0, []⟩,
  ⟨⟨none, .len 9 false (.t 8)⟩, 0, []⟩,
  ⟨⟨none, .bin 10 .neq (.t 7) (.t 9)⟩, 0, []⟩]

abbrev i_laws_eqCellS_r2 : List RO := [
  ⟨⟨none, .mov 4 (.c (.one (.d (.bool false))))⟩, 0, []⟩]

abbrev i_laws_eqCellS_r3 : List RO := [
  ⟨⟨none, .mov 5 (.c (.one (.d (.int .i64 0))))⟩, 0, []⟩]

abbrev i_laws_eqCellS_r4 : List RO := [
  ⟨⟨none, .mov 11 (.t 5)⟩, 0, []⟩,
  ⟨⟨none, .mov 12 (.t 0)⟩, 0, []⟩,
  ⟨⟨none, .len 13 false (.t 12)⟩, 0, []⟩,
  ⟨⟨none, .bin 14 .lss (.t 11) (.t 13)⟩, 0, []⟩]

abbrev i_laws_eqCellS_r5 : List RO := [
  ⟨⟨none, .mov 17 (.t 0)⟩, 0, []⟩,
  ⟨⟨none, .mov 18 (.t 5)⟩, 0, []⟩,
  ⟨⟨none, .iaddr 19 2 (.t 17) (.t 18)⟩, 3, []⟩,
  ⟨⟨none, .load 20 (some 2) (.t 19)⟩, 7, []⟩,
  ⟨⟨none, .mov 21 (.t 1)⟩, 0, []⟩,
  ⟨⟨none, .mov 22 (.t 5)⟩, 0, []⟩,
  ⟨⟨none, .iaddr 23 2 (.t 21) (.t 22)⟩, 48, []⟩,
  ⟨⟨none, .load 24 (some 2) (.t 23)⟩, 112, []⟩,
  ⟨⟨none, .callv 25 (.c (.one (.fn k_laws_eqCell []))) [(.t 20), (.t 24)]⟩, 255, []⟩,
  ⟨⟨none, .inv 26 (.t 25)⟩, 511, []⟩]

abbrev i_laws_eqCellS_r6 : List RO := [
  ⟨⟨none, .mov 4 (.c (.one (.d (.bool false))))⟩, 0, []⟩]

abbrev i_laws_eqCellS_r7 : List RO := [
  ⟨⟨none, .mov 15 (.t 5)⟩, 0, []⟩,
  ⟨⟨none, .bin 16 .add (.t 15) (.c (.one (.d (.int .i64 1))))⟩, 0, []⟩,
  ⟨⟨none, .mov 5 (.t 16)⟩, 0, []⟩]

abbrev i_laws_eqCellS_r8 : List RO := [
  ⟨⟨none, .mov 4 (.c (.one (.d (.bool true))))⟩, 0, []⟩]

def i_laws_eqCellS : IC := (.seq (.reg i_laws_eqCellS_r0)
  (.seq (.seq (.reg i_laws_eqCellS_r1)
  (.cond (.t 10) (.seq (.reg i_laws_eqCellS_r2)
  .ret) .skip))
  (.seq (.seq (.reg i_laws_eqCellS_r3)
  (.block 0 (.loop (.seq (.seq (.reg i_laws_eqCellS_r4)
  (.cond (.t 14) .skip (.exit 0)))
  (.seq (.block 1 (.seq (.regd i_laws_eqCellS_r5)
  (.cond (.t 26) (.seq (.reg i_laws_eqCellS_r6)
  .ret) .skip)))
  (.reg i_laws_eqCellS_r7))))))
  (.seq (.reg i_laws_eqCellS_r8)
  .ret))))

theorem i_laws_eqCellS_ok : (Try.f20.body.bind fun c => toIC Try.prog 27 c [[(0, []), (0, []), (3, []), (7, []), (0, []), (0, []), (48, []), (112, []), (255, []), (511, [])]]) = some (i_laws_eqCellS, []) := by kernel_rfl

theorem i_laws_eqCellS_fn {ds rs : List D} (hle : ds.length ≤ 27) (h : AW Try.prog 27 i_laws_eqCellS (Ends [.tmp 4] rs) (init ds)) : Fn Try.prog k_laws_eqCellS (lent ds) true rs :=
  Fn.intro' (by kernel_rfl) Try.func20 (by kernel_rfl) i_laws_eqCellS_ok (by kernel_rfl) hle h.h

theorem i_laws_eqCellS_fnB {ds rs : List D} (hle : ds.length ≤ 27) (h : AW Try.prog 27 i_laws_eqCellS (EndsB [.tmp 4] rs) (init ds)) : Fn Try.prog k_laws_eqCellS (lent ds) false rs :=
  Fn.introB' (by kernel_rfl) Try.func20 (by kernel_rfl) i_laws_eqCellS_ok (by kernel_rfl) hle h.h

abbrev i_laws_eqWrite_r0 : List RO := [
  ⟨⟨none, .box 2 (.t 0)⟩, 0, []⟩,
  ⟨⟨none, .box 3 (.t 1)⟩, 0, []⟩,
  ⟨⟨none, .mov 4 (.c (.one (.d (.bool false))))⟩, 0, []⟩]

abbrev i_laws_eqWrite_r1 : List RO := [
  ⟨⟨none, .faddr 5 0 (.t 2)⟩, 0, []⟩,
  ⟨⟨none, .load 6 none (.t 5)⟩, 0, []⟩,
  ⟨⟨none, .faddr 7 0 (.t 3)⟩, 0, []⟩,
  ⟨⟨none, .load 8 none (.t 7)⟩, 0, []⟩,
  ⟨⟨none, .bin 9 .neq (.t 6) (.t 8)⟩, 0, []⟩]

abbrev i_laws_eqWrite_r2 : List RO := [
  ⟨⟨none, .mov 4 (.c (.one (.d (.bool false))))⟩, 0, []⟩]

abbrev i_laws_eqWrite_r3 : List RO := [
  ⟨⟨none, .faddr 10 1 (.t 2)⟩, 0, []⟩,
  ⟨⟨none, .load 11 none (.t 10)⟩, 0, []⟩,
  ⟨⟨none, .faddr 12 1 (.t 3)⟩, 0, []⟩,
  ⟨⟨none, .load 13 none (.t 12)⟩, 0, []⟩,
  ⟨⟨none, .bin 14 .neq (.t 11) (.t 13)⟩, 0, []⟩]

abbrev i_laws_eqWrite_r4 : List RO := [
  ⟨⟨none, .mov 4 (.c (.one (.d (.bool false))))⟩, 0, []⟩]

abbrev i_laws_eqWrite_r5 : List RO := [
  ⟨⟨none, .mov 4 (.c (.one (.d (.bool true))))⟩, 0, []⟩]

def i_laws_eqWrite : IC := (.seq (.reg i_laws_eqWrite_r0)
  (.seq (.seq (.reg i_laws_eqWrite_r1)
  (.cond (.t 9) (.seq (.reg i_laws_eqWrite_r2)
  .ret) .skip))
  (.seq (.seq (.reg i_laws_eqWrite_r3)
  (.cond (.t 14) (.seq (.reg i_laws_eqWrite_r4)
  .ret) .skip))
  (.seq (.reg i_laws_eqWrite_r5)
  .ret))))

theorem i_laws_eqWrite_ok : (Try.f88.body.bind fun c => toIC Try.prog 15 c []) = some (i_laws_eqWrite, []) := by kernel_rfl

theorem i_laws_eqWrite_fn {ds rs : List D} (hle : ds.length ≤ 15) (h : AW Try.prog 15 i_laws_eqWrite (Ends [.tmp 4] rs) (init ds)) : Fn Try.prog k_laws_eqWrite (lent ds) true rs :=
  Fn.intro' (by kernel_rfl) Try.func88 (by kernel_rfl) i_laws_eqWrite_ok (by kernel_rfl) hle h.h

theorem i_laws_eqWrite_fnB {ds rs : List D} (hle : ds.length ≤ 15) (h : AW Try.prog 15 i_laws_eqWrite (EndsB [.tmp 4] rs) (init ds)) : Fn Try.prog k_laws_eqWrite (lent ds) false rs :=
  Fn.introB' (by kernel_rfl) Try.func88 (by kernel_rfl) i_laws_eqWrite_ok (by kernel_rfl) hle h.h

abbrev i_laws_eqWriteS_r0 : List RO := [
  ⟨⟨none, .mov 4 (.c (.one (.d (.bool false))))⟩, 0, []⟩]

abbrev i_laws_eqWriteS_r1 : List RO := [
  ⟨⟨none, .mov 6 (.t 0)⟩, 0, []⟩,
  ⟨⟨none, .len 7 false (.t 6)⟩, 0, []⟩,
  ⟨⟨none, .mov 8 (.t 1)⟩, 0, []⟩,
  ⟨⟨none, .len 9 false (.t 8)⟩, 0, []⟩,
  ⟨⟨none, .bin 10 .neq (.t 7) (.t 9)⟩, 0, []⟩]

abbrev i_laws_eqWriteS_r2 : List RO := [
  ⟨⟨none, .mov 4 (.c (.one (.d (.bool false))))⟩, 0, []⟩]

abbrev i_laws_eqWriteS_r3 : List RO := [
  ⟨⟨none, .mov 5 (.c (.one (.d (.int .i64 0))))⟩, 0, []⟩]

abbrev i_laws_eqWriteS_r4 : List RO := [
  ⟨⟨none, .mov 11 (.t 5)⟩, 0, []⟩,
  ⟨⟨none, .mov 12 (.t 0)⟩, 0, []⟩,
  ⟨⟨none, .len 13 false (.t 12)⟩, 0, []⟩,
  ⟨⟨none, .bin 14 .lss (.t 11) (.t 13)⟩, 0, []⟩]

abbrev i_laws_eqWriteS_r5 : List RO := [
  ⟨⟨none, .mov 17 (.t 0)⟩, 0, []⟩,
  ⟨⟨none, .mov 18 (.t 5)⟩, 0, []⟩,
  ⟨⟨none, .iaddr 19 2 (.t 17) (.t 18)⟩, 3, []⟩,
  ⟨⟨none, .load 20 (some 2) (.t 19)⟩, 7, []⟩,
  ⟨⟨none, .mov 21 (.t 1)⟩, 0, []⟩,
  ⟨⟨none, .mov 22 (.t 5)⟩, 0, []⟩,
  ⟨⟨none, .iaddr 23 2 (.t 21) (.t 22)⟩, 48, []⟩,
  ⟨⟨none, .load 24 (some 2) (.t 23)⟩, 112, []⟩,
  ⟨⟨none, .callv 25 (.c (.one (.fn k_laws_eqWrite []))) [(.t 20), (.t 24)]⟩, 255, []⟩,
  ⟨⟨none, .inv 26 (.t 25)⟩, 511, []⟩]

abbrev i_laws_eqWriteS_r6 : List RO := [
  ⟨⟨none, .mov 4 (.c (.one (.d (.bool false))))⟩, 0, []⟩]

abbrev i_laws_eqWriteS_r7 : List RO := [
  ⟨⟨none, .mov 15 (.t 5)⟩, 0, []⟩,
  ⟨⟨none, .bin 16 .add (.t 15) (.c (.one (.d (.int .i64 1))))⟩, 0, []⟩,
  ⟨⟨none, .mov 5 (.t 16)⟩, 0, []⟩]

abbrev i_laws_eqWriteS_r8 : List RO := [
  ⟨⟨none, .mov 4 (.c (.one (.d (.bool true))))⟩, 0, []⟩]

def i_laws_eqWriteS : IC := (.seq (.reg i_laws_eqWriteS_r0)
  (.seq (.seq (.reg i_laws_eqWriteS_r1)
  (.cond (.t 10) (.seq (.reg i_laws_eqWriteS_r2)
  .ret) .skip))
  (.seq (.seq (.reg i_laws_eqWriteS_r3)
  (.block 0 (.loop (.seq (.seq (.reg i_laws_eqWriteS_r4)
  (.cond (.t 14) .skip (.exit 0)))
  (.seq (.block 1 (.seq (.regd i_laws_eqWriteS_r5)
  (.cond (.t 26) (.seq (.reg i_laws_eqWriteS_r6)
  .ret) .skip)))
  (.reg i_laws_eqWriteS_r7))))))
  (.seq (.reg i_laws_eqWriteS_r8)
  .ret))))

theorem i_laws_eqWriteS_ok : (Try.f38.body.bind fun c => toIC Try.prog 27 c [[(0, []), (0, []), (3, []), (7, []), (0, []), (0, []), (48, []), (112, []), (255, []), (511, [])]]) = some (i_laws_eqWriteS, []) := by kernel_rfl

theorem i_laws_eqWriteS_fn {ds rs : List D} (hle : ds.length ≤ 27) (h : AW Try.prog 27 i_laws_eqWriteS (Ends [.tmp 4] rs) (init ds)) : Fn Try.prog k_laws_eqWriteS (lent ds) true rs :=
  Fn.intro' (by kernel_rfl) Try.func38 (by kernel_rfl) i_laws_eqWriteS_ok (by kernel_rfl) hle h.h

theorem i_laws_eqWriteS_fnB {ds rs : List D} (hle : ds.length ≤ 27) (h : AW Try.prog 27 i_laws_eqWriteS (EndsB [.tmp 4] rs) (init ds)) : Fn Try.prog k_laws_eqWriteS (lent ds) false rs :=
  Fn.introB' (by kernel_rfl) Try.func38 (by kernel_rfl) i_laws_eqWriteS_ok (by kernel_rfl) hle h.h

abbrev i_laws_markCellS_r0 : List RO := [
  ⟨⟨none, .mov 4 (.c (.one (.d (.int .i64 0))))⟩, 0, []⟩]

abbrev i_laws_markCellS_r1 : List RO := [
  ⟨⟨none, .mov 5 (.c (.one (.d (.int .i64 0))))⟩, 0, []⟩]

abbrev i_laws_markCellS_r2 : List RO := [
  ⟨⟨none, .mov 6 (.t 5)⟩, 0, []⟩,
  ⟨⟨none, .mov 7 (.t 0)⟩, 0, []⟩,
  ⟨⟨none, .len 8 false (.t 7)⟩, 0, []⟩,
  ⟨⟨none, .bin 9 .lss (.t 6) (.t 8)⟩, 0, []⟩]

abbrev i_laws_markCellS_r3 : List RO := [
  ⟨⟨none, .mov 12 (.t 0)⟩, 0, []⟩,
  ⟨⟨none, .mov 13 (.t 5)⟩, 0, []⟩,
  ⟨⟨none, .mov 14 (.t 1)⟩, 0, []⟩,
  ⟨⟨none, .iaddr 15 2 (.t 12) (.t 13)⟩, 0, []⟩,
  ⟨⟨none, .faddr 16 0 (.t 15)⟩, 0, []⟩,
  ⟨⟨none, .store 1 [(.int .i64 0)] (.t 16) (.t 14)⟩, 0, []⟩]

abbrev i_laws_markCellS_r4 : List RO := [
  ⟨⟨none, .mov 17 (.t 1)⟩, 0, []⟩,
  ⟨⟨none, .bin 18 .add (.t 17) (.c (.one (.d (.int .i64 1))))⟩, 0, []⟩,
  ⟨⟨none, .mov 1 (.t 18)⟩, 0, []⟩]

abbrev i_laws_markCellS_r5 : List RO := [
  ⟨⟨none, .mov 19 (.t 0)⟩, 0, []⟩,
  ⟨⟨none, .mov 20 (.t 5)⟩, 0, []⟩,
  ⟨⟨none, .mov 21 (.t 1)⟩, 0, []⟩,
  ⟨⟨none, .iaddr 22 2 (.t 19) (.t 20)⟩, 0, []⟩,
  ⟨⟨none, .faddr 23 1 (.t 22)⟩, 0, []⟩,
  ⟨⟨none, .store 1 [(.int .i64 0)] (.t 23) (.t 21)⟩, 0, []⟩]

abbrev i_laws_markCellS_r6 : List RO := [
  ⟨⟨none, .mov 24 (.t 1)⟩, 0, []⟩,
  ⟨⟨none, .bin 25 .add (.t 24) (.c (.one (.d (.int .i64 1))))⟩, 0, []⟩,
  ⟨⟨none, .mov 1 (.t 25)⟩, 0, []⟩]

abbrev i_laws_markCellS_r7 : List RO := [
  ⟨⟨none, .mov 10 (.t 5)⟩, 0, []⟩,
  ⟨⟨none, .bin 11 .add (.t 10) (.c (.one (.d (.int .i64 1))))⟩, 0, []⟩,
  ⟨⟨none, .mov 5 (.t 11)⟩, 0, []⟩]

abbrev i_laws_markCellS_r8 : List RO := [
  ⟨⟨none, .mov 26 (.t 1)⟩, 0, []⟩,
  ⟨⟨none, .mov 4 (.t 26)⟩, 0, []⟩]

def i_laws_markCellS : IC := (.seq (.reg i_laws_markCellS_r0)
  (.seq (.seq (.reg i_laws_markCellS_r1)
  (.block 0 (.loop (.seq (.seq (.reg i_laws_markCellS_r2)
  (.cond (.t 9) .skip (.exit 0)))
  (.seq (.block 1 (.seq (.reg i_laws_markCellS_r3)
  (.seq (.reg i_laws_markCellS_r4)
  (.seq (.reg i_laws_markCellS_r5)
  (.reg i_laws_markCellS_r6)))))
  (.reg i_laws_markCellS_r7))))))
  (.seq (.reg i_laws_markCellS_r8)
  .ret)))

theorem i_laws_markCellS_ok : (Try.f21.body.bind fun c => toIC Try.prog 27 c []) = some (i_laws_markCellS, []) := by kernel_rfl

theorem i_laws_markCellS_fn {ds rs : List D} (hle : ds.length ≤ 27) (h : AW Try.prog 27 i_laws_markCellS (Ends [.tmp 4] rs) (init ds)) : Fn Try.prog k_laws_markCellS (lent ds) true rs :=
  Fn.intro' (by kernel_rfl) Try.func21 (by kernel_rfl) i_laws_markCellS_ok (by kernel_rfl) hle h.h

theorem i_laws_markCellS_fnB {ds rs : List D} (hle : ds.length ≤ 27) (h : AW Try.prog 27 i_laws_markCellS (EndsB [.tmp 4] rs) (init ds)) : Fn Try.prog k_laws_markCellS (lent ds) false rs :=
  Fn.introB' (by kernel_rfl) Try.func21 (by kernel_rfl) i_laws_markCellS_ok (by kernel_rfl) hle h.h

theorem i_laws_markCellS_fnM {ars : List Ar} {rs : List D} (hle : ars.length ≤ 27) (hfr : freshL ⟨fun _ => .top, fun _ => none, fun _ => .top⟩ ((argB 0 ars).2.map (·.1))) (hlt : ((argB 0 ars).2.map (·.1)).all (fun n => Nat.ble n 1999999) = true) (h : AW Try.prog 27 i_laws_markCellS (EndsM ars [.tmp 4] rs) (initM ars)) : Fn Try.prog k_laws_markCellS ars true rs :=
  Fn.introM' (by kernel_rfl) Try.func21 (by kernel_rfl) i_laws_markCellS_ok (by kernel_rfl) hle hfr hlt h.h

abbrev i_laws_markWriteS_r0 : List RO := [
  ⟨⟨none, .mov 4 (.c (.one (.d (.int .i64 0))))⟩, 0, []⟩]

abbrev i_laws_markWriteS_r1 : List RO := [
  ⟨⟨none, .mov 5 (.c (.one (.d (.int .i64 0))))⟩, 0, []⟩]

abbrev i_laws_markWriteS_r2 : List RO := [
  ⟨⟨none, .mov 6 (.t 5)⟩, 0, []⟩,
  ⟨⟨none, .mov 7 (.t 0)⟩, 0, []⟩,
  ⟨⟨none, .len 8 false (.t 7)⟩, 0, []⟩,
  ⟨⟨none, .bin 9 .lss (.t 6) (.t 8)⟩, 0, []⟩]

abbrev i_laws_markWriteS_r3 : List RO := [
  ⟨⟨none, .mov 12 (.t 0)⟩, 0, []⟩,
  ⟨⟨none, .mov 13 (.t 5)⟩, 0, []⟩,
  ⟨⟨none, .mov 14 (.t 1)⟩, 0, []⟩,
  ⟨⟨none, .iaddr 15 2 (.t 12) (.t 13)⟩, 0, []⟩,
  ⟨⟨none, .faddr 16 0 (.t 15)⟩, 0, []⟩,
  ⟨⟨none, .store 1 [(.int .i64 0)] (.t 16) (.t 14)⟩, 0, []⟩]

abbrev i_laws_markWriteS_r4 : List RO := [
  ⟨⟨none, .mov 17 (.t 1)⟩, 0, []⟩,
  ⟨⟨none, .bin 18 .add (.t 17) (.c (.one (.d (.int .i64 1))))⟩, 0, []⟩,
  ⟨⟨none, .mov 1 (.t 18)⟩, 0, []⟩]

abbrev i_laws_markWriteS_r5 : List RO := [
  ⟨⟨none, .mov 19 (.t 0)⟩, 0, []⟩,
  ⟨⟨none, .mov 20 (.t 5)⟩, 0, []⟩,
  ⟨⟨none, .mov 21 (.t 1)⟩, 0, []⟩,
  ⟨⟨none, .iaddr 22 2 (.t 19) (.t 20)⟩, 0, []⟩,
  ⟨⟨none, .faddr 23 1 (.t 22)⟩, 0, []⟩,
  ⟨⟨none, .store 1 [(.int .i64 0)] (.t 23) (.t 21)⟩, 0, []⟩]

abbrev i_laws_markWriteS_r6 : List RO := [
  ⟨⟨none, .mov 24 (.t 1)⟩, 0, []⟩,
  ⟨⟨none, .bin 25 .add (.t 24) (.c (.one (.d (.int .i64 1))))⟩, 0, []⟩,
  ⟨⟨none, .mov 1 (.t 25)⟩, 0, []⟩]

abbrev i_laws_markWriteS_r7 : List RO := [
  ⟨⟨none, .mov 10 (.t 5)⟩, 0, []⟩,
  ⟨⟨none, .bin 11 .add (.t 10) (.c (.one (.d (.int .i64 1))))⟩, 0, []⟩,
  ⟨⟨none, .mov 5 (.t 11)⟩, 0, []⟩]

abbrev i_laws_markWriteS_r8 : List RO := [
  ⟨⟨none, .mov 26 (.t 1)⟩, 0, []⟩,
  ⟨⟨none, .mov 4 (.t 26)⟩, 0, []⟩]

def i_laws_markWriteS : IC := (.seq (.reg i_laws_markWriteS_r0)
  (.seq (.seq (.reg i_laws_markWriteS_r1)
  (.block 0 (.loop (.seq (.seq (.reg i_laws_markWriteS_r2)
  (.cond (.t 9) .skip (.exit 0)))
  (.seq (.block 1 (.seq (.reg i_laws_markWriteS_r3)
  (.seq (.reg i_laws_markWriteS_r4)
  (.seq (.reg i_laws_markWriteS_r5)
  (.reg i_laws_markWriteS_r6)))))
  (.reg i_laws_markWriteS_r7))))))
  (.seq (.reg i_laws_markWriteS_r8)
  .ret)))

theorem i_laws_markWriteS_ok : (Try.f39.body.bind fun c => toIC Try.prog 27 c []) = some (i_laws_markWriteS, []) := by kernel_rfl

theorem i_laws_markWriteS_fn {ds rs : List D} (hle : ds.length ≤ 27) (h : AW Try.prog 27 i_laws_markWriteS (Ends [.tmp 4] rs) (init ds)) : Fn Try.prog k_laws_markWriteS (lent ds) true rs :=
  Fn.intro' (by kernel_rfl) Try.func39 (by kernel_rfl) i_laws_markWriteS_ok (by kernel_rfl) hle h.h

theorem i_laws_markWriteS_fnB {ds rs : List D} (hle : ds.length ≤ 27) (h : AW Try.prog 27 i_laws_markWriteS (EndsB [.tmp 4] rs) (init ds)) : Fn Try.prog k_laws_markWriteS (lent ds) false rs :=
  Fn.introB' (by kernel_rfl) Try.func39 (by kernel_rfl) i_laws_markWriteS_ok (by kernel_rfl) hle h.h

theorem i_laws_markWriteS_fnM {ars : List Ar} {rs : List D} (hle : ars.length ≤ 27) (hfr : freshL ⟨fun _ => .top, fun _ => none, fun _ => .top⟩ ((argB 0 ars).2.map (·.1))) (hlt : ((argB 0 ars).2.map (·.1)).all (fun n => Nat.ble n 1999999) = true) (h : AW Try.prog 27 i_laws_markWriteS (EndsM ars [.tmp 4] rs) (initM ars)) : Fn Try.prog k_laws_markWriteS ars true rs :=
  Fn.introM' (by kernel_rfl) Try.func39 (by kernel_rfl) i_laws_markWriteS_ok (by kernel_rfl) hle hfr hlt h.h

abbrev i_laws_heldCellS_r0 : List RO := [
  ⟨⟨none, .mov 4 (.c (.one (.d (.int .i64 0))))⟩, 0, []⟩]

abbrev i_laws_heldCellS_r1 : List RO := [
  ⟨⟨none, .mov 5 (.c (.one (.d (.int .i64 0))))⟩, 0, []⟩]

abbrev i_laws_heldCellS_r2 : List RO := [
  ⟨⟨none, .mov 6 (.t 5)⟩, 0, []⟩,
  ⟨⟨none, .mov 7 (.t 0)⟩, 0, []⟩,
  ⟨⟨none, .len 8 false (.t 7)⟩, 0, []⟩,
  ⟨⟨none, .bin 9 .lss (.t 6) (.t 8)⟩, 0, []⟩]

abbrev i_laws_heldCellS_r3 : List RO := [
  ⟨⟨none, .mov 12 (.t 0)⟩, 0, []⟩,
  ⟨⟨none, .mov 13 (.t 5)⟩, 0, []⟩,
  ⟨⟨none, .iaddr 14 2 (.t 12) (.t 13)⟩, 0, []⟩,
  ⟨⟨none, .faddr 15 0 (.t 14)⟩, 0, []⟩,
  ⟨⟨none, .load 16 none (.t 15)⟩, 0, []⟩,
  ⟨⟨none, .mov 17 (.t 1)⟩, 0, []⟩,
  ⟨⟨none, .bin 18 .neq (.t 16) (.t 17)⟩, 0, []⟩]

abbrev i_laws_heldCellS_r4 : List RO := [
  ⟨⟨none, .mov 4 (.c (.one (.d (.int .i64 (-1)))))⟩, 0, []⟩]

abbrev i_laws_heldCellS_r5 : List RO := [
  ⟨⟨none, .mov 19 (.t 1)⟩, 0, []⟩,
  ⟨⟨none, .bin 20 .add (.t 19) (.c (.one (.d (.int .i64 1))))⟩, 0, []⟩,
  ⟨⟨none, .mov 1 (.t 20)⟩, 0, []⟩]

abbrev i_laws_heldCellS_r6 : List RO := [
  ⟨⟨none, .mov 21 (.t 0)⟩, 0, []⟩,
  ⟨⟨none, .mov 22 (.t 5)⟩, 0, []⟩,
  ⟨⟨none, .iaddr 23 2 (.t 21) (.t 22)⟩, 0, []⟩,
  ⟨⟨none, .faddr 24 1 (.t 23)⟩, 0, []⟩,
  ⟨⟨none, .load 25 none (.t 24)⟩, 0, []⟩,
  ⟨⟨none, .mov 26 (.t 1)⟩, 0, []⟩,
  ⟨⟨none, .bin 27 .neq (.t 25) (.t 26)⟩, 0, []⟩]

abbrev i_laws_heldCellS_r7 : List RO := [
  ⟨⟨none, .mov 4 (.c (.one (.d (.int .i64 (-1)))))⟩, 0, []⟩]

abbrev i_laws_heldCellS_r8 : List RO := [
  ⟨⟨none, .mov 28 (.t 1)⟩, 0, []⟩,
  ⟨⟨none, .bin 29 .add (.t 28) (.c (.one (.d (.int .i64 1))))⟩, 0, []⟩,
  ⟨⟨none, .mov 1 (.t 29)⟩, 0, []⟩]

abbrev i_laws_heldCellS_r9 : List RO := [
  ⟨⟨none, .mov 10 (.t 5)⟩, 0, []⟩,
  ⟨⟨none, .bin 11 .add (.t 10) (.c (.one (.d (.int .i64 1))))⟩, 0, []⟩,
  ⟨⟨none, .mov 5 (.t 11)⟩, 0, []⟩]

abbrev i_laws_heldCellS_r10 : List RO := [
  ⟨⟨none, .mov 30 (.t 1)⟩, 0, []⟩,
  ⟨⟨none, .mov 4 (.t 30)⟩, 0, []⟩]

def i_laws_heldCellS : IC := (.seq (.reg i_laws_heldCellS_r0)
  (.seq (.seq (.reg i_laws_heldCellS_r1)
  (.block 0 (.loop (.seq (.seq (.reg i_laws_heldCellS_r2)
  (.cond (.t 9) .skip (.exit 0)))
  (.seq (.block 1 (.seq (.seq (.reg i_laws_heldCellS_r3)
  (.cond (.t 18) (.seq (.reg i_laws_heldCellS_r4)
  .ret) .skip))
  (.seq (.reg i_laws_heldCellS_r5)
  (.seq (.seq (.reg i_laws_heldCellS_r6)
  (.cond (.t 27) (.seq (.reg i_laws_heldCellS_r7)
  .ret) .skip))
  (.reg i_laws_heldCellS_r8)))))
  (.reg i_laws_heldCellS_r9))))))
  (.seq (.reg i_laws_heldCellS_r10)
  .ret)))

theorem i_laws_heldCellS_ok : (Try.f22.body.bind fun c => toIC Try.prog 31 c []) = some (i_laws_heldCellS, []) := by kernel_rfl

theorem i_laws_heldCellS_fn {ds rs : List D} (hle : ds.length ≤ 31) (h : AW Try.prog 31 i_laws_heldCellS (Ends [.tmp 4] rs) (init ds)) : Fn Try.prog k_laws_heldCellS (lent ds) true rs :=
  Fn.intro' (by kernel_rfl) Try.func22 (by kernel_rfl) i_laws_heldCellS_ok (by kernel_rfl) hle h.h

theorem i_laws_heldCellS_fnB {ds rs : List D} (hle : ds.length ≤ 31) (h : AW Try.prog 31 i_laws_heldCellS (EndsB [.tmp 4] rs) (init ds)) : Fn Try.prog k_laws_heldCellS (lent ds) false rs :=
  Fn.introB' (by kernel_rfl) Try.func22 (by kernel_rfl) i_laws_heldCellS_ok (by kernel_rfl) hle h.h

abbrev i_laws_FnExactStoreApply_r0 : List RO := [
  ⟨⟨none, .mov 4 (.c (.one (.d (.bool false))))⟩, 0, []⟩]

abbrev i_laws_FnExactStoreApply_r1 : List RO := [
  ⟨⟨none, .mov 5 (.c (.one (.d (.int .i64 1048576))))⟩, 0, []⟩]

abbrev i_laws_FnExactStoreApply_r2 : List RO := [
  ⟨⟨none, .mov 17 (.t 0)⟩, 0, []⟩,
  ⟨⟨none, .mov 18 (.t 5)⟩, 0, []⟩,
  ⟨⟨none, .callv 19 (.c (.one (.fn k_laws_szCellS []))) [(.t 17), (.t 18)]⟩, 0, []⟩,
  ⟨⟨none, .mov 5 (.t 19)⟩, 0, []⟩]

abbrev i_laws_FnExactStoreApply_r3 : List RO := [
  ⟨⟨none, .mov 20 (.t 5)⟩, 0, []⟩,
  ⟨⟨none, .bin 21 .lss (.t 20) (.c (.one (.d (.int .i64 0))))⟩, 0, []⟩]

abbrev i_laws_FnExactStoreApply_r4 : List RO := [
  ⟨⟨none, .mov 4 (.c (.one (.d (.bool true))))⟩, 0, []⟩]

abbrev i_laws_FnExactStoreApply_r5 : List RO := [
  ⟨⟨none, .mov 22 (.t 1)⟩, 0, []⟩,
  ⟨⟨none, .mov 23 (.t 5)⟩, 0, []⟩,
  ⟨⟨none, .callv 24 (.c (.one (.fn k_laws_szWriteS []))) [(.t 22), (.t 23)]⟩, 0, []⟩,
  ⟨⟨none, .mov 5 (.t 24)⟩, 0, []⟩]

abbrev i_laws_FnExactStoreApply_r6 : List RO := [
  ⟨⟨none, .mov 25 (.t 5)⟩, 0, []⟩,
  ⟨⟨none, .bin 26 .lss (.t 25) (.c (.one (.d (.int .i64 0))))⟩, 0, []⟩]

abbrev i_laws_FnExactStoreApply_r7 : List RO := [
  ⟨⟨none, .mov 4 (.c (.one (.d (.bool true))))⟩, 0, []⟩]

abbrev i_laws_FnExactStoreApply_r8 : List RO := [
  ⟨⟨none, .mov 28 (.t 0)⟩, 0, []⟩,
  ⟨⟨none, .callv 29 (.c (.one (.fn k_laws_toCellS []))) [(.t 28)]⟩, 0, []⟩,
  ⟨⟨none, .mov 30 (.t 1)⟩, 0, []⟩,
  ⟨⟨none, .callv 31 (.c (.one (.fn k_laws_toWriteS []))) [(.t 30)]⟩, 0, []⟩,
  ⟨⟨none, .callv 32 (.c (.one (.fn k_spec_StoreApply []))) [(.t 29), (.t 31)]⟩, 0, []⟩,
  ⟨⟨none, .mov 27 (.t 32)⟩, 0, []⟩,
  ⟨⟨none, .ext 33 (.t 27) 0⟩, 0, []⟩,
  ⟨⟨none, .ext 34 (.t 27) 1⟩, 0, []⟩,
  ⟨⟨none, .mov 6 (.t 33)⟩, 0, []⟩,
  ⟨⟨none, .mov 7 (.t 34)⟩, 0, []⟩]

abbrev i_laws_FnExactStoreApply_r9 : List RO := [
  ⟨⟨none, .mov 35 (.t 0)⟩, 0, []⟩,
  ⟨⟨none, .callv 36 (.c (.one (.fn k_laws_toCellS []))) [(.t 35)]⟩, 0, []⟩,
  ⟨⟨none, .mov 8 (.t 36)⟩, 0, []⟩]

abbrev i_laws_FnExactStoreApply_r10 : List RO := [
  ⟨⟨none, .mov 37 (.t 1)⟩, 0, []⟩,
  ⟨⟨none, .callv 38 (.c (.one (.fn k_laws_toWriteS []))) [(.t 37)]⟩, 0, []⟩,
  ⟨⟨none, .mov 9 (.t 38)⟩, 0, []⟩]

abbrev i_laws_FnExactStoreApply_r11 : List RO := [
  ⟨⟨none, .mov 40 (.t 8)⟩, 0, []⟩,
  ⟨⟨none, .mov 41 (.t 9)⟩, 0, []⟩,
  ⟨⟨none, .callv 42 (.c (.one (.fn k_impl_StoreApply []))) [(.t 40), (.t 41)]⟩, 0, []⟩,
  ⟨⟨none, .mov 39 (.t 42)⟩, 0, []⟩,
  ⟨⟨none, .ext 43 (.t 39) 0⟩, 0, []⟩,
  ⟨⟨none, .ext 44 (.t 39) 1⟩, 0, []⟩,
  ⟨⟨none, .mov 10 (.t 43)⟩, 0, []⟩,
  ⟨⟨none, .mov 11 (.t 44)⟩, 0, []⟩]

abbrev i_laws_FnExactStoreApply_r12 : List RO := [
  ⟨⟨none, .mov 45 (.t 10)⟩, 0, []⟩,
  ⟨⟨none, .mov 46 (.t 6)⟩, 0, []⟩,
  ⟨⟨none, .callv 47 (.c (.one (.fn k_laws_eqCellS []))) [(.t 45), (.t 46)]⟩, 0, []⟩,
  ⟨⟨none, .inv 48 (.t 47)⟩, 0, []⟩,
  ⟨⟨none, .mov 49 (.t 48)⟩, 0, []⟩,
  ⟨⟨some (49, false), .mov 50 (.t 11)⟩, 0, []⟩,
  ⟨⟨some (49, false), .mov 51 (.t 7)⟩, 0, []⟩,
  ⟨⟨some (49, false), .beq 52 true (.t 50) (.t 51)⟩, 0, []⟩,
  ⟨⟨none, .pick 53 (.t 49) (.c (.one (.d (.bool true)))) (.t 52)⟩, 0, []⟩]

abbrev i_laws_FnExactStoreApply_r13 : List RO := [
  ⟨⟨none, .mov 4 (.c (.one (.d (.bool false))))⟩, 0, []⟩]

abbrev i_laws_FnExactStoreApply_r14 : List RO := [
  ⟨⟨none, .mov 54 (.t 8)⟩, 0, []⟩,
  ⟨⟨none, .mov 55 (.t 0)⟩, 0, []⟩,
  ⟨⟨none, .callv 56 (.c (.one (.fn k_laws_toCellS []))) [(.t 55)]⟩, 0, []⟩,
  ⟨⟨none, .callv 57 (.c (.one (.fn k_laws_eqCellS []))) [(.t 54), (.t 56)]⟩, 0, []⟩,
  ⟨⟨none, .inv 58 (.t 57)⟩, 0, []⟩]

abbrev i_laws_FnExactStoreApply_r15 : List RO := [
  ⟨⟨none, .mov 4 (.c (.one (.d (.bool false))))⟩, 0, []⟩]

abbrev i_laws_FnExactStoreApply_r16 : List RO := [
  ⟨⟨none, .mov 59 (.t 9)⟩, 0, []⟩,
  ⟨⟨none, .mov 60 (.t 1)⟩, 0, []⟩,
  ⟨⟨none, .callv 61 (.c (.one (.fn k_laws_toWriteS []))) [(.t 60)]⟩, 0, []⟩,
  ⟨⟨none, .callv 62 (.c (.one (.fn k_laws_eqWriteS []))) [(.t 59), (.t 61)]⟩, 0, []⟩,
  ⟨⟨none, .inv 63 (.t 62)⟩, 0, []⟩]

abbrev i_laws_FnExactStoreApply_r17 : List RO := [
  ⟨⟨none, .mov 4 (.c (.one (.d (.bool false))))⟩, 0, []⟩]

abbrev i_laws_FnExactStoreApply_r18 : List RO := [
  ⟨⟨none, .mov 12 (.c (.one (.d (.int .i64 1))))⟩, 0, []⟩]

abbrev i_laws_FnExactStoreApply_r19 : List RO := [
  ⟨⟨none, .mov 64 (.t 8)⟩, 0, []⟩,
  ⟨⟨none, .mov 65 (.t 12)⟩, 0, []⟩,
  ⟨⟨none, .callv 66 (.c (.one (.fn k_laws_markCellS []))) [(.t 64), (.t 65)]⟩, 0, []⟩,
  ⟨⟨none, .mov 12 (.t 66)⟩, 0, []⟩]

abbrev i_laws_FnExactStoreApply_r20 : List RO := [
  ⟨⟨none, .mov 67 (.t 9)⟩, 0, []⟩,
  ⟨⟨none, .mov 68 (.t 12)⟩, 0, []⟩,
  ⟨⟨none, .callv 69 (.c (.one (.fn k_laws_markWriteS []))) [(.t 67), (.t 68)]⟩, 0, []⟩,
  ⟨⟨none, .mov 12 (.t 69)⟩, 0, []⟩]

abbrev i_laws_FnExactStoreApply_r21 : List RO := [
  ⟨⟨none, .mov 70 (.t 12)⟩, 0, []⟩,
  ⟨⟨none, .bin 71 .lss (.t 70) (.c (.one (.d (.int .i64 0))))⟩, 0, []⟩,
  ⟨⟨none, .mov 72 (.t 71)⟩, 0, []⟩,
  ⟨⟨some (72, false), .mov 73 (.t 10)⟩, 0, []⟩,
  ⟨⟨some (72, false), .mov 74 (.t 6)⟩, 0, []⟩,
  ⟨⟨some (72, false), .callv 75 (.c (.one (.fn k_laws_eqCellS []))) [(.t 73), (.t 74)]⟩, 0, []⟩,
  ⟨⟨some (72, false), .inv 76 (.t 75)⟩, 0, []⟩,
  ⟨⟨none, .pick 77 (.t 72) (.c (.one (.d (.bool true)))) (.t 76)⟩, 0, []⟩,
  ⟨⟨none, .mov 78 (.t 77)⟩, 0, []⟩,
  ⟨⟨some (78, false), .mov 79 (.t 11)⟩, 0, []⟩,
  ⟨⟨some (78, false), .mov 80 (.t 7)⟩, 0, []⟩,
  ⟨⟨some (78, false), .beq 81 true (.t 79) (.t 80)⟩, 0, []⟩,
  ⟨⟨none, .pick 82 (.t 78) (.c (.one (.d (.bool true)))) (.t 81)⟩, 0, []⟩]

abbrev i_laws_FnExactStoreApply_r22 : List RO := [
  ⟨⟨none, .mov 4 (.c (.one (.d (.bool false))))⟩, 0, []⟩]

abbrev i_laws_FnExactStoreApply_r23 : List RO := [
  ⟨⟨none, .mov 13 (.c (.one (.d (.int .i64 1))))⟩, 0, []⟩]

abbrev i_laws_FnExactStoreApply_r24 : List RO := [
  ⟨⟨none, .mov 83 (.t 10)⟩, 0, []⟩,
  ⟨⟨none, .mov 84 (.t 13)⟩, 0, []⟩,
  ⟨⟨none, .callv 85 (.c (.one (.fn k_laws_markCellS []))) [(.t 83), (.t 84)]⟩, 0, []⟩,
  ⟨⟨none, .mov 13 (.t 85)⟩, 0, []⟩]

abbrev i_laws_FnExactStoreApply_r25 : List RO := [
  ⟨⟨none, .mov 14 (.c (.one (.d (.int .i64 1))))⟩, 0, []⟩]

abbrev i_laws_FnExactStoreApply_r26 : List RO := [
  ⟨⟨none, .mov 86 (.t 10)⟩, 0, []⟩,
  ⟨⟨none, .mov 87 (.t 14)⟩, 0, []⟩,
  ⟨⟨none, .callv 88 (.c (.one (.fn k_laws_heldCellS []))) [(.t 86), (.t 87)]⟩, 0, []⟩,
  ⟨⟨none, .mov 14 (.t 88)⟩, 0, []⟩]

abbrev i_laws_FnExactStoreApply_r27 : List RO := [
  ⟨⟨none, .mov 89 (.t 14)⟩, 0, []⟩,
  ⟨⟨none, .bin 90 .lss (.t 89) (.c (.one (.d (.int .i64 0))))⟩, 0, []⟩]

abbrev i_laws_FnExactStoreApply_r28 : List RO := [
  ⟨⟨none, .mov 4 (.c (.one (.d (.bool false))))⟩, 0, []⟩]

abbrev i_laws_FnExactStoreApply_r29 : List RO := [
  ⟨⟨none, .mov 91 (.t 14)⟩, 0, []⟩,
  ⟨⟨none, .mov 92 (.t 13)⟩, 0, []⟩,
  ⟨⟨none, .bin 93 .neq (.t 91) (.t 92)⟩, 0, []⟩]

abbrev i_laws_FnExactStoreApply_r30 : List RO := [
  ⟨⟨none, .mov 4 (.c (.one (.d (.bool false))))⟩, 0, []⟩]

abbrev i_laws_FnExactStoreApply_r31 : List RO := [
  ⟨⟨none, .mov 95 (.t 0)⟩, 0, []⟩,
  ⟨⟨none, .callv 96 (.c (.one (.fn k_laws_toCellS []))) [(.t 95)]⟩, 0, []⟩,
  ⟨⟨none, .mov 97 (.t 1)⟩, 0, []⟩,
  ⟨⟨none, .callv 98 (.c (.one (.fn k_laws_toWriteS []))) [(.t 97)]⟩, 0, []⟩,
  ⟨⟨none, .callv 99 (.c (.one (.fn k_impl_StoreApply []))) [(.t 96), (.t 98)]⟩, 0, []⟩,
  ⟨⟨none, .mov 94 (.t 99)⟩, 0, []⟩,
  ⟨⟨none, .ext 100 (.t 94) 0⟩, 0, []⟩,
  ⟨⟨none, .ext 101 (.t 94) 1⟩, 0, []⟩,
  ⟨⟨none, .mov 15 (.t 100)⟩, 0, []⟩,
  ⟨⟨none, .mov 16 (.t 101)⟩, 0, []⟩]

abbrev i_laws_FnExactStoreApply_r32 : List RO := [
  ⟨⟨none, .mov 102 (.t 15)⟩, 0, []⟩,
  ⟨⟨none, .mov 103 (.t 6)⟩, 0, []⟩,
  ⟨⟨none, .callv 104 (.c (.one (.fn k_laws_eqCellS []))) [(.t 102), (.t 103)]⟩, 0, []⟩,
  ⟨⟨none, .inv 105 (.t 104)⟩, 0, []⟩,
  ⟨⟨none, .mov 106 (.t 105)⟩, 0, []⟩,
  ⟨⟨some (106, false), .mov 107 (.t 16)⟩, 0, []⟩,
  ⟨⟨some (106, false), .mov 108 (.t 7)⟩, 0, []⟩,
  ⟨⟨some (106, false), .beq 109 true (.t 107) (.t 108)⟩, 0, []⟩,
  ⟨⟨none, .pick 110 (.t 106) (.c (.one (.d (.bool true)))) (.t 109)⟩, 0, []⟩]

abbrev i_laws_FnExactStoreApply_r33 : List RO := [
  ⟨⟨none, .mov 4 (.c (.one (.d (.bool false))))⟩, 0, []⟩]

abbrev i_laws_FnExactStoreApply_r34 : List RO := [
  ⟨⟨none, .mov 14 (.c (.one (.d (.int .i64 1))))⟩, 0, []⟩]

abbrev i_laws_FnExactStoreApply_r35 : List RO := [
  ⟨⟨none, .mov 111 (.t 10)⟩, 0, []⟩,
  ⟨⟨none, .mov 112 (.t 14)⟩, 0, []⟩,
  ⟨⟨none, .callv 113 (.c (.one (.fn k_laws_heldCellS []))) [(.t 111), (.t 112)]⟩, 0, []⟩,
  ⟨⟨none, .mov 14 (.t 113)⟩, 0, []⟩]

abbrev i_laws_FnExactStoreApply_r36 : List RO := [
  ⟨⟨none, .mov 114 (.t 14)⟩, 0, []⟩,
  ⟨⟨none, .bin 115 .lss (.t 114) (.c (.one (.d (.int .i64 0))))⟩, 0, []⟩]

abbrev i_laws_FnExactStoreApply_r37 : List RO := [
  ⟨⟨none, .mov 4 (.c (.one (.d (.bool false))))⟩, 0, []⟩]

abbrev i_laws_FnExactStoreApply_r38 : List RO := [
  ⟨⟨none, .mov 116 (.t 14)⟩, 0, []⟩,
  ⟨⟨none, .mov 117 (.t 13)⟩, 0, []⟩,
  ⟨⟨none, .bin 118 .neq (.t 116) (.t 117)⟩, 0, []⟩]

abbrev i_laws_FnExactStoreApply_r39 : List RO := [
  ⟨⟨none, .mov 4 (.c (.one (.d (.bool false))))⟩, 0, []⟩]

abbrev i_laws_FnExactStoreApply_r40 : List RO := [
  ⟨⟨none, .mov 4 (.c (.one (.d (.bool true))))⟩, 0, []⟩]

def i_laws_FnExactStoreApply : IC := (.seq (.reg i_laws_FnExactStoreApply_r0)
  (.seq (.reg i_laws_FnExactStoreApply_r1)
  (.seq (.reg i_laws_FnExactStoreApply_r2)
  (.seq (.seq (.reg i_laws_FnExactStoreApply_r3)
  (.cond (.t 21) (.seq (.reg i_laws_FnExactStoreApply_r4)
  .ret) .skip))
  (.seq (.reg i_laws_FnExactStoreApply_r5)
  (.seq (.seq (.reg i_laws_FnExactStoreApply_r6)
  (.cond (.t 26) (.seq (.reg i_laws_FnExactStoreApply_r7)
  .ret) .skip))
  (.seq (.reg i_laws_FnExactStoreApply_r8)
  (.seq (.reg i_laws_FnExactStoreApply_r9)
  (.seq (.reg i_laws_FnExactStoreApply_r10)
  (.seq (.reg i_laws_FnExactStoreApply_r11)
  (.seq (.seq (.reg i_laws_FnExactStoreApply_r12)
  (.cond (.t 53) (.seq (.reg i_laws_FnExactStoreApply_r13)
  .ret) .skip))
  (.seq (.seq (.reg i_laws_FnExactStoreApply_r14)
  (.cond (.t 58) (.seq (.reg i_laws_FnExactStoreApply_r15)
  .ret) .skip))
  (.seq (.seq (.reg i_laws_FnExactStoreApply_r16)
  (.cond (.t 63) (.seq (.reg i_laws_FnExactStoreApply_r17)
  .ret) .skip))
  (.seq (.reg i_laws_FnExactStoreApply_r18)
  (.seq (.reg i_laws_FnExactStoreApply_r19)
  (.seq (.reg i_laws_FnExactStoreApply_r20)
  (.seq (.seq (.reg i_laws_FnExactStoreApply_r21)
  (.cond (.t 82) (.seq (.reg i_laws_FnExactStoreApply_r22)
  .ret) .skip))
  (.seq (.reg i_laws_FnExactStoreApply_r23)
  (.seq (.reg i_laws_FnExactStoreApply_r24)
  (.seq (.reg i_laws_FnExactStoreApply_r25)
  (.seq (.reg i_laws_FnExactStoreApply_r26)
  (.seq (.seq (.reg i_laws_FnExactStoreApply_r27)
  (.cond (.t 90) (.seq (.reg i_laws_FnExactStoreApply_r28)
  .ret) .skip))
  (.seq (.seq (.reg i_laws_FnExactStoreApply_r29)
  (.cond (.t 93) (.seq (.reg i_laws_FnExactStoreApply_r30)
  .ret) .skip))
  (.seq (.reg i_laws_FnExactStoreApply_r31)
  (.seq (.seq (.reg i_laws_FnExactStoreApply_r32)
  (.cond (.t 110) (.seq (.reg i_laws_FnExactStoreApply_r33)
  .ret) .skip))
  (.seq (.reg i_laws_FnExactStoreApply_r34)
  (.seq (.reg i_laws_FnExactStoreApply_r35)
  (.seq (.seq (.reg i_laws_FnExactStoreApply_r36)
  (.cond (.t 115) (.seq (.reg i_laws_FnExactStoreApply_r37)
  .ret) .skip))
  (.seq (.seq (.reg i_laws_FnExactStoreApply_r38)
  (.cond (.t 118) (.seq (.reg i_laws_FnExactStoreApply_r39)
  .ret) .skip))
  (.seq (.reg i_laws_FnExactStoreApply_r40)
  .ret))))))))))))))))))))))))))))))

theorem i_laws_FnExactStoreApply_ok : (Try.f7.body.bind fun c => toIC Try.prog 119 c []) = some (i_laws_FnExactStoreApply, []) := by kernel_rfl

theorem i_laws_FnExactStoreApply_fn {ds rs : List D} (hle : ds.length ≤ 119) (h : AW Try.prog 119 i_laws_FnExactStoreApply (Ends [.tmp 4] rs) (init ds)) : Fn Try.prog k_laws_FnExactStoreApply (lent ds) true rs :=
  Fn.intro' (by kernel_rfl) Try.func7 (by kernel_rfl) i_laws_FnExactStoreApply_ok (by kernel_rfl) hle h.h

theorem i_laws_FnExactStoreApply_fnB {ds rs : List D} (hle : ds.length ≤ 119) (h : AW Try.prog 119 i_laws_FnExactStoreApply (EndsB [.tmp 4] rs) (init ds)) : Fn Try.prog k_laws_FnExactStoreApply (lent ds) false rs :=
  Fn.introB' (by kernel_rfl) Try.func7 (by kernel_rfl) i_laws_FnExactStoreApply_ok (by kernel_rfl) hle h.h

end Go.AW
