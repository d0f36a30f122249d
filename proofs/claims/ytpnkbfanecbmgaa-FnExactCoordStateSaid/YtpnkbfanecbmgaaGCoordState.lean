/- The compact code of functions of the program, and that it is the program's: made by a program of the prover's own (tool/GenIC.lean). Conditions: none. -/
import Derived.Test.YtpnkbfanecbmgaaY
import Derived.Test.YtpnkbfanecbmgaaRows
import Derived.KernelRfl
set_option linter.unusedVariables false
set_option maxRecDepth 100000
namespace Go.AW
open Go.Proofs

abbrev k_gosem_cut_init : Nat := 2
abbrev k_laws_FnExactSharesOk : Nat := 3
abbrev k_laws_FnExactAtlasOk : Nat := 4
abbrev k_laws_FnExactAtlasOwner : Nat := 5
abbrev k_laws_FnExactClientOk : Nat := 6
abbrev k_laws_FnExactCoordOk : Nat := 7
abbrev k_laws_FnExactCoordState : Nat := 8
abbrev k_laws_FnExactCoordFind : Nat := 9
abbrev k_laws_FnExactLetterOk : Nat := 10
abbrev k_laws_FnMoves15 : Nat := 11
abbrev k_laws_FnBegunOnce : Nat := 12
abbrev k_laws_FnWaits : Nat := 13
abbrev k_laws_szShareS : Nat := 14
abbrev k_spec_SharesOk : Nat := 15
abbrev k_laws_toShareS : Nat := 16
abbrev k_impl_SharesOk : Nat := 17
abbrev k_laws_eqShareS : Nat := 18
abbrev k_laws_szAtlas : Nat := 19
abbrev k_spec_AtlasOk : Nat := 20
abbrev k_laws_toAtlas : Nat := 21
abbrev k_impl_AtlasOk : Nat := 22
abbrev k_laws_eqAtlas : Nat := 23
abbrev k_spec_AtlasOwner : Nat := 24
abbrev k_impl_AtlasOwner : Nat := 25
abbrev k_laws_szClient : Nat := 26
abbrev k_spec_ClientOk : Nat := 27
abbrev k_laws_toClient : Nat := 28
abbrev k_impl_ClientOk : Nat := 29
abbrev k_laws_eqClient : Nat := 30
abbrev k_laws_szCoord : Nat := 31
abbrev k_spec_CoordOk : Nat := 32
abbrev k_laws_toCoord : Nat := 33
abbrev k_impl_CoordOk : Nat := 34
abbrev k_laws_eqCoord : Nat := 35
abbrev k_spec_CoordState : Nat := 36
abbrev k_impl_CoordState : Nat := 37
abbrev k_spec_CoordFind : Nat := 38
abbrev k_impl_CoordFind : Nat := 39
abbrev k_laws_szLetter : Nat := 40
abbrev k_spec_LetterOk : Nat := 41
abbrev k_laws_toLetter : Nat := 42
abbrev k_impl_LetterOk : Nat := 43
abbrev k_laws_eqLetter : Nat := 44
abbrev k_laws_big : Nat := 45
abbrev k_spec_DrawAtlasMove : Nat := 46
abbrev k_impl_AtlasMove : Nat := 47
abbrev k_spec_AtlasMove : Nat := 48
abbrev k_impl_MoveRank : Nat := 49
abbrev k_impl_AtlasInstalled : Nat := 50
abbrev k_impl_AtlasFrozen : Nat := 51
abbrev k_laws_at : Nat := 52
abbrev k_spec_AtlasInstalled : Nat := 53
abbrev k_impl_AtlasGone : Nat := 54
abbrev k_spec_DrawCoordBegin : Nat := 55
abbrev k_impl_CoordBegin : Nat := 56
abbrev k_spec_CoordBegin : Nat := 57
abbrev k_impl_CoordWaits : Nat := 58
abbrev k_spec_CoordWaits : Nat := 59
abbrev k_spec_DrawLocksWaits : Nat := 60
abbrev k_impl_LocksWaits : Nat := 61
abbrev k_impl_LockAsk : Nat := 62
abbrev k_spec_LocksWaits : Nat := 63
abbrev k_laws_sameInts : Nat := 64
abbrev k_laws_within : Nat := 65
abbrev k_impl_LocksOf : Nat := 66
abbrev k_laws_szShare : Nat := 67
abbrev k_spec_l1In : Nat := 68
abbrev k_spec_WritesOk : Nat := 69
abbrev k_spec_RangeOk : Nat := 70
abbrev k_laws_toShare : Nat := 71
abbrev k_impl_isGroup : Nat := 72
abbrev k_impl_readsOk : Nat := 73
abbrev k_impl_WritesOk : Nat := 74
abbrev k_impl_from : Nat := 75
abbrev k_laws_eqShare : Nat := 76
abbrev k_laws_szPartS : Nat := 77
abbrev k_laws_szMove : Nat := 78
abbrev k_spec_PartsOk : Nat := 79
abbrev k_spec_StoreOk : Nat := 80
abbrev k_spec_l15Group : Nat := 81
abbrev k_spec_l15In : Nat := 82
abbrev k_laws_toPartS : Nat := 83
abbrev k_laws_toMove : Nat := 84
abbrev k_impl_PartsOk : Nat := 85
abbrev k_impl_moveOk : Nat := 86
abbrev k_laws_eqPartS : Nat := 87
abbrev k_laws_eqMove : Nat := 88
abbrev k_spec_PartAt : Nat := 89
abbrev k_impl_partAt : Nat := 90
abbrev k_laws_szWriteS : Nat := 91
abbrev k_laws_szSeenS : Nat := 92
abbrev k_spec_l1Whole : Nat := 93
abbrev k_spec_l16RangeOk : Nat := 94
abbrev k_spec_l12Tx : Nat := 95
abbrev k_spec_l16SeenOk : Nat := 96
abbrev k_laws_toWriteS : Nat := 97
abbrev k_laws_toSeenS : Nat := 98
abbrev k_impl_isWhole : Nat := 99
abbrev k_impl_RangeOk : Nat := 100
abbrev k_impl_isTx : Nat := 101
abbrev k_slices_ContainsFunc___impl_Seen_impl_Seen_ : Nat := 102
abbrev k_impl_ClientOk_1 : Nat := 103
abbrev k__impl_Seen_keys : Nat := 104
abbrev k_laws_eqWriteS : Nat := 105
abbrev k_laws_eqSeenS : Nat := 106
abbrev k_laws_szRecS : Nat := 107
abbrev k_laws_szIntS : Nat := 108
abbrev k_spec_l14RecOk : Nat := 109
abbrev k_spec_l12Has : Nat := 110
abbrev k_laws_toRecS : Nat := 111
abbrev k_laws_toIntS : Nat := 112
abbrev k_impl_recOk : Nat := 113
abbrev k_slices_ContainsFunc___impl_Rec_impl_Rec_ : Nat := 114
abbrev k_impl_CoordOk_1 : Nat := 115
abbrev k_slices_Contains___int_int_ : Nat := 116
abbrev k_laws_eqRecS : Nat := 117
abbrev k_laws_eqIntS : Nat := 118
abbrev k_impl_isRec : Nat := 119
abbrev k_slices_IndexFunc___impl_Rec_impl_Rec_ : Nat := 120
abbrev k_impl_CoordFind_1 : Nat := 121
abbrev k_laws_szRangeS : Nat := 122
abbrev k_laws_szCellS : Nat := 123
abbrev k_spec_l16Has : Nat := 124
abbrev k_spec_l4Num : Nat := 125
abbrev k_spec_l4In : Nat := 126
abbrev k_spec_l14Votes : Nat := 127
abbrev k_laws_toRangeS : Nat := 128
abbrev k_laws_toCellS : Nat := 129
abbrev k_impl_letterHas : Nat := 130
abbrev k_impl_numRight : Nat := 131
abbrev k_impl_has : Nat := 132
abbrev k_impl_StoreOk : Nat := 133
abbrev k_impl_votes : Nat := 134
abbrev k_laws_eqRangeS : Nat := 135
abbrev k_laws_eqCellS : Nat := 136
abbrev k_spec_l1New : Nat := 137
abbrev k_spec_l15DrawAny : Nat := 138
abbrev k_spec_l1Size : Nat := 139
abbrev k_spec_l10DrawKey : Nat := 140
abbrev k_spec_l1Below : Nat := 141
abbrev k_impl_copyAtlas : Nat := 142
abbrev k_spec_l15Copy : Nat := 143
abbrev k_impl_RangeIn : Nat := 144
abbrev k__impl_Move_keys : Nat := 145
abbrev k_impl_cellsIn : Nat := 146
abbrev k_slices_Clone___impl_Cell_impl_Cell_ : Nat := 147
abbrev k_spec_MoveRank : Nat := 148
abbrev k_spec_l14DrawAny : Nat := 149
abbrev k_spec_l14DrawReq : Nat := 150
abbrev k_impl_isReq : Nat := 151
abbrev k_impl_copyCoord : Nat := 152
abbrev k_spec_l14Copy : Nat := 153
abbrev k_spec_l12DrawAsk : Nat := 154
abbrev k_impl_clashing : Nat := 155
abbrev k_impl_LocksOk : Nat := 156
abbrev k_impl_isMode : Nat := 157
abbrev k_slices_Clone___impl_Lock_impl_Lock_ : Nat := 158
abbrev k_impl_LocksHold : Nat := 159
abbrev k_slices_DeleteFunc___impl_Lock_impl_Lock_ : Nat := 160
abbrev k_impl_LockAsk_1 : Nat := 161
abbrev k_spec_l12Right : Nat := 162
abbrev k_spec_l12Holds : Nat := 163
abbrev k_spec_l12Foes : Nat := 164
abbrev k_impl_LocksOf_1 : Nat := 165
abbrev k_spec_l10Key : Nat := 166
abbrev k_slices_ContainsFunc___impl_Range_impl_Range_ : Nat := 167
abbrev k_impl_readsOk_1 : Nat := 168
abbrev k_impl_isKey : Nat := 169
abbrev k_impl_isAnswer : Nat := 170
abbrev k_laws_toPart : Nat := 171
abbrev k_laws_eqPart : Nat := 172
abbrev k_slices_IndexFunc___impl_Part_impl_Part_ : Nat := 173
abbrev k_impl_partAt_1 : Nat := 174
abbrev k_laws_toWrite : Nat := 175
abbrev k_laws_toSeen : Nat := 176
abbrev k_slices_IndexFunc___impl_Seen_impl_Seen_ : Nat := 177
abbrev k_laws_eqWrite : Nat := 178
abbrev k_laws_eqSeen : Nat := 179
abbrev k_laws_szRec : Nat := 180
abbrev k_laws_toRec : Nat := 181
abbrev k_slices_Index___int_int_ : Nat := 182
abbrev k_laws_eqRec : Nat := 183
abbrev k_laws_toRange : Nat := 184
abbrev k_laws_toCell : Nat := 185
abbrev k_slices_ContainsFunc___impl_Share_impl_Share_ : Nat := 186
abbrev k_impl_votes_1 : Nat := 187
abbrev k_laws_eqRange : Nat := 188
abbrev k_laws_eqCell : Nat := 189
abbrev k_spec_l15DrawAtlas : Nat := 190
abbrev k_spec_l1PickInt : Nat := 191
abbrev k_spec_l10DrawAny : Nat := 192
abbrev k_spec_l11DrawAny : Nat := 193
abbrev k_spec_l1Once : Nat := 194
abbrev k_spec_l1Byte : Nat := 195
abbrev k_slices_Clone___impl_Part_impl_Part_ : Nat := 196
abbrev k_slices_ContainsFunc___impl_Cell_impl_Cell_ : Nat := 197
abbrev k_impl_cellsIn_1 : Nat := 198
abbrev k__impl_Range_has : Nat := 199
abbrev k_spec_l1Min : Nat := 200
abbrev k_spec_l14DrawCoord : Nat := 201
abbrev k_slices_Clone___int_int_ : Nat := 202
abbrev k_impl_copyShares : Nat := 203
abbrev k_spec_l14Shares : Nat := 204
abbrev k_spec_l12DrawAny : Nat := 205
abbrev k_spec_l10DrawRange : Nat := 206
abbrev k_impl_clash : Nat := 207
abbrev k_impl_inserted : Nat := 208
abbrev k__impl_Lock_keys : Nat := 209
abbrev k_slices_ContainsFunc___impl_Lock_impl_Lock_ : Nat := 210
abbrev k_impl_LocksOk_1 : Nat := 211
abbrev k_impl_LocksHold_1 : Nat := 212
abbrev k_slices_IndexFunc___impl_Lock_impl_Lock_ : Nat := 213
abbrev k_spec_LocksOk : Nat := 214
abbrev k_spec_l12Mode : Nat := 215
abbrev k_spec_RangeIn : Nat := 216
abbrev k_spec_l12Range : Nat := 217
abbrev k_spec_l12Clash : Nat := 218
abbrev k_spec_l12Put : Nat := 219
abbrev k_slices_IndexFunc___impl_Range_impl_Range_ : Nat := 220
abbrev k_slices_IndexFunc___impl_Share_impl_Share_ : Nat := 221
abbrev k_spec_NewAtlas : Nat := 222
abbrev k_spec_l10DrawParts : Nat := 223
abbrev k_spec_AtlasSplit : Nat := 224
abbrev k_spec_AtlasFrozen : Nat := 225
abbrev k_spec_StoreScan : Nat := 226
abbrev k_spec_l11DrawStore : Nat := 227
abbrev k_spec_AtlasGone : Nat := 228
abbrev k_slices_IndexFunc___impl_Cell_impl_Cell_ : Nat := 229
abbrev k_spec_CoordCommit : Nat := 230
abbrev k_spec_l14DrawShares : Nat := 231
abbrev k_spec_CoordVote : Nat := 232
abbrev k_spec_CoordStop : Nat := 233
abbrev k_slices_Clone___impl_Range_impl_Range_ : Nat := 234
abbrev k_slices_Clone___impl_Write_impl_Write_ : Nat := 235
abbrev k_spec_l12DrawLocks : Nat := 236
abbrev k_impl_meets : Nat := 237
abbrev k_slices_BinarySearch___int_int_ : Nat := 238
abbrev k_slices_Insert___int_int_ : Nat := 239
abbrev k_spec_RangeMeet : Nat := 240
abbrev k_spec_SplitAt : Nat := 241
abbrev k_spec_GiveTo : Nat := 242
abbrev k_spec_l11Scan : Nat := 243
abbrev k_spec_l13DrawWrites : Nat := 244
abbrev k_spec_l13DrawKeys : Nat := 245
abbrev k_spec_LockAsk : Nat := 246
abbrev k_cmp_Less_int_ : Nat := 247
abbrev k_slices_isNaN_int_ : Nat := 248
abbrev k_slices_rotateRight_int_ : Nat := 250
abbrev k_spec_l1Max : Nat := 251
abbrev k_spec_l12Keep : Nat := 252
abbrev k_cmp_isNaN_int_ : Nat := 253
abbrev k_slices_rotateLeft_int_ : Nat := 254
abbrev k_slices_Reverse___int_int_ : Nat := 255
abbrev i_laws_szRangeS_r0 : List RO := [
  ⟨⟨none, .mov 4 (.c (.one (.d (.int .i64 0))))⟩, 0, []⟩]

abbrev i_laws_szRangeS_r1 : List RO := [
  ⟨⟨none, .mov 5 (.t 1)⟩, 0, []⟩,
  ⟨⟨none, .mov 6 (.t 0)⟩, 0, []⟩,
  ⟨⟨none, .len 7 false (.t 6)⟩, 0, []⟩,
  ⟨⟨none, .bin 8 .sub (.t 5) (.t 7)⟩, 0, []⟩,
  ⟨⟨none, .mov 1 (.t 8)⟩, 0, []⟩]

abbrev i_laws_szRangeS_r2 : List RO := [
  ⟨⟨none, .mov 9 (.t 1)⟩, 0, []⟩,
  ⟨⟨none, .bin 10 .lss (.t 9) (.c (.one (.d (.int .i64 0))))⟩, 0, []⟩]

abbrev i_laws_szRangeS_r3 : List RO := [
  ⟨⟨none, .mov 4 (.c (.one (.d (.int .i64 (-1)))))⟩, 0, []⟩]

abbrev i_laws_szRangeS_r4 : List RO := [
  ⟨⟨none, .mov 11 (.t 1)⟩, 0, []⟩,
  ⟨⟨none, .mov 4 (.t 11)⟩, 0, []⟩]

def i_laws_szRangeS : IC := (.seq (.reg i_laws_szRangeS_r0)
  (.seq (.reg i_laws_szRangeS_r1)
  (.seq (.seq (.reg i_laws_szRangeS_r2)
  (.cond (.t 10) (.seq (.reg i_laws_szRangeS_r3)
  .ret) .skip))
  (.seq (.reg i_laws_szRangeS_r4)
  .ret))))

theorem i_laws_szRangeS_ok : (Try.f122.body.bind fun c => toIC Try.prog 12 c []) = some (i_laws_szRangeS, []) := by kernel_rfl

theorem i_laws_szRangeS_fn {ds rs : List D} (hle : ds.length ≤ 12) (h : AW Try.prog 12 i_laws_szRangeS (Ends [.tmp 4] rs) (init ds)) : Fn Try.prog k_laws_szRangeS (lent ds) true rs :=
  Fn.intro' (by kernel_rfl) Try.func122 (by kernel_rfl) i_laws_szRangeS_ok (by kernel_rfl) hle h.h

theorem i_laws_szRangeS_fnB {ds rs : List D} (hle : ds.length ≤ 12) (h : AW Try.prog 12 i_laws_szRangeS (EndsB [.tmp 4] rs) (init ds)) : Fn Try.prog k_laws_szRangeS (lent ds) false rs :=
  Fn.introB' (by kernel_rfl) Try.func122 (by kernel_rfl) i_laws_szRangeS_ok (by kernel_rfl) hle h.h

abbrev i_laws_szWriteS_r0 : List RO := [
  ⟨⟨none, .mov 4 (.c (.one (.d (.int .i64 0))))⟩, 0, []⟩]

abbrev i_laws_szWriteS_r1 : List RO := [
  ⟨⟨none, .mov 5 (.t 1)⟩, 0, []⟩,
  ⟨⟨none, .mov 6 (.t 0)⟩, 0, []⟩,
  ⟨⟨none, .len 7 false (.t 6)⟩, 0, []⟩,
  ⟨⟨none, .bin 8 .sub (.t 5) (.t 7)⟩, 0, []⟩,
  ⟨⟨none, .mov 1 (.t 8)⟩, 0, []⟩]

abbrev i_laws_szWriteS_r2 : List RO := [
  ⟨⟨none, .mov 9 (.t 1)⟩, 0, []⟩,
  ⟨⟨none, .bin 10 .lss (.t 9) (.c (.one (.d (.int .i64 0))))⟩, 0, []⟩]

abbrev i_laws_szWriteS_r3 : List RO := [
  ⟨⟨none, .mov 4 (.c (.one (.d (.int .i64 (-1)))))⟩, 0, []⟩]

abbrev i_laws_szWriteS_r4 : List RO := [
  ⟨⟨none, .mov 11 (.t 1)⟩, 0, []⟩,
  ⟨⟨none, .mov 4 (.t 11)⟩, 0, []⟩]

def i_laws_szWriteS : IC := (.seq (.reg i_laws_szWriteS_r0)
  (.seq (.reg i_laws_szWriteS_r1)
  (.seq (.seq (.reg i_laws_szWriteS_r2)
  (.cond (.t 10) (.seq (.reg i_laws_szWriteS_r3)
  .ret) .skip))
  (.seq (.reg i_laws_szWriteS_r4)
  .ret))))

theorem i_laws_szWriteS_ok : (Try.f91.body.bind fun c => toIC Try.prog 12 c []) = some (i_laws_szWriteS, []) := by kernel_rfl

theorem i_laws_szWriteS_fn {ds rs : List D} (hle : ds.length ≤ 12) (h : AW Try.prog 12 i_laws_szWriteS (Ends [.tmp 4] rs) (init ds)) : Fn Try.prog k_laws_szWriteS (lent ds) true rs :=
  Fn.intro' (by kernel_rfl) Try.func91 (by kernel_rfl) i_laws_szWriteS_ok (by kernel_rfl) hle h.h

theorem i_laws_szWriteS_fnB {ds rs : List D} (hle : ds.length ≤ 12) (h : AW Try.prog 12 i_laws_szWriteS (EndsB [.tmp 4] rs) (init ds)) : Fn Try.prog k_laws_szWriteS (lent ds) false rs :=
  Fn.introB' (by kernel_rfl) Try.func91 (by kernel_rfl) i_laws_szWriteS_ok (by kernel_rfl) hle h.h

abbrev i_laws_szShare_r0 : List RO := [
  ⟨⟨none, .box 2 (.t 0)⟩, 0, []⟩,
  ⟨⟨none, .mov 4 (.c (.one (.d (.int .i64 0))))⟩, 0, []⟩]

abbrev i_laws_szShare_r1 : List RO := [
  ⟨⟨none, .faddr 5 1 (.t 2)⟩, 0, []⟩,
  ⟨⟨none, .load 6 none (.t 5)⟩, 0, []⟩,
  ⟨⟨none, .mov 7 (.t 1)⟩, 0, []⟩,
  ⟨⟨none, .callv 8 (.c (.one (.fn k_laws_szRangeS []))) [(.t 6), (.t 7)]⟩, 0, []⟩,
  ⟨⟨none, .mov 1 (.t 8)⟩, 0, []⟩]

abbrev i_laws_szShare_r2 : List RO := [
  ⟨⟨none, .mov 9 (.t 1)⟩, 0, []⟩,
  ⟨⟨none, .bin 10 .lss (.t 9) (.c (.one (.d (.int .i64 0))))⟩, 0, []⟩]

abbrev i_laws_szShare_r3 : List RO := [
  ⟨⟨none, .mov 4 (.c (.one (.d (.int .i64 (-1)))))⟩, 0, []⟩]

abbrev i_laws_szShare_r4 : List RO := [
  ⟨⟨none, .faddr 11 2 (.t 2)⟩, 0, []⟩,
  ⟨⟨none, .load 12 none (.t 11)⟩, 0, []⟩,
  ⟨⟨none, .mov 13 (.t 1)⟩, 0, []⟩,
  ⟨⟨none, .callv 14 (.c (.one (.fn k_laws_szWriteS []))) [(.t 12), (.t 13)]⟩, 0, []⟩,
  ⟨⟨none, .mov 1 (.t 14)⟩, 0, []⟩]

abbrev i_laws_szShare_r5 : List RO := [
  ⟨⟨none, .mov 15 (.t 1)⟩, 0, []⟩,
  ⟨⟨none, .bin 16 .lss (.t 15) (.c (.one (.d (.int .i64 0))))⟩, 0, []⟩]

abbrev i_laws_szShare_r6 : List RO := [
  ⟨⟨none, .mov 4 (.c (.one (.d (.int .i64 (-1)))))⟩, 0, []⟩]

abbrev i_laws_szShare_r7 : List RO := [
  ⟨⟨none, .mov 17 (.t 1)⟩, 0, []⟩,
  ⟨⟨none, .mov 4 (.t 17)⟩, 0, []⟩]

def i_laws_szShare : IC := (.seq (.reg i_laws_szShare_r0)
  (.seq (.reg i_laws_szShare_r1)
  (.seq (.seq (.reg i_laws_szShare_r2)
  (.cond (.t 10) (.seq (.reg i_laws_szShare_r3)
  .ret) .skip))
  (.seq (.reg i_laws_szShare_r4)
  (.seq (.seq (.reg i_laws_szShare_r5)
  (.cond (.t 16) (.seq (.reg i_laws_szShare_r6)
  .ret) .skip))
  (.seq (.reg i_laws_szShare_r7)
  .ret))))))

theorem i_laws_szShare_ok : (Try.f67.body.bind fun c => toIC Try.prog 18 c []) = some (i_laws_szShare, []) := by kernel_rfl

theorem i_laws_szShare_fn {ds rs : List D} (hle : ds.length ≤ 18) (h : AW Try.prog 18 i_laws_szShare (Ends [.tmp 4] rs) (init ds)) : Fn Try.prog k_laws_szShare (lent ds) true rs :=
  Fn.intro' (by kernel_rfl) Try.func67 (by kernel_rfl) i_laws_szShare_ok (by kernel_rfl) hle h.h

theorem i_laws_szShare_fnB {ds rs : List D} (hle : ds.length ≤ 18) (h : AW Try.prog 18 i_laws_szShare (EndsB [.tmp 4] rs) (init ds)) : Fn Try.prog k_laws_szShare (lent ds) false rs :=
  Fn.introB' (by kernel_rfl) Try.func67 (by kernel_rfl) i_laws_szShare_ok (by kernel_rfl) hle h.h

abbrev i_laws_szShareS_r0 : List RO := [
  ⟨⟨none, .mov 4 (.c (.one (.d (.int .i64 0))))⟩, 0, []⟩]

abbrev i_laws_szShareS_r1 : List RO := [
  ⟨⟨none, .mov 6 (.t 1)⟩, 0, []⟩,
  ⟨⟨none, .mov 7 (.t 0)⟩, 0, []⟩,
  ⟨⟨none, .len 8 false (.t 7)⟩, 0, []⟩,
  ⟨⟨none, .bin 9 .sub (.t 6) (.t 8)⟩, 0, []⟩,
  ⟨⟨none, .mov 1 (.t 9)⟩, 0, []⟩]

abbrev i_laws_szShareS_r2 : List RO := [
  ⟨⟨none, .mov 10 (.t 1)⟩, 0, []⟩,
  ⟨⟨none, .bin 11 .lss (.t 10) (.c (.one (.d (.int .i64 0))))⟩, 0, []⟩]

abbrev i_laws_szShareS_r3 : List RO := [
  ⟨⟨none, .mov 4 (.c (.one (.d (.int .i64 (-1)))))⟩, 0, []⟩]

abbrev i_laws_szShareS_r4 : List RO := [
  ⟨⟨none, .mov 5 (.c (.one (.d (.int .i64 0))))⟩, 0, []⟩]

abbrev i_laws_szShareS_r5 : List RO := [
  ⟨⟨none, .mov 12 (.t 5)⟩, 0, []⟩,
  ⟨⟨none, .mov 13 (.t 0)⟩, 0, []⟩,
  ⟨⟨none, .len 14 false (.t 13)⟩, 0, []⟩,
  ⟨⟨none, .bin 15 .lss (.t 12) (.t 14)⟩, 0, []⟩]

abbrev i_laws_szShareS_r6 : List RO := [
  ⟨⟨none, .mov 18 (.t 0)⟩, 0, []⟩,
  ⟨⟨none, .mov 19 (.t 5)⟩, 0, []⟩,
  ⟨⟨none, .iaddr 20 4 (.t 18) (.t 19)⟩, 0, []⟩,
  ⟨⟨none, .load 21 (some 4) (.t 20)⟩, 0, []⟩,
  ⟨⟨none, .mov 22 (.t 1)⟩, 0, []⟩,
  ⟨⟨none, .callv 23 (.c (.one (.fn k_laws_szShare []))) [(.t 21), (.t 22)]⟩, 0, []⟩,
  ⟨⟨none, .mov 1 (.t 23)⟩, 0, []⟩]

abbrev i_laws_szShareS_r7 : List RO := [
  ⟨⟨none, .mov 24 (.t 1)⟩, 0, []⟩,
  ⟨⟨none, .bin 25 .lss (.t 24) (.c (.one (.d (.int .i64 0))))⟩, 0, []⟩]

abbrev i_laws_szShareS_r8 : List RO := [
  ⟨⟨none, .mov 4 (.c (.one (.d (.int .i64 (-1)))))⟩, 0, []⟩]

abbrev i_laws_szShareS_r9 : List RO := [
  ⟨⟨none, .mov 16 (.t 5)⟩, 0, []⟩,
  ⟨⟨none, .bin 17 .add (.t 16) (.c (.one (.d (.int .i64 1))))⟩, 0, []⟩,
  ⟨⟨none, .mov 5 (.t 17)⟩, 0, []⟩]

abbrev i_laws_szShareS_r10 : List RO := [
  ⟨⟨none, .mov 26 (.t 1)⟩, 0, []⟩,
  ⟨⟨none, .mov 4 (.t 26)⟩, 0, []⟩]

def i_laws_szShareS : IC := (.seq (.reg i_laws_szShareS_r0)
  (.seq (.reg i_laws_szShareS_r1)
  (.seq (.seq (.reg i_laws_szShareS_r2)
  (.cond (.t 11) (.seq (.reg i_laws_szShareS_r3)
  .ret) .skip))
  (.seq (.seq (.reg i_laws_szShareS_r4)
  (.block 0 (.loop (.seq (.seq (.reg i_laws_szShareS_r5)
  (.cond (.t 15) .skip (.exit 0)))
  (.seq (.block 1 (.seq (.reg i_laws_szShareS_r6)
  (.seq (.reg i_laws_szShareS_r7)
  (.cond (.t 25) (.seq (.reg i_laws_szShareS_r8)
  .ret) .skip))))
  (.reg i_laws_szShareS_r9))))))
  (.seq (.reg i_laws_szShareS_r10)
  .ret)))))

theorem i_laws_szShareS_ok : (Try.f14.body.bind fun c => toIC Try.prog 27 c []) = some (i_laws_szShareS, []) := by kernel_rfl

theorem i_laws_szShareS_fn {ds rs : List D} (hle : ds.length ≤ 27) (h : AW Try.prog 27 i_laws_szShareS (Ends [.tmp 4] rs) (init ds)) : Fn Try.prog k_laws_szShareS (lent ds) true rs :=
  Fn.intro' (by kernel_rfl) Try.func14 (by kernel_rfl) i_laws_szShareS_ok (by kernel_rfl) hle h.h

theorem i_laws_szShareS_fnB {ds rs : List D} (hle : ds.length ≤ 27) (h : AW Try.prog 27 i_laws_szShareS (EndsB [.tmp 4] rs) (init ds)) : Fn Try.prog k_laws_szShareS (lent ds) false rs :=
  Fn.introB' (by kernel_rfl) Try.func14 (by kernel_rfl) i_laws_szShareS_ok (by kernel_rfl) hle h.h

abbrev i_laws_szRec_r0 : List RO := [
  ⟨⟨none, .box 2 (.t 0)⟩, 0, []⟩,
  ⟨⟨none, .mov 4 (.c (.one (.d (.int .i64 0))))⟩, 0, []⟩]

abbrev i_laws_szRec_r1 : List RO := [
  ⟨⟨none, .faddr 5 4 (.t 2)⟩, 0, []⟩,
  ⟨⟨none, .load 6 none (.t 5)⟩, 0, []⟩,
  ⟨⟨none, .mov 7 (.t 1)⟩, 0, []⟩,
  ⟨⟨none, .callv 8 (.c (.one (.fn k_laws_szShareS []))) [(.t 6), (.t 7)]⟩, 0, []⟩,
  ⟨⟨none, .mov 1 (.t 8)⟩, 0, []⟩]

abbrev i_laws_szRec_r2 : List RO := [
  ⟨⟨none, .mov 9 (.t 1)⟩, 0, []⟩,
  ⟨⟨none, .bin 10 .lss (.t 9) (.c (.one (.d (.int .i64 0))))⟩, 0, []⟩]

abbrev i_laws_szRec_r3 : List RO := [
  ⟨⟨none, .mov 4 (.c (.one (.d (.int .i64 (-1)))))⟩, 0, []⟩]

abbrev i_laws_szRec_r4 : List RO := [
  ⟨⟨none, .mov 11 (.t 1)⟩, 0, []⟩,
  ⟨⟨none, .mov 4 (.t 11)⟩, 0, []⟩]

def i_laws_szRec : IC := (.seq (.reg i_laws_szRec_r0)
  (.seq (.reg i_laws_szRec_r1)
  (.seq (.seq (.reg i_laws_szRec_r2)
  (.cond (.t 10) (.seq (.reg i_laws_szRec_r3)
  .ret) .skip))
  (.seq (.reg i_laws_szRec_r4)
  .ret))))

theorem i_laws_szRec_ok : (Try.f180.body.bind fun c => toIC Try.prog 12 c []) = some (i_laws_szRec, []) := by kernel_rfl

theorem i_laws_szRec_fn {ds rs : List D} (hle : ds.length ≤ 12) (h : AW Try.prog 12 i_laws_szRec (Ends [.tmp 4] rs) (init ds)) : Fn Try.prog k_laws_szRec (lent ds) true rs :=
  Fn.intro' (by kernel_rfl) Try.func180 (by kernel_rfl) i_laws_szRec_ok (by kernel_rfl) hle h.h

theorem i_laws_szRec_fnB {ds rs : List D} (hle : ds.length ≤ 12) (h : AW Try.prog 12 i_laws_szRec (EndsB [.tmp 4] rs) (init ds)) : Fn Try.prog k_laws_szRec (lent ds) false rs :=
  Fn.introB' (by kernel_rfl) Try.func180 (by kernel_rfl) i_laws_szRec_ok (by kernel_rfl) hle h.h

abbrev i_laws_szRecS_r0 : List RO := [
  ⟨⟨none, .mov 4 (.c (.one (.d (.int .i64 0))))⟩, 0, []⟩]

abbrev i_laws_szRecS_r1 : List RO := [
  ⟨⟨none, .mov 6 (.t 1)⟩, 0, []⟩,
  ⟨⟨none, .mov 7 (.t 0)⟩, 0, []⟩,
  ⟨⟨none, .len 8 false (.t 7)⟩, 0, []⟩,
  ⟨⟨none, .bin 9 .sub (.t 6) (.t 8)⟩, 0, []⟩,
  ⟨⟨none, .mov 1 (.t 9)⟩, 0, []⟩]

abbrev i_laws_szRecS_r2 : List RO := [
  ⟨⟨none, .mov 10 (.t 1)⟩, 0, []⟩,
  ⟨⟨none, .bin 11 .lss (.t 10) (.c (.one (.d (.int .i64 0))))⟩, 0, []⟩]

abbrev i_laws_szRecS_r3 : List RO := [
  ⟨⟨none, .mov 4 (.c (.one (.d (.int .i64 (-1)))))⟩, 0, []⟩]

abbrev i_laws_szRecS_r4 : List RO := [
  ⟨⟨none, .mov 5 (.c (.one (.d (.int .i64 0))))⟩, 0, []⟩]

abbrev i_laws_szRecS_r5 : List RO := [
  ⟨⟨none, .mov 12 (.t 5)⟩, 0, []⟩,
  ⟨⟨none, .mov 13 (.t 0)⟩, 0, []⟩,
  ⟨⟨none, .len 14 false (.t 13)⟩, 0, []⟩,
  ⟨⟨none, .bin 15 .lss (.t 12) (.t 14)⟩, 0, []⟩]

abbrev i_laws_szRecS_r6 : List RO := [
  ⟨⟨none, .mov 18 (.t 0)⟩, 0, []⟩,
  ⟨⟨none, .mov 19 (.t 5)⟩, 0, []⟩,
  ⟨⟨none, .iaddr 20 5 (.t 18) (.t 19)⟩, 0, []⟩,
  ⟨⟨none, .load 21 (some 5) (.t 20)⟩, 0, []⟩,
  ⟨⟨none, .mov 22 (.t 1)⟩, 0, []⟩,
  ⟨⟨none, .callv 23 (.c (.one (.fn k_laws_szRec []))) [(.t 21), (.t 22)]⟩, 0, []⟩,
  ⟨⟨none, .mov 1 (.t 23)⟩, 0, []⟩]

abbrev i_laws_szRecS_r7 : List RO := [
  ⟨⟨none, .mov 24 (.t 1)⟩, 0, []⟩,
  ⟨⟨none, .bin 25 .lss (.t 24) (.c (.one (.d (.int .i64 0))))⟩, 0, []⟩]

abbrev i_laws_szRecS_r8 : List RO := [
  ⟨⟨none, .mov 4 (.c (.one (.d (.int .i64 (-1)))))⟩, 0, []⟩]

abbrev i_laws_szRecS_r9 : List RO := [
  ⟨⟨none, .mov 16 (.t 5)⟩, 0, []⟩,
  ⟨⟨none, .bin 17 .add (.t 16) (.c (.one (.d (.int .i64 1))))⟩, 0, []⟩,
  ⟨⟨none, .mov 5 (.t 17)⟩, 0, []⟩]

abbrev i_laws_szRecS_r10 : List RO := [
  ⟨⟨none, .mov 26 (.t 1)⟩, 0, []⟩,
  ⟨⟨none, .mov 4 (.t 26)⟩, 0, []⟩]

def i_laws_szRecS : IC := (.seq (.reg i_laws_szRecS_r0)
  (.seq (.reg i_laws_szRecS_r1)
  (.seq (.seq (.reg i_laws_szRecS_r2)
  (.cond (.t 11) (.seq (.reg i_laws_szRecS_r3)
  .ret) .skip))
  (.seq (.seq (.reg i_laws_szRecS_r4)
  (.block 0 (.loop (.seq (.seq (.reg i_laws_szRecS_r5)
  (.cond (.t 15) .skip (.exit 0)))
  (.seq (.block 1 (.seq (.reg i_laws_szRecS_r6)
  (.seq (.reg i_laws_szRecS_r7)
  (.cond (.t 25) (.seq (.reg i_laws_szRecS_r8)
  .ret) .skip))))
  (.reg i_laws_szRecS_r9))))))
  (.seq (.reg i_laws_szRecS_r10)
  .ret)))))

theorem i_laws_szRecS_ok : (Try.f107.body.bind fun c => toIC Try.prog 27 c []) = some (i_laws_szRecS, []) := by kernel_rfl

theorem i_laws_szRecS_fn {ds rs : List D} (hle : ds.length ≤ 27) (h : AW Try.prog 27 i_laws_szRecS (Ends [.tmp 4] rs) (init ds)) : Fn Try.prog k_laws_szRecS (lent ds) true rs :=
  Fn.intro' (by kernel_rfl) Try.func107 (by kernel_rfl) i_laws_szRecS_ok (by kernel_rfl) hle h.h

theorem i_laws_szRecS_fnB {ds rs : List D} (hle : ds.length ≤ 27) (h : AW Try.prog 27 i_laws_szRecS (EndsB [.tmp 4] rs) (init ds)) : Fn Try.prog k_laws_szRecS (lent ds) false rs :=
  Fn.introB' (by kernel_rfl) Try.func107 (by kernel_rfl) i_laws_szRecS_ok (by kernel_rfl) hle h.h

abbrev i_laws_szIntS_r0 : List RO := [
  ⟨⟨none, .mov 4 (.c (.one (.d (.int .i64 0))))⟩, 0, []⟩]

abbrev i_laws_szIntS_r1 : List RO := [
  ⟨⟨none, .mov 5 (.t 1)⟩, 0, []⟩,
  ⟨⟨none, .mov 6 (.t 0)⟩, 0, []⟩,
  ⟨⟨none, .len 7 false (.t 6)⟩, 0, []⟩,
  ⟨⟨none, .bin 8 .sub (.t 5) (.t 7)⟩, 0, []⟩,
  ⟨⟨none, .mov 1 (.t 8)⟩, 0, []⟩]

abbrev i_laws_szIntS_r2 : List RO := [
  ⟨⟨none, .mov 9 (.t 1)⟩, 0, []⟩,
  ⟨⟨none, .bin 10 .lss (.t 9) (.c (.one (.d (.int .i64 0))))⟩, 0, []⟩]

abbrev i_laws_szIntS_r3 : List RO := [
  ⟨⟨none, .mov 4 (.c (.one (.d (.int .i64 (-1)))))⟩, 0, []⟩]

abbrev i_laws_szIntS_r4 : List RO := [
  ⟨⟨none, .mov 11 (.t 1)⟩, 0, []⟩,
  ⟨⟨none, .mov 4 (.t 11)⟩, 0, []⟩]

def i_laws_szIntS : IC := (.seq (.reg i_laws_szIntS_r0)
  (.seq (.reg i_laws_szIntS_r1)
  (.seq (.seq (.reg i_laws_szIntS_r2)
  (.cond (.t 10) (.seq (.reg i_laws_szIntS_r3)
  .ret) .skip))
  (.seq (.reg i_laws_szIntS_r4)
  .ret))))

theorem i_laws_szIntS_ok : (Try.f108.body.bind fun c => toIC Try.prog 12 c []) = some (i_laws_szIntS, []) := by kernel_rfl

theorem i_laws_szIntS_fn {ds rs : List D} (hle : ds.length ≤ 12) (h : AW Try.prog 12 i_laws_szIntS (Ends [.tmp 4] rs) (init ds)) : Fn Try.prog k_laws_szIntS (lent ds) true rs :=
  Fn.intro' (by kernel_rfl) Try.func108 (by kernel_rfl) i_laws_szIntS_ok (by kernel_rfl) hle h.h

theorem i_laws_szIntS_fnB {ds rs : List D} (hle : ds.length ≤ 12) (h : AW Try.prog 12 i_laws_szIntS (EndsB [.tmp 4] rs) (init ds)) : Fn Try.prog k_laws_szIntS (lent ds) false rs :=
  Fn.introB' (by kernel_rfl) Try.func108 (by kernel_rfl) i_laws_szIntS_ok (by kernel_rfl) hle h.h

abbrev i_laws_szCoord_r0 : List RO := [
  ⟨⟨none, .box 2 (.t 0)⟩, 0, []⟩,
  ⟨⟨none, .mov 4 (.c (.one (.d (.int .i64 0))))⟩, 0, []⟩]

abbrev i_laws_szCoord_r1 : List RO := [
  ⟨⟨none, .faddr 5 0 (.t 2)⟩, 0, []⟩,
  ⟨⟨none, .load 6 none (.t 5)⟩, 0, []⟩,
  ⟨⟨none, .mov 7 (.t 1)⟩, 0, []⟩,
  ⟨⟨none, .callv 8 (.c (.one (.fn k_laws_szRecS []))) [(.t 6), (.t 7)]⟩, 0, []⟩,
  ⟨⟨none, .mov 1 (.t 8)⟩, 0, []⟩]

abbrev i_laws_szCoord_r2 : List RO := [
  ⟨⟨none, .mov 9 (.t 1)⟩, 0, []⟩,
  ⟨⟨none, .bin 10 .lss (.t 9) (.c (.one (.d (.int .i64 0))))⟩, 0, []⟩]

abbrev i_laws_szCoord_r3 : List RO := [
  ⟨⟨none, .mov 4 (.c (.one (.d (.int .i64 (-1)))))⟩, 0, []⟩]

abbrev i_laws_szCoord_r4 : List RO := [
  ⟨⟨none, .faddr 11 1 (.t 2)⟩, 0, []⟩,
  ⟨⟨none, .load 12 none (.t 11)⟩, 0, []⟩,
  ⟨⟨none, .mov 13 (.t 1)⟩, 0, []⟩,
  ⟨⟨none, .callv 14 (.c (.one (.fn k_laws_szIntS []))) [(.t 12), (.t 13)]⟩, 0, []⟩,
  ⟨⟨none, .mov 1 (.t 14)⟩, 0, []⟩]

abbrev i_laws_szCoord_r5 : List RO := [
  ⟨⟨none, .mov 15 (.t 1)⟩, 0, []⟩,
  ⟨⟨none, .bin 16 .lss (.t 15) (.c (.one (.d (.int .i64 0))))⟩, 0, []⟩]

abbrev i_laws_szCoord_r6 : List RO := [
  ⟨⟨none, .mov 4 (.c (.one (.d (.int .i64 (-1)))))⟩, 0, []⟩]

abbrev i_laws_szCoord_r7 : List RO := [
  ⟨⟨none, .mov 17 (.t 1)⟩, 0, []⟩,
  ⟨⟨none, .mov 4 (.t 17)⟩, 0, []⟩]

def i_laws_szCoord : IC := (.seq (.reg i_laws_szCoord_r0)
  (.seq (.reg i_laws_szCoord_r1)
  (.seq (.seq (.reg i_laws_szCoord_r2)
  (.cond (.t 10) (.seq (.reg i_laws_szCoord_r3)
  .ret) .skip))
  (.seq (.reg i_laws_szCoord_r4)
  (.seq (.seq (.reg i_laws_szCoord_r5)
  (.cond (.t 16) (.seq (.reg i_laws_szCoord_r6)
  .ret) .skip))
  (.seq (.reg i_laws_szCoord_r7)
  .ret))))))

theorem i_laws_szCoord_ok : (Try.f31.body.bind fun c => toIC Try.prog 18 c []) = some (i_laws_szCoord, []) := by kernel_rfl

theorem i_laws_szCoord_fn {ds rs : List D} (hle : ds.length ≤ 18) (h : AW Try.prog 18 i_laws_szCoord (Ends [.tmp 4] rs) (init ds)) : Fn Try.prog k_laws_szCoord (lent ds) true rs :=
  Fn.intro' (by kernel_rfl) Try.func31 (by kernel_rfl) i_laws_szCoord_ok (by kernel_rfl) hle h.h

theorem i_laws_szCoord_fnB {ds rs : List D} (hle : ds.length ≤ 18) (h : AW Try.prog 18 i_laws_szCoord (EndsB [.tmp 4] rs) (init ds)) : Fn Try.prog k_laws_szCoord (lent ds) false rs :=
  Fn.introB' (by kernel_rfl) Try.func31 (by kernel_rfl) i_laws_szCoord_ok (by kernel_rfl) hle h.h

abbrev i_laws_toRange_r0 : List RO := [
  ⟨⟨none, .box 1 (.t 0)⟩, 0, []⟩,
  ⟨⟨none, .var 2 [(.d (.int .i64 0)), (.d (.int .i64 0))]⟩, 0, []⟩]

abbrev i_laws_toRange_r1 : List RO := [
  ⟨⟨none, .var 3 [(.d (.int .i64 0)), (.d (.int .i64 0))]⟩, 0, []⟩]

abbrev i_laws_toRange_r2 : List RO := [
  ⟨⟨none, .faddr 4 0 (.t 1)⟩, 0, []⟩,
  ⟨⟨none, .load 5 none (.t 4)⟩, 0, []⟩,
  ⟨⟨none, .faddr 6 0 (.t 3)⟩, 0, []⟩,
  ⟨⟨none, .store 1 [(.int .i64 0)] (.t 6) (.t 5)⟩, 0, []⟩]

abbrev i_laws_toRange_r3 : List RO := [
  ⟨⟨none, .faddr 7 1 (.t 1)⟩, 0, []⟩,
  ⟨⟨none, .load 8 none (.t 7)⟩, 0, []⟩,
  ⟨⟨none, .faddr 9 1 (.t 3)⟩, 0, []⟩,
  ⟨⟨none, .store 1 [(.int .i64 0)] (.t 9) (.t 8)⟩, 0, []⟩]

abbrev i_laws_toRange_r4 : List RO := [
  ⟨⟨none, .load 10 (some 2) (.t 3)⟩, 0, []⟩,
  ⟨⟨none, .store 2 [(.int .i64 0), (.int .i64 0)] (.t 2) (.t 10)⟩, 0, []⟩]

def i_laws_toRange : IC := (.seq (.reg i_laws_toRange_r0)
  (.seq (.reg i_laws_toRange_r1)
  (.seq (.reg i_laws_toRange_r2)
  (.seq (.reg i_laws_toRange_r3)
  (.seq (.reg i_laws_toRange_r4)
  .ret)))))

theorem i_laws_toRange_ok : (Try.f184.body.bind fun c => toIC Try.prog 11 c []) = some (i_laws_toRange, []) := by kernel_rfl

theorem i_laws_toRange_fn {ds rs : List D} (hle : ds.length ≤ 11) (h : AW Try.prog 11 i_laws_toRange (Ends [.cell 2 (some 2)] rs) (init ds)) : Fn Try.prog k_laws_toRange (lent ds) true rs :=
  Fn.intro' (by kernel_rfl) Try.func184 (by kernel_rfl) i_laws_toRange_ok (by kernel_rfl) hle h.h

theorem i_laws_toRange_fnB {ds rs : List D} (hle : ds.length ≤ 11) (h : AW Try.prog 11 i_laws_toRange (EndsB [.cell 2 (some 2)] rs) (init ds)) : Fn Try.prog k_laws_toRange (lent ds) false rs :=
  Fn.introB' (by kernel_rfl) Try.func184 (by kernel_rfl) i_laws_toRange_ok (by kernel_rfl) hle h.h

abbrev i_laws_toRangeS_r0 : List RO := [
  ⟨⟨none, .mov 2 (.c (.one .zs))⟩, 0, []⟩]

abbrev i_laws_toRangeS_r1 : List RO := [
  ⟨⟨none, .mov 5 (.t 0)⟩, 0, []⟩,
  ⟨⟨none, .len 6 false (.t 5)⟩, 0, []⟩,
  ⟨⟨none, .mksl 7 2 16 [(.int .i64 0), (.int .i64 0)] (.t 6) (.t 6)⟩, 0, []⟩,
  ⟨⟨none, .mov 3 (.t 7)⟩, 0, []⟩]

abbrev i_laws_toRangeS_r2 : List RO := [
  ⟨⟨none, .mov 4 (.c (.one (.d (.int .i64 0))))⟩, 0, []⟩]

abbrev i_laws_toRangeS_r3 : List RO := [
  ⟨⟨none, .mov 8 (.t 4)⟩, 0, []⟩,
  ⟨⟨none, .mov 9 (.t 0)⟩, 0, []⟩,
  ⟨⟨none, .len 10 false (.t 9)⟩, 0, []⟩,
  ⟨⟨none, .bin 11 .lss (.t 8) (.t 10)⟩, 0, []⟩]

abbrev i_laws_toRangeS_r4 : List RO := [
  ⟨⟨none, .mov 14 (.t 3)⟩, 0, []⟩,
  ⟨⟨none, .mov 15 (.t 4)⟩, 0, []⟩,
  ⟨⟨none, .mov 16 (.t 0)⟩, 0, []⟩,
  ⟨⟨none, .mov 17 (.t 4)⟩, 0, []⟩,
  ⟨⟨none, .iaddr 18 2 (.t 16) (.t 17)⟩, 0, []⟩,
  ⟨⟨none, .load 19 (some 2) (.t 18)⟩, 0, []⟩,
  ⟨⟨none, .callv 20 (.c (.one (.fn k_laws_toRange []))) [(.t 19)]⟩, 0, []⟩,
  ⟨⟨none, .iaddr 21 2 (.t 14) (.t 15)⟩, 0, []⟩,
  ⟨⟨none, .store 2 [(.int .i64 0), (.int .i64 0)] (.t 21) (.t 20)⟩, 0, []⟩]

abbrev i_laws_toRangeS_r5 : List RO := [
  ⟨⟨none, .mov 12 (.t 4)⟩, 0, []⟩,
  ⟨⟨none, .bin 13 .add (.t 12) (.c (.one (.d (.int .i64 1))))⟩, 0, []⟩,
  ⟨⟨none, .mov 4 (.t 13)⟩, 0, []⟩]

abbrev i_laws_toRangeS_r6 : List RO := [
  ⟨⟨none, .mov 22 (.t 3)⟩, 0, []⟩,
  ⟨⟨none, .mov 2 (.t 22)⟩, 0, []⟩]

def i_laws_toRangeS : IC := (.seq (.reg i_laws_toRangeS_r0)
  (.seq (.reg i_laws_toRangeS_r1)
  (.seq (.seq (.reg i_laws_toRangeS_r2)
  (.block 0 (.loop (.seq (.seq (.reg i_laws_toRangeS_r3)
  (.cond (.t 11) .skip (.exit 0)))
  (.seq (.block 1 (.reg i_laws_toRangeS_r4))
  (.reg i_laws_toRangeS_r5))))))
  (.seq (.reg i_laws_toRangeS_r6)
  .ret))))

theorem i_laws_toRangeS_ok : (Try.f128.body.bind fun c => toIC Try.prog 23 c []) = some (i_laws_toRangeS, []) := by kernel_rfl

theorem i_laws_toRangeS_fn {ds rs : List D} (hle : ds.length ≤ 23) (h : AW Try.prog 23 i_laws_toRangeS (Ends [.tmp 2] rs) (init ds)) : Fn Try.prog k_laws_toRangeS (lent ds) true rs :=
  Fn.intro' (by kernel_rfl) Try.func128 (by kernel_rfl) i_laws_toRangeS_ok (by kernel_rfl) hle h.h

theorem i_laws_toRangeS_fnB {ds rs : List D} (hle : ds.length ≤ 23) (h : AW Try.prog 23 i_laws_toRangeS (EndsB [.tmp 2] rs) (init ds)) : Fn Try.prog k_laws_toRangeS (lent ds) false rs :=
  Fn.introB' (by kernel_rfl) Try.func128 (by kernel_rfl) i_laws_toRangeS_ok (by kernel_rfl) hle h.h

abbrev i_laws_toWrite_r0 : List RO := [
  ⟨⟨none, .box 1 (.t 0)⟩, 0, []⟩,
  ⟨⟨none, .var 2 [(.d (.int .i64 0)), (.d (.int .i64 0))]⟩, 0, []⟩]

abbrev i_laws_toWrite_r1 : List RO := [
  ⟨⟨none, .var 3 [(.d (.int .i64 0)), (.d (.int .i64 0))]⟩, 0, []⟩]

abbrev i_laws_toWrite_r2 : List RO := [
  ⟨⟨none, .faddr 4 0 (.t 1)⟩, 0, []⟩,
  ⟨⟨none, .load 5 none (.t 4)⟩, 0, []⟩,
  ⟨⟨none, .faddr 6 0 (.t 3)⟩, 0, []⟩,
  ⟨⟨none, .store 1 [(.int .i64 0)] (.t 6) (.t 5)⟩, 0, []⟩]

abbrev i_laws_toWrite_r3 : List RO := [
  ⟨⟨none, .faddr 7 1 (.t 1)⟩, 0, []⟩,
  ⟨⟨none, .load 8 none (.t 7)⟩, 0, []⟩,
  ⟨⟨none, .faddr 9 1 (.t 3)⟩, 0, []⟩,
  ⟨⟨none, .store 1 [(.int .i64 0)] (.t 9) (.t 8)⟩, 0, []⟩]

abbrev i_laws_toWrite_r4 : List RO := [
  ⟨⟨none, .load 10 (some 2) (.t 3)⟩, 0, []⟩,
  ⟨⟨none, .store 2 [(.int .i64 0), (.int .i64 0)] (.t 2) (.t 10)⟩, 0, []⟩]

def i_laws_toWrite : IC := (.seq (.reg i_laws_toWrite_r0)
  (.seq (.reg i_laws_toWrite_r1)
  (.seq (.reg i_laws_toWrite_r2)
  (.seq (.reg i_laws_toWrite_r3)
  (.seq (.reg i_laws_toWrite_r4)
  .ret)))))

theorem i_laws_toWrite_ok : (Try.f175.body.bind fun c => toIC Try.prog 11 c []) = some (i_laws_toWrite, []) := by kernel_rfl

theorem i_laws_toWrite_fn {ds rs : List D} (hle : ds.length ≤ 11) (h : AW Try.prog 11 i_laws_toWrite (Ends [.cell 2 (some 2)] rs) (init ds)) : Fn Try.prog k_laws_toWrite (lent ds) true rs :=
  Fn.intro' (by kernel_rfl) Try.func175 (by kernel_rfl) i_laws_toWrite_ok (by kernel_rfl) hle h.h

theorem i_laws_toWrite_fnB {ds rs : List D} (hle : ds.length ≤ 11) (h : AW Try.prog 11 i_laws_toWrite (EndsB [.cell 2 (some 2)] rs) (init ds)) : Fn Try.prog k_laws_toWrite (lent ds) false rs :=
  Fn.introB' (by kernel_rfl) Try.func175 (by kernel_rfl) i_laws_toWrite_ok (by kernel_rfl) hle h.h

abbrev i_laws_toWriteS_r0 : List RO := [
  ⟨⟨none, .mov 2 (.c (.one .zs))⟩, 0, []⟩]

abbrev i_laws_toWriteS_r1 : List RO := [
  ⟨⟨none, .mov 5 (.t 0)⟩, 0, []⟩,
  ⟨⟨none, .len 6 false (.t 5)⟩, 0, []⟩,
  ⟨⟨none, .mksl 7 2 16 [(.int .i64 0), (.int .i64 0)] (.t 6) (.t 6)⟩, 0, []⟩,
  ⟨⟨none, .mov 3 (.t 7)⟩, 0, []⟩]

abbrev i_laws_toWriteS_r2 : List RO := [
  ⟨⟨none, .mov 4 (.c (.one (.d (.int .i64 0))))⟩, 0, []⟩]

abbrev i_laws_toWriteS_r3 : List RO := [
  ⟨⟨none, .mov 8 (.t 4)⟩, 0, []⟩,
  ⟨⟨none, .mov 9 (.t 0)⟩, 0, []⟩,
  ⟨⟨none, .len 10 false (.t 9)⟩, 0, []⟩,
  ⟨⟨none, .bin 11 .lss (.t 8) (.t 10)⟩, 0, []⟩]

abbrev i_laws_toWriteS_r4 : List RO := [
  ⟨⟨none, .mov 14 (.t 3)⟩, 0, []⟩,
  ⟨⟨none, .mov 15 (.t 4)⟩, 0, []⟩,
  ⟨⟨none, .mov 16 (.t 0)⟩, 0, []⟩,
  ⟨⟨none, .mov 17 (.t 4)⟩, 0, []⟩,
  ⟨⟨none, .iaddr 18 2 (.t 16) (.t 17)⟩, 0, []⟩,
  ⟨⟨none, .load 19 (some 2) (.t 18)⟩, 0, []⟩,
  ⟨⟨none, .callv 20 (.c (.one (.fn k_laws_toWrite []))) [(.t 19)]⟩, 0, []⟩,
  ⟨⟨none, .iaddr 21 2 (.t 14) (.t 15)⟩, 0, []⟩,
  ⟨⟨none, .store 2 [(.int .i64 0), (.int .i64 0)] (.t 21) (.t 20)⟩, 0, []⟩]

abbrev i_laws_toWriteS_r5 : List RO := [
  ⟨⟨none, .mov 12 (.t 4)⟩, 0, []⟩,
  ⟨⟨none, .bin 13 .add (.t 12) (.c (.one (.d (.int .i64 1))))⟩, 0, []⟩,
  ⟨⟨none, .mov 4 (.t 13)⟩, 0, []⟩]

abbrev i_laws_toWriteS_r6 : List RO := [
  ⟨⟨none, .mov 22 (.t 3)⟩, 0, []⟩,
  ⟨⟨none, .mov 2 (.t 22)⟩, 0, []⟩]

def i_laws_toWriteS : IC := (.seq (.reg i_laws_toWriteS_r0)
  (.seq (.reg i_laws_toWriteS_r1)
  (.seq (.seq (.reg i_laws_toWriteS_r2)
  (.block 0 (.loop (.seq (.seq (.reg i_laws_toWriteS_r3)
  (.cond (.t 11) .skip (.exit 0)))
  (.seq (.block 1 (.reg i_laws_toWriteS_r4))
  (.reg i_laws_toWriteS_r5))))))
  (.seq (.reg i_laws_toWriteS_r6)
  .ret))))

theorem i_laws_toWriteS_ok : (Try.f97.body.bind fun c => toIC Try.prog 23 c []) = some (i_laws_toWriteS, []) := by kernel_rfl

theorem i_laws_toWriteS_fn {ds rs : List D} (hle : ds.length ≤ 23) (h : AW Try.prog 23 i_laws_toWriteS (Ends [.tmp 2] rs) (init ds)) : Fn Try.prog k_laws_toWriteS (lent ds) true rs :=
  Fn.intro' (by kernel_rfl) Try.func97 (by kernel_rfl) i_laws_toWriteS_ok (by kernel_rfl) hle h.h

theorem i_laws_toWriteS_fnB {ds rs : List D} (hle : ds.length ≤ 23) (h : AW Try.prog 23 i_laws_toWriteS (EndsB [.tmp 2] rs) (init ds)) : Fn Try.prog k_laws_toWriteS (lent ds) false rs :=
  Fn.introB' (by kernel_rfl) Try.func97 (by kernel_rfl) i_laws_toWriteS_ok (by kernel_rfl) hle h.h

abbrev i_laws_toShare_r0 : List RO := [
  ⟨⟨none, .box 1 (.t 0)⟩, 0, []⟩,
  ⟨⟨none, .var 2 [(.d (.int .i64 0)), .zs, .zs, (.d (.int .i64 0))]⟩, 0, []⟩]

abbrev i_laws_toShare_r1 : List RO := [
  ⟨⟨none, .var 3 [(.d (.int .i64 0)), .zs, .zs, (.d (.int .i64 0))]⟩, 0, []⟩]

abbrev i_laws_toShare_r2 : List RO := [
  ⟨⟨none, .faddr 4 0 (.t 1)⟩, 0, []⟩,
  ⟨⟨none, .load 5 none (.t 4)⟩, 0, []⟩,
  ⟨⟨none, .faddr 6 0 (.t 3)⟩, 0, []⟩,
  ⟨⟨none, .store 1 [(.int .i64 0)] (.t 6) (.t 5)⟩, 0, []⟩]

abbrev i_laws_toShare_r3 : List RO := [
  ⟨⟨none, .faddr 7 1 (.t 1)⟩, 0, []⟩,
  ⟨⟨none, .load 8 none (.t 7)⟩, 0, []⟩,
  ⟨⟨none, .callv 9 (.c (.one (.fn k_laws_toRangeS []))) [(.t 8)]⟩, 0, []⟩,
  ⟨⟨none, .faddr 10 1 (.t 3)⟩, 0, []⟩,
  ⟨⟨none, .store 1 [(.sl 2 [])] (.t 10) (.t 9)⟩, 0, []⟩]

abbrev i_laws_toShare_r4 : List RO := [
  ⟨⟨none, .faddr 11 2 (.t 1)⟩, 0, []⟩,
  ⟨⟨none, .load 12 none (.t 11)⟩, 0, []⟩,
  ⟨⟨none, .callv 13 (.c (.one (.fn k_laws_toWriteS []))) [(.t 12)]⟩, 0, []⟩,
  ⟨⟨none, .faddr 14 2 (.t 3)⟩, 0, []⟩,
  ⟨⟨none, .store 1 [(.sl 2 [])] (.t 14) (.t 13)⟩, 0, []⟩]

abbrev i_laws_toShare_r5 : List RO := [
  ⟨⟨none, .faddr 15 3 (.t 1)⟩, 0, []⟩,
  ⟨⟨none, .load 16 none (.t 15)⟩, 0, []⟩,
  ⟨⟨none, .faddr 17 3 (.t 3)⟩, 0, []⟩,
  ⟨⟨none, .store 1 [(.int .i64 0)] (.t 17) (.t 16)⟩, 0, []⟩]

abbrev i_laws_toShare_r6 : List RO := [
  ⟨⟨none, .load 18 (some 4) (.t 3)⟩, 0, []⟩,
  ⟨⟨none, .store 4 [(.int .i64 0), (.sl 2 []), (.sl 2 []), (.int .i64 0)] (.t 2) (.t 18)⟩, 0, []⟩]

def i_laws_toShare : IC := (.seq (.reg i_laws_toShare_r0)
  (.seq (.reg i_laws_toShare_r1)
  (.seq (.reg i_laws_toShare_r2)
  (.seq (.reg i_laws_toShare_r3)
  (.seq (.reg i_laws_toShare_r4)
  (.seq (.reg i_laws_toShare_r5)
  (.seq (.reg i_laws_toShare_r6)
  .ret)))))))

theorem i_laws_toShare_ok : (Try.f71.body.bind fun c => toIC Try.prog 19 c []) = some (i_laws_toShare, []) := by kernel_rfl

theorem i_laws_toShare_fn {ds rs : List D} (hle : ds.length ≤ 19) (h : AW Try.prog 19 i_laws_toShare (Ends [.cell 2 (some 4)] rs) (init ds)) : Fn Try.prog k_laws_toShare (lent ds) true rs :=
  Fn.intro' (by kernel_rfl) Try.func71 (by kernel_rfl) i_laws_toShare_ok (by kernel_rfl) hle h.h

theorem i_laws_toShare_fnB {ds rs : List D} (hle : ds.length ≤ 19) (h : AW Try.prog 19 i_laws_toShare (EndsB [.cell 2 (some 4)] rs) (init ds)) : Fn Try.prog k_laws_toShare (lent ds) false rs :=
  Fn.introB' (by kernel_rfl) Try.func71 (by kernel_rfl) i_laws_toShare_ok (by kernel_rfl) hle h.h

abbrev i_laws_toShareS_r0 : List RO := [
  ⟨⟨none, .mov 2 (.c (.one .zs))⟩, 0, []⟩]

abbrev i_laws_toShareS_r1 : List RO := [
  ⟨⟨none, .mov 5 (.t 0)⟩, 0, []⟩,
  ⟨⟨none, .len 6 false (.t 5)⟩, 0, []⟩,
  ⟨⟨none, .mksl 7 4 64 [(.int .i64 0), (.sl 2 []), (.sl 2 []), (.int .i64 0)] (.t 6) (.t 6)⟩, 0, []⟩,
  ⟨⟨none, .mov 3 (.t 7)⟩, 0, []⟩]

abbrev i_laws_toShareS_r2 : List RO := [
  ⟨⟨none, .mov 4 (.c (.one (.d (.int .i64 0))))⟩, 0, []⟩]

abbrev i_laws_toShareS_r3 : List RO := [
  ⟨⟨none, .mov 8 (.t 4)⟩, 0, []⟩,
  ⟨⟨none, .mov 9 (.t 0)⟩, 0, []⟩,
  ⟨⟨none, .len 10 false (.t 9)⟩, 0, []⟩,
  ⟨⟨none, .bin 11 .lss (.t 8) (.t 10)⟩, 0, []⟩]

abbrev i_laws_toShareS_r4 : List RO := [
  ⟨⟨none, .mov 14 (.t 3)⟩, 0, []⟩,
  ⟨⟨none, .mov 15 (.t 4)⟩, 0, []⟩,
  ⟨⟨none, .mov 16 (.t 0)⟩, 0, []⟩,
  ⟨⟨none, .mov 17 (.t 4)⟩, 0, []⟩,
  ⟨⟨none, .iaddr 18 4 (.t 16) (.t 17)⟩, 0, []⟩,
  ⟨⟨none, .load 19 (some 4) (.t 18)⟩, 0, []⟩,
  ⟨⟨none, .callv 20 (.c (.one (.fn k_laws_toShare []))) [(.t 19)]⟩, 0, []⟩,
  ⟨⟨none, .iaddr 21 4 (.t 14) (.t 15)⟩, 0, []⟩,
  ⟨⟨none, .store 4 [(.int .i64 0), (.sl 2 []), (.sl 2 []), (.int .i64 0)] (.t 21) (.t 20)⟩, 0, []⟩]

abbrev i_laws_toShareS_r5 : List RO := [
  ⟨⟨none, .mov 12 (.t 4)⟩, 0, []⟩,
  ⟨⟨none, .bin 13 .add (.t 12) (.c (.one (.d (.int .i64 1))))⟩, 0, []⟩,
  ⟨⟨none, .mov 4 (.t 13)⟩, 0, []⟩]

abbrev i_laws_toShareS_r6 : List RO := [
  ⟨⟨none, .mov 22 (.t 3)⟩, 0, []⟩,
  ⟨⟨none, .mov 2 (.t 22)⟩, 0, []⟩]

def i_laws_toShareS : IC := (.seq (.reg i_laws_toShareS_r0)
  (.seq (.reg i_laws_toShareS_r1)
  (.seq (.seq (.reg i_laws_toShareS_r2)
  (.block 0 (.loop (.seq (.seq (.reg i_laws_toShareS_r3)
  (.cond (.t 11) .skip (.exit 0)))
  (.seq (.block 1 (.reg i_laws_toShareS_r4))
  (.reg i_laws_toShareS_r5))))))
  (.seq (.reg i_laws_toShareS_r6)
  .ret))))

theorem i_laws_toShareS_ok : (Try.f16.body.bind fun c => toIC Try.prog 23 c []) = some (i_laws_toShareS, []) := by kernel_rfl

theorem i_laws_toShareS_fn {ds rs : List D} (hle : ds.length ≤ 23) (h : AW Try.prog 23 i_laws_toShareS (Ends [.tmp 2] rs) (init ds)) : Fn Try.prog k_laws_toShareS (lent ds) true rs :=
  Fn.intro' (by kernel_rfl) Try.func16 (by kernel_rfl) i_laws_toShareS_ok (by kernel_rfl) hle h.h

theorem i_laws_toShareS_fnB {ds rs : List D} (hle : ds.length ≤ 23) (h : AW Try.prog 23 i_laws_toShareS (EndsB [.tmp 2] rs) (init ds)) : Fn Try.prog k_laws_toShareS (lent ds) false rs :=
  Fn.introB' (by kernel_rfl) Try.func16 (by kernel_rfl) i_laws_toShareS_ok (by kernel_rfl) hle h.h

abbrev i_laws_toRec_r0 : List RO := [
  ⟨⟨none, .box 1 (.t 0)⟩, 0, []⟩,
  ⟨⟨none, .var 2 [(.d (.int .i64 0)), (.d (.int .i64 0)), (.d (.int .i64 0)), (.d (.int .i64 0)), .zs]⟩, 0, []⟩]

abbrev i_laws_toRec_r1 : List RO := [
  ⟨⟨none, .var 3 [(.d (.int .i64 0)), (.d (.int .i64 0)), (.d (.int .i64 0)), (.d (.int .i64 0)), .zs]⟩, 0, []⟩]

abbrev i_laws_toRec_r2 : List RO := [
  ⟨⟨none, .faddr 4 0 (.t 1)⟩, 0, []⟩,
  ⟨⟨none, .load 5 none (.t 4)⟩, 0, []⟩,
  ⟨⟨none, .faddr 6 0 (.t 3)⟩, 0, []⟩,
  ⟨⟨none, .store 1 [(.int .i64 0)] (.t 6) (.t 5)⟩, 0, []⟩]

abbrev i_laws_toRec_r3 : List RO := [
  ⟨⟨none, .faddr 7 1 (.t 1)⟩, 0, []⟩,
  ⟨⟨none, .load 8 none (.t 7)⟩, 0, []⟩,
  ⟨⟨none, .faddr 9 1 (.t 3)⟩, 0, []⟩,
  ⟨⟨none, .store 1 [(.int .i64 0)] (.t 9) (.t 8)⟩, 0, []⟩]

abbrev i_laws_toRec_r4 : List RO := [
  ⟨⟨none, .faddr 10 2 (.t 1)⟩, 0, []⟩,
  ⟨⟨none, .load 11 none (.t 10)⟩, 0, []⟩,
  ⟨⟨none, .faddr 12 2 (.t 3)⟩, 0, []⟩,
  ⟨⟨none, .store 1 [(.int .i64 0)] (.t 12) (.t 11)⟩, 0, []⟩]

abbrev i_laws_toRec_r5 : List RO := [
  ⟨⟨none, .faddr 13 3 (.t 1)⟩, 0, []⟩,
  ⟨⟨none, .load 14 none (.t 13)⟩, 0, []⟩,
  ⟨⟨none, .faddr 15 3 (.t 3)⟩, 0, []⟩,
  ⟨⟨none, .store 1 [(.int .i64 0)] (.t 15) (.t 14)⟩, 0, []⟩]

abbrev i_laws_toRec_r6 : List RO := [
  ⟨⟨none, .faddr 16 4 (.t 1)⟩, 0, []⟩,
  ⟨⟨none, .load 17 none (.t 16)⟩, 0, []⟩,
  ⟨⟨none, .callv 18 (.c (.one (.fn k_laws_toShareS []))) [(.t 17)]⟩, 0, []⟩,
  ⟨⟨none, .faddr 19 4 (.t 3)⟩, 0, []⟩,
  ⟨⟨none, .store 1 [(.sl 4 [])] (.t 19) (.t 18)⟩, 0, []⟩]

abbrev i_laws_toRec_r7 : List RO := [
  ⟨⟨none, .load 20 (some 5) (.t 3)⟩, 0, []⟩,
  ⟨⟨none, .store 5 [(.int .i64 0), (.int .i64 0), (.int .i64 0), (.int .i64 0), (.sl 4 [])] (.t 2) (.t 20)⟩, 0, []⟩]

def i_laws_toRec : IC := (.seq (.reg i_laws_toRec_r0)
  (.seq (.reg i_laws_toRec_r1)
  (.seq (.reg i_laws_toRec_r2)
  (.seq (.reg i_laws_toRec_r3)
  (.seq (.reg i_laws_toRec_r4)
  (.seq (.reg i_laws_toRec_r5)
  (.seq (.reg i_laws_toRec_r6)
  (.seq (.reg i_laws_toRec_r7)
  .ret))))))))

theorem i_laws_toRec_ok : (Try.f181.body.bind fun c => toIC Try.prog 21 c []) = some (i_laws_toRec, []) := by kernel_rfl

theorem i_laws_toRec_fn {ds rs : List D} (hle : ds.length ≤ 21) (h : AW Try.prog 21 i_laws_toRec (Ends [.cell 2 (some 5)] rs) (init ds)) : Fn Try.prog k_laws_toRec (lent ds) true rs :=
  Fn.intro' (by kernel_rfl) Try.func181 (by kernel_rfl) i_laws_toRec_ok (by kernel_rfl) hle h.h

theorem i_laws_toRec_fnB {ds rs : List D} (hle : ds.length ≤ 21) (h : AW Try.prog 21 i_laws_toRec (EndsB [.cell 2 (some 5)] rs) (init ds)) : Fn Try.prog k_laws_toRec (lent ds) false rs :=
  Fn.introB' (by kernel_rfl) Try.func181 (by kernel_rfl) i_laws_toRec_ok (by kernel_rfl) hle h.h

abbrev i_laws_toRecS_r0 : List RO := [
  ⟨⟨none, .mov 2 (.c (.one .zs))⟩, 0, []⟩]

abbrev i_laws_toRecS_r1 : List RO := [
  ⟨⟨none, .mov 5 (.t 0)⟩, 0, []⟩,
  ⟨⟨none, .len 6 false (.t 5)⟩, 0, []⟩,
  ⟨⟨none, .mksl 7 5 56 [(.int .i64 0), (.int .i64 0), (.int .i64 0), (.int .i64 0), (.sl 4 [])] (.t 6) (.t 6)⟩, 0, []⟩,
  ⟨⟨none, .mov 3 (.t 7)⟩, 0, []⟩]

abbrev i_laws_toRecS_r2 : List RO := [
  ⟨⟨none, .mov 4 (.c (.one (.d (.int .i64 0))))⟩, 0, []⟩]

abbrev i_laws_toRecS_r3 : List RO := [
  ⟨⟨none, .mov 8 (.t 4)⟩, 0, []⟩,
  ⟨⟨none, .mov 9 (.t 0)⟩, 0, []⟩,
  ⟨⟨none, .len 10 false (.t 9)⟩, 0, []⟩,
  ⟨⟨none, .bin 11 .lss (.t 8) (.t 10)⟩, 0, []⟩]

abbrev i_laws_toRecS_r4 : List RO := [
  ⟨⟨none, .mov 14 (.t 3)⟩, 0, []⟩,
  ⟨⟨none, .mov 15 (.t 4)⟩, 0, []⟩,
  ⟨⟨none, .mov 16 (.t 0)⟩, 0, []⟩,
  ⟨⟨none, .mov 17 (.t 4)⟩, 0, []⟩,
  ⟨⟨none, .iaddr 18 5 (.t 16) (.t 17)⟩, 0, []⟩,
  ⟨⟨none, .load 19 (some 5) (.t 18)⟩, 0, []⟩,
  ⟨⟨none, .callv 20 (.c (.one (.fn k_laws_toRec []))) [(.t 19)]⟩, 0, []⟩,
  ⟨⟨none, .iaddr 21 5 (.t 14) (.t 15)⟩, 0, []⟩,
  ⟨⟨none, .store 5 [(.int .i64 0), (.int .i64 0), (.int .i64 0), (.int .i64 0), (.sl 4 [])] (.t 21) (.t 20)⟩, 0, []⟩]

abbrev i_laws_toRecS_r5 : List RO := [
  ⟨⟨none, .mov 12 (.t 4)⟩, 0, []⟩,
  ⟨⟨none, .bin 13 .add (.t 12) (.c (.one (.d (.int .i64 1))))⟩, 0, []⟩,
  ⟨⟨none, .mov 4 (.t 13)⟩, 0, []⟩]

abbrev i_laws_toRecS_r6 : List RO := [
  ⟨⟨none, .mov 22 (.t 3)⟩, 0, []⟩,
  ⟨⟨none, .mov 2 (.t 22)⟩, 0, []⟩]

def i_laws_toRecS : IC := (.seq (.reg i_laws_toRecS_r0)
  (.seq (.reg i_laws_toRecS_r1)
  (.seq (.seq (.reg i_laws_toRecS_r2)
  (.block 0 (.loop (.seq (.seq (.reg i_laws_toRecS_r3)
  (.cond (.t 11) .skip (.exit 0)))
  (.seq (.block 1 (.reg i_laws_toRecS_r4))
  (.reg i_laws_toRecS_r5))))))
  (.seq (.reg i_laws_toRecS_r6)
  .ret))))

theorem i_laws_toRecS_ok : (Try.f111.body.bind fun c => toIC Try.prog 23 c []) = some (i_laws_toRecS, []) := by kernel_rfl

theorem i_laws_toRecS_fn {ds rs : List D} (hle : ds.length ≤ 23) (h : AW Try.prog 23 i_laws_toRecS (Ends [.tmp 2] rs) (init ds)) : Fn Try.prog k_laws_toRecS (lent ds) true rs :=
  Fn.intro' (by kernel_rfl) Try.func111 (by kernel_rfl) i_laws_toRecS_ok (by kernel_rfl) hle h.h

theorem i_laws_toRecS_fnB {ds rs : List D} (hle : ds.length ≤ 23) (h : AW Try.prog 23 i_laws_toRecS (EndsB [.tmp 2] rs) (init ds)) : Fn Try.prog k_laws_toRecS (lent ds) false rs :=
  Fn.introB' (by kernel_rfl) Try.func111 (by kernel_rfl) i_laws_toRecS_ok (by kernel_rfl) hle h.h

abbrev i_laws_toIntS_r0 : List RO := [
  ⟨⟨none, .mov 2 (.c (.one .zs))⟩, 0, []⟩]

abbrev i_laws_toIntS_r1 : List RO := [
  ⟨⟨none, .mov 5 (.t 0)⟩, 0, []⟩,
  ⟨⟨none, .len 6 false (.t 5)⟩, 0, []⟩,
  ⟨⟨none, .mksl 7 1 8 [(.int .i64 0)] (.t 6) (.t 6)⟩, 0, []⟩,
  ⟨⟨none, .mov 3 (.t 7)⟩, 0, []⟩]

abbrev i_laws_toIntS_r2 : List RO := [
  ⟨⟨none, .mov 4 (.c (.one (.d (.int .i64 0))))⟩, 0, []⟩]

abbrev i_laws_toIntS_r3 : List RO := [
  ⟨⟨none, .mov 8 (.t 4)⟩, 0, []⟩,
  ⟨⟨none, .mov 9 (.t 0)⟩, 0, []⟩,
  ⟨⟨none, .len 10 false (.t 9)⟩, 0, []⟩,
  ⟨⟨none, .bin 11 .lss (.t 8) (.t 10)⟩, 0, []⟩]

abbrev i_laws_toIntS_r4 : List RO := [
  ⟨⟨none, .mov 14 (.t 3)⟩, 0, []⟩,
  ⟨⟨none, .mov 15 (.t 4)⟩, 0, []⟩,
  ⟨⟨none, .mov 16 (.t 0)⟩, 0, []⟩,
  ⟨⟨none, .mov 17 (.t 4)⟩, 0, []⟩,
  ⟨⟨none, .iaddr 18 1 (.t 16) (.t 17)⟩, 0, []⟩,
  ⟨⟨none, .load 19 none (.t 18)⟩, 0, []⟩,
  ⟨⟨none, .iaddr 20 1 (.t 14) (.t 15)⟩, 0, []⟩,
  ⟨⟨none, .store 1 [(.int .i64 0)] (.t 20) (.t 19)⟩, 0, []⟩]

abbrev i_laws_toIntS_r5 : List RO := [
  ⟨⟨none, .mov 12 (.t 4)⟩, 0, []⟩,
  ⟨⟨none, .bin 13 .add (.t 12) (.c (.one (.d (.int .i64 1))))⟩, 0, []⟩,
  ⟨⟨none, .mov 4 (.t 13)⟩, 0, []⟩]

abbrev i_laws_toIntS_r6 : List RO := [
  ⟨⟨none, .mov 21 (.t 3)⟩, 0, []⟩,
  ⟨⟨none, .mov 2 (.t 21)⟩, 0, []⟩]

def i_laws_toIntS : IC := (.seq (.reg i_laws_toIntS_r0)
  (.seq (.reg i_laws_toIntS_r1)
  (.seq (.seq (.reg i_laws_toIntS_r2)
  (.block 0 (.loop (.seq (.seq (.reg i_laws_toIntS_r3)
  (.cond (.t 11) .skip (.exit 0)))
  (.seq (.block 1 (.reg i_laws_toIntS_r4))
  (.reg i_laws_toIntS_r5))))))
  (.seq (.reg i_laws_toIntS_r6)
  .ret))))

theorem i_laws_toIntS_ok : (Try.f112.body.bind fun c => toIC Try.prog 22 c []) = some (i_laws_toIntS, []) := by kernel_rfl

theorem i_laws_toIntS_fn {ds rs : List D} (hle : ds.length ≤ 22) (h : AW Try.prog 22 i_laws_toIntS (Ends [.tmp 2] rs) (init ds)) : Fn Try.prog k_laws_toIntS (lent ds) true rs :=
  Fn.intro' (by kernel_rfl) Try.func112 (by kernel_rfl) i_laws_toIntS_ok (by kernel_rfl) hle h.h

theorem i_laws_toIntS_fnB {ds rs : List D} (hle : ds.length ≤ 22) (h : AW Try.prog 22 i_laws_toIntS (EndsB [.tmp 2] rs) (init ds)) : Fn Try.prog k_laws_toIntS (lent ds) false rs :=
  Fn.introB' (by kernel_rfl) Try.func112 (by kernel_rfl) i_laws_toIntS_ok (by kernel_rfl) hle h.h

abbrev i_laws_toCoord_r0 : List RO := [
  ⟨⟨none, .box 1 (.t 0)⟩, 0, []⟩,
  ⟨⟨none, .var 2 [.zs, .zs]⟩, 0, []⟩]

abbrev i_laws_toCoord_r1 : List RO := [
  ⟨⟨none, .var 3 [.zs, .zs]⟩, 0, []⟩]

abbrev i_laws_toCoord_r2 : List RO := [
  ⟨⟨none, .faddr 4 0 (.t 1)⟩, 0, []⟩,
  ⟨⟨none, .load 5 none (.t 4)⟩, 0, []⟩,
  ⟨⟨none, .callv 6 (.c (.one (.fn k_laws_toRecS []))) [(.t 5)]⟩, 0, []⟩,
  ⟨⟨none, .faddr 7 0 (.t 3)⟩, 0, []⟩,
  ⟨⟨none, .store 1 [(.sl 5 [])] (.t 7) (.t 6)⟩, 0, []⟩]

abbrev i_laws_toCoord_r3 : List RO := [
  ⟨⟨none, .faddr 8 1 (.t 1)⟩, 0, []⟩,
  ⟨⟨none, .load 9 none (.t 8)⟩, 0, []⟩,
  ⟨⟨none, .callv 10 (.c (.one (.fn k_laws_toIntS []))) [(.t 9)]⟩, 0, []⟩,
  ⟨⟨none, .faddr 11 1 (.t 3)⟩, 0, []⟩,
  ⟨⟨none, .store 1 [(.sl 1 [])] (.t 11) (.t 10)⟩, 0, []⟩]

abbrev i_laws_toCoord_r4 : List RO := [
  ⟨⟨none, .load 12 (some 2) (.t 3)⟩, 0, []⟩,
  ⟨⟨none, .store 2 [(.sl 5 []), (.sl 1 [])] (.t 2) (.t 12)⟩, 0, []⟩]

def i_laws_toCoord : IC := (.seq (.reg i_laws_toCoord_r0)
  (.seq (.reg i_laws_toCoord_r1)
  (.seq (.reg i_laws_toCoord_r2)
  (.seq (.reg i_laws_toCoord_r3)
  (.seq (.reg i_laws_toCoord_r4)
  .ret)))))

theorem i_laws_toCoord_ok : (Try.f33.body.bind fun c => toIC Try.prog 13 c []) = some (i_laws_toCoord, []) := by kernel_rfl

theorem i_laws_toCoord_fn {ds rs : List D} (hle : ds.length ≤ 13) (h : AW Try.prog 13 i_laws_toCoord (Ends [.cell 2 (some 2)] rs) (init ds)) : Fn Try.prog k_laws_toCoord (lent ds) true rs :=
  Fn.intro' (by kernel_rfl) Try.func33 (by kernel_rfl) i_laws_toCoord_ok (by kernel_rfl) hle h.h

theorem i_laws_toCoord_fnB {ds rs : List D} (hle : ds.length ≤ 13) (h : AW Try.prog 13 i_laws_toCoord (EndsB [.cell 2 (some 2)] rs) (init ds)) : Fn Try.prog k_laws_toCoord (lent ds) false rs :=
  Fn.introB' (by kernel_rfl) Try.func33 (by kernel_rfl) i_laws_toCoord_ok (by kernel_rfl) hle h.h

abbrev i_spec_l1In_r0 : List RO := [
  ⟨⟨none, .mov 6 (.c (.one (.d (.bool false))))⟩, 0, []⟩]

abbrev i_spec_l1In_r1 : List RO := [
  ⟨⟨none, .mov 7 (.t 0)⟩, 0, []⟩,
  ⟨⟨none, .mov 8 (.t 1)⟩, 0, []⟩,
  ⟨⟨none, .bin 9 .geq (.t 7) (.t 8)⟩, 0, []⟩,
  ⟨⟨none, .mov 10 (.t 9)⟩, 0, []⟩,
  ⟨⟨some (10, true), .mov 11 (.t 0)⟩, 0, []⟩,
  ⟨⟨some (10, true), .mov 12 (.t 2)⟩, 0, []⟩,
  ⟨⟨some (10, true), .bin 13 .leq (.t 11) (.t 12)⟩, 0, []⟩,
  ⟨⟨none, .pick 14 (.t 10) (.t 13) (.c (.one (.d (.bool false))))⟩, 0, []⟩,
  ⟨⟨none, .mov 6 (.t 14)⟩, 0, []⟩]

def i_spec_l1In : IC := (.seq (.reg i_spec_l1In_r0)
  (.seq (.reg i_spec_l1In_r1)
  .ret))

theorem i_spec_l1In_ok : (Try.f68.body.bind fun c => toIC Try.prog 15 c []) = some (i_spec_l1In, []) := by kernel_rfl

theorem i_spec_l1In_fn {ds rs : List D} (hle : ds.length ≤ 15) (h : AW Try.prog 15 i_spec_l1In (Ends [.tmp 6] rs) (init ds)) : Fn Try.prog k_spec_l1In (lent ds) true rs :=
  Fn.intro' (by kernel_rfl) Try.func68 (by kernel_rfl) i_spec_l1In_ok (by kernel_rfl) hle h.h

theorem i_spec_l1In_fnB {ds rs : List D} (hle : ds.length ≤ 15) (h : AW Try.prog 15 i_spec_l1In (EndsB [.tmp 6] rs) (init ds)) : Fn Try.prog k_spec_l1In (lent ds) false rs :=
  Fn.introB' (by kernel_rfl) Try.func68 (by kernel_rfl) i_spec_l1In_ok (by kernel_rfl) hle h.h

abbrev i_spec_l1Whole_r0 : List RO := [
  ⟨⟨none, .mov 2 (.c (.one (.d (.bool false))))⟩, 0, []⟩]

abbrev i_spec_l1Whole_r1 : List RO := [
  ⟨⟨none, .mov 3 (.t 0)⟩, 0, []⟩,
  ⟨⟨none, .callv 4 (.c (.one (.fn k_spec_l1In []))) [(.t 3), (.c (.one (.d (.int .i64 0)))), (.c (.one (.d (.int .i64 1000000000))))]⟩, 0, []⟩,
  ⟨⟨none, .mov 2 (.t 4)⟩, 0, []⟩]

def i_spec_l1Whole : IC := (.seq (.reg i_spec_l1Whole_r0)
  (.seq (.reg i_spec_l1Whole_r1)
  .ret))

theorem i_spec_l1Whole_ok : (Try.f93.body.bind fun c => toIC Try.prog 5 c []) = some (i_spec_l1Whole, []) := by kernel_rfl

theorem i_spec_l1Whole_fn {ds rs : List D} (hle : ds.length ≤ 5) (h : AW Try.prog 5 i_spec_l1Whole (Ends [.tmp 2] rs) (init ds)) : Fn Try.prog k_spec_l1Whole (lent ds) true rs :=
  Fn.intro' (by kernel_rfl) Try.func93 (by kernel_rfl) i_spec_l1Whole_ok (by kernel_rfl) hle h.h

theorem i_spec_l1Whole_fnB {ds rs : List D} (hle : ds.length ≤ 5) (h : AW Try.prog 5 i_spec_l1Whole (EndsB [.tmp 2] rs) (init ds)) : Fn Try.prog k_spec_l1Whole (lent ds) false rs :=
  Fn.introB' (by kernel_rfl) Try.func93 (by kernel_rfl) i_spec_l1Whole_ok (by kernel_rfl) hle h.h

abbrev i_spec_l10Key_r0 : List RO := [
  ⟨⟨none, .mov 2 (.c (.one (.d (.bool false))))⟩, 0, []⟩]

abbrev i_spec_l10Key_r1 : List RO := [
  ⟨⟨none, .mov 3 (.t 0)⟩, 0, []⟩,
  ⟨⟨none, .callv 4 (.c (.one (.fn k_spec_l1In []))) [(.t 3), (.c (.one (.d (.int .i64 0)))), (.c (.one (.d (.int .i64 999))))]⟩, 0, []⟩,
  ⟨⟨none, .mov 2 (.t 4)⟩, 0, []⟩]

def i_spec_l10Key : IC := (.seq (.reg i_spec_l10Key_r0)
  (.seq (.reg i_spec_l10Key_r1)
  .ret))

theorem i_spec_l10Key_ok : (Try.f166.body.bind fun c => toIC Try.prog 5 c []) = some (i_spec_l10Key, []) := by kernel_rfl

theorem i_spec_l10Key_fn {ds rs : List D} (hle : ds.length ≤ 5) (h : AW Try.prog 5 i_spec_l10Key (Ends [.tmp 2] rs) (init ds)) : Fn Try.prog k_spec_l10Key (lent ds) true rs :=
  Fn.intro' (by kernel_rfl) Try.func166 (by kernel_rfl) i_spec_l10Key_ok (by kernel_rfl) hle h.h

theorem i_spec_l10Key_fnB {ds rs : List D} (hle : ds.length ≤ 5) (h : AW Try.prog 5 i_spec_l10Key (EndsB [.tmp 2] rs) (init ds)) : Fn Try.prog k_spec_l10Key (lent ds) false rs :=
  Fn.introB' (by kernel_rfl) Try.func166 (by kernel_rfl) i_spec_l10Key_ok (by kernel_rfl) hle h.h

abbrev i_spec_WritesOk_r0 : List RO := [
  ⟨⟨none, .mov 2 (.c (.one (.d (.bool false))))⟩, 0, []⟩]

abbrev i_spec_WritesOk_r1 : List RO := [
  ⟨⟨none, .mov 4 (.t 0)⟩, 0, []⟩,
  ⟨⟨none, .len 5 false (.t 4)⟩, 0, []⟩,
  ⟨⟨none, .bin 6 .gtr (.t 5) (.c (.one (.d (.int .i64 60))))⟩, 0, []⟩]

abbrev i_spec_WritesOk_r2 : List RO := [
  ⟨⟨none, .mov 2 (.c (.one (.d (.bool false))))⟩, 0, []⟩]

abbrev i_spec_WritesOk_r3 : List RO := [
  ⟨⟨none, .mov 3 (.c (.one (.d (.int .i64 0))))⟩, 0, []⟩]

abbrev i_spec_WritesOk_r4 : List RO := [
  ⟨⟨none, .mov 7 (.t 3)⟩, 0, []⟩,
  ⟨⟨none, .mov 8 (.t 0)⟩, 0, []⟩,
  ⟨⟨none, .len 9 false (.t 8)⟩, 0, []⟩,
  ⟨⟨none, .bin 10 .lss (.t 7) (.t 9)⟩, 0, []⟩]

abbrev i_spec_WritesOk_r5 : List RO := [
  ⟨⟨none, .mov 13 (.t 0)⟩, 0, []⟩,
  ⟨⟨none, .mov 14 (.t 3)⟩, 0, []⟩,
  ⟨⟨none, .iaddr 15 2 (.t 13) (.t 14)⟩, 3, []⟩,
  ⟨⟨none, .faddr 16 0 (.t 15)⟩, 7, []⟩,
  ⟨⟨none, .load 17 none (.t 16)⟩, 15, []⟩,
  ⟨⟨none, .callv 18 (.c (.one (.fn k_spec_l10Key []))) [(.t 17)]⟩, 31, []⟩,
  ⟨⟨none, .inv 19 (.t 18)⟩, 63, []⟩,
  ⟨⟨none, .mov 20 (.t 19)⟩, 127, []⟩,
  ⟨⟨some (20, false), .mov 21 (.t 0)⟩, 255, []⟩,
  ⟨⟨some (20, false), .mov 22 (.t 3)⟩, 255, []⟩,
  ⟨⟨some (20, false), .iaddr 23 2 (.t 21) (.t 22)⟩, 1023, []⟩,
  ⟨⟨some (20, false), .faddr 24 1 (.t 23)⟩, 2047, []⟩,
  ⟨⟨some (20, false), .load 25 none (.t 24)⟩, 4095, []⟩,
  ⟨⟨some (20, false), .callv 26 (.c (.one (.fn k_spec_l1In []))) [(.t 25), (.c (.one (.d (.int .i64 (-1))))), (.c (.one (.d (.int .i64 1000000000))))]⟩, 8191, []⟩,
  ⟨⟨some (20, false), .inv 27 (.t 26)⟩, 16383, []⟩,
  ⟨⟨none, .pick 28 (.t 20) (.c (.one (.d (.bool true)))) (.t 27)⟩, 32767, []⟩,
  ⟨⟨none, .mov 29 (.t 28)⟩, 65535, []⟩,
  ⟨⟨some (29, false), .mov 30 (.t 3)⟩, 131071, []⟩,
  ⟨⟨some (29, false), .bin 31 .gtr (.t 30) (.c (.one (.d (.int .i64 0))))⟩, 262143, []⟩,
  ⟨⟨some (29, false), .mov 32 (.t 31)⟩, 524287, []⟩,
  ⟨⟨some (32, true), .mov 33 (.t 0)⟩, 1048575, []⟩,
  ⟨⟨some (32, true), .mov 34 (.t 3)⟩, 1048575, []⟩,
  ⟨⟨some (32, true), .bin 35 .sub (.t 34) (.c (.one (.d (.int .i64 1))))⟩, 3145727, []⟩,
  ⟨⟨some (32, true), .iaddr 36 2 (.t 33) (.t 35)⟩, 8388607, []⟩,
  ⟨⟨some (32, true), .faddr 37 0 (.t 36)⟩, 16777215, []⟩,
  ⟨⟨some (32, true), .load 38 none (.t 37)⟩, 33554431, []⟩,
  ⟨⟨some (32, true), .mov 39 (.t 0)⟩, 1048575, []⟩,
  ⟨⟨some (32, true), .mov 40 (.t 3)⟩, 1048575, []⟩,
  ⟨⟨some (32, true), .iaddr 41 2 (.t 39) (.t 40)⟩, 202375167, []⟩,
  ⟨⟨some (32, true), .faddr 42 0 (.t 41)⟩, 470810623, []⟩,
  ⟨⟨some (32, true), .load 43 none (.t 42)⟩, 1007681535, []⟩,
  ⟨⟨some (32, true), .bin 44 .geq (.t 38) (.t 43)⟩, 2147483647, []⟩,
  ⟨⟨some (29, false), .pick 45 (.t 32) (.t 44) (.c (.one (.d (.bool false))))⟩, 4294967295, []⟩,
  ⟨⟨none, .pick 46 (.t 29) (.c (.one (.d (.bool true)))) (.t 45)⟩, 8589934591, []⟩]

abbrev i_spec_WritesOk_r6 : List RO := [
  ⟨⟨none, .mov 2 (.c (.one (.d (.bool false))))⟩, 0, []⟩]

abbrev i_spec_WritesOk_r7 : List RO := [
  ⟨⟨none, .mov 11 (.t 3)⟩, 0, []⟩,
  ⟨⟨none, .bin 12 .add (.t 11) (.c (.one (.d (.int .i64 1))))⟩, 0, []⟩,
  ⟨⟨none, .mov 3 (.t 12)⟩, 0, []⟩]

abbrev i_spec_WritesOk_r8 : List RO := [
  ⟨⟨none, .mov 2 (.c (.one (.d (.bool true))))⟩, 0, []⟩]

def i_spec_WritesOk : IC := (.seq (.reg i_spec_WritesOk_r0)
  (.seq (.seq (.reg i_spec_WritesOk_r1)
  (.cond (.t 6) (.seq (.reg i_spec_WritesOk_r2)
  .ret) .skip))
  (.seq (.seq (.reg i_spec_WritesOk_r3)
  (.block 0 (.loop (.seq (.seq (.reg i_spec_WritesOk_r4)
  (.cond (.t 10) .skip (.exit 0)))
  (.seq (.block 1 (.seq (.regd i_spec_WritesOk_r5)
  (.cond (.t 46) (.seq (.reg i_spec_WritesOk_r6)
  .ret) .skip)))
  (.reg i_spec_WritesOk_r7))))))
  (.seq (.reg i_spec_WritesOk_r8)
  .ret))))

theorem i_spec_WritesOk_ok : (Try.f69.body.bind fun c => toIC Try.prog 47 c [[(0, []), (0, []), (3, []), (7, []), (15, []), (31, []), (63, []), (127, []), (255, []), (255, []), (1023, []), (2047, []), (4095, []), (8191, []), (16383, []), (32767, []), (65535, []), (131071, []), (262143, []), (524287, []), (1048575, []), (1048575, []), (3145727, []), (8388607, []), (16777215, []), (33554431, []), (1048575, []), (1048575, []), (202375167, []), (470810623, []), (1007681535, []), (2147483647, []), (4294967295, []), (8589934591, [])]]) = some (i_spec_WritesOk, []) := by kernel_rfl

theorem i_spec_WritesOk_fn {ds rs : List D} (hle : ds.length ≤ 47) (h : AW Try.prog 47 i_spec_WritesOk (Ends [.tmp 2] rs) (init ds)) : Fn Try.prog k_spec_WritesOk (lent ds) true rs :=
  Fn.intro' (by kernel_rfl) Try.func69 (by kernel_rfl) i_spec_WritesOk_ok (by kernel_rfl) hle h.h

theorem i_spec_WritesOk_fnB {ds rs : List D} (hle : ds.length ≤ 47) (h : AW Try.prog 47 i_spec_WritesOk (EndsB [.tmp 2] rs) (init ds)) : Fn Try.prog k_spec_WritesOk (lent ds) false rs :=
  Fn.introB' (by kernel_rfl) Try.func69 (by kernel_rfl) i_spec_WritesOk_ok (by kernel_rfl) hle h.h

abbrev i_spec_RangeOk_r0 : List RO := [
  ⟨⟨none, .box 1 (.t 0)⟩, 0, []⟩,
  ⟨⟨none, .mov 2 (.c (.one (.d (.bool false))))⟩, 0, []⟩]

abbrev i_spec_RangeOk_r1 : List RO := [
  ⟨⟨none, .faddr 3 0 (.t 1)⟩, 0, []⟩,
  ⟨⟨none, .load 4 none (.t 3)⟩, 0, []⟩,
  ⟨⟨none, .bin 5 .geq (.t 4) (.c (.one (.d (.int .i64 0))))⟩, 0, []⟩,
  ⟨⟨none, .mov 6 (.t 5)⟩, 0, []⟩,
  ⟨⟨some (6, true), .faddr 7 0 (.t 1)⟩, 0, []⟩,
  ⟨⟨some (6, true), .load 8 none (.t 7)⟩, 0, []⟩,
  ⟨⟨some (6, true), .faddr 9 1 (.t 1)⟩, 0, []⟩,
  ⟨⟨some (6, true), .load 10 none (.t 9)⟩, 0, []⟩,
  ⟨⟨some (6, true), .bin 11 .lss (.t 8) (.t 10)⟩, 0, []⟩,
  ⟨⟨none, .pick 12 (.t 6) (.t 11) (.c (.one (.d (.bool false))))⟩, 0, []⟩,
  ⟨⟨none, .mov 13 (.t 12)⟩, 0, []⟩,
  ⟨⟨some (13, true), .faddr 14 1 (.t 1)⟩, 0, []⟩,
  ⟨⟨some (13, true), .load 15 none (.t 14)⟩, 0, []⟩,
  ⟨⟨some (13, true), .bin 16 .leq (.t 15) (.c (.one (.d (.int .i64 1000))))⟩, 0, []⟩,
  ⟨⟨none, .pick 17 (.t 13) (.t 16) (.c (.one (.d (.bool false))))⟩, 0, []⟩,
  ⟨⟨none, .mov 2 (.t 17)⟩, 0, []⟩]

def i_spec_RangeOk : IC := (.seq (.reg i_spec_RangeOk_r0)
  (.seq (.reg i_spec_RangeOk_r1)
  .ret))

theorem i_spec_RangeOk_ok : (Try.f70.body.bind fun c => toIC Try.prog 18 c []) = some (i_spec_RangeOk, []) := by kernel_rfl

theorem i_spec_RangeOk_fn {ds rs : List D} (hle : ds.length ≤ 18) (h : AW Try.prog 18 i_spec_RangeOk (Ends [.tmp 2] rs) (init ds)) : Fn Try.prog k_spec_RangeOk (lent ds) true rs :=
  Fn.intro' (by kernel_rfl) Try.func70 (by kernel_rfl) i_spec_RangeOk_ok (by kernel_rfl) hle h.h

theorem i_spec_RangeOk_fnB {ds rs : List D} (hle : ds.length ≤ 18) (h : AW Try.prog 18 i_spec_RangeOk (EndsB [.tmp 2] rs) (init ds)) : Fn Try.prog k_spec_RangeOk (lent ds) false rs :=
  Fn.introB' (by kernel_rfl) Try.func70 (by kernel_rfl) i_spec_RangeOk_ok (by kernel_rfl) hle h.h

abbrev i_spec_SharesOk_r0 : List RO := [
  ⟨⟨none, .mov 2 (.c (.one (.d (.bool false))))⟩, 0, []⟩]

abbrev i_spec_SharesOk_r1 : List RO := [
  ⟨⟨none, .mov 6 (.t 0)⟩, 0, []⟩,
  ⟨⟨none, .len 7 false (.t 6)⟩, 0, []⟩,
  ⟨⟨none, .bin 8 .gtr (.t 7) (.c (.one (.d (.int .i64 4))))⟩, 0, []⟩]

abbrev i_spec_SharesOk_r2 : List RO := [
  ⟨⟨none, .mov 2 (.c (.one (.d (.bool false))))⟩, 0, []⟩]

abbrev i_spec_SharesOk_r3 : List RO := [
  ⟨⟨none, .mov 3 (.c (.one (.d (.int .i64 0))))⟩, 0, []⟩]

abbrev i_spec_SharesOk_r4 : List RO := [
  ⟨⟨none, .mov 9 (.t 3)⟩, 0, []⟩,
  ⟨⟨none, .mov 10 (.t 0)⟩, 0, []⟩,
  ⟨⟨none, .len 11 false (.t 10)⟩, 0, []⟩,
  ⟨⟨none, .bin 12 .lss (.t 9) (.t 11)⟩, 0, []⟩]

abbrev i_spec_SharesOk_r5 : List RO := [
  ⟨⟨none, .mov 15 (.t 0)⟩, 0, []⟩,
  ⟨⟨none, .mov 16 (.t 3)⟩, 0, []⟩,
  ⟨⟨none, .iaddr 17 4 (.t 15) (.t 16)⟩, 0, []⟩,
  ⟨⟨none, .load 18 (some 4) (.t 17)⟩, 0, []⟩,
  ⟨⟨none, .var 4 [(.d (.int .i64 0)), .zs, .zs, (.d (.int .i64 0))]⟩, 0, []⟩,
  ⟨⟨none, .store 4 [(.int .i64 0), (.sl 2 []), (.sl 2 []), (.int .i64 0)] (.t 4) (.t 18)⟩, 0, []⟩]

abbrev i_spec_SharesOk_r6 : List RO := [
  ⟨⟨none, .faddr 19 0 (.t 4)⟩, 0, []⟩,
  ⟨⟨none, .load 20 none (.t 19)⟩, 1, []⟩,
  ⟨⟨none, .callv 21 (.c (.one (.fn k_spec_l1In []))) [(.t 20), (.c (.one (.d (.int .i64 0)))), (.c (.one (.d (.int .i64 3))))]⟩, 3, []⟩,
  ⟨⟨none, .inv 22 (.t 21)⟩, 7, []⟩,
  ⟨⟨none, .mov 23 (.t 22)⟩, 15, []⟩,
  ⟨⟨some (23, false), .mov 24 (.t 3)⟩, 31, []⟩,
  ⟨⟨some (23, false), .bin 25 .gtr (.t 24) (.c (.one (.d (.int .i64 0))))⟩, 63, []⟩,
  ⟨⟨some (23, false), .mov 26 (.t 25)⟩, 127, []⟩,
  ⟨⟨some (26, true), .mov 27 (.t 0)⟩, 255, []⟩,
  ⟨⟨some (26, true), .mov 28 (.t 3)⟩, 255, []⟩,
  ⟨⟨some (26, true), .bin 29 .sub (.t 28) (.c (.one (.d (.int .i64 1))))⟩, 767, []⟩,
  ⟨⟨some (26, true), .iaddr 30 4 (.t 27) (.t 29)⟩, 2047, []⟩,
  ⟨⟨some (26, true), .faddr 31 0 (.t 30)⟩, 4095, []⟩,
  ⟨⟨some (26, true), .load 32 none (.t 31)⟩, 8191, []⟩,
  ⟨⟨some (26, true), .faddr 33 0 (.t 4)⟩, 255, []⟩,
  ⟨⟨some (26, true), .load 34 none (.t 33)⟩, 16639, []⟩,
  ⟨⟨some (26, true), .bin 35 .geq (.t 32) (.t 34)⟩, 65535, []⟩,
  ⟨⟨some (23, false), .pick 36 (.t 26) (.t 35) (.c (.one (.d (.bool false))))⟩, 131071, []⟩,
  ⟨⟨none, .pick 37 (.t 23) (.c (.one (.d (.bool true)))) (.t 36)⟩, 262143, []⟩,
  ⟨⟨none, .mov 38 (.t 37)⟩, 524287, []⟩,
  ⟨⟨some (38, false), .faddr 39 1 (.t 4)⟩, 1048575, []⟩,
  ⟨⟨some (38, false), .load 40 none (.t 39)⟩, 2097151, []⟩,
  ⟨⟨some (38, false), .len 41 false (.t 40)⟩, 4194303, []⟩,
  ⟨⟨some (38, false), .bin 42 .gtr (.t 41) (.c (.one (.d (.int .i64 16))))⟩, 8388607, []⟩,
  ⟨⟨none, .pick 43 (.t 38) (.c (.one (.d (.bool true)))) (.t 42)⟩, 16777215, []⟩,
  ⟨⟨none, .mov 44 (.t 43)⟩, 33554431, []⟩,
  ⟨⟨some (44, false), .faddr 45 2 (.t 4)⟩, 67108863, []⟩,
  ⟨⟨some (44, false), .load 46 none (.t 45)⟩, 134217727, []⟩,
  ⟨⟨some (44, false), .callv 47 (.c (.one (.fn k_spec_WritesOk []))) [(.t 46)]⟩, 268435455, []⟩,
  ⟨⟨some (44, false), .inv 48 (.t 47)⟩, 536870911, []⟩,
  ⟨⟨none, .pick 49 (.t 44) (.c (.one (.d (.bool true)))) (.t 48)⟩, 1073741823, []⟩,
  ⟨⟨none, .mov 50 (.t 49)⟩, 2147483647, []⟩,
  ⟨⟨some (50, false), .faddr 51 3 (.t 4)⟩, 4294967295, []⟩,
  ⟨⟨some (50, false), .load 52 none (.t 51)⟩, 8589934591, []⟩,
  ⟨⟨some (50, false), .callv 53 (.c (.one (.fn k_spec_l1In []))) [(.t 52), (.c (.one (.d (.int .i64 0)))), (.c (.one (.d (.int .i64 2))))]⟩, 17179869183, []⟩,
  ⟨⟨some (50, false), .inv 54 (.t 53)⟩, 34359738367, []⟩,
  ⟨⟨none, .pick 55 (.t 50) (.c (.one (.d (.bool true)))) (.t 54)⟩, 68719476735, []⟩]

abbrev i_spec_SharesOk_r7 : List RO := [
  ⟨⟨none, .mov 2 (.c (.one (.d (.bool false))))⟩, 0, []⟩]

abbrev i_spec_SharesOk_r8 : List RO := [
  ⟨⟨none, .mov 5 (.c (.one (.d (.int .i64 0))))⟩, 0, []⟩]

abbrev i_spec_SharesOk_r9 : List RO := [
  ⟨⟨none, .mov 56 (.t 5)⟩, 0, []⟩,
  ⟨⟨none, .faddr 57 1 (.t 4)⟩, 0, []⟩,
  ⟨⟨none, .load 58 none (.t 57)⟩, 0, []⟩,
  ⟨⟨none, .len 59 false (.t 58)⟩, 0, []⟩,
  ⟨⟨none, .bin 60 .lss (.t 56) (.t 59)⟩, 0, []⟩]

abbrev i_spec_SharesOk_r10 : List RO := [
  ⟨⟨none, .faddr 63 1 (.t 4)⟩, 0, []⟩,
  ⟨⟨none, .load 64 none (.t 63)⟩, 0, []⟩,
  ⟨⟨none, .mov 65 (.t 5)⟩, 0, []⟩,
  ⟨⟨none, .iaddr 66 2 (.t 64) (.t 65)⟩, 0, []⟩,
  ⟨⟨none, .load 67 (some 2) (.t 66)⟩, 0, []⟩,
  ⟨⟨none, .callv 68 (.c (.one (.fn k_spec_RangeOk []))) [(.t 67)]⟩, 0, []⟩,
  ⟨⟨none, .inv 69 (.t 68)⟩, 0, []⟩]

abbrev i_spec_SharesOk_r11 : List RO := [
  ⟨⟨none, .mov 2 (.c (.one (.d (.bool false))))⟩, 0, []⟩]

abbrev i_spec_SharesOk_r12 : List RO := [
  ⟨⟨none, .mov 61 (.t 5)⟩, 0, []⟩,
  ⟨⟨none, .bin 62 .add (.t 61) (.c (.one (.d (.int .i64 1))))⟩, 0, []⟩,
  ⟨⟨none, .mov 5 (.t 62)⟩, 0, []⟩]

abbrev i_spec_SharesOk_r13 : List RO := [
  ⟨⟨none, .mov 13 (.t 3)⟩, 0, []⟩,
  ⟨⟨none, .bin 14 .add (.t 13) (.c (.one (.d (.int .i64 1))))⟩, 0, []⟩,
  ⟨⟨none, .mov 3 (.t 14)⟩, 0, []⟩]

abbrev i_spec_SharesOk_r14 : List RO := [
  ⟨⟨none, .mov 2 (.c (.one (.d (.bool true))))⟩, 0, []⟩]

def i_spec_SharesOk : IC := (.seq (.reg i_spec_SharesOk_r0)
  (.seq (.seq (.reg i_spec_SharesOk_r1)
  (.cond (.t 8) (.seq (.reg i_spec_SharesOk_r2)
  .ret) .skip))
  (.seq (.seq (.reg i_spec_SharesOk_r3)
  (.block 0 (.loop (.seq (.seq (.reg i_spec_SharesOk_r4)
  (.cond (.t 12) .skip (.exit 0)))
  (.seq (.block 1 (.seq (.reg i_spec_SharesOk_r5)
  (.seq (.seq (.regd i_spec_SharesOk_r6)
  (.cond (.t 55) (.seq (.reg i_spec_SharesOk_r7)
  .ret) .skip))
  (.seq (.reg i_spec_SharesOk_r8)
  (.block 2 (.loop (.seq (.seq (.reg i_spec_SharesOk_r9)
  (.cond (.t 60) .skip (.exit 2)))
  (.seq (.block 3 (.seq (.reg i_spec_SharesOk_r10)
  (.cond (.t 69) (.seq (.reg i_spec_SharesOk_r11)
  .ret) .skip)))
  (.reg i_spec_SharesOk_r12)))))))))
  (.reg i_spec_SharesOk_r13))))))
  (.seq (.reg i_spec_SharesOk_r14)
  .ret))))

theorem i_spec_SharesOk_ok : (Try.f15.body.bind fun c => toIC Try.prog 70 c [[(0, []), (1, []), (3, []), (7, []), (15, []), (31, []), (63, []), (127, []), (255, []), (255, []), (767, []), (2047, []), (4095, []), (8191, []), (255, []), (16639, []), (65535, []), (131071, []), (262143, []), (524287, []), (1048575, []), (2097151, []), (4194303, []), (8388607, []), (16777215, []), (33554431, []), (67108863, []), (134217727, []), (268435455, []), (536870911, []), (1073741823, []), (2147483647, []), (4294967295, []), (8589934591, []), (17179869183, []), (34359738367, []), (68719476735, [])]]) = some (i_spec_SharesOk, []) := by kernel_rfl

theorem i_spec_SharesOk_fn {ds rs : List D} (hle : ds.length ≤ 70) (h : AW Try.prog 70 i_spec_SharesOk (Ends [.tmp 2] rs) (init ds)) : Fn Try.prog k_spec_SharesOk (lent ds) true rs :=
  Fn.intro' (by kernel_rfl) Try.func15 (by kernel_rfl) i_spec_SharesOk_ok (by kernel_rfl) hle h.h

theorem i_spec_SharesOk_fnB {ds rs : List D} (hle : ds.length ≤ 70) (h : AW Try.prog 70 i_spec_SharesOk (EndsB [.tmp 2] rs) (init ds)) : Fn Try.prog k_spec_SharesOk (lent ds) false rs :=
  Fn.introB' (by kernel_rfl) Try.func15 (by kernel_rfl) i_spec_SharesOk_ok (by kernel_rfl) hle h.h

abbrev i_spec_l14Votes_r0 : List RO := [
  ⟨⟨none, .mov 4 (.c (.one (.d (.int .i64 0))))⟩, 0, []⟩]

abbrev i_spec_l14Votes_r1 : List RO := [
  ⟨⟨none, .mov 5 (.c (.one (.d (.int .i64 0))))⟩, 0, []⟩]

abbrev i_spec_l14Votes_r2 : List RO := [
  ⟨⟨none, .mov 6 (.c (.one (.d (.int .i64 0))))⟩, 0, []⟩]

abbrev i_spec_l14Votes_r3 : List RO := [
  ⟨⟨none, .mov 7 (.t 6)⟩, 0, []⟩,
  ⟨⟨none, .mov 8 (.t 0)⟩, 0, []⟩,
  ⟨⟨none, .len 9 false (.t 8)⟩, 0, []⟩,
  ⟨⟨none, .bin 10 .lss (.t 7) (.t 9)⟩, 0, []⟩]

abbrev i_spec_l14Votes_r4 : List RO := [
  ⟨⟨none, .mov 13 (.t 0)⟩, 0, []⟩,
  ⟨⟨none, .mov 14 (.t 6)⟩, 0, []⟩,
  ⟨⟨none, .iaddr 15 4 (.t 13) (.t 14)⟩, 0, []⟩,
  ⟨⟨none, .faddr 16 3 (.t 15)⟩, 0, []⟩,
  ⟨⟨none, .load 17 none (.t 16)⟩, 0, []⟩,
  ⟨⟨none, .mov 18 (.t 1)⟩, 0, []⟩,
  ⟨⟨none, .bin 19 .eql (.t 17) (.t 18)⟩, 0, []⟩]

abbrev i_spec_l14Votes_r5 : List RO := [
  ⟨⟨none, .mov 20 (.t 5)⟩, 0, []⟩,
  ⟨⟨none, .bin 21 .add (.t 20) (.c (.one (.d (.int .i64 1))))⟩, 0, []⟩,
  ⟨⟨none, .mov 5 (.t 21)⟩, 0, []⟩]

abbrev i_spec_l14Votes_r6 : List RO := [
  ⟨⟨none, .mov 11 (.t 6)⟩, 0, []⟩,
  ⟨⟨none, .bin 12 .add (.t 11) (.c (.one (.d (.int .i64 1))))⟩, 0, []⟩,
  ⟨⟨none, .mov 6 (.t 12)⟩, 0, []⟩]

abbrev i_spec_l14Votes_r7 : List RO := [
  ⟨⟨none, .mov 22 (.t 5)⟩, 0, []⟩,
  ⟨⟨none, .mov 4 (.t 22)⟩, 0, []⟩]

def i_spec_l14Votes : IC := (.seq (.reg i_spec_l14Votes_r0)
  (.seq (.reg i_spec_l14Votes_r1)
  (.seq (.seq (.reg i_spec_l14Votes_r2)
  (.block 0 (.loop (.seq (.seq (.reg i_spec_l14Votes_r3)
  (.cond (.t 10) .skip (.exit 0)))
  (.seq (.block 1 (.seq (.reg i_spec_l14Votes_r4)
  (.cond (.t 19) (.reg i_spec_l14Votes_r5) .skip)))
  (.reg i_spec_l14Votes_r6))))))
  (.seq (.reg i_spec_l14Votes_r7)
  .ret))))

theorem i_spec_l14Votes_ok : (Try.f127.body.bind fun c => toIC Try.prog 23 c []) = some (i_spec_l14Votes, []) := by kernel_rfl

theorem i_spec_l14Votes_fn {ds rs : List D} (hle : ds.length ≤ 23) (h : AW Try.prog 23 i_spec_l14Votes (Ends [.tmp 4] rs) (init ds)) : Fn Try.prog k_spec_l14Votes (lent ds) true rs :=
  Fn.intro' (by kernel_rfl) Try.func127 (by kernel_rfl) i_spec_l14Votes_ok (by kernel_rfl) hle h.h

theorem i_spec_l14Votes_fnB {ds rs : List D} (hle : ds.length ≤ 23) (h : AW Try.prog 23 i_spec_l14Votes (EndsB [.tmp 4] rs) (init ds)) : Fn Try.prog k_spec_l14Votes (lent ds) false rs :=
  Fn.introB' (by kernel_rfl) Try.func127 (by kernel_rfl) i_spec_l14Votes_ok (by kernel_rfl) hle h.h

abbrev i_spec_l14RecOk_r0 : List RO := [
  ⟨⟨none, .box 1 (.t 0)⟩, 0, []⟩,
  ⟨⟨none, .mov 2 (.c (.one (.d (.bool false))))⟩, 0, []⟩]

abbrev i_spec_l14RecOk_r1 : List RO := [
  ⟨⟨none, .faddr 3 1 (.t 1)⟩, 0, []⟩,
  ⟨⟨none, .load 4 none (.t 3)⟩, 0, []⟩,
  ⟨⟨none, .callv 5 (.c (.one (.fn k_spec_l1Whole []))) [(.t 4)]⟩, 0, []⟩,
  ⟨⟨none, .inv 6 (.t 5)⟩, 0, []⟩,
  ⟨⟨none, .mov 7 (.t 6)⟩, 0, []⟩,
  ⟨⟨some (7, false), .faddr 8 2 (.t 1)⟩, 0, []⟩,
  ⟨⟨some (7, false), .load 9 none (.t 8)⟩, 0, []⟩,
  ⟨⟨some (7, false), .callv 10 (.c (.one (.fn k_spec_l1In []))) [(.t 9), (.c (.one (.d (.int .i64 1)))), (.c (.one (.d (.int .i64 1000000000))))]⟩, 0, []⟩,
  ⟨⟨some (7, false), .inv 11 (.t 10)⟩, 0, []⟩,
  ⟨⟨none, .pick 12 (.t 7) (.c (.one (.d (.bool true)))) (.t 11)⟩, 0, []⟩,
  ⟨⟨none, .mov 13 (.t 12)⟩, 0, []⟩,
  ⟨⟨some (13, false), .faddr 14 4 (.t 1)⟩, 0, []⟩,
  ⟨⟨some (13, false), .load 15 none (.t 14)⟩, 0, []⟩,
  ⟨⟨some (13, false), .callv 16 (.c (.one (.fn k_spec_SharesOk []))) [(.t 15)]⟩, 0, []⟩,
  ⟨⟨some (13, false), .inv 17 (.t 16)⟩, 0, []⟩,
  ⟨⟨none, .pick 18 (.t 13) (.c (.one (.d (.bool true)))) (.t 17)⟩, 0, []⟩]

abbrev i_spec_l14RecOk_r2 : List RO := [
  ⟨⟨none, .mov 2 (.c (.one (.d (.bool false))))⟩, 0, []⟩]

abbrev i_spec_l14RecOk_r3 : List RO := [
  ⟨⟨none, .faddr 19 3 (.t 1)⟩, 0, []⟩,
  ⟨⟨none, .load 20 none (.t 19)⟩, 0, []⟩]

abbrev i_spec_l14RecOk_r4 : List RO := [
  ⟨⟨none, .bin 22 .eql (.t 20) (.c (.one (.d (.int .i64 1))))⟩, 0, []⟩,
  ⟨⟨none, .mov 21 (.t 22)⟩, 0, []⟩]

abbrev i_spec_l14RecOk_r5 : List RO := [
  ⟨⟨none, .faddr 23 4 (.t 1)⟩, 0, []⟩,
  ⟨⟨none, .load 24 none (.t 23)⟩, 0, []⟩,
  ⟨⟨none, .len 25 false (.t 24)⟩, 0, []⟩,
  ⟨⟨none, .bin 26 .eql (.t 25) (.c (.one (.d (.int .i64 0))))⟩, 0, []⟩,
  ⟨⟨none, .mov 2 (.t 26)⟩, 0, []⟩]

abbrev i_spec_l14RecOk_r6 : List RO := [
  ⟨⟨none, .bin 28 .eql (.t 20) (.c (.one (.d (.int .i64 2))))⟩, 0, []⟩,
  ⟨⟨none, .mov 27 (.t 28)⟩, 0, []⟩]

abbrev i_spec_l14RecOk_r7 : List RO := [
  ⟨⟨none, .faddr 29 4 (.t 1)⟩, 0, []⟩,
  ⟨⟨none, .load 30 none (.t 29)⟩, 0, []⟩,
  ⟨⟨none, .callv 31 (.c (.one (.fn k_spec_l14Votes []))) [(.t 30), (.c (.one (.d (.int .i64 0))))]⟩, 0, []⟩,
  ⟨⟨none, .bin 32 .gtr (.t 31) (.c (.one (.d (.int .i64 0))))⟩, 0, []⟩,
  ⟨⟨none, .mov 33 (.t 32)⟩, 0, []⟩,
  ⟨⟨some (33, true), .faddr 34 4 (.t 1)⟩, 0, []⟩,
  ⟨⟨some (33, true), .load 35 none (.t 34)⟩, 0, []⟩,
  ⟨⟨some (33, true), .callv 36 (.c (.one (.fn k_spec_l14Votes []))) [(.t 35), (.c (.one (.d (.int .i64 2))))]⟩, 0, []⟩,
  ⟨⟨some (33, true), .bin 37 .eql (.t 36) (.c (.one (.d (.int .i64 0))))⟩, 0, []⟩,
  ⟨⟨none, .pick 38 (.t 33) (.t 37) (.c (.one (.d (.bool false))))⟩, 0, []⟩,
  ⟨⟨none, .mov 2 (.t 38)⟩, 0, []⟩]

abbrev i_spec_l14RecOk_r8 : List RO := [
  ⟨⟨none, .bin 40 .eql (.t 20) (.c (.one (.d (.int .i64 3))))⟩, 0, []⟩,
  ⟨⟨none, .mov 39 (.t 40)⟩, 0, []⟩]

abbrev i_spec_l14RecOk_r9 : List RO := [
  ⟨⟨none, .faddr 41 4 (.t 1)⟩, 0, []⟩,
  ⟨⟨none, .load 42 none (.t 41)⟩, 1, []⟩,
  ⟨⟨none, .callv 43 (.c (.one (.fn k_spec_l14Votes []))) [(.t 42), (.c (.one (.d (.int .i64 1))))]⟩, 3, []⟩,
  ⟨⟨none, .faddr 44 4 (.t 1)⟩, 0, []⟩,
  ⟨⟨none, .load 45 none (.t 44)⟩, 8, [43]⟩,
  ⟨⟨none, .len 46 false (.t 45)⟩, 24, []⟩,
  ⟨⟨none, .bin 47 .eql (.t 43) (.t 46)⟩, 63, []⟩,
  ⟨⟨none, .mov 2 (.t 47)⟩, 127, []⟩]

abbrev i_spec_l14RecOk_r10 : List RO := [
  ⟨⟨none, .faddr 48 3 (.t 1)⟩, 0, []⟩,
  ⟨⟨none, .load 49 none (.t 48)⟩, 0, []⟩,
  ⟨⟨none, .bin 50 .eql (.t 49) (.c (.one (.d (.int .i64 4))))⟩, 0, []⟩,
  ⟨⟨none, .mov 2 (.t 50)⟩, 0, []⟩]

def i_spec_l14RecOk : IC := (.seq (.reg i_spec_l14RecOk_r0)
  (.seq (.seq (.reg i_spec_l14RecOk_r1)
  (.cond (.t 18) (.seq (.reg i_spec_l14RecOk_r2)
  .ret) .skip))
  (.seq (.seq (.reg i_spec_l14RecOk_r3)
  (.block 0 (.seq (.reg i_spec_l14RecOk_r4)
  (.cond (.t 21) (.seq (.reg i_spec_l14RecOk_r5)
  .ret) (.seq (.reg i_spec_l14RecOk_r6)
  (.cond (.t 27) (.seq (.reg i_spec_l14RecOk_r7)
  .ret) (.seq (.reg i_spec_l14RecOk_r8)
  (.cond (.t 39) (.seq (.regd i_spec_l14RecOk_r9)
  .ret) .skip))))))))
  (.seq (.reg i_spec_l14RecOk_r10)
  .ret))))

theorem i_spec_l14RecOk_ok : (Try.f109.body.bind fun c => toIC Try.prog 51 c [[(0, []), (1, []), (3, []), (0, []), (8, [43]), (24, []), (63, []), (127, [])]]) = some (i_spec_l14RecOk, []) := by kernel_rfl

theorem i_spec_l14RecOk_fn {ds rs : List D} (hle : ds.length ≤ 51) (h : AW Try.prog 51 i_spec_l14RecOk (Ends [.tmp 2] rs) (init ds)) : Fn Try.prog k_spec_l14RecOk (lent ds) true rs :=
  Fn.intro' (by kernel_rfl) Try.func109 (by kernel_rfl) i_spec_l14RecOk_ok (by kernel_rfl) hle h.h

theorem i_spec_l14RecOk_fnB {ds rs : List D} (hle : ds.length ≤ 51) (h : AW Try.prog 51 i_spec_l14RecOk (EndsB [.tmp 2] rs) (init ds)) : Fn Try.prog k_spec_l14RecOk (lent ds) false rs :=
  Fn.introB' (by kernel_rfl) Try.func109 (by kernel_rfl) i_spec_l14RecOk_ok (by kernel_rfl) hle h.h

abbrev i_spec_l12Has_r0 : List RO := [
  ⟨⟨none, .mov 4 (.c (.one (.d (.bool false))))⟩, 0, []⟩]

abbrev i_spec_l12Has_r1 : List RO := [
  ⟨⟨none, .mov 5 (.c (.one (.d (.int .i64 0))))⟩, 0, []⟩]

abbrev i_spec_l12Has_r2 : List RO := [
  ⟨⟨none, .mov 6 (.t 5)⟩, 0, []⟩,
  ⟨⟨none, .mov 7 (.t 0)⟩, 0, []⟩,
  ⟨⟨none, .len 8 false (.t 7)⟩, 0, []⟩,
  ⟨⟨none, .bin 9 .lss (.t 6) (.t 8)⟩, 0, []⟩]

abbrev i_spec_l12Has_r3 : List RO := [
  ⟨⟨none, .mov 12 (.t 0)⟩, 0, []⟩,
  ⟨⟨none, .mov 13 (.t 5)⟩, 0, []⟩,
  ⟨⟨none, .iaddr 14 1 (.t 12) (.t 13)⟩, 0, []⟩,
  ⟨⟨none, .load 15 none (.t 14)⟩, 0, []⟩,
  ⟨⟨none, .mov 16 (.t 1)⟩, 0, []⟩,
  ⟨⟨none, .bin 17 .eql (.t 15) (.t 16)⟩, 0, []⟩]

abbrev i_spec_l12Has_r4 : List RO := [
  ⟨⟨none, .mov 4 (.c (.one (.d (.bool true))))⟩, 0, []⟩]

abbrev i_spec_l12Has_r5 : List RO := [
  ⟨⟨none, .mov 10 (.t 5)⟩, 0, []⟩,
  ⟨⟨none, .bin 11 .add (.t 10) (.c (.one (.d (.int .i64 1))))⟩, 0, []⟩,
  ⟨⟨none, .mov 5 (.t 11)⟩, 0, []⟩]

abbrev i_spec_l12Has_r6 : List RO := [
  ⟨⟨none, .mov 4 (.c (.one (.d (.bool false))))⟩, 0, []⟩]

def i_spec_l12Has : IC := (.seq (.reg i_spec_l12Has_r0)
  (.seq (.seq (.reg i_spec_l12Has_r1)
  (.block 0 (.loop (.seq (.seq (.reg i_spec_l12Has_r2)
  (.cond (.t 9) .skip (.exit 0)))
  (.seq (.block 1 (.seq (.reg i_spec_l12Has_r3)
  (.cond (.t 17) (.seq (.reg i_spec_l12Has_r4)
  .ret) .skip)))
  (.reg i_spec_l12Has_r5))))))
  (.seq (.reg i_spec_l12Has_r6)
  .ret)))

theorem i_spec_l12Has_ok : (Try.f110.body.bind fun c => toIC Try.prog 18 c []) = some (i_spec_l12Has, []) := by kernel_rfl

theorem i_spec_l12Has_fn {ds rs : List D} (hle : ds.length ≤ 18) (h : AW Try.prog 18 i_spec_l12Has (Ends [.tmp 4] rs) (init ds)) : Fn Try.prog k_spec_l12Has (lent ds) true rs :=
  Fn.intro' (by kernel_rfl) Try.func110 (by kernel_rfl) i_spec_l12Has_ok (by kernel_rfl) hle h.h

theorem i_spec_l12Has_fnB {ds rs : List D} (hle : ds.length ≤ 18) (h : AW Try.prog 18 i_spec_l12Has (EndsB [.tmp 4] rs) (init ds)) : Fn Try.prog k_spec_l12Has (lent ds) false rs :=
  Fn.introB' (by kernel_rfl) Try.func110 (by kernel_rfl) i_spec_l12Has_ok (by kernel_rfl) hle h.h

abbrev i_spec_CoordOk_r0 : List RO := [
  ⟨⟨none, .box 1 (.t 0)⟩, 0, []⟩,
  ⟨⟨none, .mov 2 (.c (.one (.d (.bool false))))⟩, 0, []⟩]

abbrev i_spec_CoordOk_r1 : List RO := [
  ⟨⟨none, .faddr 9 0 (.t 1)⟩, 0, []⟩,
  ⟨⟨none, .load 10 none (.t 9)⟩, 0, []⟩,
  ⟨⟨none, .len 11 false (.t 10)⟩, 0, []⟩,
  ⟨⟨none, .bin 12 .gtr (.t 11) (.c (.one (.d (.int .i64 60))))⟩, 0, []⟩,
  ⟨⟨none, .mov 13 (.t 12)⟩, 0, []⟩,
  ⟨⟨some (13, false), .faddr 14 1 (.t 1)⟩, 0, []⟩,
  ⟨⟨some (13, false), .load 15 none (.t 14)⟩, 0, []⟩,
  ⟨⟨some (13, false), .len 16 false (.t 15)⟩, 0, []⟩,
  ⟨⟨some (13, false), .bin 17 .gtr (.t 16) (.c (.one (.d (.int .i64 60))))⟩, 0, []⟩,
  ⟨⟨none, .pick 18 (.t 13) (.c (.one (.d (.bool true)))) (.t 17)⟩, 0, []⟩]

abbrev i_spec_CoordOk_r2 : List RO := [
  ⟨⟨none, .mov 2 (.c (.one (.d (.bool false))))⟩, 0, []⟩]

abbrev i_spec_CoordOk_r3 : List RO := [
  ⟨⟨none, .mov 3 (.c (.one (.d (.int .i64 0))))⟩, 0, []⟩]

abbrev i_spec_CoordOk_r4 : List RO := [
  ⟨⟨none, .mov 4 (.c (.one (.d (.int .i64 0))))⟩, 0, []⟩]

abbrev i_spec_CoordOk_r5 : List RO := [
  ⟨⟨none, .mov 19 (.t 4)⟩, 0, []⟩,
  ⟨⟨none, .faddr 20 0 (.t 1)⟩, 0, []⟩,
  ⟨⟨none, .load 21 none (.t 20)⟩, 0, []⟩,
  ⟨⟨none, .len 22 false (.t 21)⟩, 0, []⟩,
  ⟨⟨none, .bin 23 .lss (.t 19) (.t 22)⟩, 0, []⟩]

abbrev i_spec_CoordOk_r6 : List RO := [
  ⟨⟨none, .faddr 26 0 (.t 1)⟩, 0, []⟩,
  ⟨⟨none, .load 27 none (.t 26)⟩, 0, []⟩,
  ⟨⟨none, .mov 28 (.t 4)⟩, 0, []⟩,
  ⟨⟨none, .iaddr 29 5 (.t 27) (.t 28)⟩, 0, []⟩,
  ⟨⟨none, .load 30 (some 5) (.t 29)⟩, 0, []⟩,
  ⟨⟨none, .var 5 [(.d (.int .i64 0)), (.d (.int .i64 0)), (.d (.int .i64 0)), (.d (.int .i64 0)), .zs]⟩, 0, []⟩,
  ⟨⟨none, .store 5 [(.int .i64 0), (.int .i64 0), (.int .i64 0), (.int .i64 0), (.sl 4 [])] (.t 5) (.t 30)⟩, 0, []⟩]

abbrev i_spec_CoordOk_r7 : List RO := [
  ⟨⟨none, .faddr 31 0 (.t 5)⟩, 0, []⟩,
  ⟨⟨none, .load 32 none (.t 31)⟩, 0, []⟩,
  ⟨⟨none, .mov 33 (.t 4)⟩, 0, []⟩,
  ⟨⟨none, .bin 34 .add (.t 33) (.c (.one (.d (.int .i64 1))))⟩, 0, []⟩,
  ⟨⟨none, .bin 35 .neq (.t 32) (.t 34)⟩, 0, []⟩,
  ⟨⟨none, .mov 36 (.t 35)⟩, 0, []⟩,
  ⟨⟨some (36, false), .load 37 (some 5) (.t 5)⟩, 0, []⟩,
  ⟨⟨some (36, false), .callv 38 (.c (.one (.fn k_spec_l14RecOk []))) [(.t 37)]⟩, 0, []⟩,
  ⟨⟨some (36, false), .inv 39 (.t 38)⟩, 0, []⟩,
  ⟨⟨none, .pick 40 (.t 36) (.c (.one (.d (.bool true)))) (.t 39)⟩, 0, []⟩]

abbrev i_spec_CoordOk_r8 : List RO := [
  ⟨⟨none, .mov 2 (.c (.one (.d (.bool false))))⟩, 0, []⟩]

abbrev i_spec_CoordOk_r9 : List RO := [
  ⟨⟨none, .mov 6 (.c (.one (.d (.int .i64 0))))⟩, 0, []⟩]

abbrev i_spec_CoordOk_r10 : List RO := [
  ⟨⟨none, .mov 41 (.t 6)⟩, 0, []⟩,
  ⟨⟨none, .mov 42 (.t 4)⟩, 0, []⟩,
  ⟨⟨none, .bin 43 .lss (.t 41) (.t 42)⟩, 0, []⟩]

abbrev i_spec_CoordOk_r11 : List RO := [
  ⟨⟨none, .faddr 46 0 (.t 1)⟩, 0, []⟩,
  ⟨⟨none, .load 47 none (.t 46)⟩, 1, []⟩,
  ⟨⟨none, .mov 48 (.t 6)⟩, 0, []⟩,
  ⟨⟨none, .iaddr 49 5 (.t 47) (.t 48)⟩, 7, []⟩,
  ⟨⟨none, .faddr 50 1 (.t 49)⟩, 15, []⟩,
  ⟨⟨none, .load 51 none (.t 50)⟩, 31, []⟩,
  ⟨⟨none, .faddr 52 1 (.t 5)⟩, 0, []⟩,
  ⟨⟨none, .load 53 none (.t 52)⟩, 64, []⟩,
  ⟨⟨none, .bin 54 .eql (.t 51) (.t 53)⟩, 255, []⟩,
  ⟨⟨none, .mov 55 (.t 54)⟩, 511, []⟩,
  ⟨⟨some (55, true), .faddr 56 0 (.t 1)⟩, 1023, []⟩,
  ⟨⟨some (55, true), .load 57 none (.t 56)⟩, 2047, []⟩,
  ⟨⟨some (55, true), .mov 58 (.t 6)⟩, 1023, []⟩,
  ⟨⟨some (55, true), .iaddr 59 5 (.t 57) (.t 58)⟩, 8191, []⟩,
  ⟨⟨some (55, true), .faddr 60 2 (.t 59)⟩, 16383, []⟩,
  ⟨⟨some (55, true), .load 61 none (.t 60)⟩, 32767, []⟩,
  ⟨⟨some (55, true), .faddr 62 2 (.t 5)⟩, 1023, []⟩,
  ⟨⟨some (55, true), .load 63 none (.t 62)⟩, 66559, []⟩,
  ⟨⟨some (55, true), .bin 64 .eql (.t 61) (.t 63)⟩, 262143, []⟩,
  ⟨⟨none, .pick 65 (.t 55) (.t 64) (.c (.one (.d (.bool false))))⟩, 524287, []⟩]

abbrev i_spec_CoordOk_r12 : List RO := [
  ⟨⟨none, .mov 2 (.c (.one (.d (.bool false))))⟩, 0, []⟩]

abbrev i_spec_CoordOk_r13 : List RO := [
  ⟨⟨none, .mov 44 (.t 6)⟩, 0, []⟩,
  ⟨⟨none, .bin 45 .add (.t 44) (.c (.one (.d (.int .i64 1))))⟩, 0, []⟩,
  ⟨⟨none, .mov 6 (.t 45)⟩, 0, []⟩]

abbrev i_spec_CoordOk_r14 : List RO := [
  ⟨⟨none, .faddr 66 3 (.t 5)⟩, 0, []⟩,
  ⟨⟨none, .load 67 none (.t 66)⟩, 0, []⟩,
  ⟨⟨none, .bin 68 .eql (.t 67) (.c (.one (.d (.int .i64 3))))⟩, 0, []⟩]

abbrev i_spec_CoordOk_r15 : List RO := [
  ⟨⟨none, .mov 69 (.t 3)⟩, 0, []⟩,
  ⟨⟨none, .bin 70 .add (.t 69) (.c (.one (.d (.int .i64 1))))⟩, 0, []⟩,
  ⟨⟨none, .mov 3 (.t 70)⟩, 0, []⟩]

abbrev i_spec_CoordOk_r16 : List RO := [
  ⟨⟨none, .mov 24 (.t 4)⟩, 0, []⟩,
  ⟨⟨none, .bin 25 .add (.t 24) (.c (.one (.d (.int .i64 1))))⟩, 0, []⟩,
  ⟨⟨none, .mov 4 (.t 25)⟩, 0, []⟩]

abbrev i_spec_CoordOk_r17 : List RO := [
  ⟨⟨none, .mov 7 (.c (.one (.d (.int .i64 0))))⟩, 0, []⟩]

abbrev i_spec_CoordOk_r18 : List RO := [
  ⟨⟨none, .mov 71 (.t 7)⟩, 0, []⟩,
  ⟨⟨none, .faddr 72 1 (.t 1)⟩, 0, []⟩,
  ⟨⟨none, .load 73 none (.t 72)⟩, 0, []⟩,
  ⟨⟨none, .len 74 false (.t 73)⟩, 0, []⟩,
  ⟨⟨none, .bin 75 .lss (.t 71) (.t 74)⟩, 0, []⟩]

abbrev i_spec_CoordOk_r19 : List RO := [
  ⟨⟨none, .faddr 78 1 (.t 1)⟩, 0, []⟩,
  ⟨⟨none, .load 79 none (.t 78)⟩, 0, []⟩,
  ⟨⟨none, .mov 80 (.t 7)⟩, 0, []⟩,
  ⟨⟨none, .iaddr 81 1 (.t 79) (.t 80)⟩, 0, []⟩,
  ⟨⟨none, .load 82 none (.t 81)⟩, 0, []⟩,
  ⟨⟨none, .mov 8 (.t 82)⟩, 0, []⟩]

abbrev i_spec_CoordOk_r20 : List RO := [
  ⟨⟨none, .mov 83 (.t 8)⟩, 0, []⟩,
  ⟨⟨none, .faddr 84 0 (.t 1)⟩, 0, []⟩,
  ⟨⟨none, .load 85 none (.t 84)⟩, 0, []⟩,
  ⟨⟨none, .len 86 false (.t 85)⟩, 0, []⟩,
  ⟨⟨none, .callv 87 (.c (.one (.fn k_spec_l1In []))) [(.t 83), (.c (.one (.d (.int .i64 1)))), (.t 86)]⟩, 0, []⟩,
  ⟨⟨none, .inv 88 (.t 87)⟩, 0, []⟩,
  ⟨⟨none, .mov 89 (.t 88)⟩, 0, []⟩,
  ⟨⟨some (89, false), .faddr 90 0 (.t 1)⟩, 0, []⟩,
  ⟨⟨some (89, false), .load 91 none (.t 90)⟩, 0, []⟩,
  ⟨⟨some (89, false), .mov 92 (.t 8)⟩, 0, []⟩,
  ⟨⟨some (89, false), .bin 93 .sub (.t 92) (.c (.one (.d (.int .i64 1))))⟩, 0, []⟩,
  ⟨⟨some (89, false), .iaddr 94 5 (.t 91) (.t 93)⟩, 0, []⟩,
  ⟨⟨some (89, false), .faddr 95 3 (.t 94)⟩, 0, []⟩,
  ⟨⟨some (89, false), .load 96 none (.t 95)⟩, 0, []⟩,
  ⟨⟨some (89, false), .bin 97 .neq (.t 96) (.c (.one (.d (.int .i64 3))))⟩, 0, []⟩,
  ⟨⟨none, .pick 98 (.t 89) (.c (.one (.d (.bool true)))) (.t 97)⟩, 0, []⟩,
  ⟨⟨none, .mov 99 (.t 98)⟩, 0, []⟩,
  ⟨⟨some (99, false), .faddr 100 1 (.t 1)⟩, 0, []⟩,
  ⟨⟨some (99, false), .load 101 none (.t 100)⟩, 0, []⟩,
  ⟨⟨some (99, false), .mov 102 (.t 7)⟩, 0, []⟩,
  ⟨⟨some (99, false), .slice 103 1 (.t 101) none (some (.t 102)) none⟩, 0, []⟩,
  ⟨⟨some (99, false), .mov 104 (.t 8)⟩, 0, []⟩,
  ⟨⟨some (99, false), .callv 105 (.c (.one (.fn k_spec_l12Has []))) [(.t 103), (.t 104)]⟩, 0, []⟩,
  ⟨⟨none, .pick 106 (.t 99) (.c (.one (.d (.bool true)))) (.t 105)⟩, 0, []⟩]

abbrev i_spec_CoordOk_r21 : List RO := [
  ⟨⟨none, .mov 2 (.c (.one (.d (.bool false))))⟩, 0, []⟩]

abbrev i_spec_CoordOk_r22 : List RO := [
  ⟨⟨none, .mov 76 (.t 7)⟩, 0, []⟩,
  ⟨⟨none, .bin 77 .add (.t 76) (.c (.one (.d (.int .i64 1))))⟩, 0, []⟩,
  ⟨⟨none, .mov 7 (.t 77)⟩, 0, []⟩]

abbrev i_spec_CoordOk_r23 : List RO := [
  ⟨⟨none, .mov 107 (.t 3)⟩, 0, []⟩,
  ⟨⟨none, .faddr 108 1 (.t 1)⟩, 0, []⟩,
  ⟨⟨none, .load 109 none (.t 108)⟩, 0, []⟩,
  ⟨⟨none, .len 110 false (.t 109)⟩, 0, []⟩,
  ⟨⟨none, .bin 111 .eql (.t 107) (.t 110)⟩, 0, []⟩,
  ⟨⟨none, .mov 2 (.t 111)⟩, 0, []⟩]

def i_spec_CoordOk : IC := (.seq (.reg i_spec_CoordOk_r0)
  (.seq (.seq (.reg i_spec_CoordOk_r1)
  (.cond (.t 18) (.seq (.reg i_spec_CoordOk_r2)
  .ret) .skip))
  (.seq (.reg i_spec_CoordOk_r3)
  (.seq (.seq (.reg i_spec_CoordOk_r4)
  (.block 0 (.loop (.seq (.seq (.reg i_spec_CoordOk_r5)
  (.cond (.t 23) .skip (.exit 0)))
  (.seq (.block 1 (.seq (.reg i_spec_CoordOk_r6)
  (.seq (.seq (.reg i_spec_CoordOk_r7)
  (.cond (.t 40) (.seq (.reg i_spec_CoordOk_r8)
  .ret) .skip))
  (.seq (.seq (.reg i_spec_CoordOk_r9)
  (.block 2 (.loop (.seq (.seq (.reg i_spec_CoordOk_r10)
  (.cond (.t 43) .skip (.exit 2)))
  (.seq (.block 3 (.seq (.regd i_spec_CoordOk_r11)
  (.cond (.t 65) (.seq (.reg i_spec_CoordOk_r12)
  .ret) .skip)))
  (.reg i_spec_CoordOk_r13))))))
  (.seq (.reg i_spec_CoordOk_r14)
  (.cond (.t 68) (.reg i_spec_CoordOk_r15) .skip))))))
  (.reg i_spec_CoordOk_r16))))))
  (.seq (.seq (.reg i_spec_CoordOk_r17)
  (.block 4 (.loop (.seq (.seq (.reg i_spec_CoordOk_r18)
  (.cond (.t 75) .skip (.exit 4)))
  (.seq (.block 5 (.seq (.reg i_spec_CoordOk_r19)
  (.seq (.reg i_spec_CoordOk_r20)
  (.cond (.t 106) (.seq (.reg i_spec_CoordOk_r21)
  .ret) .skip))))
  (.reg i_spec_CoordOk_r22))))))
  (.seq (.reg i_spec_CoordOk_r23)
  .ret))))))

theorem i_spec_CoordOk_ok : (Try.f32.body.bind fun c => toIC Try.prog 112 c [[(0, []), (1, []), (0, []), (7, []), (15, []), (31, []), (0, []), (64, []), (255, []), (511, []), (1023, []), (2047, []), (1023, []), (8191, []), (16383, []), (32767, []), (1023, []), (66559, []), (262143, []), (524287, [])]]) = some (i_spec_CoordOk, []) := by kernel_rfl

theorem i_spec_CoordOk_fn {ds rs : List D} (hle : ds.length ≤ 112) (h : AW Try.prog 112 i_spec_CoordOk (Ends [.tmp 2] rs) (init ds)) : Fn Try.prog k_spec_CoordOk (lent ds) true rs :=
  Fn.intro' (by kernel_rfl) Try.func32 (by kernel_rfl) i_spec_CoordOk_ok (by kernel_rfl) hle h.h

theorem i_spec_CoordOk_fnB {ds rs : List D} (hle : ds.length ≤ 112) (h : AW Try.prog 112 i_spec_CoordOk (EndsB [.tmp 2] rs) (init ds)) : Fn Try.prog k_spec_CoordOk (lent ds) false rs :=
  Fn.introB' (by kernel_rfl) Try.func32 (by kernel_rfl) i_spec_CoordOk_ok (by kernel_rfl) hle h.h

abbrev i_spec_CoordState_r0 : List RO := [
  ⟨⟨none, .box 2 (.t 0)⟩, 0, []⟩,
  ⟨⟨none, .mov 4 (.c (.one (.d (.int .i64 0))))⟩, 0, []⟩]

abbrev i_spec_CoordState_r1 : List RO := [
  ⟨⟨none, .load 5 (some 2) (.t 2)⟩, 0, []⟩,
  ⟨⟨none, .callv 6 (.c (.one (.fn k_spec_CoordOk []))) [(.t 5)]⟩, 0, []⟩,
  ⟨⟨none, .inv 7 (.t 6)⟩, 0, []⟩,
  ⟨⟨none, .mov 8 (.t 7)⟩, 0, []⟩,
  ⟨⟨some (8, false), .mov 9 (.t 1)⟩, 0, []⟩,
  ⟨⟨some (8, false), .faddr 10 0 (.t 2)⟩, 0, []⟩,
  ⟨⟨some (8, false), .load 11 none (.t 10)⟩, 0, []⟩,
  ⟨⟨some (8, false), .len 12 false (.t 11)⟩, 0, []⟩,
  ⟨⟨some (8, false), .callv 13 (.c (.one (.fn k_spec_l1In []))) [(.t 9), (.c (.one (.d (.int .i64 1)))), (.t 12)]⟩, 0, []⟩,
  ⟨⟨some (8, false), .inv 14 (.t 13)⟩, 0, []⟩,
  ⟨⟨none, .pick 15 (.t 8) (.c (.one (.d (.bool true)))) (.t 14)⟩, 0, []⟩]

abbrev i_spec_CoordState_r2 : List RO := [
  ⟨⟨none, .mov 4 (.c (.one (.d (.int .i64 0))))⟩, 0, []⟩]

abbrev i_spec_CoordState_r3 : List RO := [
  ⟨⟨none, .faddr 16 0 (.t 2)⟩, 0, []⟩,
  ⟨⟨none, .load 17 none (.t 16)⟩, 0, []⟩,
  ⟨⟨none, .mov 18 (.t 1)⟩, 0, []⟩,
  ⟨⟨none, .bin 19 .sub (.t 18) (.c (.one (.d (.int .i64 1))))⟩, 0, []⟩,
  ⟨⟨none, .iaddr 20 5 (.t 17) (.t 19)⟩, 0, []⟩,
  ⟨⟨none, .faddr 21 3 (.t 20)⟩, 0, []⟩,
  ⟨⟨none, .load 22 none (.t 21)⟩, 0, []⟩,
  ⟨⟨none, .mov 4 (.t 22)⟩, 0, []⟩]

def i_spec_CoordState : IC := (.seq (.reg i_spec_CoordState_r0)
  (.seq (.seq (.reg i_spec_CoordState_r1)
  (.cond (.t 15) (.seq (.reg i_spec_CoordState_r2)
  .ret) .skip))
  (.seq (.reg i_spec_CoordState_r3)
  .ret)))

theorem i_spec_CoordState_ok : (Try.f36.body.bind fun c => toIC Try.prog 23 c []) = some (i_spec_CoordState, []) := by kernel_rfl

theorem i_spec_CoordState_fn {ds rs : List D} (hle : ds.length ≤ 23) (h : AW Try.prog 23 i_spec_CoordState (Ends [.tmp 4] rs) (init ds)) : Fn Try.prog k_spec_CoordState (lent ds) true rs :=
  Fn.intro' (by kernel_rfl) Try.func36 (by kernel_rfl) i_spec_CoordState_ok (by kernel_rfl) hle h.h

theorem i_spec_CoordState_fnB {ds rs : List D} (hle : ds.length ≤ 23) (h : AW Try.prog 23 i_spec_CoordState (EndsB [.tmp 4] rs) (init ds)) : Fn Try.prog k_spec_CoordState (lent ds) false rs :=
  Fn.introB' (by kernel_rfl) Try.func36 (by kernel_rfl) i_spec_CoordState_ok (by kernel_rfl) hle h.h

abbrev i_impl_from_r0 : List RO := [
  ⟨⟨none, .mov 6 (.c (.one (.d (.bool false))))⟩, 0, []⟩]

abbrev i_impl_from_r1 : List RO := [
  ⟨⟨none, .mov 7 (.t 0)⟩, 0, []⟩,
  ⟨⟨none, .mov 8 (.t 1)⟩, 0, []⟩,
  ⟨⟨none, .bin 9 .geq (.t 7) (.t 8)⟩, 0, []⟩,
  ⟨⟨none, .mov 10 (.t 9)⟩, 0, []⟩,
  ⟨⟨some (10, true), .mov 11 (.t 0)⟩, 0, []⟩,
  ⟨⟨some (10, true), .mov 12 (.t 2)⟩, 0, []⟩,
  ⟨⟨some (10, true), .bin 13 .leq (.t 11) (.t 12)⟩, 0, []⟩,
  ⟨⟨none, .pick 14 (.t 10) (.t 13) (.c (.one (.d (.bool false))))⟩, 0, []⟩,
  ⟨⟨none, .mov 6 (.t 14)⟩, 0, []⟩]

def i_impl_from : IC := (.seq (.reg i_impl_from_r0)
  (.seq (.reg i_impl_from_r1)
  .ret))

theorem i_impl_from_ok : (Try.f75.body.bind fun c => toIC Try.prog 15 c []) = some (i_impl_from, []) := by kernel_rfl

theorem i_impl_from_fn {ds rs : List D} (hle : ds.length ≤ 15) (h : AW Try.prog 15 i_impl_from (Ends [.tmp 6] rs) (init ds)) : Fn Try.prog k_impl_from (lent ds) true rs :=
  Fn.intro' (by kernel_rfl) Try.func75 (by kernel_rfl) i_impl_from_ok (by kernel_rfl) hle h.h

theorem i_impl_from_fnB {ds rs : List D} (hle : ds.length ≤ 15) (h : AW Try.prog 15 i_impl_from (EndsB [.tmp 6] rs) (init ds)) : Fn Try.prog k_impl_from (lent ds) false rs :=
  Fn.introB' (by kernel_rfl) Try.func75 (by kernel_rfl) i_impl_from_ok (by kernel_rfl) hle h.h

abbrev i_impl_isWhole_r0 : List RO := [
  ⟨⟨none, .mov 2 (.c (.one (.d (.bool false))))⟩, 0, []⟩]

abbrev i_impl_isWhole_r1 : List RO := [
  ⟨⟨none, .mov 3 (.t 0)⟩, 0, []⟩,
  ⟨⟨none, .callv 4 (.c (.one (.fn k_impl_from []))) [(.t 3), (.c (.one (.d (.int .i64 0)))), (.c (.one (.d (.int .i64 1000000000))))]⟩, 0, []⟩,
  ⟨⟨none, .mov 2 (.t 4)⟩, 0, []⟩]

def i_impl_isWhole : IC := (.seq (.reg i_impl_isWhole_r0)
  (.seq (.reg i_impl_isWhole_r1)
  .ret))

theorem i_impl_isWhole_ok : (Try.f99.body.bind fun c => toIC Try.prog 5 c []) = some (i_impl_isWhole, []) := by kernel_rfl

theorem i_impl_isWhole_fn {ds rs : List D} (hle : ds.length ≤ 5) (h : AW Try.prog 5 i_impl_isWhole (Ends [.tmp 2] rs) (init ds)) : Fn Try.prog k_impl_isWhole (lent ds) true rs :=
  Fn.intro' (by kernel_rfl) Try.func99 (by kernel_rfl) i_impl_isWhole_ok (by kernel_rfl) hle h.h

theorem i_impl_isWhole_fnB {ds rs : List D} (hle : ds.length ≤ 5) (h : AW Try.prog 5 i_impl_isWhole (EndsB [.tmp 2] rs) (init ds)) : Fn Try.prog k_impl_isWhole (lent ds) false rs :=
  Fn.introB' (by kernel_rfl) Try.func99 (by kernel_rfl) i_impl_isWhole_ok (by kernel_rfl) hle h.h

abbrev i_impl_isReq_r0 : List RO := [
  ⟨⟨none, .mov 2 (.c (.one (.d (.bool false))))⟩, 0, []⟩]

abbrev i_impl_isReq_r1 : List RO := [
  ⟨⟨none, .mov 3 (.t 0)⟩, 0, []⟩,
  ⟨⟨none, .callv 4 (.c (.one (.fn k_impl_from []))) [(.t 3), (.c (.one (.d (.int .i64 1)))), (.c (.one (.d (.int .i64 1000000000))))]⟩, 0, []⟩,
  ⟨⟨none, .mov 2 (.t 4)⟩, 0, []⟩]

def i_impl_isReq : IC := (.seq (.reg i_impl_isReq_r0)
  (.seq (.reg i_impl_isReq_r1)
  .ret))

theorem i_impl_isReq_ok : (Try.f151.body.bind fun c => toIC Try.prog 5 c []) = some (i_impl_isReq, []) := by kernel_rfl

theorem i_impl_isReq_fn {ds rs : List D} (hle : ds.length ≤ 5) (h : AW Try.prog 5 i_impl_isReq (Ends [.tmp 2] rs) (init ds)) : Fn Try.prog k_impl_isReq (lent ds) true rs :=
  Fn.intro' (by kernel_rfl) Try.func151 (by kernel_rfl) i_impl_isReq_ok (by kernel_rfl) hle h.h

theorem i_impl_isReq_fnB {ds rs : List D} (hle : ds.length ≤ 5) (h : AW Try.prog 5 i_impl_isReq (EndsB [.tmp 2] rs) (init ds)) : Fn Try.prog k_impl_isReq (lent ds) false rs :=
  Fn.introB' (by kernel_rfl) Try.func151 (by kernel_rfl) i_impl_isReq_ok (by kernel_rfl) hle h.h

abbrev i_impl_isGroup_r0 : List RO := [
  ⟨⟨none, .mov 2 (.c (.one (.d (.bool false))))⟩, 0, []⟩]

abbrev i_impl_isGroup_r1 : List RO := [
  ⟨⟨none, .mov 3 (.t 0)⟩, 0, []⟩,
  ⟨⟨none, .callv 4 (.c (.one (.fn k_impl_from []))) [(.t 3), (.c (.one (.d (.int .i64 0)))), (.c (.one (.d (.int .i64 3))))]⟩, 0, []⟩,
  ⟨⟨none, .mov 2 (.t 4)⟩, 0, []⟩]

def i_impl_isGroup : IC := (.seq (.reg i_impl_isGroup_r0)
  (.seq (.reg i_impl_isGroup_r1)
  .ret))

theorem i_impl_isGroup_ok : (Try.f72.body.bind fun c => toIC Try.prog 5 c []) = some (i_impl_isGroup, []) := by kernel_rfl

theorem i_impl_isGroup_fn {ds rs : List D} (hle : ds.length ≤ 5) (h : AW Try.prog 5 i_impl_isGroup (Ends [.tmp 2] rs) (init ds)) : Fn Try.prog k_impl_isGroup (lent ds) true rs :=
  Fn.intro' (by kernel_rfl) Try.func72 (by kernel_rfl) i_impl_isGroup_ok (by kernel_rfl) hle h.h

theorem i_impl_isGroup_fnB {ds rs : List D} (hle : ds.length ≤ 5) (h : AW Try.prog 5 i_impl_isGroup (EndsB [.tmp 2] rs) (init ds)) : Fn Try.prog k_impl_isGroup (lent ds) false rs :=
  Fn.introB' (by kernel_rfl) Try.func72 (by kernel_rfl) i_impl_isGroup_ok (by kernel_rfl) hle h.h

abbrev i_impl_RangeOk_r0 : List RO := [
  ⟨⟨none, .box 1 (.t 0)⟩, 0, []⟩,
  ⟨⟨none, .mov 2 (.c (.one (.d (.bool false))))⟩, 0, []⟩]

abbrev i_impl_RangeOk_r1 : List RO := [
  ⟨⟨none, .faddr 3 0 (.t 1)⟩, 0, []⟩,
  ⟨⟨none, .load 4 none (.t 3)⟩, 0, []⟩,
  ⟨⟨none, .bin 5 .geq (.t 4) (.c (.one (.d (.int .i64 0))))⟩, 0, []⟩,
  ⟨⟨none, .mov 6 (.t 5)⟩, 0, []⟩,
  ⟨⟨some (6, true), .faddr 7 0 (.t 1)⟩, 0, []⟩,
  ⟨⟨some (6, true), .load 8 none (.t 7)⟩, 0, []⟩,
  ⟨⟨some (6, true), .faddr 9 1 (.t 1)⟩, 0, []⟩,
  ⟨⟨some (6, true), .load 10 none (.t 9)⟩, 0, []⟩,
  ⟨⟨some (6, true), .bin 11 .lss (.t 8) (.t 10)⟩, 0, []⟩,
  ⟨⟨none, .pick 12 (.t 6) (.t 11) (.c (.one (.d (.bool false))))⟩, 0, []⟩,
  ⟨⟨none, .mov 13 (.t 12)⟩, 0, []⟩,
  ⟨⟨some (13, true), .faddr 14 1 (.t 1)⟩, 0, []⟩,
  ⟨⟨some (13, true), .load 15 none (.t 14)⟩, 0, []⟩,
  ⟨⟨some (13, true), .bin 16 .leq (.t 15) (.c (.one (.d (.int .i64 1000))))⟩, 0, []⟩,
  ⟨⟨none, .pick 17 (.t 13) (.t 16) (.c (.one (.d (.bool false))))⟩, 0, []⟩,
  ⟨⟨none, .mov 2 (.t 17)⟩, 0, []⟩]

def i_impl_RangeOk : IC := (.seq (.reg i_impl_RangeOk_r0)
  (.seq (.reg i_impl_RangeOk_r1)
  .ret))

theorem i_impl_RangeOk_ok : (Try.f100.body.bind fun c => toIC Try.prog 18 c []) = some (i_impl_RangeOk, []) := by kernel_rfl

theorem i_impl_RangeOk_fn {ds rs : List D} (hle : ds.length ≤ 18) (h : AW Try.prog 18 i_impl_RangeOk (Ends [.tmp 2] rs) (init ds)) : Fn Try.prog k_impl_RangeOk (lent ds) true rs :=
  Fn.intro' (by kernel_rfl) Try.func100 (by kernel_rfl) i_impl_RangeOk_ok (by kernel_rfl) hle h.h

theorem i_impl_RangeOk_fnB {ds rs : List D} (hle : ds.length ≤ 18) (h : AW Try.prog 18 i_impl_RangeOk (EndsB [.tmp 2] rs) (init ds)) : Fn Try.prog k_impl_RangeOk (lent ds) false rs :=
  Fn.introB' (by kernel_rfl) Try.func100 (by kernel_rfl) i_impl_RangeOk_ok (by kernel_rfl) hle h.h

abbrev i_impl_readsOk_1_r0 : List RO := [
  ⟨⟨none, .box 1 (.t 0)⟩, 0, []⟩,
  ⟨⟨none, .mov 2 (.c (.one (.d (.bool false))))⟩, 0, []⟩]

abbrev i_impl_readsOk_1_r1 : List RO := [
  ⟨⟨none, .load 3 (some 2) (.t 1)⟩, 0, []⟩,
  ⟨⟨none, .callv 4 (.c (.one (.fn k_impl_RangeOk []))) [(.t 3)]⟩, 0, []⟩,
  ⟨⟨none, .inv 5 (.t 4)⟩, 0, []⟩,
  ⟨⟨none, .mov 2 (.t 5)⟩, 0, []⟩]

def i_impl_readsOk_1 : IC := (.seq (.reg i_impl_readsOk_1_r0)
  (.seq (.reg i_impl_readsOk_1_r1)
  .ret))

theorem i_impl_readsOk_1_ok : (Try.f168.body.bind fun c => toIC Try.prog 6 c []) = some (i_impl_readsOk_1, []) := by kernel_rfl

theorem i_impl_readsOk_1_fn {ds rs : List D} (hle : ds.length ≤ 6) (h : AW Try.prog 6 i_impl_readsOk_1 (Ends [.tmp 2] rs) (init ds)) : Fn Try.prog k_impl_readsOk_1 (lent ds) true rs :=
  Fn.intro' (by kernel_rfl) Try.func168 (by kernel_rfl) i_impl_readsOk_1_ok (by kernel_rfl) hle h.h

theorem i_impl_readsOk_1_fnB {ds rs : List D} (hle : ds.length ≤ 6) (h : AW Try.prog 6 i_impl_readsOk_1 (EndsB [.tmp 2] rs) (init ds)) : Fn Try.prog k_impl_readsOk_1 (lent ds) false rs :=
  Fn.introB' (by kernel_rfl) Try.func168 (by kernel_rfl) i_impl_readsOk_1_ok (by kernel_rfl) hle h.h

abbrev i_slices_IndexFunc___impl_Range_impl_Range__r0 : List RO := [
  ⟨⟨none, .mov 4 (.c (.one (.d (.int .i64 0))))⟩, 0, []⟩]

abbrev i_slices_IndexFunc___impl_Range_impl_Range__r1 : List RO := [
  ⟨⟨none, .mov 6 (.t 0)⟩, 0, []⟩,
  ⟨⟨none, .len 7 false (.t 6)⟩, 0, []⟩,
  ⟨⟨none, .mov 8 (.c (.one (.d (.int .i64 0))))⟩, 0, []⟩]

abbrev i_slices_IndexFunc___impl_Range_impl_Range__r2 : List RO := [
  ⟨⟨none, .bin 9 .lss (.t 8) (.t 7)⟩, 0, []⟩]

abbrev i_slices_IndexFunc___impl_Range_impl_Range__r3 : List RO := [
  ⟨⟨none, .mov 10 (.t 8)⟩, 0, []⟩,
  ⟨⟨none, .mov 5 (.t 10)⟩, 0, []⟩]

abbrev i_slices_IndexFunc___impl_Range_impl_Range__r4 : List RO := [
  ⟨⟨none, .mov 11 (.t 1)⟩, 0, []⟩,
  ⟨⟨none, .mov 12 (.t 0)⟩, 0, []⟩,
  ⟨⟨none, .mov 13 (.t 5)⟩, 0, []⟩,
  ⟨⟨none, .iaddr 14 2 (.t 12) (.t 13)⟩, 0, []⟩,
  ⟨⟨none, .load 15 (some 2) (.t 14)⟩, 0, []⟩,
  ⟨⟨none, .callv 16 (.t 11) [(.t 15)]⟩, 0, []⟩]

abbrev i_slices_IndexFunc___impl_Range_impl_Range__r5 : List RO := [
  ⟨⟨none, .mov 17 (.t 5)⟩, 0, []⟩,
  ⟨⟨none, .mov 4 (.t 17)⟩, 0, []⟩]

abbrev i_slices_IndexFunc___impl_Range_impl_Range__r6 : List RO := [
  ⟨⟨none, .bin 18 .add (.t 8) (.c (.one (.d (.int .i64 1))))⟩, 0, []⟩,
  ⟨⟨none, .mov 8 (.t 18)⟩, 0, []⟩]

abbrev i_slices_IndexFunc___impl_Range_impl_Range__r7 : List RO := [
  ⟨⟨none, .mov 4 (.c (.one (.d (.int .i64 (-1)))))⟩, 0, []⟩]

def i_slices_IndexFunc___impl_Range_impl_Range_ : IC := (.seq (.reg i_slices_IndexFunc___impl_Range_impl_Range__r0)
  (.seq (.seq (.reg i_slices_IndexFunc___impl_Range_impl_Range__r1)
  (.block 0 (.loop (.seq (.reg i_slices_IndexFunc___impl_Range_impl_Range__r2)
  (.seq (.cond (.t 9) .skip (.exit 0))
  (.seq (.block 1 (.seq (.reg i_slices_IndexFunc___impl_Range_impl_Range__r3)
  (.seq (.reg i_slices_IndexFunc___impl_Range_impl_Range__r4)
  (.cond (.t 16) (.seq (.reg i_slices_IndexFunc___impl_Range_impl_Range__r5)
  .ret) .skip))))
  (.reg i_slices_IndexFunc___impl_Range_impl_Range__r6)))))))
  (.seq (.reg i_slices_IndexFunc___impl_Range_impl_Range__r7)
  .ret)))

theorem i_slices_IndexFunc___impl_Range_impl_Range__ok : (Try.f220.body.bind fun c => toIC Try.prog 19 c []) = some (i_slices_IndexFunc___impl_Range_impl_Range_, []) := by kernel_rfl

theorem i_slices_IndexFunc___impl_Range_impl_Range__fn {ds rs : List D} (hle : ds.length ≤ 19) (h : AW Try.prog 19 i_slices_IndexFunc___impl_Range_impl_Range_ (Ends [.tmp 4] rs) (init ds)) : Fn Try.prog k_slices_IndexFunc___impl_Range_impl_Range_ (lent ds) true rs :=
  Fn.intro' (by kernel_rfl) Try.func220 (by kernel_rfl) i_slices_IndexFunc___impl_Range_impl_Range__ok (by kernel_rfl) hle h.h

theorem i_slices_IndexFunc___impl_Range_impl_Range__fnB {ds rs : List D} (hle : ds.length ≤ 19) (h : AW Try.prog 19 i_slices_IndexFunc___impl_Range_impl_Range_ (EndsB [.tmp 4] rs) (init ds)) : Fn Try.prog k_slices_IndexFunc___impl_Range_impl_Range_ (lent ds) false rs :=
  Fn.introB' (by kernel_rfl) Try.func220 (by kernel_rfl) i_slices_IndexFunc___impl_Range_impl_Range__ok (by kernel_rfl) hle h.h

abbrev i_slices_ContainsFunc___impl_Range_impl_Range__r0 : List RO := [
  ⟨⟨none, .mov 4 (.c (.one (.d (.bool false))))⟩, 0, []⟩]

abbrev i_slices_ContainsFunc___impl_Range_impl_Range__r1 : List RO := [
  ⟨⟨none, .mov 5 (.t 0)⟩, 0, []⟩,
  ⟨⟨none, .mov 6 (.t 1)⟩, 0, []⟩,
  ⟨⟨none, .callv 7 (.c (.one (.fn k_slices_IndexFunc___impl_Range_impl_Range_ []))) [(.t 5), (.t 6)]⟩, 0, []⟩,
  ⟨⟨none, .bin 8 .geq (.t 7) (.c (.one (.d (.int .i64 0))))⟩, 0, []⟩,
  ⟨⟨none, .mov 4 (.t 8)⟩, 0, []⟩]

def i_slices_ContainsFunc___impl_Range_impl_Range_ : IC := (.seq (.reg i_slices_ContainsFunc___impl_Range_impl_Range__r0)
  (.seq (.reg i_slices_ContainsFunc___impl_Range_impl_Range__r1)
  .ret))

theorem i_slices_ContainsFunc___impl_Range_impl_Range__ok : (Try.f167.body.bind fun c => toIC Try.prog 9 c []) = some (i_slices_ContainsFunc___impl_Range_impl_Range_, []) := by kernel_rfl

theorem i_slices_ContainsFunc___impl_Range_impl_Range__fn {ds rs : List D} (hle : ds.length ≤ 9) (h : AW Try.prog 9 i_slices_ContainsFunc___impl_Range_impl_Range_ (Ends [.tmp 4] rs) (init ds)) : Fn Try.prog k_slices_ContainsFunc___impl_Range_impl_Range_ (lent ds) true rs :=
  Fn.intro' (by kernel_rfl) Try.func167 (by kernel_rfl) i_slices_ContainsFunc___impl_Range_impl_Range__ok (by kernel_rfl) hle h.h

theorem i_slices_ContainsFunc___impl_Range_impl_Range__fnB {ds rs : List D} (hle : ds.length ≤ 9) (h : AW Try.prog 9 i_slices_ContainsFunc___impl_Range_impl_Range_ (EndsB [.tmp 4] rs) (init ds)) : Fn Try.prog k_slices_ContainsFunc___impl_Range_impl_Range_ (lent ds) false rs :=
  Fn.introB' (by kernel_rfl) Try.func167 (by kernel_rfl) i_slices_ContainsFunc___impl_Range_impl_Range__ok (by kernel_rfl) hle h.h

abbrev i_impl_readsOk_r0 : List RO := [
  ⟨⟨none, .mov 2 (.c (.one (.d (.bool false))))⟩, 0, []⟩]

abbrev i_impl_readsOk_r1 : List RO := [
  ⟨⟨none, .mov 3 (.t 0)⟩, 0, []⟩,
  ⟨⟨none, .len 4 false (.t 3)⟩, 0, []⟩,
  ⟨⟨none, .bin 5 .leq (.t 4) (.c (.one (.d (.int .i64 16))))⟩, 0, []⟩,
  ⟨⟨none, .mov 6 (.t 5)⟩, 0, []⟩,
  ⟨⟨some (6, true), .mov 7 (.t 0)⟩, 0, []⟩,
  ⟨⟨some (6, true), .callv 8 (.c (.one (.fn k_slices_ContainsFunc___impl_Range_impl_Range_ []))) [(.t 7), (.c (.one (.fn k_impl_readsOk_1 [])))]⟩, 0, []⟩,
  ⟨⟨some (6, true), .inv 9 (.t 8)⟩, 0, []⟩,
  ⟨⟨none, .pick 10 (.t 6) (.t 9) (.c (.one (.d (.bool false))))⟩, 0, []⟩,
  ⟨⟨none, .mov 2 (.t 10)⟩, 0, []⟩]

def i_impl_readsOk : IC := (.seq (.reg i_impl_readsOk_r0)
  (.seq (.reg i_impl_readsOk_r1)
  .ret))

theorem i_impl_readsOk_ok : (Try.f73.body.bind fun c => toIC Try.prog 11 c []) = some (i_impl_readsOk, []) := by kernel_rfl

theorem i_impl_readsOk_fn {ds rs : List D} (hle : ds.length ≤ 11) (h : AW Try.prog 11 i_impl_readsOk (Ends [.tmp 2] rs) (init ds)) : Fn Try.prog k_impl_readsOk (lent ds) true rs :=
  Fn.intro' (by kernel_rfl) Try.func73 (by kernel_rfl) i_impl_readsOk_ok (by kernel_rfl) hle h.h

theorem i_impl_readsOk_fnB {ds rs : List D} (hle : ds.length ≤ 11) (h : AW Try.prog 11 i_impl_readsOk (EndsB [.tmp 2] rs) (init ds)) : Fn Try.prog k_impl_readsOk (lent ds) false rs :=
  Fn.introB' (by kernel_rfl) Try.func73 (by kernel_rfl) i_impl_readsOk_ok (by kernel_rfl) hle h.h

abbrev i_impl_isKey_r0 : List RO := [
  ⟨⟨none, .mov 2 (.c (.one (.d (.bool false))))⟩, 0, []⟩]

abbrev i_impl_isKey_r1 : List RO := [
  ⟨⟨none, .mov 3 (.t 0)⟩, 0, []⟩,
  ⟨⟨none, .callv 4 (.c (.one (.fn k_impl_from []))) [(.t 3), (.c (.one (.d (.int .i64 0)))), (.c (.one (.d (.int .i64 999))))]⟩, 0, []⟩,
  ⟨⟨none, .mov 2 (.t 4)⟩, 0, []⟩]

def i_impl_isKey : IC := (.seq (.reg i_impl_isKey_r0)
  (.seq (.reg i_impl_isKey_r1)
  .ret))

theorem i_impl_isKey_ok : (Try.f169.body.bind fun c => toIC Try.prog 5 c []) = some (i_impl_isKey, []) := by kernel_rfl

theorem i_impl_isKey_fn {ds rs : List D} (hle : ds.length ≤ 5) (h : AW Try.prog 5 i_impl_isKey (Ends [.tmp 2] rs) (init ds)) : Fn Try.prog k_impl_isKey (lent ds) true rs :=
  Fn.intro' (by kernel_rfl) Try.func169 (by kernel_rfl) i_impl_isKey_ok (by kernel_rfl) hle h.h

theorem i_impl_isKey_fnB {ds rs : List D} (hle : ds.length ≤ 5) (h : AW Try.prog 5 i_impl_isKey (EndsB [.tmp 2] rs) (init ds)) : Fn Try.prog k_impl_isKey (lent ds) false rs :=
  Fn.introB' (by kernel_rfl) Try.func169 (by kernel_rfl) i_impl_isKey_ok (by kernel_rfl) hle h.h

abbrev i_impl_isAnswer_r0 : List RO := [
  ⟨⟨none, .mov 2 (.c (.one (.d (.bool false))))⟩, 0, []⟩]

abbrev i_impl_isAnswer_r1 : List RO := [
  ⟨⟨none, .mov 3 (.t 0)⟩, 0, []⟩,
  ⟨⟨none, .callv 4 (.c (.one (.fn k_impl_from []))) [(.t 3), (.c (.one (.d (.int .i64 (-1))))), (.c (.one (.d (.int .i64 1000000000))))]⟩, 0, []⟩,
  ⟨⟨none, .mov 2 (.t 4)⟩, 0, []⟩]

def i_impl_isAnswer : IC := (.seq (.reg i_impl_isAnswer_r0)
  (.seq (.reg i_impl_isAnswer_r1)
  .ret))

theorem i_impl_isAnswer_ok : (Try.f170.body.bind fun c => toIC Try.prog 5 c []) = some (i_impl_isAnswer, []) := by kernel_rfl

theorem i_impl_isAnswer_fn {ds rs : List D} (hle : ds.length ≤ 5) (h : AW Try.prog 5 i_impl_isAnswer (Ends [.tmp 2] rs) (init ds)) : Fn Try.prog k_impl_isAnswer (lent ds) true rs :=
  Fn.intro' (by kernel_rfl) Try.func170 (by kernel_rfl) i_impl_isAnswer_ok (by kernel_rfl) hle h.h

theorem i_impl_isAnswer_fnB {ds rs : List D} (hle : ds.length ≤ 5) (h : AW Try.prog 5 i_impl_isAnswer (EndsB [.tmp 2] rs) (init ds)) : Fn Try.prog k_impl_isAnswer (lent ds) false rs :=
  Fn.introB' (by kernel_rfl) Try.func170 (by kernel_rfl) i_impl_isAnswer_ok (by kernel_rfl) hle h.h

abbrev i_impl_WritesOk_r0 : List RO := [
  ⟨⟨none, .mov 2 (.c (.one (.d (.bool false))))⟩, 0, []⟩]

abbrev i_impl_WritesOk_r1 : List RO := [
  ⟨⟨none, .mov 5 (.t 0)⟩, 0, []⟩,
  ⟨⟨none, .len 6 false (.t 5)⟩, 0, []⟩,
  ⟨⟨none, .mov 7 (.c (.one (.d (.int .i64 0))))⟩, 0, []⟩]

abbrev i_impl_WritesOk_r2 : List RO := [
  ⟨⟨none, .bin 8 .lss (.t 7) (.t 6)⟩, 0, []⟩]

abbrev i_impl_WritesOk_r3 : List RO := [
  ⟨⟨none, .mov 9 (.t 7)⟩, 0, []⟩,
  ⟨⟨none, .iaddr 10 2 (.t 5) (.t 7)⟩, 0, []⟩,
  ⟨⟨none, .load 11 (some 2) (.t 10)⟩, 0, []⟩,
  ⟨⟨none, .var 4 [(.d (.int .i64 0)), (.d (.int .i64 0))]⟩, 0, []⟩,
  ⟨⟨none, .mov 3 (.t 9)⟩, 0, []⟩,
  ⟨⟨none, .store 2 [(.int .i64 0), (.int .i64 0)] (.t 4) (.t 11)⟩, 0, []⟩]

abbrev i_impl_WritesOk_r4 : List RO := [
  ⟨⟨none, .faddr 12 0 (.t 4)⟩, 0, []⟩,
  ⟨⟨none, .load 13 none (.t 12)⟩, 1, []⟩,
  ⟨⟨none, .callv 14 (.c (.one (.fn k_impl_isKey []))) [(.t 13)]⟩, 3, []⟩,
  ⟨⟨none, .inv 15 (.t 14)⟩, 7, []⟩,
  ⟨⟨none, .mov 16 (.t 15)⟩, 15, []⟩,
  ⟨⟨some (16, false), .faddr 17 1 (.t 4)⟩, 31, []⟩,
  ⟨⟨some (16, false), .load 18 none (.t 17)⟩, 63, []⟩,
  ⟨⟨some (16, false), .callv 19 (.c (.one (.fn k_impl_isAnswer []))) [(.t 18)]⟩, 127, []⟩,
  ⟨⟨some (16, false), .inv 20 (.t 19)⟩, 255, []⟩,
  ⟨⟨none, .pick 21 (.t 16) (.c (.one (.d (.bool true)))) (.t 20)⟩, 511, []⟩,
  ⟨⟨none, .mov 22 (.t 21)⟩, 1023, []⟩,
  ⟨⟨some (22, false), .mov 23 (.t 3)⟩, 2047, []⟩,
  ⟨⟨some (22, false), .bin 24 .gtr (.t 23) (.c (.one (.d (.int .i64 0))))⟩, 4095, []⟩,
  ⟨⟨some (22, false), .mov 25 (.t 24)⟩, 8191, []⟩,
  ⟨⟨some (25, true), .mov 26 (.t 0)⟩, 16383, []⟩,
  ⟨⟨some (25, true), .mov 27 (.t 3)⟩, 16383, []⟩,
  ⟨⟨some (25, true), .bin 28 .sub (.t 27) (.c (.one (.d (.int .i64 1))))⟩, 49151, []⟩,
  ⟨⟨some (25, true), .iaddr 29 2 (.t 26) (.t 28)⟩, 131071, []⟩,
  ⟨⟨some (25, true), .faddr 30 0 (.t 29)⟩, 262143, []⟩,
  ⟨⟨some (25, true), .load 31 none (.t 30)⟩, 524287, []⟩,
  ⟨⟨some (25, true), .faddr 32 0 (.t 4)⟩, 16383, []⟩,
  ⟨⟨some (25, true), .load 33 none (.t 32)⟩, 1064959, []⟩,
  ⟨⟨some (25, true), .bin 34 .geq (.t 31) (.t 33)⟩, 4194303, []⟩,
  ⟨⟨some (22, false), .pick 35 (.t 25) (.t 34) (.c (.one (.d (.bool false))))⟩, 8388607, []⟩,
  ⟨⟨none, .pick 36 (.t 22) (.c (.one (.d (.bool true)))) (.t 35)⟩, 16777215, []⟩]

abbrev i_impl_WritesOk_r5 : List RO := [
  ⟨⟨none, .mov 2 (.c (.one (.d (.bool false))))⟩, 0, []⟩]

abbrev i_impl_WritesOk_r6 : List RO := [
  ⟨⟨none, .bin 37 .add (.t 7) (.c (.one (.d (.int .i64 1))))⟩, 0, []⟩,
  ⟨⟨none, .mov 7 (.t 37)⟩, 0, []⟩]

abbrev i_impl_WritesOk_r7 : List RO := [
  ⟨⟨none, .mov 38 (.t 0)⟩, 0, []⟩,
  ⟨⟨none, .len 39 false (.t 38)⟩, 0, []⟩,
  ⟨⟨none, .bin 40 .leq (.t 39) (.c (.one (.d (.int .i64 60))))⟩, 0, []⟩,
  ⟨⟨none, .mov 2 (.t 40)⟩, 0, []⟩]

def i_impl_WritesOk : IC := (.seq (.reg i_impl_WritesOk_r0)
  (.seq (.seq (.reg i_impl_WritesOk_r1)
  (.block 0 (.loop (.seq (.reg i_impl_WritesOk_r2)
  (.seq (.cond (.t 8) .skip (.exit 0))
  (.seq (.block 1 (.seq (.reg i_impl_WritesOk_r3)
  (.seq (.regd i_impl_WritesOk_r4)
  (.cond (.t 36) (.seq (.reg i_impl_WritesOk_r5)
  .ret) .skip))))
  (.reg i_impl_WritesOk_r6)))))))
  (.seq (.reg i_impl_WritesOk_r7)
  .ret)))

theorem i_impl_WritesOk_ok : (Try.f74.body.bind fun c => toIC Try.prog 41 c [[(0, []), (1, []), (3, []), (7, []), (15, []), (31, []), (63, []), (127, []), (255, []), (511, []), (1023, []), (2047, []), (4095, []), (8191, []), (16383, []), (16383, []), (49151, []), (131071, []), (262143, []), (524287, []), (16383, []), (1064959, []), (4194303, []), (8388607, []), (16777215, [])]]) = some (i_impl_WritesOk, []) := by kernel_rfl

theorem i_impl_WritesOk_fn {ds rs : List D} (hle : ds.length ≤ 41) (h : AW Try.prog 41 i_impl_WritesOk (Ends [.tmp 2] rs) (init ds)) : Fn Try.prog k_impl_WritesOk (lent ds) true rs :=
  Fn.intro' (by kernel_rfl) Try.func74 (by kernel_rfl) i_impl_WritesOk_ok (by kernel_rfl) hle h.h

theorem i_impl_WritesOk_fnB {ds rs : List D} (hle : ds.length ≤ 41) (h : AW Try.prog 41 i_impl_WritesOk (EndsB [.tmp 2] rs) (init ds)) : Fn Try.prog k_impl_WritesOk (lent ds) false rs :=
  Fn.introB' (by kernel_rfl) Try.func74 (by kernel_rfl) i_impl_WritesOk_ok (by kernel_rfl) hle h.h

abbrev i_impl_SharesOk_r0 : List RO := [
  ⟨⟨none, .mov 2 (.c (.one (.d (.bool false))))⟩, 0, []⟩]

abbrev i_impl_SharesOk_r1 : List RO := [
  ⟨⟨none, .mov 5 (.t 0)⟩, 0, []⟩,
  ⟨⟨none, .len 6 false (.t 5)⟩, 0, []⟩,
  ⟨⟨none, .mov 7 (.c (.one (.d (.int .i64 0))))⟩, 0, []⟩]

abbrev i_impl_SharesOk_r2 : List RO := [
  ⟨⟨none, .bin 8 .lss (.t 7) (.t 6)⟩, 0, []⟩]

abbrev i_impl_SharesOk_r3 : List RO := [
  ⟨⟨none, .mov 9 (.t 7)⟩, 0, []⟩,
  ⟨⟨none, .iaddr 10 4 (.t 5) (.t 7)⟩, 0, []⟩,
  ⟨⟨none, .load 11 (some 4) (.t 10)⟩, 0, []⟩,
  ⟨⟨none, .var 4 [(.d (.int .i64 0)), .zs, .zs, (.d (.int .i64 0))]⟩, 0, []⟩,
  ⟨⟨none, .mov 3 (.t 9)⟩, 0, []⟩,
  ⟨⟨none, .store 4 [(.int .i64 0), (.sl 2 []), (.sl 2 []), (.int .i64 0)] (.t 4) (.t 11)⟩, 0, []⟩]

abbrev i_impl_SharesOk_r4 : List RO := [
  ⟨⟨none, .faddr 12 0 (.t 4)⟩, 0, []⟩,
  ⟨⟨none, .load 13 none (.t 12)⟩, 1, []⟩,
  ⟨⟨none, .callv 14 (.c (.one (.fn k_impl_isGroup []))) [(.t 13)]⟩, 3, []⟩,
  ⟨⟨none, .inv 15 (.t 14)⟩, 7, []⟩,
  ⟨⟨none, .mov 16 (.t 15)⟩, 15, []⟩,
  ⟨⟨some (16, false), .mov 17 (.t 3)⟩, 31, []⟩,
  ⟨⟨some (16, false), .bin 18 .gtr (.t 17) (.c (.one (.d (.int .i64 0))))⟩, 63, []⟩,
  ⟨⟨some (16, false), .mov 19 (.t 18)⟩, 127, []⟩,
  ⟨⟨some (19, true), .mov 20 (.t 0)⟩, 255, []⟩,
  ⟨⟨some (19, true), .mov 21 (.t 3)⟩, 255, []⟩,
  ⟨⟨some (19, true), .bin 22 .sub (.t 21) (.c (.one (.d (.int .i64 1))))⟩, 767, []⟩,
  ⟨⟨some (19, true), .iaddr 23 4 (.t 20) (.t 22)⟩, 2047, []⟩,
  ⟨⟨some (19, true), .faddr 24 0 (.t 23)⟩, 4095, []⟩,
  ⟨⟨some (19, true), .load 25 none (.t 24)⟩, 8191, []⟩,
  ⟨⟨some (19, true), .faddr 26 0 (.t 4)⟩, 255, []⟩,
  ⟨⟨some (19, true), .load 27 none (.t 26)⟩, 16639, []⟩,
  ⟨⟨some (19, true), .bin 28 .geq (.t 25) (.t 27)⟩, 65535, []⟩,
  ⟨⟨some (16, false), .pick 29 (.t 19) (.t 28) (.c (.one (.d (.bool false))))⟩, 131071, []⟩,
  ⟨⟨none, .pick 30 (.t 16) (.c (.one (.d (.bool true)))) (.t 29)⟩, 262143, []⟩,
  ⟨⟨none, .mov 31 (.t 30)⟩, 524287, []⟩,
  ⟨⟨some (31, false), .faddr 32 1 (.t 4)⟩, 1048575, []⟩,
  ⟨⟨some (31, false), .load 33 none (.t 32)⟩, 2097151, []⟩,
  ⟨⟨some (31, false), .callv 34 (.c (.one (.fn k_impl_readsOk []))) [(.t 33)]⟩, 4194303, []⟩,
  ⟨⟨some (31, false), .inv 35 (.t 34)⟩, 8388607, []⟩,
  ⟨⟨none, .pick 36 (.t 31) (.c (.one (.d (.bool true)))) (.t 35)⟩, 16777215, []⟩,
  ⟨⟨none, .mov 37 (.t 36)⟩, 33554431, []⟩,
  ⟨⟨some (37, false), .faddr 38 2 (.t 4)⟩, 67108863, []⟩,
  ⟨⟨some (37, false), .load 39 none (.t 38)⟩, 134217727, []⟩,
  ⟨⟨some (37, false), .callv 40 (.c (.one (.fn k_impl_WritesOk []))) [(.t 39)]⟩, 268435455, []⟩,
  ⟨⟨some (37, false), .inv 41 (.t 40)⟩, 536870911, []⟩,
  ⟨⟨none, .pick 42 (.t 37) (.c (.one (.d (.bool true)))) (.t 41)⟩, 1073741823, []⟩,
  ⟨⟨none, .mov 43 (.t 42)⟩, 2147483647, []⟩,
  ⟨⟨some (43, false), .faddr 44 3 (.t 4)⟩, 4294967295, []⟩,
  ⟨⟨some (43, false), .load 45 none (.t 44)⟩, 8589934591, []⟩,
  ⟨⟨some (43, false), .callv 46 (.c (.one (.fn k_impl_from []))) [(.t 45), (.c (.one (.d (.int .i64 0)))), (.c (.one (.d (.int .i64 2))))]⟩, 17179869183, []⟩,
  ⟨⟨some (43, false), .inv 47 (.t 46)⟩, 34359738367, []⟩,
  ⟨⟨none, .pick 48 (.t 43) (.c (.one (.d (.bool true)))) (.t 47)⟩, 68719476735, []⟩]

abbrev i_impl_SharesOk_r5 : List RO := [
  ⟨⟨none, .mov 2 (.c (.one (.d (.bool false))))⟩, 0, []⟩]

abbrev i_impl_SharesOk_r6 : List RO := [
  ⟨⟨none, .bin 49 .add (.t 7) (.c (.one (.d (.int .i64 1))))⟩, 0, []⟩,
  ⟨⟨none, .mov 7 (.t 49)⟩, 0, []⟩]

abbrev i_impl_SharesOk_r7 : List RO := [
  ⟨⟨none, .mov 50 (.t 0)⟩, 0, []⟩,
  ⟨⟨none, .len 51 false (.t 50)⟩, 0, []⟩,
  ⟨⟨none, .bin 52 .leq (.t 51) (.c (.one (.d (.int .i64 4))))⟩, 0, []⟩,
  ⟨⟨none, .mov 2 (.t 52)⟩, 0, []⟩]

def i_impl_SharesOk : IC := (.seq (.reg i_impl_SharesOk_r0)
  (.seq (.seq (.reg i_impl_SharesOk_r1)
  (.block 0 (.loop (.seq (.reg i_impl_SharesOk_r2)
  (.seq (.cond (.t 8) .skip (.exit 0))
  (.seq (.block 1 (.seq (.reg i_impl_SharesOk_r3)
  (.seq (.regd i_impl_SharesOk_r4)
  (.cond (.t 48) (.seq (.reg i_impl_SharesOk_r5)
  .ret) .skip))))
  (.reg i_impl_SharesOk_r6)))))))
  (.seq (.reg i_impl_SharesOk_r7)
  .ret)))

theorem i_impl_SharesOk_ok : (Try.f17.body.bind fun c => toIC Try.prog 53 c [[(0, []), (1, []), (3, []), (7, []), (15, []), (31, []), (63, []), (127, []), (255, []), (255, []), (767, []), (2047, []), (4095, []), (8191, []), (255, []), (16639, []), (65535, []), (131071, []), (262143, []), (524287, []), (1048575, []), (2097151, []), (4194303, []), (8388607, []), (16777215, []), (33554431, []), (67108863, []), (134217727, []), (268435455, []), (536870911, []), (1073741823, []), (2147483647, []), (4294967295, []), (8589934591, []), (17179869183, []), (34359738367, []), (68719476735, [])]]) = some (i_impl_SharesOk, []) := by kernel_rfl

theorem i_impl_SharesOk_fn {ds rs : List D} (hle : ds.length ≤ 53) (h : AW Try.prog 53 i_impl_SharesOk (Ends [.tmp 2] rs) (init ds)) : Fn Try.prog k_impl_SharesOk (lent ds) true rs :=
  Fn.intro' (by kernel_rfl) Try.func17 (by kernel_rfl) i_impl_SharesOk_ok (by kernel_rfl) hle h.h

theorem i_impl_SharesOk_fnB {ds rs : List D} (hle : ds.length ≤ 53) (h : AW Try.prog 53 i_impl_SharesOk (EndsB [.tmp 2] rs) (init ds)) : Fn Try.prog k_impl_SharesOk (lent ds) false rs :=
  Fn.introB' (by kernel_rfl) Try.func17 (by kernel_rfl) i_impl_SharesOk_ok (by kernel_rfl) hle h.h

abbrev i_impl_votes_1_r0 : List RO := [
  ⟨⟨none, .box 2 (.t 0)⟩, 0, []⟩,
  ⟨⟨none, .mov 3 (.c (.one (.d (.bool false))))⟩, 0, []⟩]

abbrev i_impl_votes_1_r1 : List RO := [
  ⟨⟨none, .faddr 4 3 (.t 2)⟩, 0, []⟩,
  ⟨⟨none, .load 5 none (.t 4)⟩, 0, []⟩,
  ⟨⟨none, .load 6 none (.t 1)⟩, 0, []⟩,
  ⟨⟨none, .bin 7 .eql (.t 5) (.t 6)⟩, 0, []⟩,
  ⟨⟨none, .mov 3 (.t 7)⟩, 0, []⟩]

def i_impl_votes_1 : IC := (.seq (.reg i_impl_votes_1_r0)
  (.seq (.reg i_impl_votes_1_r1)
  .ret))

theorem i_impl_votes_1_ok : (Try.f187.body.bind fun c => toIC Try.prog 8 c []) = some (i_impl_votes_1, []) := by kernel_rfl

theorem i_impl_votes_1_fn {ds rs : List D} (hle : ds.length ≤ 8) (h : AW Try.prog 8 i_impl_votes_1 (Ends [.tmp 3] rs) (init ds)) : Fn Try.prog k_impl_votes_1 (lent ds) true rs :=
  Fn.intro' (by kernel_rfl) Try.func187 (by kernel_rfl) i_impl_votes_1_ok (by kernel_rfl) hle h.h

theorem i_impl_votes_1_fnB {ds rs : List D} (hle : ds.length ≤ 8) (h : AW Try.prog 8 i_impl_votes_1 (EndsB [.tmp 3] rs) (init ds)) : Fn Try.prog k_impl_votes_1 (lent ds) false rs :=
  Fn.introB' (by kernel_rfl) Try.func187 (by kernel_rfl) i_impl_votes_1_ok (by kernel_rfl) hle h.h

abbrev i_slices_IndexFunc___impl_Share_impl_Share__r0 : List RO := [
  ⟨⟨none, .mov 4 (.c (.one (.d (.int .i64 0))))⟩, 0, []⟩]

abbrev i_slices_IndexFunc___impl_Share_impl_Share__r1 : List RO := [
  ⟨⟨none, .mov 6 (.t 0)⟩, 0, []⟩,
  ⟨⟨none, .len 7 false (.t 6)⟩, 0, []⟩,
  ⟨⟨none, .mov 8 (.c (.one (.d (.int .i64 0))))⟩, 0, []⟩]

abbrev i_slices_IndexFunc___impl_Share_impl_Share__r2 : List RO := [
  ⟨⟨none, .bin 9 .lss (.t 8) (.t 7)⟩, 0, []⟩]

abbrev i_slices_IndexFunc___impl_Share_impl_Share__r3 : List RO := [
  ⟨⟨none, .mov 10 (.t 8)⟩, 0, []⟩,
  ⟨⟨none, .mov 5 (.t 10)⟩, 0, []⟩]

abbrev i_slices_IndexFunc___impl_Share_impl_Share__r4 : List RO := [
  ⟨⟨none, .mov 11 (.t 1)⟩, 0, []⟩,
  ⟨⟨none, .mov 12 (.t 0)⟩, 0, []⟩,
  ⟨⟨none, .mov 13 (.t 5)⟩, 0, []⟩,
  ⟨⟨none, .iaddr 14 4 (.t 12) (.t 13)⟩, 0, []⟩,
  ⟨⟨none, .load 15 (some 4) (.t 14)⟩, 0, []⟩,
  ⟨⟨none, .callv 16 (.t 11) [(.t 15)]⟩, 0, []⟩]

abbrev i_slices_IndexFunc___impl_Share_impl_Share__r5 : List RO := [
  ⟨⟨none, .mov 17 (.t 5)⟩, 0, []⟩,
  ⟨⟨none, .mov 4 (.t 17)⟩, 0, []⟩]

abbrev i_slices_IndexFunc___impl_Share_impl_Share__r6 : List RO := [
  ⟨⟨none, .bin 18 .add (.t 8) (.c (.one (.d (.int .i64 1))))⟩, 0, []⟩,
  ⟨⟨none, .mov 8 (.t 18)⟩, 0, []⟩]

abbrev i_slices_IndexFunc___impl_Share_impl_Share__r7 : List RO := [
  ⟨⟨none, .mov 4 (.c (.one (.d (.int .i64 (-1)))))⟩, 0, []⟩]

def i_slices_IndexFunc___impl_Share_impl_Share_ : IC := (.seq (.reg i_slices_IndexFunc___impl_Share_impl_Share__r0)
  (.seq (.seq (.reg i_slices_IndexFunc___impl_Share_impl_Share__r1)
  (.block 0 (.loop (.seq (.reg i_slices_IndexFunc___impl_Share_impl_Share__r2)
  (.seq (.cond (.t 9) .skip (.exit 0))
  (.seq (.block 1 (.seq (.reg i_slices_IndexFunc___impl_Share_impl_Share__r3)
  (.seq (.reg i_slices_IndexFunc___impl_Share_impl_Share__r4)
  (.cond (.t 16) (.seq (.reg i_slices_IndexFunc___impl_Share_impl_Share__r5)
  .ret) .skip))))
  (.reg i_slices_IndexFunc___impl_Share_impl_Share__r6)))))))
  (.seq (.reg i_slices_IndexFunc___impl_Share_impl_Share__r7)
  .ret)))

theorem i_slices_IndexFunc___impl_Share_impl_Share__ok : (Try.f221.body.bind fun c => toIC Try.prog 19 c []) = some (i_slices_IndexFunc___impl_Share_impl_Share_, []) := by kernel_rfl

theorem i_slices_IndexFunc___impl_Share_impl_Share__fn {ds rs : List D} (hle : ds.length ≤ 19) (h : AW Try.prog 19 i_slices_IndexFunc___impl_Share_impl_Share_ (Ends [.tmp 4] rs) (init ds)) : Fn Try.prog k_slices_IndexFunc___impl_Share_impl_Share_ (lent ds) true rs :=
  Fn.intro' (by kernel_rfl) Try.func221 (by kernel_rfl) i_slices_IndexFunc___impl_Share_impl_Share__ok (by kernel_rfl) hle h.h

theorem i_slices_IndexFunc___impl_Share_impl_Share__fnB {ds rs : List D} (hle : ds.length ≤ 19) (h : AW Try.prog 19 i_slices_IndexFunc___impl_Share_impl_Share_ (EndsB [.tmp 4] rs) (init ds)) : Fn Try.prog k_slices_IndexFunc___impl_Share_impl_Share_ (lent ds) false rs :=
  Fn.introB' (by kernel_rfl) Try.func221 (by kernel_rfl) i_slices_IndexFunc___impl_Share_impl_Share__ok (by kernel_rfl) hle h.h

abbrev i_slices_ContainsFunc___impl_Share_impl_Share__r0 : List RO := [
  ⟨⟨none, .mov 4 (.c (.one (.d (.bool false))))⟩, 0, []⟩]

abbrev i_slices_ContainsFunc___impl_Share_impl_Share__r1 : List RO := [
  ⟨⟨none, .mov 5 (.t 0)⟩, 0, []⟩,
  ⟨⟨none, .mov 6 (.t 1)⟩, 0, []⟩,
  ⟨⟨none, .callv 7 (.c (.one (.fn k_slices_IndexFunc___impl_Share_impl_Share_ []))) [(.t 5), (.t 6)]⟩, 0, []⟩,
  ⟨⟨none, .bin 8 .geq (.t 7) (.c (.one (.d (.int .i64 0))))⟩, 0, []⟩,
  ⟨⟨none, .mov 4 (.t 8)⟩, 0, []⟩]

def i_slices_ContainsFunc___impl_Share_impl_Share_ : IC := (.seq (.reg i_slices_ContainsFunc___impl_Share_impl_Share__r0)
  (.seq (.reg i_slices_ContainsFunc___impl_Share_impl_Share__r1)
  .ret))

theorem i_slices_ContainsFunc___impl_Share_impl_Share__ok : (Try.f186.body.bind fun c => toIC Try.prog 9 c []) = some (i_slices_ContainsFunc___impl_Share_impl_Share_, []) := by kernel_rfl

theorem i_slices_ContainsFunc___impl_Share_impl_Share__fn {ds rs : List D} (hle : ds.length ≤ 9) (h : AW Try.prog 9 i_slices_ContainsFunc___impl_Share_impl_Share_ (Ends [.tmp 4] rs) (init ds)) : Fn Try.prog k_slices_ContainsFunc___impl_Share_impl_Share_ (lent ds) true rs :=
  Fn.intro' (by kernel_rfl) Try.func186 (by kernel_rfl) i_slices_ContainsFunc___impl_Share_impl_Share__ok (by kernel_rfl) hle h.h

theorem i_slices_ContainsFunc___impl_Share_impl_Share__fnB {ds rs : List D} (hle : ds.length ≤ 9) (h : AW Try.prog 9 i_slices_ContainsFunc___impl_Share_impl_Share_ (EndsB [.tmp 4] rs) (init ds)) : Fn Try.prog k_slices_ContainsFunc___impl_Share_impl_Share_ (lent ds) false rs :=
  Fn.introB' (by kernel_rfl) Try.func186 (by kernel_rfl) i_slices_ContainsFunc___impl_Share_impl_Share__ok (by kernel_rfl) hle h.h

abbrev i_impl_votes_r0 : List RO := [
  ⟨⟨none, .box 3 (.t 1)⟩, 0, []⟩,
  ⟨⟨none, .mov 4 (.c (.one (.d (.bool false))))⟩, 0, []⟩]

abbrev i_impl_votes_r1 : List RO := [
  ⟨⟨none, .mov 5 (.t 0)⟩, 0, []⟩,
  ⟨⟨none, .mkfn 6 k_impl_votes_1 [(.t 3)]⟩, 0, []⟩,
  ⟨⟨none, .callv 7 (.c (.one (.fn k_slices_ContainsFunc___impl_Share_impl_Share_ []))) [(.t 5), (.t 6)]⟩, 0, []⟩,
  ⟨⟨none, .mov 4 (.t 7)⟩, 0, []⟩]

def i_impl_votes : IC := (.seq (.reg i_impl_votes_r0)
  (.seq (.reg i_impl_votes_r1)
  .ret))

theorem i_impl_votes_ok : (Try.f134.body.bind fun c => toIC Try.prog 8 c []) = some (i_impl_votes, []) := by kernel_rfl

theorem i_impl_votes_fn {ds rs : List D} (hle : ds.length ≤ 8) (h : AW Try.prog 8 i_impl_votes (Ends [.tmp 4] rs) (init ds)) : Fn Try.prog k_impl_votes (lent ds) true rs :=
  Fn.intro' (by kernel_rfl) Try.func134 (by kernel_rfl) i_impl_votes_ok (by kernel_rfl) hle h.h

theorem i_impl_votes_fnB {ds rs : List D} (hle : ds.length ≤ 8) (h : AW Try.prog 8 i_impl_votes (EndsB [.tmp 4] rs) (init ds)) : Fn Try.prog k_impl_votes (lent ds) false rs :=
  Fn.introB' (by kernel_rfl) Try.func134 (by kernel_rfl) i_impl_votes_ok (by kernel_rfl) hle h.h

abbrev i_impl_recOk_r0 : List RO := [
  ⟨⟨none, .box 1 (.t 0)⟩, 0, []⟩,
  ⟨⟨none, .mov 2 (.c (.one (.d (.bool false))))⟩, 0, []⟩]

abbrev i_impl_recOk_r1 : List RO := [
  ⟨⟨none, .faddr 3 1 (.t 1)⟩, 0, []⟩,
  ⟨⟨none, .load 4 none (.t 3)⟩, 0, []⟩,
  ⟨⟨none, .callv 5 (.c (.one (.fn k_impl_isWhole []))) [(.t 4)]⟩, 0, []⟩,
  ⟨⟨none, .inv 6 (.t 5)⟩, 0, []⟩,
  ⟨⟨none, .mov 7 (.t 6)⟩, 0, []⟩,
  ⟨⟨some (7, false), .faddr 8 2 (.t 1)⟩, 0, []⟩,
  ⟨⟨some (7, false), .load 9 none (.t 8)⟩, 0, []⟩,
  ⟨⟨some (7, false), .callv 10 (.c (.one (.fn k_impl_isReq []))) [(.t 9)]⟩, 0, []⟩,
  ⟨⟨some (7, false), .inv 11 (.t 10)⟩, 0, []⟩,
  ⟨⟨none, .pick 12 (.t 7) (.c (.one (.d (.bool true)))) (.t 11)⟩, 0, []⟩,
  ⟨⟨none, .mov 13 (.t 12)⟩, 0, []⟩,
  ⟨⟨some (13, false), .faddr 14 4 (.t 1)⟩, 0, []⟩,
  ⟨⟨some (13, false), .load 15 none (.t 14)⟩, 0, []⟩,
  ⟨⟨some (13, false), .callv 16 (.c (.one (.fn k_impl_SharesOk []))) [(.t 15)]⟩, 0, []⟩,
  ⟨⟨some (13, false), .inv 17 (.t 16)⟩, 0, []⟩,
  ⟨⟨none, .pick 18 (.t 13) (.c (.one (.d (.bool true)))) (.t 17)⟩, 0, []⟩]

abbrev i_impl_recOk_r2 : List RO := [
  ⟨⟨none, .mov 2 (.c (.one (.d (.bool false))))⟩, 0, []⟩]

abbrev i_impl_recOk_r3 : List RO := [
  ⟨⟨none, .faddr 19 3 (.t 1)⟩, 0, []⟩,
  ⟨⟨none, .load 20 none (.t 19)⟩, 0, []⟩]

abbrev i_impl_recOk_r4 : List RO := [
  ⟨⟨none, .bin 22 .eql (.t 20) (.c (.one (.d (.int .i64 1))))⟩, 0, []⟩,
  ⟨⟨none, .mov 21 (.t 22)⟩, 0, []⟩]

abbrev i_impl_recOk_r5 : List RO := [
  ⟨⟨none, .faddr 23 4 (.t 1)⟩, 0, []⟩,
  ⟨⟨none, .load 24 none (.t 23)⟩, 0, []⟩,
  ⟨⟨none, .len 25 false (.t 24)⟩, 0, []⟩,
  ⟨⟨none, .bin 26 .eql (.t 25) (.c (.one (.d (.int .i64 0))))⟩, 0, []⟩,
  ⟨⟨none, .mov 2 (.t 26)⟩, 0, []⟩]

abbrev i_impl_recOk_r6 : List RO := [
  ⟨⟨none, .bin 28 .eql (.t 20) (.c (.one (.d (.int .i64 2))))⟩, 0, []⟩,
  ⟨⟨none, .mov 27 (.t 28)⟩, 0, []⟩]

abbrev i_impl_recOk_r7 : List RO := [
  ⟨⟨none, .faddr 29 4 (.t 1)⟩, 0, []⟩,
  ⟨⟨none, .load 30 none (.t 29)⟩, 0, []⟩,
  ⟨⟨none, .callv 31 (.c (.one (.fn k_impl_votes []))) [(.t 30), (.c (.one (.d (.int .i64 0))))]⟩, 0, []⟩,
  ⟨⟨none, .mov 32 (.t 31)⟩, 0, []⟩,
  ⟨⟨some (32, true), .faddr 33 4 (.t 1)⟩, 0, []⟩,
  ⟨⟨some (32, true), .load 34 none (.t 33)⟩, 0, []⟩,
  ⟨⟨some (32, true), .callv 35 (.c (.one (.fn k_impl_votes []))) [(.t 34), (.c (.one (.d (.int .i64 2))))]⟩, 0, []⟩,
  ⟨⟨some (32, true), .inv 36 (.t 35)⟩, 0, []⟩,
  ⟨⟨none, .pick 37 (.t 32) (.t 36) (.c (.one (.d (.bool false))))⟩, 0, []⟩,
  ⟨⟨none, .mov 2 (.t 37)⟩, 0, []⟩]

abbrev i_impl_recOk_r8 : List RO := [
  ⟨⟨none, .bin 39 .eql (.t 20) (.c (.one (.d (.int .i64 3))))⟩, 0, []⟩,
  ⟨⟨none, .mov 38 (.t 39)⟩, 0, []⟩]

abbrev i_impl_recOk_r9 : List RO := [
  ⟨⟨none, .faddr 40 4 (.t 1)⟩, 0, []⟩,
  ⟨⟨none, .load 41 none (.t 40)⟩, 0, []⟩,
  ⟨⟨none, .callv 42 (.c (.one (.fn k_impl_votes []))) [(.t 41), (.c (.one (.d (.int .i64 0))))]⟩, 0, []⟩,
  ⟨⟨none, .inv 43 (.t 42)⟩, 0, []⟩,
  ⟨⟨none, .mov 44 (.t 43)⟩, 0, []⟩,
  ⟨⟨some (44, true), .faddr 45 4 (.t 1)⟩, 0, []⟩,
  ⟨⟨some (44, true), .load 46 none (.t 45)⟩, 0, []⟩,
  ⟨⟨some (44, true), .callv 47 (.c (.one (.fn k_impl_votes []))) [(.t 46), (.c (.one (.d (.int .i64 2))))]⟩, 0, []⟩,
  ⟨⟨some (44, true), .inv 48 (.t 47)⟩, 0, []⟩,
  ⟨⟨none, .pick 49 (.t 44) (.t 48) (.c (.one (.d (.bool false))))⟩, 0, []⟩,
  ⟨⟨none, .mov 2 (.t 49)⟩, 0, []⟩]

abbrev i_impl_recOk_r10 : List RO := [
  ⟨⟨none, .faddr 50 3 (.t 1)⟩, 0, []⟩,
  ⟨⟨none, .load 51 none (.t 50)⟩, 0, []⟩,
  ⟨⟨none, .bin 52 .eql (.t 51) (.c (.one (.d (.int .i64 4))))⟩, 0, []⟩,
  ⟨⟨none, .mov 2 (.t 52)⟩, 0, []⟩]

def i_impl_recOk : IC := (.seq (.reg i_impl_recOk_r0)
  (.seq (.seq (.reg i_impl_recOk_r1)
  (.cond (.t 18) (.seq (.reg i_impl_recOk_r2)
  .ret) .skip))
  (.seq (.seq (.reg i_impl_recOk_r3)
  (.block 0 (.seq (.reg i_impl_recOk_r4)
  (.cond (.t 21) (.seq (.reg i_impl_recOk_r5)
  .ret) (.seq (.reg i_impl_recOk_r6)
  (.cond (.t 27) (.seq (.reg i_impl_recOk_r7)
  .ret) (.seq (.reg i_impl_recOk_r8)
  (.cond (.t 38) (.seq (.reg i_impl_recOk_r9)
  .ret) .skip))))))))
  (.seq (.reg i_impl_recOk_r10)
  .ret))))

theorem i_impl_recOk_ok : (Try.f113.body.bind fun c => toIC Try.prog 53 c []) = some (i_impl_recOk, []) := by kernel_rfl

theorem i_impl_recOk_fn {ds rs : List D} (hle : ds.length ≤ 53) (h : AW Try.prog 53 i_impl_recOk (Ends [.tmp 2] rs) (init ds)) : Fn Try.prog k_impl_recOk (lent ds) true rs :=
  Fn.intro' (by kernel_rfl) Try.func113 (by kernel_rfl) i_impl_recOk_ok (by kernel_rfl) hle h.h

theorem i_impl_recOk_fnB {ds rs : List D} (hle : ds.length ≤ 53) (h : AW Try.prog 53 i_impl_recOk (EndsB [.tmp 2] rs) (init ds)) : Fn Try.prog k_impl_recOk (lent ds) false rs :=
  Fn.introB' (by kernel_rfl) Try.func113 (by kernel_rfl) i_impl_recOk_ok (by kernel_rfl) hle h.h

abbrev i_impl_CoordOk_1_r0 : List RO := [
  ⟨⟨none, .box 2 (.t 0)⟩, 0, []⟩,
  ⟨⟨none, .mov 3 (.c (.one (.d (.bool false))))⟩, 0, []⟩]

abbrev i_impl_CoordOk_1_r1 : List RO := [
  ⟨⟨none, .faddr 4 1 (.t 2)⟩, 0, []⟩,
  ⟨⟨none, .load 5 none (.t 4)⟩, 0, []⟩,
  ⟨⟨none, .faddr 6 1 (.t 1)⟩, 0, []⟩,
  ⟨⟨none, .load 7 none (.t 6)⟩, 0, []⟩,
  ⟨⟨none, .bin 8 .eql (.t 5) (.t 7)⟩, 0, []⟩,
  ⟨⟨none, .mov 9 (.t 8)⟩, 0, []⟩,
  ⟨⟨some (9, true), .faddr 10 2 (.t 2)⟩, 0, []⟩,
  ⟨⟨some (9, true), .load 11 none (.t 10)⟩, 0, []⟩,
  ⟨⟨some (9, true), .faddr 12 2 (.t 1)⟩, 0, []⟩,
  ⟨⟨some (9, true), .load 13 none (.t 12)⟩, 0, []⟩,
  ⟨⟨some (9, true), .bin 14 .eql (.t 11) (.t 13)⟩, 0, []⟩,
  ⟨⟨none, .pick 15 (.t 9) (.t 14) (.c (.one (.d (.bool false))))⟩, 0, []⟩,
  ⟨⟨none, .mov 3 (.t 15)⟩, 0, []⟩]

def i_impl_CoordOk_1 : IC := (.seq (.reg i_impl_CoordOk_1_r0)
  (.seq (.reg i_impl_CoordOk_1_r1)
  .ret))

theorem i_impl_CoordOk_1_ok : (Try.f115.body.bind fun c => toIC Try.prog 16 c []) = some (i_impl_CoordOk_1, []) := by kernel_rfl

theorem i_impl_CoordOk_1_fn {ds rs : List D} (hle : ds.length ≤ 16) (h : AW Try.prog 16 i_impl_CoordOk_1 (Ends [.tmp 3] rs) (init ds)) : Fn Try.prog k_impl_CoordOk_1 (lent ds) true rs :=
  Fn.intro' (by kernel_rfl) Try.func115 (by kernel_rfl) i_impl_CoordOk_1_ok (by kernel_rfl) hle h.h

theorem i_impl_CoordOk_1_fnB {ds rs : List D} (hle : ds.length ≤ 16) (h : AW Try.prog 16 i_impl_CoordOk_1 (EndsB [.tmp 3] rs) (init ds)) : Fn Try.prog k_impl_CoordOk_1 (lent ds) false rs :=
  Fn.introB' (by kernel_rfl) Try.func115 (by kernel_rfl) i_impl_CoordOk_1_ok (by kernel_rfl) hle h.h

abbrev i_slices_IndexFunc___impl_Rec_impl_Rec__r0 : List RO := [
  ⟨⟨none, .mov 4 (.c (.one (.d (.int .i64 0))))⟩, 0, []⟩]

abbrev i_slices_IndexFunc___impl_Rec_impl_Rec__r1 : List RO := [
  ⟨⟨none, .mov 6 (.t 0)⟩, 0, []⟩,
  ⟨⟨none, .len 7 false (.t 6)⟩, 0, []⟩,
  ⟨⟨none, .mov 8 (.c (.one (.d (.int .i64 0))))⟩, 0, []⟩]

abbrev i_slices_IndexFunc___impl_Rec_impl_Rec__r2 : List RO := [
  ⟨⟨none, .bin 9 .lss (.t 8) (.t 7)⟩, 0, []⟩]

abbrev i_slices_IndexFunc___impl_Rec_impl_Rec__r3 : List RO := [
  ⟨⟨none, .mov 10 (.t 8)⟩, 0, []⟩,
  ⟨⟨none, .mov 5 (.t 10)⟩, 0, []⟩]

abbrev i_slices_IndexFunc___impl_Rec_impl_Rec__r4 : List RO := [
  ⟨⟨none, .mov 11 (.t 1)⟩, 0, []⟩,
  ⟨⟨none, .mov 12 (.t 0)⟩, 0, []⟩,
  ⟨⟨none, .mov 13 (.t 5)⟩, 0, []⟩,
  ⟨⟨none, .iaddr 14 5 (.t 12) (.t 13)⟩, 0, []⟩,
  ⟨⟨none, .load 15 (some 5) (.t 14)⟩, 0, []⟩,
  ⟨⟨none, .callv 16 (.t 11) [(.t 15)]⟩, 0, []⟩]

abbrev i_slices_IndexFunc___impl_Rec_impl_Rec__r5 : List RO := [
  ⟨⟨none, .mov 17 (.t 5)⟩, 0, []⟩,
  ⟨⟨none, .mov 4 (.t 17)⟩, 0, []⟩]

abbrev i_slices_IndexFunc___impl_Rec_impl_Rec__r6 : List RO := [
  ⟨⟨none, .bin 18 .add (.t 8) (.c (.one (.d (.int .i64 1))))⟩, 0, []⟩,
  ⟨⟨none, .mov 8 (.t 18)⟩, 0, []⟩]

abbrev i_slices_IndexFunc___impl_Rec_impl_Rec__r7 : List RO := [
  ⟨⟨none, .mov 4 (.c (.one (.d (.int .i64 (-1)))))⟩, 0, []⟩]

def i_slices_IndexFunc___impl_Rec_impl_Rec_ : IC := (.seq (.reg i_slices_IndexFunc___impl_Rec_impl_Rec__r0)
  (.seq (.seq (.reg i_slices_IndexFunc___impl_Rec_impl_Rec__r1)
  (.block 0 (.loop (.seq (.reg i_slices_IndexFunc___impl_Rec_impl_Rec__r2)
  (.seq (.cond (.t 9) .skip (.exit 0))
  (.seq (.block 1 (.seq (.reg i_slices_IndexFunc___impl_Rec_impl_Rec__r3)
  (.seq (.reg i_slices_IndexFunc___impl_Rec_impl_Rec__r4)
  (.cond (.t 16) (.seq (.reg i_slices_IndexFunc___impl_Rec_impl_Rec__r5)
  .ret) .skip))))
  (.reg i_slices_IndexFunc___impl_Rec_impl_Rec__r6)))))))
  (.seq (.reg i_slices_IndexFunc___impl_Rec_impl_Rec__r7)
  .ret)))

theorem i_slices_IndexFunc___impl_Rec_impl_Rec__ok : (Try.f120.body.bind fun c => toIC Try.prog 19 c []) = some (i_slices_IndexFunc___impl_Rec_impl_Rec_, []) := by kernel_rfl

theorem i_slices_IndexFunc___impl_Rec_impl_Rec__fn {ds rs : List D} (hle : ds.length ≤ 19) (h : AW Try.prog 19 i_slices_IndexFunc___impl_Rec_impl_Rec_ (Ends [.tmp 4] rs) (init ds)) : Fn Try.prog k_slices_IndexFunc___impl_Rec_impl_Rec_ (lent ds) true rs :=
  Fn.intro' (by kernel_rfl) Try.func120 (by kernel_rfl) i_slices_IndexFunc___impl_Rec_impl_Rec__ok (by kernel_rfl) hle h.h

theorem i_slices_IndexFunc___impl_Rec_impl_Rec__fnB {ds rs : List D} (hle : ds.length ≤ 19) (h : AW Try.prog 19 i_slices_IndexFunc___impl_Rec_impl_Rec_ (EndsB [.tmp 4] rs) (init ds)) : Fn Try.prog k_slices_IndexFunc___impl_Rec_impl_Rec_ (lent ds) false rs :=
  Fn.introB' (by kernel_rfl) Try.func120 (by kernel_rfl) i_slices_IndexFunc___impl_Rec_impl_Rec__ok (by kernel_rfl) hle h.h

abbrev i_slices_ContainsFunc___impl_Rec_impl_Rec__r0 : List RO := [
  ⟨⟨none, .mov 4 (.c (.one (.d (.bool false))))⟩, 0, []⟩]

abbrev i_slices_ContainsFunc___impl_Rec_impl_Rec__r1 : List RO := [
  ⟨⟨none, .mov 5 (.t 0)⟩, 0, []⟩,
  ⟨⟨none, .mov 6 (.t 1)⟩, 0, []⟩,
  ⟨⟨none, .callv 7 (.c (.one (.fn k_slices_IndexFunc___impl_Rec_impl_Rec_ []))) [(.t 5), (.t 6)]⟩, 0, []⟩,
  ⟨⟨none, .bin 8 .geq (.t 7) (.c (.one (.d (.int .i64 0))))⟩, 0, []⟩,
  ⟨⟨none, .mov 4 (.t 8)⟩, 0, []⟩]

def i_slices_ContainsFunc___impl_Rec_impl_Rec_ : IC := (.seq (.reg i_slices_ContainsFunc___impl_Rec_impl_Rec__r0)
  (.seq (.reg i_slices_ContainsFunc___impl_Rec_impl_Rec__r1)
  .ret))

theorem i_slices_ContainsFunc___impl_Rec_impl_Rec__ok : (Try.f114.body.bind fun c => toIC Try.prog 9 c []) = some (i_slices_ContainsFunc___impl_Rec_impl_Rec_, []) := by kernel_rfl

theorem i_slices_ContainsFunc___impl_Rec_impl_Rec__fn {ds rs : List D} (hle : ds.length ≤ 9) (h : AW Try.prog 9 i_slices_ContainsFunc___impl_Rec_impl_Rec_ (Ends [.tmp 4] rs) (init ds)) : Fn Try.prog k_slices_ContainsFunc___impl_Rec_impl_Rec_ (lent ds) true rs :=
  Fn.intro' (by kernel_rfl) Try.func114 (by kernel_rfl) i_slices_ContainsFunc___impl_Rec_impl_Rec__ok (by kernel_rfl) hle h.h

theorem i_slices_ContainsFunc___impl_Rec_impl_Rec__fnB {ds rs : List D} (hle : ds.length ≤ 9) (h : AW Try.prog 9 i_slices_ContainsFunc___impl_Rec_impl_Rec_ (EndsB [.tmp 4] rs) (init ds)) : Fn Try.prog k_slices_ContainsFunc___impl_Rec_impl_Rec_ (lent ds) false rs :=
  Fn.introB' (by kernel_rfl) Try.func114 (by kernel_rfl) i_slices_ContainsFunc___impl_Rec_impl_Rec__ok (by kernel_rfl) hle h.h

abbrev i_slices_Index___int_int__r0 : List RO := [
  ⟨⟨none, .mov 4 (.c (.one (.d (.int .i64 0))))⟩, 0, []⟩]

abbrev i_slices_Index___int_int__r1 : List RO := [
  ⟨⟨none, .mov 6 (.t 0)⟩, 0, []⟩,
  ⟨⟨none, .len 7 false (.t 6)⟩, 0, []⟩,
  ⟨⟨none, .mov 8 (.c (.one (.d (.int .i64 0))))⟩, 0, []⟩]

abbrev i_slices_Index___int_int__r2 : List RO := [
  ⟨⟨none, .bin 9 .lss (.t 8) (.t 7)⟩, 0, []⟩]

abbrev i_slices_Index___int_int__r3 : List RO := [
  ⟨⟨none, .mov 10 (.t 8)⟩, 0, []⟩,
  ⟨⟨none, .mov 5 (.t 10)⟩, 0, []⟩]

abbrev i_slices_Index___int_int__r4 : List RO := [
  ⟨⟨none, .mov 11 (.t 1)⟩, 0, []⟩,
  ⟨⟨none, .mov 12 (.t 0)⟩, 0, []⟩,
  ⟨⟨none, .mov 13 (.t 5)⟩, 0, []⟩,
  ⟨⟨none, .iaddr 14 1 (.t 12) (.t 13)⟩, 0, []⟩,
  ⟨⟨none, .load 15 none (.t 14)⟩, 0, []⟩,
  ⟨⟨none, .bin 16 .eql (.t 11) (.t 15)⟩, 0, []⟩]

abbrev i_slices_Index___int_int__r5 : List RO := [
  ⟨⟨none, .mov 17 (.t 5)⟩, 0, []⟩,
  ⟨⟨none, .mov 4 (.t 17)⟩, 0, []⟩]

abbrev i_slices_Index___int_int__r6 : List RO := [
  ⟨⟨none, .bin 18 .add (.t 8) (.c (.one (.d (.int .i64 1))))⟩, 0, []⟩,
  ⟨⟨none, .mov 8 (.t 18)⟩, 0, []⟩]

abbrev i_slices_Index___int_int__r7 : List RO := [
  ⟨⟨none, .mov 4 (.c (.one (.d (.int .i64 (-1)))))⟩, 0, []⟩]

def i_slices_Index___int_int_ : IC := (.seq (.reg i_slices_Index___int_int__r0)
  (.seq (.seq (.reg i_slices_Index___int_int__r1)
  (.block 0 (.loop (.seq (.reg i_slices_Index___int_int__r2)
  (.seq (.cond (.t 9) .skip (.exit 0))
  (.seq (.block 1 (.seq (.reg i_slices_Index___int_int__r3)
  (.seq (.reg i_slices_Index___int_int__r4)
  (.cond (.t 16) (.seq (.reg i_slices_Index___int_int__r5)
  .ret) .skip))))
  (.reg i_slices_Index___int_int__r6)))))))
  (.seq (.reg i_slices_Index___int_int__r7)
  .ret)))

theorem i_slices_Index___int_int__ok : (Try.f182.body.bind fun c => toIC Try.prog 19 c []) = some (i_slices_Index___int_int_, []) := by kernel_rfl

theorem i_slices_Index___int_int__fn {ds rs : List D} (hle : ds.length ≤ 19) (h : AW Try.prog 19 i_slices_Index___int_int_ (Ends [.tmp 4] rs) (init ds)) : Fn Try.prog k_slices_Index___int_int_ (lent ds) true rs :=
  Fn.intro' (by kernel_rfl) Try.func182 (by kernel_rfl) i_slices_Index___int_int__ok (by kernel_rfl) hle h.h

theorem i_slices_Index___int_int__fnB {ds rs : List D} (hle : ds.length ≤ 19) (h : AW Try.prog 19 i_slices_Index___int_int_ (EndsB [.tmp 4] rs) (init ds)) : Fn Try.prog k_slices_Index___int_int_ (lent ds) false rs :=
  Fn.introB' (by kernel_rfl) Try.func182 (by kernel_rfl) i_slices_Index___int_int__ok (by kernel_rfl) hle h.h

abbrev i_slices_Contains___int_int__r0 : List RO := [
  ⟨⟨none, .mov 4 (.c (.one (.d (.bool false))))⟩, 0, []⟩]

abbrev i_slices_Contains___int_int__r1 : List RO := [
  ⟨⟨none, .mov 5 (.t 0)⟩, 0, []⟩,
  ⟨⟨none, .mov 6 (.t 1)⟩, 0, []⟩,
  ⟨⟨none, .callv 7 (.c (.one (.fn k_slices_Index___int_int_ []))) [(.t 5), (.t 6)]⟩, 0, []⟩,
  ⟨⟨none, .bin 8 .geq (.t 7) (.c (.one (.d (.int .i64 0))))⟩, 0, []⟩,
  ⟨⟨none, .mov 4 (.t 8)⟩, 0, []⟩]

def i_slices_Contains___int_int_ : IC := (.seq (.reg i_slices_Contains___int_int__r0)
  (.seq (.reg i_slices_Contains___int_int__r1)
  .ret))

theorem i_slices_Contains___int_int__ok : (Try.f116.body.bind fun c => toIC Try.prog 9 c []) = some (i_slices_Contains___int_int_, []) := by kernel_rfl

theorem i_slices_Contains___int_int__fn {ds rs : List D} (hle : ds.length ≤ 9) (h : AW Try.prog 9 i_slices_Contains___int_int_ (Ends [.tmp 4] rs) (init ds)) : Fn Try.prog k_slices_Contains___int_int_ (lent ds) true rs :=
  Fn.intro' (by kernel_rfl) Try.func116 (by kernel_rfl) i_slices_Contains___int_int__ok (by kernel_rfl) hle h.h

theorem i_slices_Contains___int_int__fnB {ds rs : List D} (hle : ds.length ≤ 9) (h : AW Try.prog 9 i_slices_Contains___int_int_ (EndsB [.tmp 4] rs) (init ds)) : Fn Try.prog k_slices_Contains___int_int_ (lent ds) false rs :=
  Fn.introB' (by kernel_rfl) Try.func116 (by kernel_rfl) i_slices_Contains___int_int__ok (by kernel_rfl) hle h.h

abbrev i_impl_CoordOk_r0 : List RO := [
  ⟨⟨none, .box 1 (.t 0)⟩, 0, []⟩,
  ⟨⟨none, .mov 2 (.c (.one (.d (.bool false))))⟩, 0, []⟩]

abbrev i_impl_CoordOk_r1 : List RO := [
  ⟨⟨none, .faddr 8 0 (.t 1)⟩, 0, []⟩,
  ⟨⟨none, .load 9 none (.t 8)⟩, 0, []⟩,
  ⟨⟨none, .len 10 false (.t 9)⟩, 0, []⟩,
  ⟨⟨none, .bin 11 .gtr (.t 10) (.c (.one (.d (.int .i64 60))))⟩, 0, []⟩]

abbrev i_impl_CoordOk_r2 : List RO := [
  ⟨⟨none, .mov 2 (.c (.one (.d (.bool false))))⟩, 0, []⟩]

abbrev i_impl_CoordOk_r3 : List RO := [
  ⟨⟨none, .mov 3 (.c (.one (.d (.int .i64 0))))⟩, 0, []⟩]

abbrev i_impl_CoordOk_r4 : List RO := [
  ⟨⟨none, .faddr 12 0 (.t 1)⟩, 0, []⟩,
  ⟨⟨none, .load 13 none (.t 12)⟩, 0, []⟩,
  ⟨⟨none, .len 14 false (.t 13)⟩, 0, []⟩,
  ⟨⟨none, .mov 15 (.c (.one (.d (.int .i64 0))))⟩, 0, []⟩]

abbrev i_impl_CoordOk_r5 : List RO := [
  ⟨⟨none, .bin 16 .lss (.t 15) (.t 14)⟩, 0, []⟩]

abbrev i_impl_CoordOk_r6 : List RO := [
  ⟨⟨none, .mov 17 (.t 15)⟩, 0, []⟩,
  ⟨⟨none, .iaddr 18 5 (.t 13) (.t 15)⟩, 0, []⟩,
  ⟨⟨none, .load 19 (some 5) (.t 18)⟩, 0, []⟩,
  ⟨⟨none, .var 5 [(.d (.int .i64 0)), (.d (.int .i64 0)), (.d (.int .i64 0)), (.d (.int .i64 0)), .zs]⟩, 0, []⟩,
  ⟨⟨none, .mov 4 (.t 17)⟩, 0, []⟩,
  ⟨⟨none, .store 5 [(.int .i64 0), (.int .i64 0), (.int .i64 0), (.int .i64 0), (.sl 4 [])] (.t 5) (.t 19)⟩, 0, []⟩]

abbrev i_impl_CoordOk_r7 : List RO := [
  ⟨⟨none, .faddr 20 0 (.t 5)⟩, 0, []⟩,
  ⟨⟨none, .load 21 none (.t 20)⟩, 0, []⟩,
  ⟨⟨none, .mov 22 (.t 4)⟩, 0, []⟩,
  ⟨⟨none, .bin 23 .add (.t 22) (.c (.one (.d (.int .i64 1))))⟩, 0, []⟩,
  ⟨⟨none, .bin 24 .neq (.t 21) (.t 23)⟩, 0, []⟩,
  ⟨⟨none, .mov 25 (.t 24)⟩, 0, []⟩,
  ⟨⟨some (25, false), .load 26 (some 5) (.t 5)⟩, 0, []⟩,
  ⟨⟨some (25, false), .callv 27 (.c (.one (.fn k_impl_recOk []))) [(.t 26)]⟩, 0, []⟩,
  ⟨⟨some (25, false), .inv 28 (.t 27)⟩, 0, []⟩,
  ⟨⟨none, .pick 29 (.t 25) (.c (.one (.d (.bool true)))) (.t 28)⟩, 0, []⟩,
  ⟨⟨none, .mov 30 (.t 29)⟩, 0, []⟩,
  ⟨⟨some (30, false), .faddr 31 0 (.t 1)⟩, 0, []⟩,
  ⟨⟨some (30, false), .load 32 none (.t 31)⟩, 0, []⟩,
  ⟨⟨some (30, false), .mov 33 (.t 4)⟩, 0, []⟩,
  ⟨⟨some (30, false), .slice 34 5 (.t 32) none (some (.t 33)) none⟩, 0, []⟩,
  ⟨⟨some (30, false), .mkfn 35 k_impl_CoordOk_1 [(.t 5)]⟩, 0, []⟩,
  ⟨⟨some (30, false), .callv 36 (.c (.one (.fn k_slices_ContainsFunc___impl_Rec_impl_Rec_ []))) [(.t 34), (.t 35)]⟩, 0, []⟩,
  ⟨⟨none, .pick 37 (.t 30) (.c (.one (.d (.bool true)))) (.t 36)⟩, 0, []⟩]

abbrev i_impl_CoordOk_r8 : List RO := [
  ⟨⟨none, .mov 2 (.c (.one (.d (.bool false))))⟩, 0, []⟩]

abbrev i_impl_CoordOk_r9 : List RO := [
  ⟨⟨none, .faddr 38 3 (.t 5)⟩, 0, []⟩,
  ⟨⟨none, .load 39 none (.t 38)⟩, 0, []⟩,
  ⟨⟨none, .bin 40 .eql (.t 39) (.c (.one (.d (.int .i64 3))))⟩, 0, []⟩]

abbrev i_impl_CoordOk_r10 : List RO := [
  ⟨⟨none, .mov 41 (.t 3)⟩, 0, []⟩,
  ⟨⟨none, .bin 42 .add (.t 41) (.c (.one (.d (.int .i64 1))))⟩, 0, []⟩,
  ⟨⟨none, .mov 3 (.t 42)⟩, 0, []⟩]

abbrev i_impl_CoordOk_r11 : List RO := [
  ⟨⟨none, .bin 43 .add (.t 15) (.c (.one (.d (.int .i64 1))))⟩, 0, []⟩,
  ⟨⟨none, .mov 15 (.t 43)⟩, 0, []⟩]

abbrev i_impl_CoordOk_r12 : List RO := [
  ⟨⟨none, .faddr 44 1 (.t 1)⟩, 0, []⟩,
  ⟨⟨none, .load 45 none (.t 44)⟩, 0, []⟩,
  ⟨⟨none, .len 46 false (.t 45)⟩, 0, []⟩,
  ⟨⟨none, .mov 47 (.c (.one (.d (.int .i64 0))))⟩, 0, []⟩]

abbrev i_impl_CoordOk_r13 : List RO := [
  ⟨⟨none, .bin 48 .lss (.t 47) (.t 46)⟩, 0, []⟩]

abbrev i_impl_CoordOk_r14 : List RO := [
  ⟨⟨none, .mov 49 (.t 47)⟩, 0, []⟩,
  ⟨⟨none, .iaddr 50 1 (.t 45) (.t 47)⟩, 0, []⟩,
  ⟨⟨none, .load 51 none (.t 50)⟩, 0, []⟩,
  ⟨⟨none, .mov 6 (.t 49)⟩, 0, []⟩,
  ⟨⟨none, .mov 7 (.t 51)⟩, 0, []⟩]

abbrev i_impl_CoordOk_r15 : List RO := [
  ⟨⟨none, .mov 52 (.t 7)⟩, 0, []⟩,
  ⟨⟨none, .faddr 53 0 (.t 1)⟩, 0, []⟩,
  ⟨⟨none, .load 54 none (.t 53)⟩, 0, []⟩,
  ⟨⟨none, .len 55 false (.t 54)⟩, 0, []⟩,
  ⟨⟨none, .callv 56 (.c (.one (.fn k_impl_from []))) [(.t 52), (.c (.one (.d (.int .i64 1)))), (.t 55)]⟩, 0, []⟩,
  ⟨⟨none, .inv 57 (.t 56)⟩, 0, []⟩,
  ⟨⟨none, .mov 58 (.t 57)⟩, 0, []⟩,
  ⟨⟨some (58, false), .faddr 59 0 (.t 1)⟩, 0, []⟩,
  ⟨⟨some (58, false), .load 60 none (.t 59)⟩, 0, []⟩,
  ⟨⟨some (58, false), .mov 61 (.t 7)⟩, 0, []⟩,
  ⟨⟨some (58, false), .bin 62 .sub (.t 61) (.c (.one (.d (.int .i64 1))))⟩, 0, []⟩,
  ⟨⟨some (58, false), .iaddr 63 5 (.t 60) (.t 62)⟩, 0, []⟩,
  ⟨⟨some (58, false), .faddr 64 3 (.t 63)⟩, 0, []⟩,
  ⟨⟨some (58, false), .load 65 none (.t 64)⟩, 0, []⟩,
  ⟨⟨some (58, false), .bin 66 .neq (.t 65) (.c (.one (.d (.int .i64 3))))⟩, 0, []⟩,
  ⟨⟨none, .pick 67 (.t 58) (.c (.one (.d (.bool true)))) (.t 66)⟩, 0, []⟩,
  ⟨⟨none, .mov 68 (.t 67)⟩, 0, []⟩,
  ⟨⟨some (68, false), .faddr 69 1 (.t 1)⟩, 0, []⟩,
  ⟨⟨some (68, false), .load 70 none (.t 69)⟩, 0, []⟩,
  ⟨⟨some (68, false), .mov 71 (.t 6)⟩, 0, []⟩,
  ⟨⟨some (68, false), .slice 72 1 (.t 70) none (some (.t 71)) none⟩, 0, []⟩,
  ⟨⟨some (68, false), .mov 73 (.t 7)⟩, 0, []⟩,
  ⟨⟨some (68, false), .callv 74 (.c (.one (.fn k_slices_Contains___int_int_ []))) [(.t 72), (.t 73)]⟩, 0, []⟩,
  ⟨⟨none, .pick 75 (.t 68) (.c (.one (.d (.bool true)))) (.t 74)⟩, 0, []⟩]

abbrev i_impl_CoordOk_r16 : List RO := [
  ⟨⟨none, .mov 2 (.c (.one (.d (.bool false))))⟩, 0, []⟩]

abbrev i_impl_CoordOk_r17 : List RO := [
  ⟨⟨none, .bin 76 .add (.t 47) (.c (.one (.d (.int .i64 1))))⟩, 0, []⟩,
  ⟨⟨none, .mov 47 (.t 76)⟩, 0, []⟩]

abbrev i_impl_CoordOk_r18 : List RO := [
  ⟨⟨none, .mov 77 (.t 3)⟩, 0, []⟩,
  ⟨⟨none, .faddr 78 1 (.t 1)⟩, 0, []⟩,
  ⟨⟨none, .load 79 none (.t 78)⟩, 0, []⟩,
  ⟨⟨none, .len 80 false (.t 79)⟩, 0, []⟩,
  ⟨⟨none, .bin 81 .eql (.t 77) (.t 80)⟩, 0, []⟩,
  ⟨⟨none, .mov 2 (.t 81)⟩, 0, []⟩]

def i_impl_CoordOk : IC := (.seq (.reg i_impl_CoordOk_r0)
  (.seq (.seq (.reg i_impl_CoordOk_r1)
  (.cond (.t 11) (.seq (.reg i_impl_CoordOk_r2)
  .ret) .skip))
  (.seq (.reg i_impl_CoordOk_r3)
  (.seq (.seq (.reg i_impl_CoordOk_r4)
  (.block 0 (.loop (.seq (.reg i_impl_CoordOk_r5)
  (.seq (.cond (.t 16) .skip (.exit 0))
  (.seq (.block 1 (.seq (.reg i_impl_CoordOk_r6)
  (.seq (.seq (.reg i_impl_CoordOk_r7)
  (.cond (.t 37) (.seq (.reg i_impl_CoordOk_r8)
  .ret) .skip))
  (.seq (.reg i_impl_CoordOk_r9)
  (.cond (.t 40) (.reg i_impl_CoordOk_r10) .skip)))))
  (.reg i_impl_CoordOk_r11)))))))
  (.seq (.seq (.reg i_impl_CoordOk_r12)
  (.block 2 (.loop (.seq (.reg i_impl_CoordOk_r13)
  (.seq (.cond (.t 48) .skip (.exit 2))
  (.seq (.block 3 (.seq (.reg i_impl_CoordOk_r14)
  (.seq (.reg i_impl_CoordOk_r15)
  (.cond (.t 75) (.seq (.reg i_impl_CoordOk_r16)
  .ret) .skip))))
  (.reg i_impl_CoordOk_r17)))))))
  (.seq (.reg i_impl_CoordOk_r18)
  .ret))))))

theorem i_impl_CoordOk_ok : (Try.f34.body.bind fun c => toIC Try.prog 82 c []) = some (i_impl_CoordOk, []) := by kernel_rfl

theorem i_impl_CoordOk_fn {ds rs : List D} (hle : ds.length ≤ 82) (h : AW Try.prog 82 i_impl_CoordOk (Ends [.tmp 2] rs) (init ds)) : Fn Try.prog k_impl_CoordOk (lent ds) true rs :=
  Fn.intro' (by kernel_rfl) Try.func34 (by kernel_rfl) i_impl_CoordOk_ok (by kernel_rfl) hle h.h

theorem i_impl_CoordOk_fnB {ds rs : List D} (hle : ds.length ≤ 82) (h : AW Try.prog 82 i_impl_CoordOk (EndsB [.tmp 2] rs) (init ds)) : Fn Try.prog k_impl_CoordOk (lent ds) false rs :=
  Fn.introB' (by kernel_rfl) Try.func34 (by kernel_rfl) i_impl_CoordOk_ok (by kernel_rfl) hle h.h

abbrev i_impl_isRec_r0 : List RO := [
  ⟨⟨none, .box 2 (.t 0)⟩, 0, []⟩,
  ⟨⟨none, .mov 4 (.c (.one (.d (.bool false))))⟩, 0, []⟩]

abbrev i_impl_isRec_r1 : List RO := [
  ⟨⟨none, .mov 5 (.t 1)⟩, 0, []⟩,
  ⟨⟨none, .faddr 6 0 (.t 2)⟩, 0, []⟩,
  ⟨⟨none, .load 7 none (.t 6)⟩, 0, []⟩,
  ⟨⟨none, .len 8 false (.t 7)⟩, 0, []⟩,
  ⟨⟨none, .callv 9 (.c (.one (.fn k_impl_from []))) [(.t 5), (.c (.one (.d (.int .i64 1)))), (.t 8)]⟩, 0, []⟩,
  ⟨⟨none, .mov 4 (.t 9)⟩, 0, []⟩]

def i_impl_isRec : IC := (.seq (.reg i_impl_isRec_r0)
  (.seq (.reg i_impl_isRec_r1)
  .ret))

theorem i_impl_isRec_ok : (Try.f119.body.bind fun c => toIC Try.prog 10 c []) = some (i_impl_isRec, []) := by kernel_rfl

theorem i_impl_isRec_fn {ds rs : List D} (hle : ds.length ≤ 10) (h : AW Try.prog 10 i_impl_isRec (Ends [.tmp 4] rs) (init ds)) : Fn Try.prog k_impl_isRec (lent ds) true rs :=
  Fn.intro' (by kernel_rfl) Try.func119 (by kernel_rfl) i_impl_isRec_ok (by kernel_rfl) hle h.h

theorem i_impl_isRec_fnB {ds rs : List D} (hle : ds.length ≤ 10) (h : AW Try.prog 10 i_impl_isRec (EndsB [.tmp 4] rs) (init ds)) : Fn Try.prog k_impl_isRec (lent ds) false rs :=
  Fn.introB' (by kernel_rfl) Try.func119 (by kernel_rfl) i_impl_isRec_ok (by kernel_rfl) hle h.h

abbrev i_impl_CoordState_r0 : List RO := [
  ⟨⟨none, .box 2 (.t 0)⟩, 0, []⟩,
  ⟨⟨none, .mov 4 (.c (.one (.d (.int .i64 0))))⟩, 0, []⟩]

abbrev i_impl_CoordState_r1 : List RO := [
  ⟨⟨none, .load 5 (some 2) (.t 2)⟩, 0, []⟩,
  ⟨⟨none, .callv 6 (.c (.one (.fn k_impl_CoordOk []))) [(.t 5)]⟩, 0, []⟩,
  ⟨⟨none, .inv 7 (.t 6)⟩, 0, []⟩,
  ⟨⟨none, .mov 8 (.t 7)⟩, 0, []⟩,
  ⟨⟨some (8, false), .load 9 (some 2) (.t 2)⟩, 0, []⟩,
  ⟨⟨some (8, false), .mov 10 (.t 1)⟩, 0, []⟩,
  ⟨⟨some (8, false), .callv 11 (.c (.one (.fn k_impl_isRec []))) [(.t 9), (.t 10)]⟩, 0, []⟩,
  ⟨⟨some (8, false), .inv 12 (.t 11)⟩, 0, []⟩,
  ⟨⟨none, .pick 13 (.t 8) (.c (.one (.d (.bool true)))) (.t 12)⟩, 0, []⟩]

abbrev i_impl_CoordState_r2 : List RO := [
  ⟨⟨none, .mov 4 (.c (.one (.d (.int .i64 0))))⟩, 0, []⟩]

abbrev i_impl_CoordState_r3 : List RO := [
  ⟨⟨none, .faddr 14 0 (.t 2)⟩, 0, []⟩,
  ⟨⟨none, .load 15 none (.t 14)⟩, 0, []⟩,
  ⟨⟨none, .mov 16 (.t 1)⟩, 0, []⟩,
  ⟨⟨none, .bin 17 .sub (.t 16) (.c (.one (.d (.int .i64 1))))⟩, 0, []⟩,
  ⟨⟨none, .iaddr 18 5 (.t 15) (.t 17)⟩, 0, []⟩,
  ⟨⟨none, .faddr 19 3 (.t 18)⟩, 0, []⟩,
  ⟨⟨none, .load 20 none (.t 19)⟩, 0, []⟩,
  ⟨⟨none, .mov 4 (.t 20)⟩, 0, []⟩]

def i_impl_CoordState : IC := (.seq (.reg i_impl_CoordState_r0)
  (.seq (.seq (.reg i_impl_CoordState_r1)
  (.cond (.t 13) (.seq (.reg i_impl_CoordState_r2)
  .ret) .skip))
  (.seq (.reg i_impl_CoordState_r3)
  .ret)))

theorem i_impl_CoordState_ok : (Try.f37.body.bind fun c => toIC Try.prog 21 c []) = some (i_impl_CoordState, []) := by kernel_rfl

theorem i_impl_CoordState_fn {ds rs : List D} (hle : ds.length ≤ 21) (h : AW Try.prog 21 i_impl_CoordState (Ends [.tmp 4] rs) (init ds)) : Fn Try.prog k_impl_CoordState (lent ds) true rs :=
  Fn.intro' (by kernel_rfl) Try.func37 (by kernel_rfl) i_impl_CoordState_ok (by kernel_rfl) hle h.h

theorem i_impl_CoordState_fnB {ds rs : List D} (hle : ds.length ≤ 21) (h : AW Try.prog 21 i_impl_CoordState (EndsB [.tmp 4] rs) (init ds)) : Fn Try.prog k_impl_CoordState (lent ds) false rs :=
  Fn.introB' (by kernel_rfl) Try.func37 (by kernel_rfl) i_impl_CoordState_ok (by kernel_rfl) hle h.h

abbrev i_laws_eqRange_r0 : List RO := [
  ⟨⟨none, .box 2 (.t 0)⟩, 0, []⟩,
  ⟨⟨none, .box 3 (.t 1)⟩, 0, []⟩,
  ⟨⟨none, .mov 4 (.c (.one (.d (.bool false))))⟩, 0, []⟩]

abbrev i_laws_eqRange_r1 : List RO := [
  ⟨⟨none, .faddr 5 0 (.t 2)⟩, 0, []⟩,
  ⟨⟨none, .load 6 none (.t 5)⟩, 0, []⟩,
  ⟨⟨none, .faddr 7 0 (.t 3)⟩, 0, []⟩,
  ⟨⟨none, .load 8 none (.t 7)⟩, 0, []⟩,
  ⟨⟨none, .bin 9 .neq (.t 6) (.t 8)⟩, 0, []⟩]

abbrev i_laws_eqRange_r2 : List RO := [
  ⟨⟨none, .mov 4 (.c (.one (.d (.bool false))))⟩, 0, []⟩]

abbrev i_laws_eqRange_r3 : List RO := [
  ⟨⟨none, .faddr 10 1 (.t 2)⟩, 0, []⟩,
  ⟨⟨none, .load 11 none (.t 10)⟩, 0, []⟩,
  ⟨⟨none, .faddr 12 1 (.t 3)⟩, 0, []⟩,
  ⟨⟨none, .load 13 none (.t 12)⟩, 0, []⟩,
  ⟨⟨none, .bin 14 .neq (.t 11) (.t 13)⟩, 0, []⟩]

abbrev i_laws_eqRange_r4 : List RO := [
  ⟨⟨none, .mov 4 (.c (.one (.d (.bool false))))⟩, 0, []⟩]

abbrev i_laws_eqRange_r5 : List RO := [
  ⟨⟨none, .mov 4 (.c (.one (.d (.bool true))))⟩, 0, []⟩]

def i_laws_eqRange : IC := (.seq (.reg i_laws_eqRange_r0)
  (.seq (.seq (.reg i_laws_eqRange_r1)
  (.cond (.t 9) (.seq (.reg i_laws_eqRange_r2)
  .ret) .skip))
  (.seq (.seq (.reg i_laws_eqRange_r3)
  (.cond (.t 14) (.seq (.reg i_laws_eqRange_r4)
  .ret) .skip))
  (.seq (.reg i_laws_eqRange_r5)
  .ret))))

theorem i_laws_eqRange_ok : (Try.f188.body.bind fun c => toIC Try.prog 15 c []) = some (i_laws_eqRange, []) := by kernel_rfl

theorem i_laws_eqRange_fn {ds rs : List D} (hle : ds.length ≤ 15) (h : AW Try.prog 15 i_laws_eqRange (Ends [.tmp 4] rs) (init ds)) : Fn Try.prog k_laws_eqRange (lent ds) true rs :=
  Fn.intro' (by kernel_rfl) Try.func188 (by kernel_rfl) i_laws_eqRange_ok (by kernel_rfl) hle h.h

theorem i_laws_eqRange_fnB {ds rs : List D} (hle : ds.length ≤ 15) (h : AW Try.prog 15 i_laws_eqRange (EndsB [.tmp 4] rs) (init ds)) : Fn Try.prog k_laws_eqRange (lent ds) false rs :=
  Fn.introB' (by kernel_rfl) Try.func188 (by kernel_rfl) i_laws_eqRange_ok (by kernel_rfl) hle h.h

abbrev i_laws_eqRangeS_r0 : List RO := [
  ⟨⟨none, .mov 4 (.c (.one (.d (.bool false))))⟩, 0, []⟩]

abbrev i_laws_eqRangeS_r1 : List RO := [
  ⟨⟨none, .mov 6 (.t 0)⟩, 0, []⟩,
  ⟨⟨none, .len 7 false (.t 6)⟩, 0, []⟩,
  ⟨⟨none, .mov 8 (.t 1)⟩, 0, []⟩,
  ⟨⟨none, .len 9 false (.t 8)⟩, 0, []⟩,
  ⟨⟨none, .bin 10 .neq (.t 7) (.t 9)⟩, 0, []⟩]

abbrev i_laws_eqRangeS_r2 : List RO := [
  ⟨⟨none, .mov 4 (.c (.one (.d (.bool false))))⟩, 0, []⟩]

abbrev i_laws_eqRangeS_r3 : List RO := [
  ⟨⟨none, .mov 5 (.c (.one (.d (.int .i64 0))))⟩, 0, []⟩]

abbrev i_laws_eqRangeS_r4 : List RO := [
  ⟨⟨none, .mov 11 (.t 5)⟩, 0, []⟩,
  ⟨⟨none, .mov 12 (.t 0)⟩, 0, []⟩,
  ⟨⟨none, .len 13 false (.t 12)⟩, 0, []⟩,
  ⟨⟨none, .bin 14 .lss (.t 11) (.t 13)⟩, 0, []⟩]

abbrev i_laws_eqRangeS_r5 : List RO := [
  ⟨⟨none, .mov 17 (.t 0)⟩, 0, []⟩,
  ⟨⟨none, .mov 18 (.t 5)⟩, 0, []⟩,
  ⟨⟨none, .iaddr 19 2 (.t 17) (.t 18)⟩, 3, []⟩,
  ⟨⟨none, .load 20 (some 2) (.t 19)⟩, 7, []⟩,
  ⟨⟨none, .mov 21 (.t 1)⟩, 0, []⟩,
  ⟨⟨none, .mov 22 (.t 5)⟩, 0, []⟩,
  ⟨⟨none, .iaddr 23 2 (.t 21) (.t 22)⟩, 48, []⟩,
  ⟨⟨none, .load 24 (some 2) (.t 23)⟩, 112, []⟩,
  ⟨⟨none, .callv 25 (.c (.one (.fn k_laws_eqRange []))) [(.t 20), (.t 24)]⟩, 255, []⟩,
  ⟨⟨none, .inv 26 (.t 25)⟩, 511, []⟩]

abbrev i_laws_eqRangeS_r6 : List RO := [
  ⟨⟨none, .mov 4 (.c (.one (.d (.bool false))))⟩, 0, []⟩]

abbrev i_laws_eqRangeS_r7 : List RO := [
  ⟨⟨none, .mov 15 (.t 5)⟩, 0, []⟩,
  ⟨⟨none, .bin 16 .add (.t 15) (.c (.one (.d (.int .i64 1))))⟩, 0, []⟩,
  ⟨⟨none, .mov 5 (.t 16)⟩, 0, []⟩]

abbrev i_laws_eqRangeS_r8 : List RO := [
  ⟨⟨none, .mov 4 (.c (.one (.d (.bool true))))⟩, 0, []⟩]

def i_laws_eqRangeS : IC := (.seq (.reg i_laws_eqRangeS_r0)
  (.seq (.seq (.reg i_laws_eqRangeS_r1)
  (.cond (.t 10) (.seq (.reg i_laws_eqRangeS_r2)
  .ret) .skip))
  (.seq (.seq (.reg i_laws_eqRangeS_r3)
  (.block 0 (.loop (.seq (.seq (.reg i_laws_eqRangeS_r4)
  (.cond (.t 14) .skip (.exit 0)))
  (.seq (.block 1 (.seq (.regd i_laws_eqRangeS_r5)
  (.cond (.t 26) (.seq (.reg i_laws_eqRangeS_r6)
  .ret) .skip)))
  (.reg i_laws_eqRangeS_r7))))))
  (.seq (.reg i_laws_eqRangeS_r8)
  .ret))))

theorem i_laws_eqRangeS_ok : (Try.f135.body.bind fun c => toIC Try.prog 27 c [[(0, []), (0, []), (3, []), (7, []), (0, []), (0, []), (48, []), (112, []), (255, []), (511, [])]]) = some (i_laws_eqRangeS, []) := by kernel_rfl

theorem i_laws_eqRangeS_fn {ds rs : List D} (hle : ds.length ≤ 27) (h : AW Try.prog 27 i_laws_eqRangeS (Ends [.tmp 4] rs) (init ds)) : Fn Try.prog k_laws_eqRangeS (lent ds) true rs :=
  Fn.intro' (by kernel_rfl) Try.func135 (by kernel_rfl) i_laws_eqRangeS_ok (by kernel_rfl) hle h.h

theorem i_laws_eqRangeS_fnB {ds rs : List D} (hle : ds.length ≤ 27) (h : AW Try.prog 27 i_laws_eqRangeS (EndsB [.tmp 4] rs) (init ds)) : Fn Try.prog k_laws_eqRangeS (lent ds) false rs :=
  Fn.introB' (by kernel_rfl) Try.func135 (by kernel_rfl) i_laws_eqRangeS_ok (by kernel_rfl) hle h.h

abbrev i_laws_eqWrite_r0 : List RO := [
  ⟨⟨none, .box 2 (.t 0)⟩, 0, []⟩,
  ⟨⟨none, .box 3 (.t 1)⟩, 0, []⟩,
  ⟨⟨none, .mov 4 (.c (.one (.d (.bool false))))⟩, 0, []⟩]

abbrev i_laws_eqWrite_r1 : List RO := [
  ⟨⟨none, .faddr 5 0 (.t 2)⟩, 0, []⟩,
  ⟨⟨none, .load 6 none (.t 5)⟩, 0, []⟩,
  ⟨⟨none, .faddr 7 0 (.t 3)⟩, 0, []⟩,
  ⟨⟨none, .load 8 none (.t 7)⟩, 0, []⟩,
  ⟨⟨none, .bin 9 .neq (.t 6) (.t 8)⟩, 0, []⟩]

abbrev i_laws_eqWrite_r2 : List RO := [
  ⟨⟨none, .mov 4 (.c (.one (.d (.bool false))))⟩, 0, []⟩]

abbrev i_laws_eqWrite_r3 : List RO := [
  ⟨⟨none, .faddr 10 1 (.t 2)⟩, 0, []⟩,
  ⟨⟨none, .load 11 none (.t 10)⟩, 0, []⟩,
  ⟨⟨none, .faddr 12 1 (.t 3)⟩, 0, []⟩,
  ⟨⟨none, .load 13 none (.t 12)⟩, 0, []⟩,
  ⟨⟨none, .bin 14 .neq (.t 11) (.t 13)⟩, 0, []⟩]

abbrev i_laws_eqWrite_r4 : List RO := [
  ⟨⟨none, .mov 4 (.c (.one (.d (.bool false))))⟩, 0, []⟩]

abbrev i_laws_eqWrite_r5 : List RO := [
  ⟨⟨none, .mov 4 (.c (.one (.d (.bool true))))⟩, 0, []⟩]

def i_laws_eqWrite : IC := (.seq (.reg i_laws_eqWrite_r0)
  (.seq (.seq (.reg i_laws_eqWrite_r1)
  (.cond (.t 9) (.seq (.reg i_laws_eqWrite_r2)
  .ret) .skip))
  (.seq (.seq (.reg i_laws_eqWrite_r3)
  (.cond (.t 14) (.seq (.reg i_laws_eqWrite_r4)
  .ret) .skip))
  (.seq (.reg i_laws_eqWrite_r5)
  .ret))))

theorem i_laws_eqWrite_ok : (Try.f178.body.bind fun c => toIC Try.prog 15 c []) = some (i_laws_eqWrite, []) := by kernel_rfl

theorem i_laws_eqWrite_fn {ds rs : List D} (hle : ds.length ≤ 15) (h : AW Try.prog 15 i_laws_eqWrite (Ends [.tmp 4] rs) (init ds)) : Fn Try.prog k_laws_eqWrite (lent ds) true rs :=
  Fn.intro' (by kernel_rfl) Try.func178 (by kernel_rfl) i_laws_eqWrite_ok (by kernel_rfl) hle h.h

theorem i_laws_eqWrite_fnB {ds rs : List D} (hle : ds.length ≤ 15) (h : AW Try.prog 15 i_laws_eqWrite (EndsB [.tmp 4] rs) (init ds)) : Fn Try.prog k_laws_eqWrite (lent ds) false rs :=
  Fn.introB' (by kernel_rfl) Try.func178 (by kernel_rfl) i_laws_eqWrite_ok (by kernel_rfl) hle h.h

abbrev i_laws_eqWriteS_r0 : List RO := [
  ⟨⟨none, .mov 4 (.c (.one (.d (.bool false))))⟩, 0, []⟩]

abbrev i_laws_eqWriteS_r1 : List RO := [
  ⟨⟨none, .mov 6 (.t 0)⟩, 0, []⟩,
  ⟨⟨none, .len 7 false (.t 6)⟩, 0, []⟩,
  ⟨⟨none, .mov 8 (.t 1)⟩, 0, []⟩,
  ⟨⟨none, .len 9 false (.t 8)⟩, 0, []⟩,
  ⟨⟨none, .bin 10 .neq (.t 7) (.t 9)⟩, 0, []⟩]

abbrev i_laws_eqWriteS_r2 : List RO := [
  ⟨⟨none, .mov 4 (.c (.one (.d (.bool false))))⟩, 0, []⟩]

abbrev i_laws_eqWriteS_r3 : List RO := [
  ⟨⟨none, .mov 5 (.c (.one (.d (.int .i64 0))))⟩, 0, []⟩]

abbrev i_laws_eqWriteS_r4 : List RO := [
  ⟨⟨none, .mov 11 (.t 5)⟩, 0, []⟩,
  ⟨⟨none, .mov 12 (.t 0)⟩, 0, []⟩,
  ⟨⟨none, .len 13 false (.t 12)⟩, 0, []⟩,
  ⟨⟨none, .bin 14 .lss (.t 11) (.t 13)⟩, 0, []⟩]

abbrev i_laws_eqWriteS_r5 : List RO := [
  ⟨⟨none, .mov 17 (.t 0)⟩, 0, []⟩,
  ⟨⟨none, .mov 18 (.t 5)⟩, 0, []⟩,
  ⟨⟨none, .iaddr 19 2 (.t 17) (.t 18)⟩, 3, []⟩,
  ⟨⟨none, .load 20 (some 2) (.t 19)⟩, 7, []⟩,
  ⟨⟨none, .mov 21 (.t 1)⟩, 0, []⟩,
  ⟨⟨none, .mov 22 (.t 5)⟩, 0, []⟩,
  ⟨⟨none, .iaddr 23 2 (.t 21) (.t 22)⟩, 48, []⟩,
  ⟨⟨none, .load 24 (some 2) (.t 23)⟩, 112, []⟩,
  ⟨⟨none, .callv 25 (.c (.one (.fn k_laws_eqWrite []))) [(.t 20), (.t 24)]⟩, 255, []⟩,
  ⟨⟨none, .inv 26 (.t 25)⟩, 511, []⟩]

abbrev i_laws_eqWriteS_r6 : List RO := [
  ⟨⟨none, .mov 4 (.c (.one (.d (.bool false))))⟩, 0, []⟩]

abbrev i_laws_eqWriteS_r7 : List RO := [
  ⟨⟨none, .mov 15 (.t 5)⟩, 0, []⟩,
  ⟨⟨none, .bin 16 .add (.t 15) (.c (.one (.d (.int .i64 1))))⟩, 0, []⟩,
  ⟨⟨none, .mov 5 (.t 16)⟩, 0, []⟩]

abbrev i_laws_eqWriteS_r8 : List RO := [
  ⟨⟨none, .mov 4 (.c (.one (.d (.bool true))))⟩, 0, []⟩]

def i_laws_eqWriteS : IC := (.seq (.reg i_laws_eqWriteS_r0)
  (.seq (.seq (.reg i_laws_eqWriteS_r1)
  (.cond (.t 10) (.seq (.reg i_laws_eqWriteS_r2)
  .ret) .skip))
  (.seq (.seq (.reg i_laws_eqWriteS_r3)
  (.block 0 (.loop (.seq (.seq (.reg i_laws_eqWriteS_r4)
  (.cond (.t 14) .skip (.exit 0)))
  (.seq (.block 1 (.seq (.regd i_laws_eqWriteS_r5)
  (.cond (.t 26) (.seq (.reg i_laws_eqWriteS_r6)
  .ret) .skip)))
  (.reg i_laws_eqWriteS_r7))))))
  (.seq (.reg i_laws_eqWriteS_r8)
  .ret))))

theorem i_laws_eqWriteS_ok : (Try.f105.body.bind fun c => toIC Try.prog 27 c [[(0, []), (0, []), (3, []), (7, []), (0, []), (0, []), (48, []), (112, []), (255, []), (511, [])]]) = some (i_laws_eqWriteS, []) := by kernel_rfl

theorem i_laws_eqWriteS_fn {ds rs : List D} (hle : ds.length ≤ 27) (h : AW Try.prog 27 i_laws_eqWriteS (Ends [.tmp 4] rs) (init ds)) : Fn Try.prog k_laws_eqWriteS (lent ds) true rs :=
  Fn.intro' (by kernel_rfl) Try.func105 (by kernel_rfl) i_laws_eqWriteS_ok (by kernel_rfl) hle h.h

theorem i_laws_eqWriteS_fnB {ds rs : List D} (hle : ds.length ≤ 27) (h : AW Try.prog 27 i_laws_eqWriteS (EndsB [.tmp 4] rs) (init ds)) : Fn Try.prog k_laws_eqWriteS (lent ds) false rs :=
  Fn.introB' (by kernel_rfl) Try.func105 (by kernel_rfl) i_laws_eqWriteS_ok (by kernel_rfl) hle h.h

abbrev i_laws_eqShare_r0 : List RO := [
  ⟨⟨none, .box 2 (.t 0)⟩, 0, []⟩,
  ⟨⟨none, .box 3 (.t 1)⟩, 0, []⟩,
  ⟨⟨none, .mov 4 (.c (.one (.d (.bool false))))⟩, 0, []⟩]

abbrev i_laws_eqShare_r1 : List RO := [
  ⟨⟨none, .faddr 5 0 (.t 2)⟩, 0, []⟩,
  ⟨⟨none, .load 6 none (.t 5)⟩, 0, []⟩,
  ⟨⟨none, .faddr 7 0 (.t 3)⟩, 0, []⟩,
  ⟨⟨none, .load 8 none (.t 7)⟩, 0, []⟩,
  ⟨⟨none, .bin 9 .neq (.t 6) (.t 8)⟩, 0, []⟩]

abbrev i_laws_eqShare_r2 : List RO := [
  ⟨⟨none, .mov 4 (.c (.one (.d (.bool false))))⟩, 0, []⟩]

abbrev i_laws_eqShare_r3 : List RO := [
  ⟨⟨none, .faddr 10 1 (.t 2)⟩, 0, []⟩,
  ⟨⟨none, .load 11 none (.t 10)⟩, 0, []⟩,
  ⟨⟨none, .faddr 12 1 (.t 3)⟩, 0, []⟩,
  ⟨⟨none, .load 13 none (.t 12)⟩, 0, []⟩,
  ⟨⟨none, .callv 14 (.c (.one (.fn k_laws_eqRangeS []))) [(.t 11), (.t 13)]⟩, 0, []⟩,
  ⟨⟨none, .inv 15 (.t 14)⟩, 0, []⟩]

abbrev i_laws_eqShare_r4 : List RO := [
  ⟨⟨none, .mov 4 (.c (.one (.d (.bool false))))⟩, 0, []⟩]

abbrev i_laws_eqShare_r5 : List RO := [
  ⟨⟨none, .faddr 16 2 (.t 2)⟩, 0, []⟩,
  ⟨⟨none, .load 17 none (.t 16)⟩, 0, []⟩,
  ⟨⟨none, .faddr 18 2 (.t 3)⟩, 0, []⟩,
  ⟨⟨none, .load 19 none (.t 18)⟩, 0, []⟩,
  ⟨⟨none, .callv 20 (.c (.one (.fn k_laws_eqWriteS []))) [(.t 17), (.t 19)]⟩, 0, []⟩,
  ⟨⟨none, .inv 21 (.t 20)⟩, 0, []⟩]

abbrev i_laws_eqShare_r6 : List RO := [
  ⟨⟨none, .mov 4 (.c (.one (.d (.bool false))))⟩, 0, []⟩]

abbrev i_laws_eqShare_r7 : List RO := [
  ⟨⟨none, .faddr 22 3 (.t 2)⟩, 0, []⟩,
  ⟨⟨none, .load 23 none (.t 22)⟩, 0, []⟩,
  ⟨⟨none, .faddr 24 3 (.t 3)⟩, 0, []⟩,
  ⟨⟨none, .load 25 none (.t 24)⟩, 0, []⟩,
  ⟨⟨none, .bin 26 .neq (.t 23) (.t 25)⟩, 0, []⟩]

abbrev i_laws_eqShare_r8 : List RO := [
  ⟨⟨none, .mov 4 (.c (.one (.d (.bool false))))⟩, 0, []⟩]

abbrev i_laws_eqShare_r9 : List RO := [
  ⟨⟨none, .mov 4 (.c (.one (.d (.bool true))))⟩, 0, []⟩]

def i_laws_eqShare : IC := (.seq (.reg i_laws_eqShare_r0)
  (.seq (.seq (.reg i_laws_eqShare_r1)
  (.cond (.t 9) (.seq (.reg i_laws_eqShare_r2)
  .ret) .skip))
  (.seq (.seq (.reg i_laws_eqShare_r3)
  (.cond (.t 15) (.seq (.reg i_laws_eqShare_r4)
  .ret) .skip))
  (.seq (.seq (.reg i_laws_eqShare_r5)
  (.cond (.t 21) (.seq (.reg i_laws_eqShare_r6)
  .ret) .skip))
  (.seq (.seq (.reg i_laws_eqShare_r7)
  (.cond (.t 26) (.seq (.reg i_laws_eqShare_r8)
  .ret) .skip))
  (.seq (.reg i_laws_eqShare_r9)
  .ret))))))

theorem i_laws_eqShare_ok : (Try.f76.body.bind fun c => toIC Try.prog 27 c []) = some (i_laws_eqShare, []) := by kernel_rfl

theorem i_laws_eqShare_fn {ds rs : List D} (hle : ds.length ≤ 27) (h : AW Try.prog 27 i_laws_eqShare (Ends [.tmp 4] rs) (init ds)) : Fn Try.prog k_laws_eqShare (lent ds) true rs :=
  Fn.intro' (by kernel_rfl) Try.func76 (by kernel_rfl) i_laws_eqShare_ok (by kernel_rfl) hle h.h

theorem i_laws_eqShare_fnB {ds rs : List D} (hle : ds.length ≤ 27) (h : AW Try.prog 27 i_laws_eqShare (EndsB [.tmp 4] rs) (init ds)) : Fn Try.prog k_laws_eqShare (lent ds) false rs :=
  Fn.introB' (by kernel_rfl) Try.func76 (by kernel_rfl) i_laws_eqShare_ok (by kernel_rfl) hle h.h

abbrev i_laws_eqShareS_r0 : List RO := [
  ⟨⟨none, .mov 4 (.c (.one (.d (.bool false))))⟩, 0, []⟩]

abbrev i_laws_eqShareS_r1 : List RO := [
  ⟨⟨none, .mov 6 (.t 0)⟩, 0, []⟩,
  ⟨⟨none, .len 7 false (.t 6)⟩, 0, []⟩,
  ⟨⟨none, .mov 8 (.t 1)⟩, 0, []⟩,
  ⟨⟨none, .len 9 false (.t 8)⟩, 0, []⟩,
  ⟨⟨none, .bin 10 .neq (.t 7) (.t 9)⟩, 0, []⟩]

abbrev i_laws_eqShareS_r2 : List RO := [
  ⟨⟨none, .mov 4 (.c (.one (.d (.bool false))))⟩, 0, []⟩]

abbrev i_laws_eqShareS_r3 : List RO := [
  ⟨⟨none, .mov 5 (.c (.one (.d (.int .i64 0))))⟩, 0, []⟩]

abbrev i_laws_eqShareS_r4 : List RO := [
  ⟨⟨none, .mov 11 (.t 5)⟩, 0, []⟩,
  ⟨⟨none, .mov 12 (.t 0)⟩, 0, []⟩,
  ⟨⟨none, .len 13 false (.t 12)⟩, 0, []⟩,
  ⟨⟨none, .bin 14 .lss (.t 11) (.t 13)⟩, 0, []⟩]

abbrev i_laws_eqShareS_r5 : List RO := [
  ⟨⟨none, .mov 17 (.t 0)⟩, 0, []⟩,
  ⟨⟨none, .mov 18 (.t 5)⟩, 0, []⟩,
  ⟨⟨none, .iaddr 19 4 (.t 17) (.t 18)⟩, 3, []⟩,
  ⟨⟨none, .load 20 (some 4) (.t 19)⟩, 7, []⟩,
  ⟨⟨none, .mov 21 (.t 1)⟩, 0, []⟩,
  ⟨⟨none, .mov 22 (.t 5)⟩, 0, []⟩,
  ⟨⟨none, .iaddr 23 4 (.t 21) (.t 22)⟩, 48, []⟩,
  ⟨⟨none, .load 24 (some 4) (.t 23)⟩, 112, []⟩,
  ⟨⟨none, .callv 25 (.c (.one (.fn k_laws_eqShare []))) [(.t 20), (.t 24)]⟩, 255, []⟩,
  ⟨⟨none, .inv 26 (.t 25)⟩, 511, []⟩]

abbrev i_laws_eqShareS_r6 : List RO := [
  ⟨⟨none, .mov 4 (.c (.one (.d (.bool false))))⟩, 0, []⟩]

abbrev i_laws_eqShareS_r7 : List RO := [
  ⟨⟨none, .mov 15 (.t 5)⟩, 0, []⟩,
  ⟨⟨none, .bin 16 .add (.t 15) (.c (.one (.d (.int .i64 1))))⟩, 0, []⟩,
  ⟨⟨none, .mov 5 (.t 16)⟩, 0, []⟩]

abbrev i_laws_eqShareS_r8 : List RO := [
  ⟨⟨none, .mov 4 (.c (.one (.d (.bool true))))⟩, 0, []⟩]

def i_laws_eqShareS : IC := (.seq (.reg i_laws_eqShareS_r0)
  (.seq (.seq (.reg i_laws_eqShareS_r1)
  (.cond (.t 10) (.seq (.reg i_laws_eqShareS_r2)
  .ret) .skip))
  (.seq (.seq (.reg i_laws_eqShareS_r3)
  (.block 0 (.loop (.seq (.seq (.reg i_laws_eqShareS_r4)
  (.cond (.t 14) .skip (.exit 0)))
  (.seq (.block 1 (.seq (.regd i_laws_eqShareS_r5)
  (.cond (.t 26) (.seq (.reg i_laws_eqShareS_r6)
  .ret) .skip)))
  (.reg i_laws_eqShareS_r7))))))
  (.seq (.reg i_laws_eqShareS_r8)
  .ret))))

theorem i_laws_eqShareS_ok : (Try.f18.body.bind fun c => toIC Try.prog 27 c [[(0, []), (0, []), (3, []), (7, []), (0, []), (0, []), (48, []), (112, []), (255, []), (511, [])]]) = some (i_laws_eqShareS, []) := by kernel_rfl

theorem i_laws_eqShareS_fn {ds rs : List D} (hle : ds.length ≤ 27) (h : AW Try.prog 27 i_laws_eqShareS (Ends [.tmp 4] rs) (init ds)) : Fn Try.prog k_laws_eqShareS (lent ds) true rs :=
  Fn.intro' (by kernel_rfl) Try.func18 (by kernel_rfl) i_laws_eqShareS_ok (by kernel_rfl) hle h.h

theorem i_laws_eqShareS_fnB {ds rs : List D} (hle : ds.length ≤ 27) (h : AW Try.prog 27 i_laws_eqShareS (EndsB [.tmp 4] rs) (init ds)) : Fn Try.prog k_laws_eqShareS (lent ds) false rs :=
  Fn.introB' (by kernel_rfl) Try.func18 (by kernel_rfl) i_laws_eqShareS_ok (by kernel_rfl) hle h.h

abbrev i_laws_eqRec_r0 : List RO := [
  ⟨⟨none, .box 2 (.t 0)⟩, 0, []⟩,
  ⟨⟨none, .box 3 (.t 1)⟩, 0, []⟩,
  ⟨⟨none, .mov 4 (.c (.one (.d (.bool false))))⟩, 0, []⟩]

abbrev i_laws_eqRec_r1 : List RO := [
  ⟨⟨none, .faddr 5 0 (.t 2)⟩, 0, []⟩,
  ⟨⟨none, .load 6 none (.t 5)⟩, 0, []⟩,
  ⟨⟨none, .faddr 7 0 (.t 3)⟩, 0, []⟩,
  ⟨⟨none, .load 8 none (.t 7)⟩, 0, []⟩,
  ⟨⟨none, .bin 9 .neq (.t 6) (.t 8)⟩, 0, []⟩]

abbrev i_laws_eqRec_r2 : List RO := [
  ⟨⟨none, .mov 4 (.c (.one (.d (.bool false))))⟩, 0, []⟩]

abbrev i_laws_eqRec_r3 : List RO := [
  ⟨⟨none, .faddr 10 1 (.t 2)⟩, 0, []⟩,
  ⟨⟨none, .load 11 none (.t 10)⟩, 0, []⟩,
  ⟨⟨none, .faddr 12 1 (.t 3)⟩, 0, []⟩,
  ⟨⟨none, .load 13 none (.t 12)⟩, 0, []⟩,
  ⟨⟨none, .bin 14 .neq (.t 11) (.t 13)⟩, 0, []⟩]

abbrev i_laws_eqRec_r4 : List RO := [
  ⟨⟨none, .mov 4 (.c (.one (.d (.bool false))))⟩, 0, []⟩]

abbrev i_laws_eqRec_r5 : List RO := [
  ⟨⟨none, .faddr 15 2 (.t 2)⟩, 0, []⟩,
  ⟨⟨none, .load 16 none (.t 15)⟩, 0, []⟩,
  ⟨⟨none, .faddr 17 2 (.t 3)⟩, 0, []⟩,
  ⟨⟨none, .load 18 none (.t 17)⟩, 0, []⟩,
  ⟨⟨none, .bin 19 .neq (.t 16) (.t 18)⟩, 0, []⟩]

abbrev i_laws_eqRec_r6 : List RO := [
  ⟨⟨none, .mov 4 (.c (.one (.d (.bool false))))⟩, 0, []⟩]

abbrev i_laws_eqRec_r7 : List RO := [
  ⟨⟨none, .faddr 20 3 (.t 2)⟩, 0, []⟩,
  ⟨⟨none, .load 21 none (.t 20)⟩, 0, []⟩,
  ⟨⟨none, .faddr 22 3 (.t 3)⟩, 0, []⟩,
  ⟨⟨none, .load 23 none (.t 22)⟩, 0, []⟩,
  ⟨⟨none, .bin 24 .neq (.t 21) (.t 23)⟩, 0, []⟩]

abbrev i_laws_eqRec_r8 : List RO := [
  ⟨⟨none, .mov 4 (.c (.one (.d (.bool false))))⟩, 0, []⟩]

abbrev i_laws_eqRec_r9 : List RO := [
  ⟨⟨none, .faddr 25 4 (.t 2)⟩, 0, []⟩,
  ⟨⟨none, .load 26 none (.t 25)⟩, 0, []⟩,
  ⟨⟨none, .faddr 27 4 (.t 3)⟩, 0, []⟩,
  ⟨⟨none, .load 28 none (.t 27)⟩, 0, []⟩,
  ⟨⟨none, .callv 29 (.c (.one (.fn k_laws_eqShareS []))) [(.t 26), (.t 28)]⟩, 0, []⟩,
  ⟨⟨none, .inv 30 (.t 29)⟩, 0, []⟩]

abbrev i_laws_eqRec_r10 : List RO := [
  ⟨⟨none, .mov 4 (.c (.one (.d (.bool false))))⟩, 0, []⟩]

abbrev i_laws_eqRec_r11 : List RO := [
  ⟨⟨none, .mov 4 (.c (.one (.d (.bool true))))⟩, 0, []⟩]

def i_laws_eqRec : IC := (.seq (.reg i_laws_eqRec_r0)
  (.seq (.seq (.reg i_laws_eqRec_r1)
  (.cond (.t 9) (.seq (.reg i_laws_eqRec_r2)
  .ret) .skip))
  (.seq (.seq (.reg i_laws_eqRec_r3)
  (.cond (.t 14) (.seq (.reg i_laws_eqRec_r4)
  .ret) .skip))
  (.seq (.seq (.reg i_laws_eqRec_r5)
  (.cond (.t 19) (.seq (.reg i_laws_eqRec_r6)
  .ret) .skip))
  (.seq (.seq (.reg i_laws_eqRec_r7)
  (.cond (.t 24) (.seq (.reg i_laws_eqRec_r8)
  .ret) .skip))
  (.seq (.seq (.reg i_laws_eqRec_r9)
  (.cond (.t 30) (.seq (.reg i_laws_eqRec_r10)
  .ret) .skip))
  (.seq (.reg i_laws_eqRec_r11)
  .ret)))))))

theorem i_laws_eqRec_ok : (Try.f183.body.bind fun c => toIC Try.prog 31 c []) = some (i_laws_eqRec, []) := by kernel_rfl

theorem i_laws_eqRec_fn {ds rs : List D} (hle : ds.length ≤ 31) (h : AW Try.prog 31 i_laws_eqRec (Ends [.tmp 4] rs) (init ds)) : Fn Try.prog k_laws_eqRec (lent ds) true rs :=
  Fn.intro' (by kernel_rfl) Try.func183 (by kernel_rfl) i_laws_eqRec_ok (by kernel_rfl) hle h.h

theorem i_laws_eqRec_fnB {ds rs : List D} (hle : ds.length ≤ 31) (h : AW Try.prog 31 i_laws_eqRec (EndsB [.tmp 4] rs) (init ds)) : Fn Try.prog k_laws_eqRec (lent ds) false rs :=
  Fn.introB' (by kernel_rfl) Try.func183 (by kernel_rfl) i_laws_eqRec_ok (by kernel_rfl) hle h.h

abbrev i_laws_eqRecS_r0 : List RO := [
  ⟨⟨none, .mov 4 (.c (.one (.d (.bool false))))⟩, 0, []⟩]

abbrev i_laws_eqRecS_r1 : List RO := [
  ⟨⟨none, .mov 6 (.t 0)⟩, 0, []⟩,
  ⟨⟨none, .len 7 false (.t 6)⟩, 0, []⟩,
  ⟨⟨none, .mov 8 (.t 1)⟩, 0, []⟩,
  ⟨⟨none, .len 9 false (.t 8)⟩, 0, []⟩,
  ⟨⟨none, .bin 10 .neq (.t 7) (.t 9)⟩, 0, []⟩]

abbrev i_laws_eqRecS_r2 : List RO := [
  ⟨⟨none, .mov 4 (.c (.one (.d (.bool false))))⟩, 0, []⟩]

abbrev i_laws_eqRecS_r3 : List RO := [
  ⟨⟨none, .mov 5 (.c (.one (.d (.int .i64 0))))⟩, 0, []⟩]

abbrev i_laws_eqRecS_r4 : List RO := [
  ⟨⟨none, .mov 11 (.t 5)⟩, 0, []⟩,
  ⟨⟨none, .mov 12 (.t 0)⟩, 0, []⟩,
  ⟨⟨none, .len 13 false (.t 12)⟩, 0, []⟩,
  ⟨⟨none, .bin 14 .lss (.t 11) (.t 13)⟩, 0, []⟩]

abbrev i_laws_eqRecS_r5 : List RO := [
  ⟨⟨none, .mov 17 (.t 0)⟩, 0, []⟩,
  ⟨⟨none, .mov 18 (.t 5)⟩, 0, []⟩,
  ⟨⟨none, .iaddr 19 5 (.t 17) (.t 18)⟩, 3, []⟩,
  ⟨⟨none, .load 20 (some 5) (.t 19)⟩, 7, []⟩,
  ⟨⟨none, .mov 21 (.t 1)⟩, 0, []⟩,
  ⟨⟨none, .mov 22 (.t 5)⟩, 0, []⟩,
  ⟨⟨none, .iaddr 23 5 (.t 21) (.t 22)⟩, 48, []⟩,
  ⟨⟨none, .load 24 (some 5) (.t 23)⟩, 112, []⟩,
  ⟨⟨none, .callv 25 (.c (.one (.fn k_laws_eqRec []))) [(.t 20), (.t 24)]⟩, 255, []⟩,
  ⟨⟨none, .inv 26 (.t 25)⟩, 511, []⟩]

abbrev i_laws_eqRecS_r6 : List RO := [
  ⟨⟨none, .mov 4 (.c (.one (.d (.bool false))))⟩, 0, []⟩]

abbrev i_laws_eqRecS_r7 : List RO := [
  ⟨⟨none, .mov 15 (.t 5)⟩, 0, []⟩,
  ⟨⟨none, .bin 16 .add (.t 15) (.c (.one (.d (.int .i64 1))))⟩, 0, []⟩,
  ⟨⟨none, .mov 5 (.t 16)⟩, 0, []⟩]

abbrev i_laws_eqRecS_r8 : List RO := [
  ⟨⟨none, .mov 4 (.c (.one (.d (.bool true))))⟩, 0, []⟩]

def i_laws_eqRecS : IC := (.seq (.reg i_laws_eqRecS_r0)
  (.seq (.seq (.reg i_laws_eqRecS_r1)
  (.cond (.t 10) (.seq (.reg i_laws_eqRecS_r2)
  .ret) .skip))
  (.seq (.seq (.reg i_laws_eqRecS_r3)
  (.block 0 (.loop (.seq (.seq (.reg i_laws_eqRecS_r4)
  (.cond (.t 14) .skip (.exit 0)))
  (.seq (.block 1 (.seq (.regd i_laws_eqRecS_r5)
  (.cond (.t 26) (.seq (.reg i_laws_eqRecS_r6)
  .ret) .skip)))
  (.reg i_laws_eqRecS_r7))))))
  (.seq (.reg i_laws_eqRecS_r8)
  .ret))))

theorem i_laws_eqRecS_ok : (Try.f117.body.bind fun c => toIC Try.prog 27 c [[(0, []), (0, []), (3, []), (7, []), (0, []), (0, []), (48, []), (112, []), (255, []), (511, [])]]) = some (i_laws_eqRecS, []) := by kernel_rfl

theorem i_laws_eqRecS_fn {ds rs : List D} (hle : ds.length ≤ 27) (h : AW Try.prog 27 i_laws_eqRecS (Ends [.tmp 4] rs) (init ds)) : Fn Try.prog k_laws_eqRecS (lent ds) true rs :=
  Fn.intro' (by kernel_rfl) Try.func117 (by kernel_rfl) i_laws_eqRecS_ok (by kernel_rfl) hle h.h

theorem i_laws_eqRecS_fnB {ds rs : List D} (hle : ds.length ≤ 27) (h : AW Try.prog 27 i_laws_eqRecS (EndsB [.tmp 4] rs) (init ds)) : Fn Try.prog k_laws_eqRecS (lent ds) false rs :=
  Fn.introB' (by kernel_rfl) Try.func117 (by kernel_rfl) i_laws_eqRecS_ok (by kernel_rfl) hle h.h

abbrev i_laws_eqIntS_r0 : List RO := [
  ⟨⟨none, .mov 4 (.c (.one (.d (.bool false))))⟩, 0, []⟩]

abbrev i_laws_eqIntS_r1 : List RO := [
  ⟨⟨none, .mov 6 (.t 0)⟩, 0, []⟩,
  ⟨⟨none, .len 7 false (.t 6)⟩, 0, []⟩,
  ⟨⟨none, .mov 8 (.t 1)⟩, 0, []⟩,
  ⟨⟨none, .len 9 false (.t 8)⟩, 0, []⟩,
  ⟨⟨none, .bin 10 .neq (.t 7) (.t 9)⟩, 0, []⟩]

abbrev i_laws_eqIntS_r2 : List RO := [
  ⟨⟨none, .mov 4 (.c (.one (.d (.bool false))))⟩, 0, []⟩]

abbrev i_laws_eqIntS_r3 : List RO := [
  ⟨⟨none, .mov 5 (.c (.one (.d (.int .i64 0))))⟩, 0, []⟩]

abbrev i_laws_eqIntS_r4 : List RO := [
  ⟨⟨none, .mov 11 (.t 5)⟩, 0, []⟩,
  ⟨⟨none, .mov 12 (.t 0)⟩, 0, []⟩,
  ⟨⟨none, .len 13 false (.t 12)⟩, 0, []⟩,
  ⟨⟨none, .bin 14 .lss (.t 11) (.t 13)⟩, 0, []⟩]

abbrev i_laws_eqIntS_r5 : List RO := [
  ⟨⟨none, .mov 17 (.t 0)⟩, 0, []⟩,
  ⟨⟨none, .mov 18 (.t 5)⟩, 0, []⟩,
  ⟨⟨none, .iaddr 19 1 (.t 17) (.t 18)⟩, 3, []⟩,
  ⟨⟨none, .load 20 none (.t 19)⟩, 7, []⟩,
  ⟨⟨none, .mov 21 (.t 1)⟩, 0, []⟩,
  ⟨⟨none, .mov 22 (.t 5)⟩, 0, []⟩,
  ⟨⟨none, .iaddr 23 1 (.t 21) (.t 22)⟩, 48, []⟩,
  ⟨⟨none, .load 24 none (.t 23)⟩, 112, []⟩,
  ⟨⟨none, .bin 25 .neq (.t 20) (.t 24)⟩, 255, []⟩]

abbrev i_laws_eqIntS_r6 : List RO := [
  ⟨⟨none, .mov 4 (.c (.one (.d (.bool false))))⟩, 0, []⟩]

abbrev i_laws_eqIntS_r7 : List RO := [
  ⟨⟨none, .mov 15 (.t 5)⟩, 0, []⟩,
  ⟨⟨none, .bin 16 .add (.t 15) (.c (.one (.d (.int .i64 1))))⟩, 0, []⟩,
  ⟨⟨none, .mov 5 (.t 16)⟩, 0, []⟩]

abbrev i_laws_eqIntS_r8 : List RO := [
  ⟨⟨none, .mov 4 (.c (.one (.d (.bool true))))⟩, 0, []⟩]

def i_laws_eqIntS : IC := (.seq (.reg i_laws_eqIntS_r0)
  (.seq (.seq (.reg i_laws_eqIntS_r1)
  (.cond (.t 10) (.seq (.reg i_laws_eqIntS_r2)
  .ret) .skip))
  (.seq (.seq (.reg i_laws_eqIntS_r3)
  (.block 0 (.loop (.seq (.seq (.reg i_laws_eqIntS_r4)
  (.cond (.t 14) .skip (.exit 0)))
  (.seq (.block 1 (.seq (.regd i_laws_eqIntS_r5)
  (.cond (.t 25) (.seq (.reg i_laws_eqIntS_r6)
  .ret) .skip)))
  (.reg i_laws_eqIntS_r7))))))
  (.seq (.reg i_laws_eqIntS_r8)
  .ret))))

theorem i_laws_eqIntS_ok : (Try.f118.body.bind fun c => toIC Try.prog 26 c [[(0, []), (0, []), (3, []), (7, []), (0, []), (0, []), (48, []), (112, []), (255, [])]]) = some (i_laws_eqIntS, []) := by kernel_rfl

theorem i_laws_eqIntS_fn {ds rs : List D} (hle : ds.length ≤ 26) (h : AW Try.prog 26 i_laws_eqIntS (Ends [.tmp 4] rs) (init ds)) : Fn Try.prog k_laws_eqIntS (lent ds) true rs :=
  Fn.intro' (by kernel_rfl) Try.func118 (by kernel_rfl) i_laws_eqIntS_ok (by kernel_rfl) hle h.h

theorem i_laws_eqIntS_fnB {ds rs : List D} (hle : ds.length ≤ 26) (h : AW Try.prog 26 i_laws_eqIntS (EndsB [.tmp 4] rs) (init ds)) : Fn Try.prog k_laws_eqIntS (lent ds) false rs :=
  Fn.introB' (by kernel_rfl) Try.func118 (by kernel_rfl) i_laws_eqIntS_ok (by kernel_rfl) hle h.h

abbrev i_laws_eqCoord_r0 : List RO := [
  ⟨⟨none, .box 2 (.t 0)⟩, 0, []⟩,
  ⟨⟨none, .box 3 (.t 1)⟩, 0, []⟩,
  ⟨⟨none, .mov 4 (.c (.one (.d (.bool false))))⟩, 0, []⟩]

abbrev i_laws_eqCoord_r1 : List RO := [
  ⟨⟨none, .faddr 5 0 (.t 2)⟩, 0, []⟩,
  ⟨⟨none, .load 6 none (.t 5)⟩, 0, []⟩,
  ⟨⟨none, .faddr 7 0 (.t 3)⟩, 0, []⟩,
  ⟨⟨none, .load 8 none (.t 7)⟩, 0, []⟩,
  ⟨⟨none, .callv 9 (.c (.one (.fn k_laws_eqRecS []))) [(.t 6), (.t 8)]⟩, 0, []⟩,
  ⟨⟨none, .inv 10 (.t 9)⟩, 0, []⟩]

abbrev i_laws_eqCoord_r2 : List RO := [
  ⟨⟨none, .mov 4 (.c (.one (.d (.bool false))))⟩, 0, []⟩]

abbrev i_laws_eqCoord_r3 : List RO := [
  ⟨⟨none, .faddr 11 1 (.t 2)⟩, 0, []⟩,
  ⟨⟨none, .load 12 none (.t 11)⟩, 0, []⟩,
  ⟨⟨none, .faddr 13 1 (.t 3)⟩, 0, []⟩,
  ⟨⟨none, .load 14 none (.t 13)⟩, 0, []⟩,
  ⟨⟨none, .callv 15 (.c (.one (.fn k_laws_eqIntS []))) [(.t 12), (.t 14)]⟩, 0, []⟩,
  ⟨⟨none, .inv 16 (.t 15)⟩, 0, []⟩]

abbrev i_laws_eqCoord_r4 : List RO := [
  ⟨⟨none, .mov 4 (.c (.one (.d (.bool false))))⟩, 0, []⟩]

abbrev i_laws_eqCoord_r5 : List RO := [
  ⟨⟨none, .mov 4 (.c (.one (.d (.bool true))))⟩, 0, []⟩]

def i_laws_eqCoord : IC := (.seq (.reg i_laws_eqCoord_r0)
  (.seq (.seq (.reg i_laws_eqCoord_r1)
  (.cond (.t 10) (.seq (.reg i_laws_eqCoord_r2)
  .ret) .skip))
  (.seq (.seq (.reg i_laws_eqCoord_r3)
  (.cond (.t 16) (.seq (.reg i_laws_eqCoord_r4)
  .ret) .skip))
  (.seq (.reg i_laws_eqCoord_r5)
  .ret))))

theorem i_laws_eqCoord_ok : (Try.f35.body.bind fun c => toIC Try.prog 17 c []) = some (i_laws_eqCoord, []) := by kernel_rfl

theorem i_laws_eqCoord_fn {ds rs : List D} (hle : ds.length ≤ 17) (h : AW Try.prog 17 i_laws_eqCoord (Ends [.tmp 4] rs) (init ds)) : Fn Try.prog k_laws_eqCoord (lent ds) true rs :=
  Fn.intro' (by kernel_rfl) Try.func35 (by kernel_rfl) i_laws_eqCoord_ok (by kernel_rfl) hle h.h

theorem i_laws_eqCoord_fnB {ds rs : List D} (hle : ds.length ≤ 17) (h : AW Try.prog 17 i_laws_eqCoord (EndsB [.tmp 4] rs) (init ds)) : Fn Try.prog k_laws_eqCoord (lent ds) false rs :=
  Fn.introB' (by kernel_rfl) Try.func35 (by kernel_rfl) i_laws_eqCoord_ok (by kernel_rfl) hle h.h

abbrev i_laws_FnExactCoordState_r0 : List RO := [
  ⟨⟨none, .box 2 (.t 0)⟩, 0, []⟩,
  ⟨⟨none, .mov 4 (.c (.one (.d (.bool false))))⟩, 0, []⟩]

abbrev i_laws_FnExactCoordState_r1 : List RO := [
  ⟨⟨none, .mov 5 (.c (.one (.d (.int .i64 1048576))))⟩, 0, []⟩]

abbrev i_laws_FnExactCoordState_r2 : List RO := [
  ⟨⟨none, .load 9 (some 2) (.t 2)⟩, 0, []⟩,
  ⟨⟨none, .mov 10 (.t 5)⟩, 0, []⟩,
  ⟨⟨none, .callv 11 (.c (.one (.fn k_laws_szCoord []))) [(.t 9), (.t 10)]⟩, 0, []⟩,
  ⟨⟨none, .mov 5 (.t 11)⟩, 0, []⟩]

abbrev i_laws_FnExactCoordState_r3 : List RO := [
  ⟨⟨none, .mov 12 (.t 5)⟩, 0, []⟩,
  ⟨⟨none, .bin 13 .lss (.t 12) (.c (.one (.d (.int .i64 0))))⟩, 0, []⟩]

abbrev i_laws_FnExactCoordState_r4 : List RO := [
  ⟨⟨none, .mov 4 (.c (.one (.d (.bool true))))⟩, 0, []⟩]

abbrev i_laws_FnExactCoordState_r5 : List RO := [
  ⟨⟨none, .load 14 (some 2) (.t 2)⟩, 0, []⟩,
  ⟨⟨none, .callv 15 (.c (.one (.fn k_laws_toCoord []))) [(.t 14)]⟩, 0, []⟩,
  ⟨⟨none, .mov 16 (.t 1)⟩, 0, []⟩,
  ⟨⟨none, .callv 17 (.c (.one (.fn k_spec_CoordState []))) [(.t 15), (.t 16)]⟩, 0, []⟩,
  ⟨⟨none, .mov 6 (.t 17)⟩, 0, []⟩]

abbrev i_laws_FnExactCoordState_r6 : List RO := [
  ⟨⟨none, .load 18 (some 2) (.t 2)⟩, 0, []⟩,
  ⟨⟨none, .callv 19 (.c (.one (.fn k_laws_toCoord []))) [(.t 18)]⟩, 0, []⟩,
  ⟨⟨none, .var 7 [.zs, .zs]⟩, 0, []⟩,
  ⟨⟨none, .store 2 [(.sl 5 []), (.sl 1 [])] (.t 7) (.t 19)⟩, 0, []⟩]

abbrev i_laws_FnExactCoordState_r7 : List RO := [
  ⟨⟨none, .load 20 (some 2) (.t 7)⟩, 0, []⟩,
  ⟨⟨none, .mov 21 (.t 1)⟩, 0, []⟩,
  ⟨⟨none, .callv 22 (.c (.one (.fn k_impl_CoordState []))) [(.t 20), (.t 21)]⟩, 0, []⟩,
  ⟨⟨none, .mov 8 (.t 22)⟩, 0, []⟩]

abbrev i_laws_FnExactCoordState_r8 : List RO := [
  ⟨⟨none, .mov 23 (.t 8)⟩, 0, []⟩,
  ⟨⟨none, .mov 24 (.t 6)⟩, 0, []⟩,
  ⟨⟨none, .bin 25 .neq (.t 23) (.t 24)⟩, 0, []⟩]

abbrev i_laws_FnExactCoordState_r9 : List RO := [
  ⟨⟨none, .mov 4 (.c (.one (.d (.bool false))))⟩, 0, []⟩]

abbrev i_laws_FnExactCoordState_r10 : List RO := [
  ⟨⟨none, .load 26 (some 2) (.t 7)⟩, 0, [28]⟩,
  ⟨⟨none, .load 27 (some 2) (.t 2)⟩, 0, []⟩,
  ⟨⟨none, .callv 28 (.c (.one (.fn k_laws_toCoord []))) [(.t 27)]⟩, 2, []⟩,
  ⟨⟨none, .callv 29 (.c (.one (.fn k_laws_eqCoord []))) [(.t 26), (.t 28)]⟩, 7, []⟩,
  ⟨⟨none, .inv 30 (.t 29)⟩, 15, []⟩]

abbrev i_laws_FnExactCoordState_r11 : List RO := [
  ⟨⟨none, .mov 4 (.c (.one (.d (.bool false))))⟩, 0, []⟩]

abbrev i_laws_FnExactCoordState_r12 : List RO := [
  ⟨⟨none, .mov 4 (.c (.one (.d (.bool true))))⟩, 0, []⟩]

def i_laws_FnExactCoordState : IC := (.seq (.reg i_laws_FnExactCoordState_r0)
  (.seq (.reg i_laws_FnExactCoordState_r1)
  (.seq (.reg i_laws_FnExactCoordState_r2)
  (.seq (.seq (.reg i_laws_FnExactCoordState_r3)
  (.cond (.t 13) (.seq (.reg i_laws_FnExactCoordState_r4)
  .ret) .skip))
  (.seq (.reg i_laws_FnExactCoordState_r5)
  (.seq (.reg i_laws_FnExactCoordState_r6)
  (.seq (.reg i_laws_FnExactCoordState_r7)
  (.seq (.seq (.reg i_laws_FnExactCoordState_r8)
  (.cond (.t 25) (.seq (.reg i_laws_FnExactCoordState_r9)
  .ret) .skip))
  (.seq (.seq (.regd i_laws_FnExactCoordState_r10)
  (.cond (.t 30) (.seq (.reg i_laws_FnExactCoordState_r11)
  .ret) .skip))
  (.seq (.reg i_laws_FnExactCoordState_r12)
  .ret))))))))))

theorem i_laws_FnExactCoordState_ok : (Try.f8.body.bind fun c => toIC Try.prog 31 c [[(0, [28]), (0, []), (2, []), (7, []), (15, [])]]) = some (i_laws_FnExactCoordState, []) := by kernel_rfl

theorem i_laws_FnExactCoordState_fn {ds rs : List D} (hle : ds.length ≤ 31) (h : AW Try.prog 31 i_laws_FnExactCoordState (Ends [.tmp 4] rs) (init ds)) : Fn Try.prog k_laws_FnExactCoordState (lent ds) true rs :=
  Fn.intro' (by kernel_rfl) Try.func8 (by kernel_rfl) i_laws_FnExactCoordState_ok (by kernel_rfl) hle h.h

theorem i_laws_FnExactCoordState_fnB {ds rs : List D} (hle : ds.length ≤ 31) (h : AW Try.prog 31 i_laws_FnExactCoordState (EndsB [.tmp 4] rs) (init ds)) : Fn Try.prog k_laws_FnExactCoordState (lent ds) false rs :=
  Fn.introB' (by kernel_rfl) Try.func8 (by kernel_rfl) i_laws_FnExactCoordState_ok (by kernel_rfl) hle h.h

end Go.AW
