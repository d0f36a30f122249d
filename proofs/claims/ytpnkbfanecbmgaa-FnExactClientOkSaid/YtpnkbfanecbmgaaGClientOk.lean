/- The compact code of functions of the program, and that it is the program's: made by a program of the prover's own (tool/GenIC.lean). Conditions: none. -/
import Derived.Test.YtpnkbfanecbmgaaY
import Derived.Test.YtpnkbfanecbmgaaRows
import Derived.KernelRfl
set_option linter.unusedVariables false
set_option maxRecDepth 100000
namespace Go.AW
open Go.Proofs

abbrev k_gosem_cut_init : Nat := 2
abbrev k_laws_FnExactSharesOk : Nat := 3
abbrev k_laws_FnExactAtlasOk : Nat := 4
abbrev k_laws_FnExactAtlasOwner : Nat := 5
abbrev k_laws_FnExactClientOk : Nat := 6
abbrev k_laws_FnExactCoordOk : Nat := 7
abbrev k_laws_FnExactCoordState : Nat := 8
abbrev k_laws_FnExactCoordFind : Nat := 9
abbrev k_laws_FnExactLetterOk : Nat := 10
abbrev k_laws_FnMoves15 : Nat := 11
abbrev k_laws_FnBegunOnce : Nat := 12
abbrev k_laws_FnWaits : Nat := 13
abbrev k_laws_szShareS : Nat := 14
abbrev k_spec_SharesOk : Nat := 15
abbrev k_laws_toShareS : Nat := 16
abbrev k_impl_SharesOk : Nat := 17
abbrev k_laws_eqShareS : Nat := 18
abbrev k_laws_szAtlas : Nat := 19
abbrev k_spec_AtlasOk : Nat := 20
abbrev k_laws_toAtlas : Nat := 21
abbrev k_impl_AtlasOk : Nat := 22
abbrev k_laws_eqAtlas : Nat := 23
abbrev k_spec_AtlasOwner : Nat := 24
abbrev k_impl_AtlasOwner : Nat := 25
abbrev k_laws_szClient : Nat := 26
abbrev k_spec_ClientOk : Nat := 27
abbrev k_laws_toClient : Nat := 28
abbrev k_impl_ClientOk : Nat := 29
abbrev k_laws_eqClient : Nat := 30
abbrev k_laws_szCoord : Nat := 31
abbrev k_spec_CoordOk : Nat := 32
abbrev k_laws_toCoord : Nat := 33
abbrev k_impl_CoordOk : Nat := 34
abbrev k_laws_eqCoord : Nat := 35
abbrev k_spec_CoordState : Nat := 36
abbrev k_impl_CoordState : Nat := 37
abbrev k_spec_CoordFind : Nat := 38
abbrev k_impl_CoordFind : Nat := 39
abbrev k_laws_szLetter : Nat := 40
abbrev k_spec_LetterOk : Nat := 41
abbrev k_laws_toLetter : Nat := 42
abbrev k_impl_LetterOk : Nat := 43
abbrev k_laws_eqLetter : Nat := 44
abbrev k_laws_big : Nat := 45
abbrev k_spec_DrawAtlasMove : Nat := 46
abbrev k_impl_AtlasMove : Nat := 47
abbrev k_spec_AtlasMove : Nat := 48
abbrev k_impl_MoveRank : Nat := 49
abbrev k_impl_AtlasInstalled : Nat := 50
abbrev k_impl_AtlasFrozen : Nat := 51
abbrev k_laws_at : Nat := 52
abbrev k_spec_AtlasInstalled : Nat := 53
abbrev k_impl_AtlasGone : Nat := 54
abbrev k_spec_DrawCoordBegin : Nat := 55
abbrev k_impl_CoordBegin : Nat := 56
abbrev k_spec_CoordBegin : Nat := 57
abbrev k_impl_CoordWaits : Nat := 58
abbrev k_spec_CoordWaits : Nat := 59
abbrev k_spec_DrawLocksWaits : Nat := 60
abbrev k_impl_LocksWaits : Nat := 61
abbrev k_impl_LockAsk : Nat := 62
abbrev k_spec_LocksWaits : Nat := 63
abbrev k_laws_sameInts : Nat := 64
abbrev k_laws_within : Nat := 65
abbrev k_impl_LocksOf : Nat := 66
abbrev k_laws_szShare : Nat := 67
abbrev k_spec_l1In : Nat := 68
abbrev k_spec_WritesOk : Nat := 69
abbrev k_spec_RangeOk : Nat := 70
abbrev k_laws_toShare : Nat := 71
abbrev k_impl_isGroup : Nat := 72
abbrev k_impl_readsOk : Nat := 73
abbrev k_impl_WritesOk : Nat := 74
abbrev k_impl_from : Nat := 75
abbrev k_laws_eqShare : Nat := 76
abbrev k_laws_szPartS : Nat := 77
abbrev k_laws_szMove : Nat := 78
abbrev k_spec_PartsOk : Nat := 79
abbrev k_spec_StoreOk : Nat := 80
abbrev k_spec_l15Group : Nat := 81
abbrev k_spec_l15In : Nat := 82
abbrev k_laws_toPartS : Nat := 83
abbrev k_laws_toMove : Nat := 84
abbrev k_impl_PartsOk : Nat := 85
abbrev k_impl_moveOk : Nat := 86
abbrev k_laws_eqPartS : Nat := 87
abbrev k_laws_eqMove : Nat := 88
abbrev k_spec_PartAt : Nat := 89
abbrev k_impl_partAt : Nat := 90
abbrev k_laws_szWriteS : Nat := 91
abbrev k_laws_szSeenS : Nat := 92
abbrev k_spec_l1Whole : Nat := 93
abbrev k_spec_l16RangeOk : Nat := 94
abbrev k_spec_l12Tx : Nat := 95
abbrev k_spec_l16SeenOk : Nat := 96
abbrev k_laws_toWriteS : Nat := 97
abbrev k_laws_toSeenS : Nat := 98
abbrev k_impl_isWhole : Nat := 99
abbrev k_impl_RangeOk : Nat := 100
abbrev k_impl_isTx : Nat := 101
abbrev k_slices_ContainsFunc___impl_Seen_impl_Seen_ : Nat := 102
abbrev k_impl_ClientOk_1 : Nat := 103
abbrev k__impl_Seen_keys : Nat := 104
abbrev k_laws_eqWriteS : Nat := 105
abbrev k_laws_eqSeenS : Nat := 106
abbrev k_laws_szRecS : Nat := 107
abbrev k_laws_szIntS : Nat := 108
abbrev k_spec_l14RecOk : Nat := 109
abbrev k_spec_l12Has : Nat := 110
abbrev k_laws_toRecS : Nat := 111
abbrev k_laws_toIntS : Nat := 112
abbrev k_impl_recOk : Nat := 113
abbrev k_slices_ContainsFunc___impl_Rec_impl_Rec_ : Nat := 114
abbrev k_impl_CoordOk_1 : Nat := 115
abbrev k_slices_Contains___int_int_ : Nat := 116
abbrev k_laws_eqRecS : Nat := 117
abbrev k_laws_eqIntS : Nat := 118
abbrev k_impl_isRec : Nat := 119
abbrev k_slices_IndexFunc___impl_Rec_impl_Rec_ : Nat := 120
abbrev k_impl_CoordFind_1 : Nat := 121
abbrev k_laws_szRangeS : Nat := 122
abbrev k_laws_szCellS : Nat := 123
abbrev k_spec_l16Has : Nat := 124
abbrev k_spec_l4Num : Nat := 125
abbrev k_spec_l4In : Nat := 126
abbrev k_spec_l14Votes : Nat := 127
abbrev k_laws_toRangeS : Nat := 128
abbrev k_laws_toCellS : Nat := 129
abbrev k_impl_letterHas : Nat := 130
abbrev k_impl_numRight : Nat := 131
abbrev k_impl_has : Nat := 132
abbrev k_impl_StoreOk : Nat := 133
abbrev k_impl_votes : Nat := 134
abbrev k_laws_eqRangeS : Nat := 135
abbrev k_laws_eqCellS : Nat := 136
abbrev k_spec_l1New : Nat := 137
abbrev k_spec_l15DrawAny : Nat := 138
abbrev k_spec_l1Size : Nat := 139
abbrev k_spec_l10DrawKey : Nat := 140
abbrev k_spec_l1Below : Nat := 141
abbrev k_impl_copyAtlas : Nat := 142
abbrev k_spec_l15Copy : Nat := 143
abbrev k_impl_RangeIn : Nat := 144
abbrev k__impl_Move_keys : Nat := 145
abbrev k_impl_cellsIn : Nat := 146
abbrev k_slices_Clone___impl_Cell_impl_Cell_ : Nat := 147
abbrev k_spec_MoveRank : Nat := 148
abbrev k_spec_l14DrawAny : Nat := 149
abbrev k_spec_l14DrawReq : Nat := 150
abbrev k_impl_isReq : Nat := 151
abbrev k_impl_copyCoord : Nat := 152
abbrev k_spec_l14Copy : Nat := 153
abbrev k_spec_l12DrawAsk : Nat := 154
abbrev k_impl_clashing : Nat := 155
abbrev k_impl_LocksOk : Nat := 156
abbrev k_impl_isMode : Nat := 157
abbrev k_slices_Clone___impl_Lock_impl_Lock_ : Nat := 158
abbrev k_impl_LocksHold : Nat := 159
abbrev k_slices_DeleteFunc___impl_Lock_impl_Lock_ : Nat := 160
abbrev k_impl_LockAsk_1 : Nat := 161
abbrev k_spec_l12Right : Nat := 162
abbrev k_spec_l12Holds : Nat := 163
abbrev k_spec_l12Foes : Nat := 164
abbrev k_impl_LocksOf_1 : Nat := 165
abbrev k_spec_l10Key : Nat := 166
abbrev k_slices_ContainsFunc___impl_Range_impl_Range_ : Nat := 167
abbrev k_impl_readsOk_1 : Nat := 168
abbrev k_impl_isKey : Nat := 169
abbrev k_impl_isAnswer : Nat := 170
abbrev k_laws_toPart : Nat := 171
abbrev k_laws_eqPart : Nat := 172
abbrev k_slices_IndexFunc___impl_Part_impl_Part_ : Nat := 173
abbrev k_impl_partAt_1 : Nat := 174
abbrev k_laws_toWrite : Nat := 175
abbrev k_laws_toSeen : Nat := 176
abbrev k_slices_IndexFunc___impl_Seen_impl_Seen_ : Nat := 177
abbrev k_laws_eqWrite : Nat := 178
abbrev k_laws_eqSeen : Nat := 179
abbrev k_laws_szRec : Nat := 180
abbrev k_laws_toRec : Nat := 181
abbrev k_slices_Index___int_int_ : Nat := 182
abbrev k_laws_eqRec : Nat := 183
abbrev k_laws_toRange : Nat := 184
abbrev k_laws_toCell : Nat := 185
abbrev k_slices_ContainsFunc___impl_Share_impl_Share_ : Nat := 186
abbrev k_impl_votes_1 : Nat := 187
abbrev k_laws_eqRange : Nat := 188
abbrev k_laws_eqCell : Nat := 189
abbrev k_spec_l15DrawAtlas : Nat := 190
abbrev k_spec_l1PickInt : Nat := 191
abbrev k_spec_l10DrawAny : Nat := 192
abbrev k_spec_l11DrawAny : Nat := 193
abbrev k_spec_l1Once : Nat := 194
abbrev k_spec_l1Byte : Nat := 195
abbrev k_slices_Clone___impl_Part_impl_Part_ : Nat := 196
abbrev k_slices_ContainsFunc___impl_Cell_impl_Cell_ : Nat := 197
abbrev k_impl_cellsIn_1 : Nat := 198
abbrev k__impl_Range_has : Nat := 199
abbrev k_spec_l1Min : Nat := 200
abbrev k_spec_l14DrawCoord : Nat := 201
abbrev k_slices_Clone___int_int_ : Nat := 202
abbrev k_impl_copyShares : Nat := 203
abbrev k_spec_l14Shares : Nat := 204
abbrev k_spec_l12DrawAny : Nat := 205
abbrev k_spec_l10DrawRange : Nat := 206
abbrev k_impl_clash : Nat := 207
abbrev k_impl_inserted : Nat := 208
abbrev k__impl_Lock_keys : Nat := 209
abbrev k_slices_ContainsFunc___impl_Lock_impl_Lock_ : Nat := 210
abbrev k_impl_LocksOk_1 : Nat := 211
abbrev k_impl_LocksHold_1 : Nat := 212
abbrev k_slices_IndexFunc___impl_Lock_impl_Lock_ : Nat := 213
abbrev k_spec_LocksOk : Nat := 214
abbrev k_spec_l12Mode : Nat := 215
abbrev k_spec_RangeIn : Nat := 216
abbrev k_spec_l12Range : Nat := 217
abbrev k_spec_l12Clash : Nat := 218
abbrev k_spec_l12Put : Nat := 219
abbrev k_slices_IndexFunc___impl_Range_impl_Range_ : Nat := 220
abbrev k_slices_IndexFunc___impl_Share_impl_Share_ : Nat := 221
abbrev k_spec_NewAtlas : Nat := 222
abbrev k_spec_l10DrawParts : Nat := 223
abbrev k_spec_AtlasSplit : Nat := 224
abbrev k_spec_AtlasFrozen : Nat := 225
abbrev k_spec_StoreScan : Nat := 226
abbrev k_spec_l11DrawStore : Nat := 227
abbrev k_spec_AtlasGone : Nat := 228
abbrev k_slices_IndexFunc___impl_Cell_impl_Cell_ : Nat := 229
abbrev k_spec_CoordCommit : Nat := 230
abbrev k_spec_l14DrawShares : Nat := 231
abbrev k_spec_CoordVote : Nat := 232
abbrev k_spec_CoordStop : Nat := 233
abbrev k_slices_Clone___impl_Range_impl_Range_ : Nat := 234
abbrev k_slices_Clone___impl_Write_impl_Write_ : Nat := 235
abbrev k_spec_l12DrawLocks : Nat := 236
abbrev k_impl_meets : Nat := 237
abbrev k_slices_BinarySearch___int_int_ : Nat := 238
abbrev k_slices_Insert___int_int_ : Nat := 239
abbrev k_spec_RangeMeet : Nat := 240
abbrev k_spec_SplitAt : Nat := 241
abbrev k_spec_GiveTo : Nat := 242
abbrev k_spec_l11Scan : Nat := 243
abbrev k_spec_l13DrawWrites : Nat := 244
abbrev k_spec_l13DrawKeys : Nat := 245
abbrev k_spec_LockAsk : Nat := 246
abbrev k_cmp_Less_int_ : Nat := 247
abbrev k_slices_isNaN_int_ : Nat := 248
abbrev k_slices_rotateRight_int_ : Nat := 250
abbrev k_spec_l1Max : Nat := 251
abbrev k_spec_l12Keep : Nat := 252
abbrev k_cmp_isNaN_int_ : Nat := 253
abbrev k_slices_rotateLeft_int_ : Nat := 254
abbrev k_slices_Reverse___int_int_ : Nat := 255
abbrev i_laws_szWriteS_r0 : List RO := [
  ⟨⟨none, .mov 4 (.c (.one (.d (.int .i64 0))))⟩, 0, []⟩]

abbrev i_laws_szWriteS_r1 : List RO := [
  ⟨⟨none, .mov 5 (.t 1)⟩, 0, []⟩,
  ⟨⟨none, .mov 6 (.t 0)⟩, 0, []⟩,
  ⟨⟨none, .len 7 false (.t 6)⟩, 0, []⟩,
  ⟨⟨none, .bin 8 .sub (.t 5) (.t 7)⟩, 0, []⟩,
  ⟨⟨none, .mov 1 (.t 8)⟩, 0, []⟩]

abbrev i_laws_szWriteS_r2 : List RO := [
  ⟨⟨none, .mov 9 (.t 1)⟩, 0, []⟩,
  ⟨⟨none, .bin 10 .lss (.t 9) (.c (.one (.d (.int .i64 0))))⟩, 0, []⟩]

abbrev i_laws_szWriteS_r3 : List RO := [
  ⟨⟨none, .mov 4 (.c (.one (.d (.int .i64 (-1)))))⟩, 0, []⟩]

abbrev i_laws_szWriteS_r4 : List RO := [
  ⟨⟨none, .mov 11 (.t 1)⟩, 0, []⟩,
  ⟨⟨none, .mov 4 (.t 11)⟩, 0, []⟩]

def i_laws_szWriteS : IC := (.seq (.reg i_laws_szWriteS_r0)
  (.seq (.reg i_laws_szWriteS_r1)
  (.seq (.seq (.reg i_laws_szWriteS_r2)
  (.cond (.t 10) (.seq (.reg i_laws_szWriteS_r3)
  .ret) .skip))
  (.seq (.reg i_laws_szWriteS_r4)
  .ret))))

theorem i_laws_szWriteS_ok : (Try.f91.body.bind fun c => toIC Try.prog 12 c []) = some (i_laws_szWriteS, []) := by kernel_rfl

theorem i_laws_szWriteS_fn {ds rs : List D} (hle : ds.length ≤ 12) (h : AW Try.prog 12 i_laws_szWriteS (Ends [.tmp 4] rs) (init ds)) : Fn Try.prog k_laws_szWriteS (lent ds) true rs :=
  Fn.intro' (by kernel_rfl) Try.func91 (by kernel_rfl) i_laws_szWriteS_ok (by kernel_rfl) hle h.h

theorem i_laws_szWriteS_fnB {ds rs : List D} (hle : ds.length ≤ 12) (h : AW Try.prog 12 i_laws_szWriteS (EndsB [.tmp 4] rs) (init ds)) : Fn Try.prog k_laws_szWriteS (lent ds) false rs :=
  Fn.introB' (by kernel_rfl) Try.func91 (by kernel_rfl) i_laws_szWriteS_ok (by kernel_rfl) hle h.h

abbrev i_laws_szSeenS_r0 : List RO := [
  ⟨⟨none, .mov 4 (.c (.one (.d (.int .i64 0))))⟩, 0, []⟩]

abbrev i_laws_szSeenS_r1 : List RO := [
  ⟨⟨none, .mov 5 (.t 1)⟩, 0, []⟩,
  ⟨⟨none, .mov 6 (.t 0)⟩, 0, []⟩,
  ⟨⟨none, .len 7 false (.t 6)⟩, 0, []⟩,
  ⟨⟨none, .bin 8 .sub (.t 5) (.t 7)⟩, 0, []⟩,
  ⟨⟨none, .mov 1 (.t 8)⟩, 0, []⟩]

abbrev i_laws_szSeenS_r2 : List RO := [
  ⟨⟨none, .mov 9 (.t 1)⟩, 0, []⟩,
  ⟨⟨none, .bin 10 .lss (.t 9) (.c (.one (.d (.int .i64 0))))⟩, 0, []⟩]

abbrev i_laws_szSeenS_r3 : List RO := [
  ⟨⟨none, .mov 4 (.c (.one (.d (.int .i64 (-1)))))⟩, 0, []⟩]

abbrev i_laws_szSeenS_r4 : List RO := [
  ⟨⟨none, .mov 11 (.t 1)⟩, 0, []⟩,
  ⟨⟨none, .mov 4 (.t 11)⟩, 0, []⟩]

def i_laws_szSeenS : IC := (.seq (.reg i_laws_szSeenS_r0)
  (.seq (.reg i_laws_szSeenS_r1)
  (.seq (.seq (.reg i_laws_szSeenS_r2)
  (.cond (.t 10) (.seq (.reg i_laws_szSeenS_r3)
  .ret) .skip))
  (.seq (.reg i_laws_szSeenS_r4)
  .ret))))

theorem i_laws_szSeenS_ok : (Try.f92.body.bind fun c => toIC Try.prog 12 c []) = some (i_laws_szSeenS, []) := by kernel_rfl

theorem i_laws_szSeenS_fn {ds rs : List D} (hle : ds.length ≤ 12) (h : AW Try.prog 12 i_laws_szSeenS (Ends [.tmp 4] rs) (init ds)) : Fn Try.prog k_laws_szSeenS (lent ds) true rs :=
  Fn.intro' (by kernel_rfl) Try.func92 (by kernel_rfl) i_laws_szSeenS_ok (by kernel_rfl) hle h.h

theorem i_laws_szSeenS_fnB {ds rs : List D} (hle : ds.length ≤ 12) (h : AW Try.prog 12 i_laws_szSeenS (EndsB [.tmp 4] rs) (init ds)) : Fn Try.prog k_laws_szSeenS (lent ds) false rs :=
  Fn.introB' (by kernel_rfl) Try.func92 (by kernel_rfl) i_laws_szSeenS_ok (by kernel_rfl) hle h.h

abbrev i_laws_szPartS_r0 : List RO := [
  ⟨⟨none, .mov 4 (.c (.one (.d (.int .i64 0))))⟩, 0, []⟩]

abbrev i_laws_szPartS_r1 : List RO := [
  ⟨⟨none, .mov 5 (.t 1)⟩, 0, []⟩,
  ⟨⟨none, .mov 6 (.t 0)⟩, 0, []⟩,
  ⟨⟨none, .len 7 false (.t 6)⟩, 0, []⟩,
  ⟨⟨none, .bin 8 .sub (.t 5) (.t 7)⟩, 0, []⟩,
  ⟨⟨none, .mov 1 (.t 8)⟩, 0, []⟩]

abbrev i_laws_szPartS_r2 : List RO := [
  ⟨⟨none, .mov 9 (.t 1)⟩, 0, []⟩,
  ⟨⟨none, .bin 10 .lss (.t 9) (.c (.one (.d (.int .i64 0))))⟩, 0, []⟩]

abbrev i_laws_szPartS_r3 : List RO := [
  ⟨⟨none, .mov 4 (.c (.one (.d (.int .i64 (-1)))))⟩, 0, []⟩]

abbrev i_laws_szPartS_r4 : List RO := [
  ⟨⟨none, .mov 11 (.t 1)⟩, 0, []⟩,
  ⟨⟨none, .mov 4 (.t 11)⟩, 0, []⟩]

def i_laws_szPartS : IC := (.seq (.reg i_laws_szPartS_r0)
  (.seq (.reg i_laws_szPartS_r1)
  (.seq (.seq (.reg i_laws_szPartS_r2)
  (.cond (.t 10) (.seq (.reg i_laws_szPartS_r3)
  .ret) .skip))
  (.seq (.reg i_laws_szPartS_r4)
  .ret))))

theorem i_laws_szPartS_ok : (Try.f77.body.bind fun c => toIC Try.prog 12 c []) = some (i_laws_szPartS, []) := by kernel_rfl

theorem i_laws_szPartS_fn {ds rs : List D} (hle : ds.length ≤ 12) (h : AW Try.prog 12 i_laws_szPartS (Ends [.tmp 4] rs) (init ds)) : Fn Try.prog k_laws_szPartS (lent ds) true rs :=
  Fn.intro' (by kernel_rfl) Try.func77 (by kernel_rfl) i_laws_szPartS_ok (by kernel_rfl) hle h.h

theorem i_laws_szPartS_fnB {ds rs : List D} (hle : ds.length ≤ 12) (h : AW Try.prog 12 i_laws_szPartS (EndsB [.tmp 4] rs) (init ds)) : Fn Try.prog k_laws_szPartS (lent ds) false rs :=
  Fn.introB' (by kernel_rfl) Try.func77 (by kernel_rfl) i_laws_szPartS_ok (by kernel_rfl) hle h.h

abbrev i_laws_szClient_r0 : List RO := [
  ⟨⟨none, .box 2 (.t 0)⟩, 0, []⟩,
  ⟨⟨none, .mov 4 (.c (.one (.d (.int .i64 0))))⟩, 0, []⟩]

abbrev i_laws_szClient_r1 : List RO := [
  ⟨⟨none, .faddr 5 3 (.t 2)⟩, 0, []⟩,
  ⟨⟨none, .load 6 none (.t 5)⟩, 0, []⟩,
  ⟨⟨none, .mov 7 (.t 1)⟩, 0, []⟩,
  ⟨⟨none, .callv 8 (.c (.one (.fn k_laws_szWriteS []))) [(.t 6), (.t 7)]⟩, 0, []⟩,
  ⟨⟨none, .mov 1 (.t 8)⟩, 0, []⟩]

abbrev i_laws_szClient_r2 : List RO := [
  ⟨⟨none, .mov 9 (.t 1)⟩, 0, []⟩,
  ⟨⟨none, .bin 10 .lss (.t 9) (.c (.one (.d (.int .i64 0))))⟩, 0, []⟩]

abbrev i_laws_szClient_r3 : List RO := [
  ⟨⟨none, .mov 4 (.c (.one (.d (.int .i64 (-1)))))⟩, 0, []⟩]

abbrev i_laws_szClient_r4 : List RO := [
  ⟨⟨none, .faddr 11 4 (.t 2)⟩, 0, []⟩,
  ⟨⟨none, .load 12 none (.t 11)⟩, 0, []⟩,
  ⟨⟨none, .mov 13 (.t 1)⟩, 0, []⟩,
  ⟨⟨none, .callv 14 (.c (.one (.fn k_laws_szSeenS []))) [(.t 12), (.t 13)]⟩, 0, []⟩,
  ⟨⟨none, .mov 1 (.t 14)⟩, 0, []⟩]

abbrev i_laws_szClient_r5 : List RO := [
  ⟨⟨none, .mov 15 (.t 1)⟩, 0, []⟩,
  ⟨⟨none, .bin 16 .lss (.t 15) (.c (.one (.d (.int .i64 0))))⟩, 0, []⟩]

abbrev i_laws_szClient_r6 : List RO := [
  ⟨⟨none, .mov 4 (.c (.one (.d (.int .i64 (-1)))))⟩, 0, []⟩]

abbrev i_laws_szClient_r7 : List RO := [
  ⟨⟨none, .faddr 17 8 (.t 2)⟩, 0, []⟩,
  ⟨⟨none, .load 18 none (.t 17)⟩, 0, []⟩,
  ⟨⟨none, .mov 19 (.t 1)⟩, 0, []⟩,
  ⟨⟨none, .callv 20 (.c (.one (.fn k_laws_szPartS []))) [(.t 18), (.t 19)]⟩, 0, []⟩,
  ⟨⟨none, .mov 1 (.t 20)⟩, 0, []⟩]

abbrev i_laws_szClient_r8 : List RO := [
  ⟨⟨none, .mov 21 (.t 1)⟩, 0, []⟩,
  ⟨⟨none, .bin 22 .lss (.t 21) (.c (.one (.d (.int .i64 0))))⟩, 0, []⟩]

abbrev i_laws_szClient_r9 : List RO := [
  ⟨⟨none, .mov 4 (.c (.one (.d (.int .i64 (-1)))))⟩, 0, []⟩]

abbrev i_laws_szClient_r10 : List RO := [
  ⟨⟨none, .mov 23 (.t 1)⟩, 0, []⟩,
  ⟨⟨none, .mov 4 (.t 23)⟩, 0, []⟩]

def i_laws_szClient : IC := (.seq (.reg i_laws_szClient_r0)
  (.seq (.reg i_laws_szClient_r1)
  (.seq (.seq (.reg i_laws_szClient_r2)
  (.cond (.t 10) (.seq (.reg i_laws_szClient_r3)
  .ret) .skip))
  (.seq (.reg i_laws_szClient_r4)
  (.seq (.seq (.reg i_laws_szClient_r5)
  (.cond (.t 16) (.seq (.reg i_laws_szClient_r6)
  .ret) .skip))
  (.seq (.reg i_laws_szClient_r7)
  (.seq (.seq (.reg i_laws_szClient_r8)
  (.cond (.t 22) (.seq (.reg i_laws_szClient_r9)
  .ret) .skip))
  (.seq (.reg i_laws_szClient_r10)
  .ret))))))))

theorem i_laws_szClient_ok : (Try.f26.body.bind fun c => toIC Try.prog 24 c []) = some (i_laws_szClient, []) := by kernel_rfl

theorem i_laws_szClient_fn {ds rs : List D} (hle : ds.length ≤ 24) (h : AW Try.prog 24 i_laws_szClient (Ends [.tmp 4] rs) (init ds)) : Fn Try.prog k_laws_szClient (lent ds) true rs :=
  Fn.intro' (by kernel_rfl) Try.func26 (by kernel_rfl) i_laws_szClient_ok (by kernel_rfl) hle h.h

theorem i_laws_szClient_fnB {ds rs : List D} (hle : ds.length ≤ 24) (h : AW Try.prog 24 i_laws_szClient (EndsB [.tmp 4] rs) (init ds)) : Fn Try.prog k_laws_szClient (lent ds) false rs :=
  Fn.introB' (by kernel_rfl) Try.func26 (by kernel_rfl) i_laws_szClient_ok (by kernel_rfl) hle h.h

abbrev i_laws_toWrite_r0 : List RO := [
  ⟨⟨none, .box 1 (.t 0)⟩, 0, []⟩,
  ⟨⟨none, .var 2 [(.d (.int .i64 0)), (.d (.int .i64 0))]⟩, 0, []⟩]

abbrev i_laws_toWrite_r1 : List RO := [
  ⟨⟨none, .var 3 [(.d (.int .i64 0)), (.d (.int .i64 0))]⟩, 0, []⟩]

abbrev i_laws_toWrite_r2 : List RO := [
  ⟨⟨none, .faddr 4 0 (.t 1)⟩, 0, []⟩,
  ⟨⟨none, .load 5 none (.t 4)⟩, 0, []⟩,
  ⟨⟨none, .faddr 6 0 (.t 3)⟩, 0, []⟩,
  ⟨⟨none, .store 1 [(.int .i64 0)] (.t 6) (.t 5)⟩, 0, []⟩]

abbrev i_laws_toWrite_r3 : List RO := [
  ⟨⟨none, .faddr 7 1 (.t 1)⟩, 0, []⟩,
  ⟨⟨none, .load 8 none (.t 7)⟩, 0, []⟩,
  ⟨⟨none, .faddr 9 1 (.t 3)⟩, 0, []⟩,
  ⟨⟨none, .store 1 [(.int .i64 0)] (.t 9) (.t 8)⟩, 0, []⟩]

abbrev i_laws_toWrite_r4 : List RO := [
  ⟨⟨none, .load 10 (some 2) (.t 3)⟩, 0, []⟩,
  ⟨⟨none, .store 2 [(.int .i64 0), (.int .i64 0)] (.t 2) (.t 10)⟩, 0, []⟩]

def i_laws_toWrite : IC := (.seq (.reg i_laws_toWrite_r0)
  (.seq (.reg i_laws_toWrite_r1)
  (.seq (.reg i_laws_toWrite_r2)
  (.seq (.reg i_laws_toWrite_r3)
  (.seq (.reg i_laws_toWrite_r4)
  .ret)))))

theorem i_laws_toWrite_ok : (Try.f175.body.bind fun c => toIC Try.prog 11 c []) = some (i_laws_toWrite, []) := by kernel_rfl

theorem i_laws_toWrite_fn {ds rs : List D} (hle : ds.length ≤ 11) (h : AW Try.prog 11 i_laws_toWrite (Ends [.cell 2 (some 2)] rs) (init ds)) : Fn Try.prog k_laws_toWrite (lent ds) true rs :=
  Fn.intro' (by kernel_rfl) Try.func175 (by kernel_rfl) i_laws_toWrite_ok (by kernel_rfl) hle h.h

theorem i_laws_toWrite_fnB {ds rs : List D} (hle : ds.length ≤ 11) (h : AW Try.prog 11 i_laws_toWrite (EndsB [.cell 2 (some 2)] rs) (init ds)) : Fn Try.prog k_laws_toWrite (lent ds) false rs :=
  Fn.introB' (by kernel_rfl) Try.func175 (by kernel_rfl) i_laws_toWrite_ok (by kernel_rfl) hle h.h

abbrev i_laws_toWriteS_r0 : List RO := [
  ⟨⟨none, .mov 2 (.c (.one .zs))⟩, 0, []⟩]

abbrev i_laws_toWriteS_r1 : List RO := [
  ⟨⟨none, .mov 5 (.t 0)⟩, 0, []⟩,
  ⟨⟨none, .len 6 false (.t 5)⟩, 0, []⟩,
  ⟨⟨none, .mksl 7 2 16 [(.int .i64 0), (.int .i64 0)] (.t 6) (.t 6)⟩, 0, []⟩,
  ⟨⟨none, .mov 3 (.t 7)⟩, 0, []⟩]

abbrev i_laws_toWriteS_r2 : List RO := [
  ⟨⟨none, .mov 4 (.c (.one (.d (.int .i64 0))))⟩, 0, []⟩]

abbrev i_laws_toWriteS_r3 : List RO := [
  ⟨⟨none, .mov 8 (.t 4)⟩, 0, []⟩,
  ⟨⟨none, .mov 9 (.t 0)⟩, 0, []⟩,
  ⟨⟨none, .len 10 false (.t 9)⟩, 0, []⟩,
  ⟨⟨none, .bin 11 .lss (.t 8) (.t 10)⟩, 0, []⟩]

abbrev i_laws_toWriteS_r4 : List RO := [
  ⟨⟨none, .mov 14 (.t 3)⟩, 0, []⟩,
  ⟨⟨none, .mov 15 (.t 4)⟩, 0, []⟩,
  ⟨⟨none, .mov 16 (.t 0)⟩, 0, []⟩,
  ⟨⟨none, .mov 17 (.t 4)⟩, 0, []⟩,
  ⟨⟨none, .iaddr 18 2 (.t 16) (.t 17)⟩, 0, []⟩,
  ⟨⟨none, .load 19 (some 2) (.t 18)⟩, 0, []⟩,
  ⟨⟨none, .callv 20 (.c (.one (.fn k_laws_toWrite []))) [(.t 19)]⟩, 0, []⟩,
  ⟨⟨none, .iaddr 21 2 (.t 14) (.t 15)⟩, 0, []⟩,
  ⟨⟨none, .store 2 [(.int .i64 0), (.int .i64 0)] (.t 21) (.t 20)⟩, 0, []⟩]

abbrev i_laws_toWriteS_r5 : List RO := [
  ⟨⟨none, .mov 12 (.t 4)⟩, 0, []⟩,
  ⟨⟨none, .bin 13 .add (.t 12) (.c (.one (.d (.int .i64 1))))⟩, 0, []⟩,
  ⟨⟨none, .mov 4 (.t 13)⟩, 0, []⟩]

abbrev i_laws_toWriteS_r6 : List RO := [
  ⟨⟨none, .mov 22 (.t 3)⟩, 0, []⟩,
  ⟨⟨none, .mov 2 (.t 22)⟩, 0, []⟩]

def i_laws_toWriteS : IC := (.seq (.reg i_laws_toWriteS_r0)
  (.seq (.reg i_laws_toWriteS_r1)
  (.seq (.seq (.reg i_laws_toWriteS_r2)
  (.block 0 (.loop (.seq (.seq (.reg i_laws_toWriteS_r3)
  (.cond (.t 11) .skip (.exit 0)))
  (.seq (.block 1 (.reg i_laws_toWriteS_r4))
  (.reg i_laws_toWriteS_r5))))))
  (.seq (.reg i_laws_toWriteS_r6)
  .ret))))

theorem i_laws_toWriteS_ok : (Try.f97.body.bind fun c => toIC Try.prog 23 c []) = some (i_laws_toWriteS, []) := by kernel_rfl

theorem i_laws_toWriteS_fn {ds rs : List D} (hle : ds.length ≤ 23) (h : AW Try.prog 23 i_laws_toWriteS (Ends [.tmp 2] rs) (init ds)) : Fn Try.prog k_laws_toWriteS (lent ds) true rs :=
  Fn.intro' (by kernel_rfl) Try.func97 (by kernel_rfl) i_laws_toWriteS_ok (by kernel_rfl) hle h.h

theorem i_laws_toWriteS_fnB {ds rs : List D} (hle : ds.length ≤ 23) (h : AW Try.prog 23 i_laws_toWriteS (EndsB [.tmp 2] rs) (init ds)) : Fn Try.prog k_laws_toWriteS (lent ds) false rs :=
  Fn.introB' (by kernel_rfl) Try.func97 (by kernel_rfl) i_laws_toWriteS_ok (by kernel_rfl) hle h.h

abbrev i_laws_toSeen_r0 : List RO := [
  ⟨⟨none, .box 1 (.t 0)⟩, 0, []⟩,
  ⟨⟨none, .var 2 [(.d (.int .i64 0)), (.d (.int .i64 0)), (.d (.int .i64 0))]⟩, 0, []⟩]

abbrev i_laws_toSeen_r1 : List RO := [
  ⟨⟨none, .var 3 [(.d (.int .i64 0)), (.d (.int .i64 0)), (.d (.int .i64 0))]⟩, 0, []⟩]

abbrev i_laws_toSeen_r2 : List RO := [
  ⟨⟨none, .faddr 4 0 (.t 1)⟩, 0, []⟩,
  ⟨⟨none, .load 5 none (.t 4)⟩, 0, []⟩,
  ⟨⟨none, .faddr 6 0 (.t 3)⟩, 0, []⟩,
  ⟨⟨none, .store 1 [(.int .i64 0)] (.t 6) (.t 5)⟩, 0, []⟩]

abbrev i_laws_toSeen_r3 : List RO := [
  ⟨⟨none, .faddr 7 1 (.t 1)⟩, 0, []⟩,
  ⟨⟨none, .load 8 none (.t 7)⟩, 0, []⟩,
  ⟨⟨none, .faddr 9 1 (.t 3)⟩, 0, []⟩,
  ⟨⟨none, .store 1 [(.int .i64 0)] (.t 9) (.t 8)⟩, 0, []⟩]

abbrev i_laws_toSeen_r4 : List RO := [
  ⟨⟨none, .faddr 10 2 (.t 1)⟩, 0, []⟩,
  ⟨⟨none, .load 11 none (.t 10)⟩, 0, []⟩,
  ⟨⟨none, .faddr 12 2 (.t 3)⟩, 0, []⟩,
  ⟨⟨none, .store 1 [(.int .i64 0)] (.t 12) (.t 11)⟩, 0, []⟩]

abbrev i_laws_toSeen_r5 : List RO := [
  ⟨⟨none, .load 13 (some 3) (.t 3)⟩, 0, []⟩,
  ⟨⟨none, .store 3 [(.int .i64 0), (.int .i64 0), (.int .i64 0)] (.t 2) (.t 13)⟩, 0, []⟩]

def i_laws_toSeen : IC := (.seq (.reg i_laws_toSeen_r0)
  (.seq (.reg i_laws_toSeen_r1)
  (.seq (.reg i_laws_toSeen_r2)
  (.seq (.reg i_laws_toSeen_r3)
  (.seq (.reg i_laws_toSeen_r4)
  (.seq (.reg i_laws_toSeen_r5)
  .ret))))))

theorem i_laws_toSeen_ok : (Try.f176.body.bind fun c => toIC Try.prog 14 c []) = some (i_laws_toSeen, []) := by kernel_rfl

theorem i_laws_toSeen_fn {ds rs : List D} (hle : ds.length ≤ 14) (h : AW Try.prog 14 i_laws_toSeen (Ends [.cell 2 (some 3)] rs) (init ds)) : Fn Try.prog k_laws_toSeen (lent ds) true rs :=
  Fn.intro' (by kernel_rfl) Try.func176 (by kernel_rfl) i_laws_toSeen_ok (by kernel_rfl) hle h.h

theorem i_laws_toSeen_fnB {ds rs : List D} (hle : ds.length ≤ 14) (h : AW Try.prog 14 i_laws_toSeen (EndsB [.cell 2 (some 3)] rs) (init ds)) : Fn Try.prog k_laws_toSeen (lent ds) false rs :=
  Fn.introB' (by kernel_rfl) Try.func176 (by kernel_rfl) i_laws_toSeen_ok (by kernel_rfl) hle h.h

abbrev i_laws_toSeenS_r0 : List RO := [
  ⟨⟨none, .mov 2 (.c (.one .zs))⟩, 0, []⟩]

abbrev i_laws_toSeenS_r1 : List RO := [
  ⟨⟨none, .mov 5 (.t 0)⟩, 0, []⟩,
  ⟨⟨none, .len 6 false (.t 5)⟩, 0, []⟩,
  ⟨⟨none, .mksl 7 3 24 [(.int .i64 0), (.int .i64 0), (.int .i64 0)] (.t 6) (.t 6)⟩, 0, []⟩,
  ⟨⟨none, .mov 3 (.t 7)⟩, 0, []⟩]

abbrev i_laws_toSeenS_r2 : List RO := [
  ⟨⟨none, .mov 4 (.c (.one (.d (.int .i64 0))))⟩, 0, []⟩]

abbrev i_laws_toSeenS_r3 : List RO := [
  ⟨⟨none, .mov 8 (.t 4)⟩, 0, []⟩,
  ⟨⟨none, .mov 9 (.t 0)⟩, 0, []⟩,
  ⟨⟨none, .len 10 false (.t 9)⟩, 0, []⟩,
  ⟨⟨none, .bin 11 .lss (.t 8) (.t 10)⟩, 0, []⟩]

abbrev i_laws_toSeenS_r4 : List RO := [
  ⟨⟨none, .mov 14 (.t 3)⟩, 0, []⟩,
  ⟨⟨none, .mov 15 (.t 4)⟩, 0, []⟩,
  ⟨⟨none, .mov 16 (.t 0)⟩, 0, []⟩,
  ⟨⟨none, .mov 17 (.t 4)⟩, 0, []⟩,
  ⟨⟨none, .iaddr 18 3 (.t 16) (.t 17)⟩, 0, []⟩,
  ⟨⟨none, .load 19 (some 3) (.t 18)⟩, 0, []⟩,
  ⟨⟨none, .callv 20 (.c (.one (.fn k_laws_toSeen []))) [(.t 19)]⟩, 0, []⟩,
  ⟨⟨none, .iaddr 21 3 (.t 14) (.t 15)⟩, 0, []⟩,
  ⟨⟨none, .store 3 [(.int .i64 0), (.int .i64 0), (.int .i64 0)] (.t 21) (.t 20)⟩, 0, []⟩]

abbrev i_laws_toSeenS_r5 : List RO := [
  ⟨⟨none, .mov 12 (.t 4)⟩, 0, []⟩,
  ⟨⟨none, .bin 13 .add (.t 12) (.c (.one (.d (.int .i64 1))))⟩, 0, []⟩,
  ⟨⟨none, .mov 4 (.t 13)⟩, 0, []⟩]

abbrev i_laws_toSeenS_r6 : List RO := [
  ⟨⟨none, .mov 22 (.t 3)⟩, 0, []⟩,
  ⟨⟨none, .mov 2 (.t 22)⟩, 0, []⟩]

def i_laws_toSeenS : IC := (.seq (.reg i_laws_toSeenS_r0)
  (.seq (.reg i_laws_toSeenS_r1)
  (.seq (.seq (.reg i_laws_toSeenS_r2)
  (.block 0 (.loop (.seq (.seq (.reg i_laws_toSeenS_r3)
  (.cond (.t 11) .skip (.exit 0)))
  (.seq (.block 1 (.reg i_laws_toSeenS_r4))
  (.reg i_laws_toSeenS_r5))))))
  (.seq (.reg i_laws_toSeenS_r6)
  .ret))))

theorem i_laws_toSeenS_ok : (Try.f98.body.bind fun c => toIC Try.prog 23 c []) = some (i_laws_toSeenS, []) := by kernel_rfl

theorem i_laws_toSeenS_fn {ds rs : List D} (hle : ds.length ≤ 23) (h : AW Try.prog 23 i_laws_toSeenS (Ends [.tmp 2] rs) (init ds)) : Fn Try.prog k_laws_toSeenS (lent ds) true rs :=
  Fn.intro' (by kernel_rfl) Try.func98 (by kernel_rfl) i_laws_toSeenS_ok (by kernel_rfl) hle h.h

theorem i_laws_toSeenS_fnB {ds rs : List D} (hle : ds.length ≤ 23) (h : AW Try.prog 23 i_laws_toSeenS (EndsB [.tmp 2] rs) (init ds)) : Fn Try.prog k_laws_toSeenS (lent ds) false rs :=
  Fn.introB' (by kernel_rfl) Try.func98 (by kernel_rfl) i_laws_toSeenS_ok (by kernel_rfl) hle h.h

abbrev i_laws_toPart_r0 : List RO := [
  ⟨⟨none, .box 1 (.t 0)⟩, 0, []⟩,
  ⟨⟨none, .var 2 [(.d (.int .i64 0)), (.d (.int .i64 0)), (.d (.int .i64 0))]⟩, 0, []⟩]

abbrev i_laws_toPart_r1 : List RO := [
  ⟨⟨none, .var 3 [(.d (.int .i64 0)), (.d (.int .i64 0)), (.d (.int .i64 0))]⟩, 0, []⟩]

abbrev i_laws_toPart_r2 : List RO := [
  ⟨⟨none, .faddr 4 0 (.t 1)⟩, 0, []⟩,
  ⟨⟨none, .load 5 none (.t 4)⟩, 0, []⟩,
  ⟨⟨none, .faddr 6 0 (.t 3)⟩, 0, []⟩,
  ⟨⟨none, .store 1 [(.int .i64 0)] (.t 6) (.t 5)⟩, 0, []⟩]

abbrev i_laws_toPart_r3 : List RO := [
  ⟨⟨none, .faddr 7 1 (.t 1)⟩, 0, []⟩,
  ⟨⟨none, .load 8 none (.t 7)⟩, 0, []⟩,
  ⟨⟨none, .faddr 9 1 (.t 3)⟩, 0, []⟩,
  ⟨⟨none, .store 1 [(.int .i64 0)] (.t 9) (.t 8)⟩, 0, []⟩]

abbrev i_laws_toPart_r4 : List RO := [
  ⟨⟨none, .faddr 10 2 (.t 1)⟩, 0, []⟩,
  ⟨⟨none, .load 11 none (.t 10)⟩, 0, []⟩,
  ⟨⟨none, .faddr 12 2 (.t 3)⟩, 0, []⟩,
  ⟨⟨none, .store 1 [(.int .i64 0)] (.t 12) (.t 11)⟩, 0, []⟩]

abbrev i_laws_toPart_r5 : List RO := [
  ⟨⟨none, .load 13 (some 3) (.t 3)⟩, 0, []⟩,
  ⟨⟨none, .store 3 [(.int .i64 0), (.int .i64 0), (.int .i64 0)] (.t 2) (.t 13)⟩, 0, []⟩]

def i_laws_toPart : IC := (.seq (.reg i_laws_toPart_r0)
  (.seq (.reg i_laws_toPart_r1)
  (.seq (.reg i_laws_toPart_r2)
  (.seq (.reg i_laws_toPart_r3)
  (.seq (.reg i_laws_toPart_r4)
  (.seq (.reg i_laws_toPart_r5)
  .ret))))))

theorem i_laws_toPart_ok : (Try.f171.body.bind fun c => toIC Try.prog 14 c []) = some (i_laws_toPart, []) := by kernel_rfl

theorem i_laws_toPart_fn {ds rs : List D} (hle : ds.length ≤ 14) (h : AW Try.prog 14 i_laws_toPart (Ends [.cell 2 (some 3)] rs) (init ds)) : Fn Try.prog k_laws_toPart (lent ds) true rs :=
  Fn.intro' (by kernel_rfl) Try.func171 (by kernel_rfl) i_laws_toPart_ok (by kernel_rfl) hle h.h

theorem i_laws_toPart_fnB {ds rs : List D} (hle : ds.length ≤ 14) (h : AW Try.prog 14 i_laws_toPart (EndsB [.cell 2 (some 3)] rs) (init ds)) : Fn Try.prog k_laws_toPart (lent ds) false rs :=
  Fn.introB' (by kernel_rfl) Try.func171 (by kernel_rfl) i_laws_toPart_ok (by kernel_rfl) hle h.h

abbrev i_laws_toPartS_r0 : List RO := [
  ⟨⟨none, .mov 2 (.c (.one .zs))⟩, 0, []⟩]

abbrev i_laws_toPartS_r1 : List RO := [
  ⟨⟨none, .mov 5 (.t 0)⟩, 0, []⟩,
  ⟨⟨none, .len 6 false (.t 5)⟩, 0, []⟩,
  ⟨⟨none, .mksl 7 3 24 [(.int .i64 0), (.int .i64 0), (.int .i64 0)] (.t 6) (.t 6)⟩, 0, []⟩,
  ⟨⟨none, .mov 3 (.t 7)⟩, 0, []⟩]

abbrev i_laws_toPartS_r2 : List RO := [
  ⟨⟨none, .mov 4 (.c (.one (.d (.int .i64 0))))⟩, 0, []⟩]

abbrev i_laws_toPartS_r3 : List RO := [
  ⟨⟨none, .mov 8 (.t 4)⟩, 0, []⟩,
  ⟨⟨none, .mov 9 (.t 0)⟩, 0, []⟩,
  ⟨⟨none, .len 10 false (.t 9)⟩, 0, []⟩,
  ⟨⟨none, .bin 11 .lss (.t 8) (.t 10)⟩, 0, []⟩]

abbrev i_laws_toPartS_r4 : List RO := [
  ⟨⟨none, .mov 14 (.t 3)⟩, 0, []⟩,
  ⟨⟨none, .mov 15 (.t 4)⟩, 0, []⟩,
  ⟨⟨none, .mov 16 (.t 0)⟩, 0, []⟩,
  ⟨⟨none, .mov 17 (.t 4)⟩, 0, []⟩,
  ⟨⟨none, .iaddr 18 3 (.t 16) (.t 17)⟩, 0, []⟩,
  ⟨⟨none, .load 19 (some 3) (.t 18)⟩, 0, []⟩,
  ⟨⟨none, .callv 20 (.c (.one (.fn k_laws_toPart []))) [(.t 19)]⟩, 0, []⟩,
  ⟨⟨none, .iaddr 21 3 (.t 14) (.t 15)⟩, 0, []⟩,
  ⟨⟨none, .store 3 [(.int .i64 0), (.int .i64 0), (.int .i64 0)] (.t 21) (.t 20)⟩, 0, []⟩]

abbrev i_laws_toPartS_r5 : List RO := [
  ⟨⟨none, .mov 12 (.t 4)⟩, 0, []⟩,
  ⟨⟨none, .bin 13 .add (.t 12) (.c (.one (.d (.int .i64 1))))⟩, 0, []⟩,
  ⟨⟨none, .mov 4 (.t 13)⟩, 0, []⟩]

abbrev i_laws_toPartS_r6 : List RO := [
  ⟨⟨none, .mov 22 (.t 3)⟩, 0, []⟩,
  ⟨⟨none, .mov 2 (.t 22)⟩, 0, []⟩]

def i_laws_toPartS : IC := (.seq (.reg i_laws_toPartS_r0)
  (.seq (.reg i_laws_toPartS_r1)
  (.seq (.seq (.reg i_laws_toPartS_r2)
  (.block 0 (.loop (.seq (.seq (.reg i_laws_toPartS_r3)
  (.cond (.t 11) .skip (.exit 0)))
  (.seq (.block 1 (.reg i_laws_toPartS_r4))
  (.reg i_laws_toPartS_r5))))))
  (.seq (.reg i_laws_toPartS_r6)
  .ret))))

theorem i_laws_toPartS_ok : (Try.f83.body.bind fun c => toIC Try.prog 23 c []) = some (i_laws_toPartS, []) := by kernel_rfl

theorem i_laws_toPartS_fn {ds rs : List D} (hle : ds.length ≤ 23) (h : AW Try.prog 23 i_laws_toPartS (Ends [.tmp 2] rs) (init ds)) : Fn Try.prog k_laws_toPartS (lent ds) true rs :=
  Fn.intro' (by kernel_rfl) Try.func83 (by kernel_rfl) i_laws_toPartS_ok (by kernel_rfl) hle h.h

theorem i_laws_toPartS_fnB {ds rs : List D} (hle : ds.length ≤ 23) (h : AW Try.prog 23 i_laws_toPartS (EndsB [.tmp 2] rs) (init ds)) : Fn Try.prog k_laws_toPartS (lent ds) false rs :=
  Fn.introB' (by kernel_rfl) Try.func83 (by kernel_rfl) i_laws_toPartS_ok (by kernel_rfl) hle h.h

abbrev i_laws_toClient_r0 : List RO := [
  ⟨⟨none, .box 1 (.t 0)⟩, 0, []⟩,
  ⟨⟨none, .var 2 [(.d (.int .i64 0)), (.d (.int .i64 0)), (.d (.int .i64 0)), .zs, .zs, (.d (.int .i64 0)), (.d (.int .i64 0)), (.d (.int .i64 0)), .zs]⟩, 0, []⟩]

abbrev i_laws_toClient_r1 : List RO := [
  ⟨⟨none, .var 3 [(.d (.int .i64 0)), (.d (.int .i64 0)), (.d (.int .i64 0)), .zs, .zs, (.d (.int .i64 0)), (.d (.int .i64 0)), (.d (.int .i64 0)), .zs]⟩, 0, []⟩]

abbrev i_laws_toClient_r2 : List RO := [
  ⟨⟨none, .faddr 4 0 (.t 1)⟩, 0, []⟩,
  ⟨⟨none, .load 5 none (.t 4)⟩, 0, []⟩,
  ⟨⟨none, .faddr 6 0 (.t 3)⟩, 0, []⟩,
  ⟨⟨none, .store 1 [(.int .i64 0)] (.t 6) (.t 5)⟩, 0, []⟩]

abbrev i_laws_toClient_r3 : List RO := [
  ⟨⟨none, .faddr 7 1 (.t 1)⟩, 0, []⟩,
  ⟨⟨none, .load 8 none (.t 7)⟩, 0, []⟩,
  ⟨⟨none, .faddr 9 1 (.t 3)⟩, 0, []⟩,
  ⟨⟨none, .store 1 [(.int .i64 0)] (.t 9) (.t 8)⟩, 0, []⟩]

abbrev i_laws_toClient_r4 : List RO := [
  ⟨⟨none, .faddr 10 2 (.t 1)⟩, 0, []⟩,
  ⟨⟨none, .load 11 none (.t 10)⟩, 0, []⟩,
  ⟨⟨none, .faddr 12 2 (.t 3)⟩, 0, []⟩,
  ⟨⟨none, .store 1 [(.int .i64 0)] (.t 12) (.t 11)⟩, 0, []⟩]

abbrev i_laws_toClient_r5 : List RO := [
  ⟨⟨none, .faddr 13 3 (.t 1)⟩, 0, []⟩,
  ⟨⟨none, .load 14 none (.t 13)⟩, 0, []⟩,
  ⟨⟨none, .callv 15 (.c (.one (.fn k_laws_toWriteS []))) [(.t 14)]⟩, 0, []⟩,
  ⟨⟨none, .faddr 16 3 (.t 3)⟩, 0, []⟩,
  ⟨⟨none, .store 1 [(.sl 2 [])] (.t 16) (.t 15)⟩, 0, []⟩]

abbrev i_laws_toClient_r6 : List RO := [
  ⟨⟨none, .faddr 17 4 (.t 1)⟩, 0, []⟩,
  ⟨⟨none, .load 18 none (.t 17)⟩, 0, []⟩,
  ⟨⟨none, .callv 19 (.c (.one (.fn k_laws_toSeenS []))) [(.t 18)]⟩, 0, []⟩,
  ⟨⟨none, .faddr 20 4 (.t 3)⟩, 0, []⟩,
  ⟨⟨none, .store 1 [(.sl 3 [])] (.t 20) (.t 19)⟩, 0, []⟩]

abbrev i_laws_toClient_r7 : List RO := [
  ⟨⟨none, .faddr 21 5 (.t 1)⟩, 0, []⟩,
  ⟨⟨none, .load 22 none (.t 21)⟩, 0, []⟩,
  ⟨⟨none, .faddr 23 5 (.t 3)⟩, 0, []⟩,
  ⟨⟨none, .store 1 [(.int .i64 0)] (.t 23) (.t 22)⟩, 0, []⟩]

abbrev i_laws_toClient_r8 : List RO := [
  ⟨⟨none, .faddr 24 6 (.t 1)⟩, 0, []⟩,
  ⟨⟨none, .load 25 none (.t 24)⟩, 0, []⟩,
  ⟨⟨none, .faddr 26 6 (.t 3)⟩, 0, []⟩,
  ⟨⟨none, .store 1 [(.int .i64 0)] (.t 26) (.t 25)⟩, 0, []⟩]

abbrev i_laws_toClient_r9 : List RO := [
  ⟨⟨none, .faddr 27 7 (.t 1)⟩, 0, []⟩,
  ⟨⟨none, .load 28 none (.t 27)⟩, 0, []⟩,
  ⟨⟨none, .faddr 29 7 (.t 3)⟩, 0, []⟩,
  ⟨⟨none, .store 1 [(.int .i64 0)] (.t 29) (.t 28)⟩, 0, []⟩]

abbrev i_laws_toClient_r10 : List RO := [
  ⟨⟨none, .faddr 30 8 (.t 1)⟩, 0, []⟩,
  ⟨⟨none, .load 31 none (.t 30)⟩, 0, []⟩,
  ⟨⟨none, .callv 32 (.c (.one (.fn k_laws_toPartS []))) [(.t 31)]⟩, 0, []⟩,
  ⟨⟨none, .faddr 33 8 (.t 3)⟩, 0, []⟩,
  ⟨⟨none, .store 1 [(.sl 3 [])] (.t 33) (.t 32)⟩, 0, []⟩]

abbrev i_laws_toClient_r11 : List RO := [
  ⟨⟨none, .load 34 (some 9) (.t 3)⟩, 0, []⟩,
  ⟨⟨none, .store 9 [(.int .i64 0), (.int .i64 0), (.int .i64 0), (.sl 2 []), (.sl 3 []), (.int .i64 0), (.int .i64 0), (.int .i64 0), (.sl 3 [])] (.t 2) (.t 34)⟩, 0, []⟩]

def i_laws_toClient : IC := (.seq (.reg i_laws_toClient_r0)
  (.seq (.reg i_laws_toClient_r1)
  (.seq (.reg i_laws_toClient_r2)
  (.seq (.reg i_laws_toClient_r3)
  (.seq (.reg i_laws_toClient_r4)
  (.seq (.reg i_laws_toClient_r5)
  (.seq (.reg i_laws_toClient_r6)
  (.seq (.reg i_laws_toClient_r7)
  (.seq (.reg i_laws_toClient_r8)
  (.seq (.reg i_laws_toClient_r9)
  (.seq (.reg i_laws_toClient_r10)
  (.seq (.reg i_laws_toClient_r11)
  .ret))))))))))))

theorem i_laws_toClient_ok : (Try.f28.body.bind fun c => toIC Try.prog 35 c []) = some (i_laws_toClient, []) := by kernel_rfl

theorem i_laws_toClient_fn {ds rs : List D} (hle : ds.length ≤ 35) (h : AW Try.prog 35 i_laws_toClient (Ends [.cell 2 (some 9)] rs) (init ds)) : Fn Try.prog k_laws_toClient (lent ds) true rs :=
  Fn.intro' (by kernel_rfl) Try.func28 (by kernel_rfl) i_laws_toClient_ok (by kernel_rfl) hle h.h

theorem i_laws_toClient_fnB {ds rs : List D} (hle : ds.length ≤ 35) (h : AW Try.prog 35 i_laws_toClient (EndsB [.cell 2 (some 9)] rs) (init ds)) : Fn Try.prog k_laws_toClient (lent ds) false rs :=
  Fn.introB' (by kernel_rfl) Try.func28 (by kernel_rfl) i_laws_toClient_ok (by kernel_rfl) hle h.h

abbrev i_spec_l1In_r0 : List RO := [
  ⟨⟨none, .mov 6 (.c (.one (.d (.bool false))))⟩, 0, []⟩]

abbrev i_spec_l1In_r1 : List RO := [
  ⟨⟨none, .mov 7 (.t 0)⟩, 0, []⟩,
  ⟨⟨none, .mov 8 (.t 1)⟩, 0, []⟩,
  ⟨⟨none, .bin 9 .geq (.t 7) (.t 8)⟩, 0, []⟩,
  ⟨⟨none, .mov 10 (.t 9)⟩, 0, []⟩,
  ⟨⟨some (10, true), .mov 11 (.t 0)⟩, 0, []⟩,
  ⟨⟨some (10, true), .mov 12 (.t 2)⟩, 0, []⟩,
  ⟨⟨some (10, true), .bin 13 .leq (.t 11) (.t 12)⟩, 0, []⟩,
  ⟨⟨none, .pick 14 (.t 10) (.t 13) (.c (.one (.d (.bool false))))⟩, 0, []⟩,
  ⟨⟨none, .mov 6 (.t 14)⟩, 0, []⟩]

def i_spec_l1In : IC := (.seq (.reg i_spec_l1In_r0)
  (.seq (.reg i_spec_l1In_r1)
  .ret))

theorem i_spec_l1In_ok : (Try.f68.body.bind fun c => toIC Try.prog 15 c []) = some (i_spec_l1In, []) := by kernel_rfl

theorem i_spec_l1In_fn {ds rs : List D} (hle : ds.length ≤ 15) (h : AW Try.prog 15 i_spec_l1In (Ends [.tmp 6] rs) (init ds)) : Fn Try.prog k_spec_l1In (lent ds) true rs :=
  Fn.intro' (by kernel_rfl) Try.func68 (by kernel_rfl) i_spec_l1In_ok (by kernel_rfl) hle h.h

theorem i_spec_l1In_fnB {ds rs : List D} (hle : ds.length ≤ 15) (h : AW Try.prog 15 i_spec_l1In (EndsB [.tmp 6] rs) (init ds)) : Fn Try.prog k_spec_l1In (lent ds) false rs :=
  Fn.introB' (by kernel_rfl) Try.func68 (by kernel_rfl) i_spec_l1In_ok (by kernel_rfl) hle h.h

abbrev i_spec_l1Whole_r0 : List RO := [
  ⟨⟨none, .mov 2 (.c (.one (.d (.bool false))))⟩, 0, []⟩]

abbrev i_spec_l1Whole_r1 : List RO := [
  ⟨⟨none, .mov 3 (.t 0)⟩, 0, []⟩,
  ⟨⟨none, .callv 4 (.c (.one (.fn k_spec_l1In []))) [(.t 3), (.c (.one (.d (.int .i64 0)))), (.c (.one (.d (.int .i64 1000000000))))]⟩, 0, []⟩,
  ⟨⟨none, .mov 2 (.t 4)⟩, 0, []⟩]

def i_spec_l1Whole : IC := (.seq (.reg i_spec_l1Whole_r0)
  (.seq (.reg i_spec_l1Whole_r1)
  .ret))

theorem i_spec_l1Whole_ok : (Try.f93.body.bind fun c => toIC Try.prog 5 c []) = some (i_spec_l1Whole, []) := by kernel_rfl

theorem i_spec_l1Whole_fn {ds rs : List D} (hle : ds.length ≤ 5) (h : AW Try.prog 5 i_spec_l1Whole (Ends [.tmp 2] rs) (init ds)) : Fn Try.prog k_spec_l1Whole (lent ds) true rs :=
  Fn.intro' (by kernel_rfl) Try.func93 (by kernel_rfl) i_spec_l1Whole_ok (by kernel_rfl) hle h.h

theorem i_spec_l1Whole_fnB {ds rs : List D} (hle : ds.length ≤ 5) (h : AW Try.prog 5 i_spec_l1Whole (EndsB [.tmp 2] rs) (init ds)) : Fn Try.prog k_spec_l1Whole (lent ds) false rs :=
  Fn.introB' (by kernel_rfl) Try.func93 (by kernel_rfl) i_spec_l1Whole_ok (by kernel_rfl) hle h.h

abbrev i_spec_RangeOk_r0 : List RO := [
  ⟨⟨none, .box 1 (.t 0)⟩, 0, []⟩,
  ⟨⟨none, .mov 2 (.c (.one (.d (.bool false))))⟩, 0, []⟩]

abbrev i_spec_RangeOk_r1 : List RO := [
  ⟨⟨none, .faddr 3 0 (.t 1)⟩, 0, []⟩,
  ⟨⟨none, .load 4 none (.t 3)⟩, 0, []⟩,
  ⟨⟨none, .bin 5 .geq (.t 4) (.c (.one (.d (.int .i64 0))))⟩, 0, []⟩,
  ⟨⟨none, .mov 6 (.t 5)⟩, 0, []⟩,
  ⟨⟨some (6, true), .faddr 7 0 (.t 1)⟩, 0, []⟩,
  ⟨⟨some (6, true), .load 8 none (.t 7)⟩, 0, []⟩,
  ⟨⟨some (6, true), .faddr 9 1 (.t 1)⟩, 0, []⟩,
  ⟨⟨some (6, true), .load 10 none (.t 9)⟩, 0, []⟩,
  ⟨⟨some (6, true), .bin 11 .lss (.t 8) (.t 10)⟩, 0, []⟩,
  ⟨⟨none, .pick 12 (.t 6) (.t 11) (.c (.one (.d (.bool false))))⟩, 0, []⟩,
  ⟨⟨none, .mov 13 (.t 12)⟩, 0, []⟩,
  ⟨⟨some (13, true), .faddr 14 1 (.t 1)⟩, 0, []⟩,
  ⟨⟨some (13, true), .load 15 none (.t 14)⟩, 0, []⟩,
  ⟨⟨some (13, true), .bin 16 .leq (.t 15) (.c (.one (.d (.int .i64 1000))))⟩, 0, []⟩,
  ⟨⟨none, .pick 17 (.t 13) (.t 16) (.c (.one (.d (.bool false))))⟩, 0, []⟩,
  ⟨⟨none, .mov 2 (.t 17)⟩, 0, []⟩]

def i_spec_RangeOk : IC := (.seq (.reg i_spec_RangeOk_r0)
  (.seq (.reg i_spec_RangeOk_r1)
  .ret))

theorem i_spec_RangeOk_ok : (Try.f70.body.bind fun c => toIC Try.prog 18 c []) = some (i_spec_RangeOk, []) := by kernel_rfl

theorem i_spec_RangeOk_fn {ds rs : List D} (hle : ds.length ≤ 18) (h : AW Try.prog 18 i_spec_RangeOk (Ends [.tmp 2] rs) (init ds)) : Fn Try.prog k_spec_RangeOk (lent ds) true rs :=
  Fn.intro' (by kernel_rfl) Try.func70 (by kernel_rfl) i_spec_RangeOk_ok (by kernel_rfl) hle h.h

theorem i_spec_RangeOk_fnB {ds rs : List D} (hle : ds.length ≤ 18) (h : AW Try.prog 18 i_spec_RangeOk (EndsB [.tmp 2] rs) (init ds)) : Fn Try.prog k_spec_RangeOk (lent ds) false rs :=
  Fn.introB' (by kernel_rfl) Try.func70 (by kernel_rfl) i_spec_RangeOk_ok (by kernel_rfl) hle h.h

abbrev i_spec_l16RangeOk_r0 : List RO := [
  ⟨⟨none, .mov 4 (.c (.one (.d (.bool false))))⟩, 0, []⟩]

abbrev i_spec_l16RangeOk_r1 : List RO := [
  ⟨⟨none, .mov 5 (.t 0)⟩, 0, []⟩,
  ⟨⟨none, .mov 6 (.t 1)⟩, 0, []⟩,
  ⟨⟨none, .build 7 [(.d (.int .i64 0)), (.d (.int .i64 0))] [(0, 1, (.t 5)), (1, 1, (.t 6))]⟩, 0, []⟩,
  ⟨⟨none, .callv 8 (.c (.one (.fn k_spec_RangeOk []))) [(.t 7)]⟩, 0, []⟩,
  ⟨⟨none, .mov 4 (.t 8)⟩, 0, []⟩]

def i_spec_l16RangeOk : IC := (.seq (.reg i_spec_l16RangeOk_r0)
  (.seq (.reg i_spec_l16RangeOk_r1)
  .ret))

theorem i_spec_l16RangeOk_ok : (Try.f94.body.bind fun c => toIC Try.prog 9 c []) = some (i_spec_l16RangeOk, []) := by kernel_rfl

theorem i_spec_l16RangeOk_fn {ds rs : List D} (hle : ds.length ≤ 9) (h : AW Try.prog 9 i_spec_l16RangeOk (Ends [.tmp 4] rs) (init ds)) : Fn Try.prog k_spec_l16RangeOk (lent ds) true rs :=
  Fn.intro' (by kernel_rfl) Try.func94 (by kernel_rfl) i_spec_l16RangeOk_ok (by kernel_rfl) hle h.h

theorem i_spec_l16RangeOk_fnB {ds rs : List D} (hle : ds.length ≤ 9) (h : AW Try.prog 9 i_spec_l16RangeOk (EndsB [.tmp 4] rs) (init ds)) : Fn Try.prog k_spec_l16RangeOk (lent ds) false rs :=
  Fn.introB' (by kernel_rfl) Try.func94 (by kernel_rfl) i_spec_l16RangeOk_ok (by kernel_rfl) hle h.h

abbrev i_spec_l15Group_r0 : List RO := [
  ⟨⟨none, .mov 2 (.c (.one (.d (.bool false))))⟩, 0, []⟩]

abbrev i_spec_l15Group_r1 : List RO := [
  ⟨⟨none, .mov 3 (.t 0)⟩, 0, []⟩,
  ⟨⟨none, .callv 4 (.c (.one (.fn k_spec_l1In []))) [(.t 3), (.c (.one (.d (.int .i64 0)))), (.c (.one (.d (.int .i64 3))))]⟩, 0, []⟩,
  ⟨⟨none, .mov 2 (.t 4)⟩, 0, []⟩]

def i_spec_l15Group : IC := (.seq (.reg i_spec_l15Group_r0)
  (.seq (.reg i_spec_l15Group_r1)
  .ret))

theorem i_spec_l15Group_ok : (Try.f81.body.bind fun c => toIC Try.prog 5 c []) = some (i_spec_l15Group, []) := by kernel_rfl

theorem i_spec_l15Group_fn {ds rs : List D} (hle : ds.length ≤ 5) (h : AW Try.prog 5 i_spec_l15Group (Ends [.tmp 2] rs) (init ds)) : Fn Try.prog k_spec_l15Group (lent ds) true rs :=
  Fn.intro' (by kernel_rfl) Try.func81 (by kernel_rfl) i_spec_l15Group_ok (by kernel_rfl) hle h.h

theorem i_spec_l15Group_fnB {ds rs : List D} (hle : ds.length ≤ 5) (h : AW Try.prog 5 i_spec_l15Group (EndsB [.tmp 2] rs) (init ds)) : Fn Try.prog k_spec_l15Group (lent ds) false rs :=
  Fn.introB' (by kernel_rfl) Try.func81 (by kernel_rfl) i_spec_l15Group_ok (by kernel_rfl) hle h.h

abbrev i_spec_l12Tx_r0 : List RO := [
  ⟨⟨none, .mov 2 (.c (.one (.d (.bool false))))⟩, 0, []⟩]

abbrev i_spec_l12Tx_r1 : List RO := [
  ⟨⟨none, .mov 3 (.t 0)⟩, 0, []⟩,
  ⟨⟨none, .callv 4 (.c (.one (.fn k_spec_l1In []))) [(.t 3), (.c (.one (.d (.int .i64 1)))), (.c (.one (.d (.int .i64 60))))]⟩, 0, []⟩,
  ⟨⟨none, .mov 2 (.t 4)⟩, 0, []⟩]

def i_spec_l12Tx : IC := (.seq (.reg i_spec_l12Tx_r0)
  (.seq (.reg i_spec_l12Tx_r1)
  .ret))

theorem i_spec_l12Tx_ok : (Try.f95.body.bind fun c => toIC Try.prog 5 c []) = some (i_spec_l12Tx, []) := by kernel_rfl

theorem i_spec_l12Tx_fn {ds rs : List D} (hle : ds.length ≤ 5) (h : AW Try.prog 5 i_spec_l12Tx (Ends [.tmp 2] rs) (init ds)) : Fn Try.prog k_spec_l12Tx (lent ds) true rs :=
  Fn.intro' (by kernel_rfl) Try.func95 (by kernel_rfl) i_spec_l12Tx_ok (by kernel_rfl) hle h.h

theorem i_spec_l12Tx_fnB {ds rs : List D} (hle : ds.length ≤ 5) (h : AW Try.prog 5 i_spec_l12Tx (EndsB [.tmp 2] rs) (init ds)) : Fn Try.prog k_spec_l12Tx (lent ds) false rs :=
  Fn.introB' (by kernel_rfl) Try.func95 (by kernel_rfl) i_spec_l12Tx_ok (by kernel_rfl) hle h.h

abbrev i_spec_l10Key_r0 : List RO := [
  ⟨⟨none, .mov 2 (.c (.one (.d (.bool false))))⟩, 0, []⟩]

abbrev i_spec_l10Key_r1 : List RO := [
  ⟨⟨none, .mov 3 (.t 0)⟩, 0, []⟩,
  ⟨⟨none, .callv 4 (.c (.one (.fn k_spec_l1In []))) [(.t 3), (.c (.one (.d (.int .i64 0)))), (.c (.one (.d (.int .i64 999))))]⟩, 0, []⟩,
  ⟨⟨none, .mov 2 (.t 4)⟩, 0, []⟩]

def i_spec_l10Key : IC := (.seq (.reg i_spec_l10Key_r0)
  (.seq (.reg i_spec_l10Key_r1)
  .ret))

theorem i_spec_l10Key_ok : (Try.f166.body.bind fun c => toIC Try.prog 5 c []) = some (i_spec_l10Key, []) := by kernel_rfl

theorem i_spec_l10Key_fn {ds rs : List D} (hle : ds.length ≤ 5) (h : AW Try.prog 5 i_spec_l10Key (Ends [.tmp 2] rs) (init ds)) : Fn Try.prog k_spec_l10Key (lent ds) true rs :=
  Fn.intro' (by kernel_rfl) Try.func166 (by kernel_rfl) i_spec_l10Key_ok (by kernel_rfl) hle h.h

theorem i_spec_l10Key_fnB {ds rs : List D} (hle : ds.length ≤ 5) (h : AW Try.prog 5 i_spec_l10Key (EndsB [.tmp 2] rs) (init ds)) : Fn Try.prog k_spec_l10Key (lent ds) false rs :=
  Fn.introB' (by kernel_rfl) Try.func166 (by kernel_rfl) i_spec_l10Key_ok (by kernel_rfl) hle h.h

abbrev i_spec_WritesOk_r0 : List RO := [
  ⟨⟨none, .mov 2 (.c (.one (.d (.bool false))))⟩, 0, []⟩]

abbrev i_spec_WritesOk_r1 : List RO := [
  ⟨⟨none, .mov 4 (.t 0)⟩, 0, []⟩,
  ⟨⟨none, .len 5 false (.t 4)⟩, 0, []⟩,
  ⟨⟨none, .bin 6 .gtr (.t 5) (.c (.one (.d (.int .i64 60))))⟩, 0, []⟩]

abbrev i_spec_WritesOk_r2 : List RO := [
  ⟨⟨none, .mov 2 (.c (.one (.d (.bool false))))⟩, 0, []⟩]

abbrev i_spec_WritesOk_r3 : List RO := [
  ⟨⟨none, .mov 3 (.c (.one (.d (.int .i64 0))))⟩, 0, []⟩]

abbrev i_spec_WritesOk_r4 : List RO := [
  ⟨⟨none, .mov 7 (.t 3)⟩, 0, []⟩,
  ⟨⟨none, .mov 8 (.t 0)⟩, 0, []⟩,
  ⟨⟨none, .len 9 false (.t 8)⟩, 0, []⟩,
  ⟨⟨none, .bin 10 .lss (.t 7) (.t 9)⟩, 0, []⟩]

abbrev i_spec_WritesOk_r5 : List RO := [
  ⟨⟨none, .mov 13 (.t 0)⟩, 0, []⟩,
  ⟨⟨none, .mov 14 (.t 3)⟩, 0, []⟩,
  ⟨⟨none, .iaddr 15 2 (.t 13) (.t 14)⟩, 3, []⟩,
  ⟨⟨none, .faddr 16 0 (.t 15)⟩, 7, []⟩,
  ⟨⟨none, .load 17 none (.t 16)⟩, 15, []⟩,
  ⟨⟨none, .callv 18 (.c (.one (.fn k_spec_l10Key []))) [(.t 17)]⟩, 31, []⟩,
  ⟨⟨none, .inv 19 (.t 18)⟩, 63, []⟩,
  ⟨⟨none, .mov 20 (.t 19)⟩, 127, []⟩,
  ⟨⟨some (20, false), .mov 21 (.t 0)⟩, 255, []⟩,
  ⟨⟨some (20, false), .mov 22 (.t 3)⟩, 255, []⟩,
  ⟨⟨some (20, false), .iaddr 23 2 (.t 21) (.t 22)⟩, 1023, []⟩,
  ⟨⟨some (20, false), .faddr 24 1 (.t 23)⟩, 2047, []⟩,
  ⟨⟨some (20, false), .load 25 none (.t 24)⟩, 4095, []⟩,
  ⟨⟨some (20, false), .callv 26 (.c (.one (.fn k_spec_l1In []))) [(.t 25), (.c (.one (.d (.int .i64 (-1))))), (.c (.one (.d (.int .i64 1000000000))))]⟩, 8191, []⟩,
  ⟨⟨some (20, false), .inv 27 (.t 26)⟩, 16383, []⟩,
  ⟨⟨none, .pick 28 (.t 20) (.c (.one (.d (.bool true)))) (.t 27)⟩, 32767, []⟩,
  ⟨⟨none, .mov 29 (.t 28)⟩, 65535, []⟩,
  ⟨⟨some (29, false), .mov 30 (.t 3)⟩, 131071, []⟩,
  ⟨⟨some (29, false), .bin 31 .gtr (.t 30) (.c (.one (.d (.int .i64 0))))⟩, 262143, []⟩,
  ⟨⟨some (29, false), .mov 32 (.t 31)⟩, 524287, []⟩,
  ⟨⟨some (32, true), .mov 33 (.t 0)⟩, 1048575, []⟩,
  ⟨⟨some (32, true), .mov 34 (.t 3)⟩, 1048575, []⟩,
  ⟨⟨some (32, true), .bin 35 .sub (.t 34) (.c (.one (.d (.int .i64 1))))⟩, 3145727, []⟩,
  ⟨⟨some (32, true), .iaddr 36 2 (.t 33) (.t 35)⟩, 8388607, []⟩,
  ⟨⟨some (32, true), .faddr 37 0 (.t 36)⟩, 16777215, []⟩,
  ⟨⟨some (32, true), .load 38 none (.t 37)⟩, 33554431, []⟩,
  ⟨⟨some (32, true), .mov 39 (.t 0)⟩, 1048575, []⟩,
  ⟨⟨some (32, true), .mov 40 (.t 3)⟩, 1048575, []⟩,
  ⟨⟨some (32, true), .iaddr 41 2 (.t 39) (.t 40)⟩, 202375167, []⟩,
  ⟨⟨some (32, true), .faddr 42 0 (.t 41)⟩, 470810623, []⟩,
  ⟨⟨some (32, true), .load 43 none (.t 42)⟩, 1007681535, []⟩,
  ⟨⟨some (32, true), .bin 44 .geq (.t 38) (.t 43)⟩, 2147483647, []⟩,
  ⟨⟨some (29, false), .pick 45 (.t 32) (.t 44) (.c (.one (.d (.bool false))))⟩, 4294967295, []⟩,
  ⟨⟨none, .pick 46 (.t 29) (.c (.one (.d (.bool true)))) (.t 45)⟩, 8589934591, []⟩]

abbrev i_spec_WritesOk_r6 : List RO := [
  ⟨⟨none, .mov 2 (.c (.one (.d (.bool false))))⟩, 0, []⟩]

abbrev i_spec_WritesOk_r7 : List RO := [
  ⟨⟨none, .mov 11 (.t 3)⟩, 0, []⟩,
  ⟨⟨none, .bin 12 .add (.t 11) (.c (.one (.d (.int .i64 1))))⟩, 0, []⟩,
  ⟨⟨none, .mov 3 (.t 12)⟩, 0, []⟩]

abbrev i_spec_WritesOk_r8 : List RO := [
  ⟨⟨none, .mov 2 (.c (.one (.d (.bool true))))⟩, 0, []⟩]

def i_spec_WritesOk : IC := (.seq (.reg i_spec_WritesOk_r0)
  (.seq (.seq (.reg i_spec_WritesOk_r1)
  (.cond (.t 6) (.seq (.reg i_spec_WritesOk_r2)
  .ret) .skip))
  (.seq (.seq (.reg i_spec_WritesOk_r3)
  (.block 0 (.loop (.seq (.seq (.reg i_spec_WritesOk_r4)
  (.cond (.t 10) .skip (.exit 0)))
  (.seq (.block 1 (.seq (.regd i_spec_WritesOk_r5)
  (.cond (.t 46) (.seq (.reg i_spec_WritesOk_r6)
  .ret) .skip)))
  (.reg i_spec_WritesOk_r7))))))
  (.seq (.reg i_spec_WritesOk_r8)
  .ret))))

theorem i_spec_WritesOk_ok : (Try.f69.body.bind fun c => toIC Try.prog 47 c [[(0, []), (0, []), (3, []), (7, []), (15, []), (31, []), (63, []), (127, []), (255, []), (255, []), (1023, []), (2047, []), (4095, []), (8191, []), (16383, []), (32767, []), (65535, []), (131071, []), (262143, []), (524287, []), (1048575, []), (1048575, []), (3145727, []), (8388607, []), (16777215, []), (33554431, []), (1048575, []), (1048575, []), (202375167, []), (470810623, []), (1007681535, []), (2147483647, []), (4294967295, []), (8589934591, [])]]) = some (i_spec_WritesOk, []) := by kernel_rfl

theorem i_spec_WritesOk_fn {ds rs : List D} (hle : ds.length ≤ 47) (h : AW Try.prog 47 i_spec_WritesOk (Ends [.tmp 2] rs) (init ds)) : Fn Try.prog k_spec_WritesOk (lent ds) true rs :=
  Fn.intro' (by kernel_rfl) Try.func69 (by kernel_rfl) i_spec_WritesOk_ok (by kernel_rfl) hle h.h

theorem i_spec_WritesOk_fnB {ds rs : List D} (hle : ds.length ≤ 47) (h : AW Try.prog 47 i_spec_WritesOk (EndsB [.tmp 2] rs) (init ds)) : Fn Try.prog k_spec_WritesOk (lent ds) false rs :=
  Fn.introB' (by kernel_rfl) Try.func69 (by kernel_rfl) i_spec_WritesOk_ok (by kernel_rfl) hle h.h

abbrev i_spec_l16SeenOk_r0 : List RO := [
  ⟨⟨none, .mov 2 (.c (.one (.d (.bool false))))⟩, 0, []⟩]

abbrev i_spec_l16SeenOk_r1 : List RO := [
  ⟨⟨none, .mov 4 (.t 0)⟩, 0, []⟩,
  ⟨⟨none, .len 5 false (.t 4)⟩, 0, []⟩,
  ⟨⟨none, .bin 6 .gtr (.t 5) (.c (.one (.d (.int .i64 16))))⟩, 0, []⟩]

abbrev i_spec_l16SeenOk_r2 : List RO := [
  ⟨⟨none, .mov 2 (.c (.one (.d (.bool false))))⟩, 0, []⟩]

abbrev i_spec_l16SeenOk_r3 : List RO := [
  ⟨⟨none, .mov 3 (.c (.one (.d (.int .i64 0))))⟩, 0, []⟩]

abbrev i_spec_l16SeenOk_r4 : List RO := [
  ⟨⟨none, .mov 7 (.t 3)⟩, 0, []⟩,
  ⟨⟨none, .mov 8 (.t 0)⟩, 0, []⟩,
  ⟨⟨none, .len 9 false (.t 8)⟩, 0, []⟩,
  ⟨⟨none, .bin 10 .lss (.t 7) (.t 9)⟩, 0, []⟩]

abbrev i_spec_l16SeenOk_r5 : List RO := [
  ⟨⟨none, .mov 13 (.t 0)⟩, 0, []⟩,
  ⟨⟨none, .mov 14 (.t 3)⟩, 0, []⟩,
  ⟨⟨none, .iaddr 15 3 (.t 13) (.t 14)⟩, 3, []⟩,
  ⟨⟨none, .faddr 16 0 (.t 15)⟩, 7, []⟩,
  ⟨⟨none, .load 17 none (.t 16)⟩, 15, []⟩,
  ⟨⟨none, .callv 18 (.c (.one (.fn k_spec_l15Group []))) [(.t 17)]⟩, 31, []⟩,
  ⟨⟨none, .inv 19 (.t 18)⟩, 63, []⟩,
  ⟨⟨none, .mov 20 (.t 19)⟩, 127, []⟩,
  ⟨⟨some (20, false), .mov 21 (.t 0)⟩, 255, []⟩,
  ⟨⟨some (20, false), .mov 22 (.t 3)⟩, 255, []⟩,
  ⟨⟨some (20, false), .iaddr 23 3 (.t 21) (.t 22)⟩, 1023, []⟩,
  ⟨⟨some (20, false), .faddr 24 1 (.t 23)⟩, 2047, []⟩,
  ⟨⟨some (20, false), .load 25 none (.t 24)⟩, 4095, []⟩,
  ⟨⟨some (20, false), .mov 26 (.t 0)⟩, 255, []⟩,
  ⟨⟨some (20, false), .mov 27 (.t 3)⟩, 255, []⟩,
  ⟨⟨some (20, false), .iaddr 28 3 (.t 26) (.t 27)⟩, 24831, []⟩,
  ⟨⟨some (20, false), .faddr 29 2 (.t 28)⟩, 57599, []⟩,
  ⟨⟨some (20, false), .load 30 none (.t 29)⟩, 123135, []⟩,
  ⟨⟨some (20, false), .callv 31 (.c (.one (.fn k_spec_l16RangeOk []))) [(.t 25), (.t 30)]⟩, 262143, []⟩,
  ⟨⟨some (20, false), .inv 32 (.t 31)⟩, 524287, []⟩,
  ⟨⟨none, .pick 33 (.t 20) (.c (.one (.d (.bool true)))) (.t 32)⟩, 1048575, []⟩]

abbrev i_spec_l16SeenOk_r6 : List RO := [
  ⟨⟨none, .mov 2 (.c (.one (.d (.bool false))))⟩, 0, []⟩]

abbrev i_spec_l16SeenOk_r7 : List RO := [
  ⟨⟨none, .mov 11 (.t 3)⟩, 0, []⟩,
  ⟨⟨none, .bin 12 .add (.t 11) (.c (.one (.d (.int .i64 1))))⟩, 0, []⟩,
  ⟨⟨none, .mov 3 (.t 12)⟩, 0, []⟩]

abbrev i_spec_l16SeenOk_r8 : List RO := [
  ⟨⟨none, .mov 2 (.c (.one (.d (.bool true))))⟩, 0, []⟩]

def i_spec_l16SeenOk : IC := (.seq (.reg i_spec_l16SeenOk_r0)
  (.seq (.seq (.reg i_spec_l16SeenOk_r1)
  (.cond (.t 6) (.seq (.reg i_spec_l16SeenOk_r2)
  .ret) .skip))
  (.seq (.seq (.reg i_spec_l16SeenOk_r3)
  (.block 0 (.loop (.seq (.seq (.reg i_spec_l16SeenOk_r4)
  (.cond (.t 10) .skip (.exit 0)))
  (.seq (.block 1 (.seq (.regd i_spec_l16SeenOk_r5)
  (.cond (.t 33) (.seq (.reg i_spec_l16SeenOk_r6)
  .ret) .skip)))
  (.reg i_spec_l16SeenOk_r7))))))
  (.seq (.reg i_spec_l16SeenOk_r8)
  .ret))))

theorem i_spec_l16SeenOk_ok : (Try.f96.body.bind fun c => toIC Try.prog 34 c [[(0, []), (0, []), (3, []), (7, []), (15, []), (31, []), (63, []), (127, []), (255, []), (255, []), (1023, []), (2047, []), (4095, []), (255, []), (255, []), (24831, []), (57599, []), (123135, []), (262143, []), (524287, []), (1048575, [])]]) = some (i_spec_l16SeenOk, []) := by kernel_rfl

theorem i_spec_l16SeenOk_fn {ds rs : List D} (hle : ds.length ≤ 34) (h : AW Try.prog 34 i_spec_l16SeenOk (Ends [.tmp 2] rs) (init ds)) : Fn Try.prog k_spec_l16SeenOk (lent ds) true rs :=
  Fn.intro' (by kernel_rfl) Try.func96 (by kernel_rfl) i_spec_l16SeenOk_ok (by kernel_rfl) hle h.h

theorem i_spec_l16SeenOk_fnB {ds rs : List D} (hle : ds.length ≤ 34) (h : AW Try.prog 34 i_spec_l16SeenOk (EndsB [.tmp 2] rs) (init ds)) : Fn Try.prog k_spec_l16SeenOk (lent ds) false rs :=
  Fn.introB' (by kernel_rfl) Try.func96 (by kernel_rfl) i_spec_l16SeenOk_ok (by kernel_rfl) hle h.h

abbrev i_spec_PartsOk_r0 : List RO := [
  ⟨⟨none, .mov 2 (.c (.one (.d (.bool false))))⟩, 0, []⟩]

abbrev i_spec_PartsOk_r1 : List RO := [
  ⟨⟨none, .mov 6 (.t 0)⟩, 0, []⟩,
  ⟨⟨none, .len 7 false (.t 6)⟩, 0, []⟩,
  ⟨⟨none, .mov 3 (.t 7)⟩, 0, []⟩]

abbrev i_spec_PartsOk_r2 : List RO := [
  ⟨⟨none, .mov 8 (.t 3)⟩, 0, []⟩,
  ⟨⟨none, .callv 9 (.c (.one (.fn k_spec_l1In []))) [(.t 8), (.c (.one (.d (.int .i64 1)))), (.c (.one (.d (.int .i64 16))))]⟩, 0, []⟩,
  ⟨⟨none, .inv 10 (.t 9)⟩, 0, []⟩,
  ⟨⟨none, .mov 11 (.t 10)⟩, 0, []⟩,
  ⟨⟨some (11, false), .mov 12 (.t 0)⟩, 0, []⟩,
  ⟨⟨some (11, false), .iaddr 13 3 (.t 12) (.c (.one (.d (.int .i64 0))))⟩, 0, []⟩,
  ⟨⟨some (11, false), .faddr 14 0 (.t 13)⟩, 0, []⟩,
  ⟨⟨some (11, false), .load 15 none (.t 14)⟩, 0, []⟩,
  ⟨⟨some (11, false), .bin 16 .neq (.t 15) (.c (.one (.d (.int .i64 0))))⟩, 0, []⟩,
  ⟨⟨none, .pick 17 (.t 11) (.c (.one (.d (.bool true)))) (.t 16)⟩, 0, []⟩,
  ⟨⟨none, .mov 18 (.t 17)⟩, 0, []⟩,
  ⟨⟨some (18, false), .mov 19 (.t 0)⟩, 0, []⟩,
  ⟨⟨some (18, false), .mov 20 (.t 3)⟩, 0, []⟩,
  ⟨⟨some (18, false), .bin 21 .sub (.t 20) (.c (.one (.d (.int .i64 1))))⟩, 0, []⟩,
  ⟨⟨some (18, false), .iaddr 22 3 (.t 19) (.t 21)⟩, 0, []⟩,
  ⟨⟨some (18, false), .faddr 23 1 (.t 22)⟩, 0, []⟩,
  ⟨⟨some (18, false), .load 24 none (.t 23)⟩, 0, []⟩,
  ⟨⟨some (18, false), .bin 25 .neq (.t 24) (.c (.one (.d (.int .i64 1000))))⟩, 0, []⟩,
  ⟨⟨none, .pick 26 (.t 18) (.c (.one (.d (.bool true)))) (.t 25)⟩, 0, []⟩]

abbrev i_spec_PartsOk_r3 : List RO := [
  ⟨⟨none, .mov 2 (.c (.one (.d (.bool false))))⟩, 0, []⟩]

abbrev i_spec_PartsOk_r4 : List RO := [
  ⟨⟨none, .mov 4 (.c (.one (.d (.int .i64 0))))⟩, 0, []⟩]

abbrev i_spec_PartsOk_r5 : List RO := [
  ⟨⟨none, .mov 27 (.t 4)⟩, 0, []⟩,
  ⟨⟨none, .mov 28 (.t 3)⟩, 0, []⟩,
  ⟨⟨none, .bin 29 .lss (.t 27) (.t 28)⟩, 0, []⟩]

abbrev i_spec_PartsOk_r6 : List RO := [
  ⟨⟨none, .mov 32 (.t 0)⟩, 0, []⟩,
  ⟨⟨none, .mov 33 (.t 4)⟩, 0, []⟩,
  ⟨⟨none, .iaddr 34 3 (.t 32) (.t 33)⟩, 0, []⟩,
  ⟨⟨none, .load 35 (some 3) (.t 34)⟩, 0, []⟩,
  ⟨⟨none, .var 5 [(.d (.int .i64 0)), (.d (.int .i64 0)), (.d (.int .i64 0))]⟩, 0, []⟩,
  ⟨⟨none, .store 3 [(.int .i64 0), (.int .i64 0), (.int .i64 0)] (.t 5) (.t 35)⟩, 0, []⟩]

abbrev i_spec_PartsOk_r7 : List RO := [
  ⟨⟨none, .faddr 36 0 (.t 5)⟩, 0, []⟩,
  ⟨⟨none, .load 37 none (.t 36)⟩, 1, []⟩,
  ⟨⟨none, .faddr 38 1 (.t 5)⟩, 0, []⟩,
  ⟨⟨none, .load 39 none (.t 38)⟩, 4, []⟩,
  ⟨⟨none, .bin 40 .geq (.t 37) (.t 39)⟩, 15, []⟩,
  ⟨⟨none, .mov 41 (.t 40)⟩, 31, []⟩,
  ⟨⟨some (41, false), .faddr 42 0 (.t 5)⟩, 63, []⟩,
  ⟨⟨some (41, false), .load 43 none (.t 42)⟩, 127, []⟩,
  ⟨⟨some (41, false), .bin 44 .lss (.t 43) (.c (.one (.d (.int .i64 0))))⟩, 255, []⟩,
  ⟨⟨none, .pick 45 (.t 41) (.c (.one (.d (.bool true)))) (.t 44)⟩, 511, []⟩,
  ⟨⟨none, .mov 46 (.t 45)⟩, 1023, []⟩,
  ⟨⟨some (46, false), .faddr 47 1 (.t 5)⟩, 2047, []⟩,
  ⟨⟨some (46, false), .load 48 none (.t 47)⟩, 4095, []⟩,
  ⟨⟨some (46, false), .bin 49 .gtr (.t 48) (.c (.one (.d (.int .i64 1000))))⟩, 8191, []⟩,
  ⟨⟨none, .pick 50 (.t 46) (.c (.one (.d (.bool true)))) (.t 49)⟩, 16383, []⟩,
  ⟨⟨none, .mov 51 (.t 50)⟩, 32767, []⟩,
  ⟨⟨some (51, false), .faddr 52 2 (.t 5)⟩, 65535, []⟩,
  ⟨⟨some (51, false), .load 53 none (.t 52)⟩, 131071, []⟩,
  ⟨⟨some (51, false), .callv 54 (.c (.one (.fn k_spec_l1In []))) [(.t 53), (.c (.one (.d (.int .i64 0)))), (.c (.one (.d (.int .i64 3))))]⟩, 262143, []⟩,
  ⟨⟨some (51, false), .inv 55 (.t 54)⟩, 524287, []⟩,
  ⟨⟨none, .pick 56 (.t 51) (.c (.one (.d (.bool true)))) (.t 55)⟩, 1048575, []⟩,
  ⟨⟨none, .mov 57 (.t 56)⟩, 2097151, []⟩,
  ⟨⟨some (57, false), .mov 58 (.t 4)⟩, 4194303, []⟩,
  ⟨⟨some (57, false), .bin 59 .gtr (.t 58) (.c (.one (.d (.int .i64 0))))⟩, 8388607, []⟩,
  ⟨⟨some (57, false), .mov 60 (.t 59)⟩, 16777215, []⟩,
  ⟨⟨some (60, true), .mov 61 (.t 0)⟩, 33554431, []⟩,
  ⟨⟨some (60, true), .mov 62 (.t 4)⟩, 33554431, []⟩,
  ⟨⟨some (60, true), .bin 63 .sub (.t 62) (.c (.one (.d (.int .i64 1))))⟩, 100663295, []⟩,
  ⟨⟨some (60, true), .iaddr 64 3 (.t 61) (.t 63)⟩, 268435455, []⟩,
  ⟨⟨some (60, true), .faddr 65 1 (.t 64)⟩, 536870911, []⟩,
  ⟨⟨some (60, true), .load 66 none (.t 65)⟩, 1073741823, []⟩,
  ⟨⟨some (60, true), .faddr 67 0 (.t 5)⟩, 33554431, []⟩,
  ⟨⟨some (60, true), .load 68 none (.t 67)⟩, 2181038079, []⟩,
  ⟨⟨some (60, true), .bin 69 .neq (.t 66) (.t 68)⟩, 8589934591, []⟩,
  ⟨⟨some (57, false), .pick 70 (.t 60) (.t 69) (.c (.one (.d (.bool false))))⟩, 17179869183, []⟩,
  ⟨⟨none, .pick 71 (.t 57) (.c (.one (.d (.bool true)))) (.t 70)⟩, 34359738367, []⟩]

abbrev i_spec_PartsOk_r8 : List RO := [
  ⟨⟨none, .mov 2 (.c (.one (.d (.bool false))))⟩, 0, []⟩]

abbrev i_spec_PartsOk_r9 : List RO := [
  ⟨⟨none, .mov 30 (.t 4)⟩, 0, []⟩,
  ⟨⟨none, .bin 31 .add (.t 30) (.c (.one (.d (.int .i64 1))))⟩, 0, []⟩,
  ⟨⟨none, .mov 4 (.t 31)⟩, 0, []⟩]

abbrev i_spec_PartsOk_r10 : List RO := [
  ⟨⟨none, .mov 2 (.c (.one (.d (.bool true))))⟩, 0, []⟩]

def i_spec_PartsOk : IC := (.seq (.reg i_spec_PartsOk_r0)
  (.seq (.reg i_spec_PartsOk_r1)
  (.seq (.seq (.reg i_spec_PartsOk_r2)
  (.cond (.t 26) (.seq (.reg i_spec_PartsOk_r3)
  .ret) .skip))
  (.seq (.seq (.reg i_spec_PartsOk_r4)
  (.block 0 (.loop (.seq (.seq (.reg i_spec_PartsOk_r5)
  (.cond (.t 29) .skip (.exit 0)))
  (.seq (.block 1 (.seq (.reg i_spec_PartsOk_r6)
  (.seq (.regd i_spec_PartsOk_r7)
  (.cond (.t 71) (.seq (.reg i_spec_PartsOk_r8)
  .ret) .skip))))
  (.reg i_spec_PartsOk_r9))))))
  (.seq (.reg i_spec_PartsOk_r10)
  .ret)))))

theorem i_spec_PartsOk_ok : (Try.f79.body.bind fun c => toIC Try.prog 72 c [[(0, []), (1, []), (0, []), (4, []), (15, []), (31, []), (63, []), (127, []), (255, []), (511, []), (1023, []), (2047, []), (4095, []), (8191, []), (16383, []), (32767, []), (65535, []), (131071, []), (262143, []), (524287, []), (1048575, []), (2097151, []), (4194303, []), (8388607, []), (16777215, []), (33554431, []), (33554431, []), (100663295, []), (268435455, []), (536870911, []), (1073741823, []), (33554431, []), (2181038079, []), (8589934591, []), (17179869183, []), (34359738367, [])]]) = some (i_spec_PartsOk, []) := by kernel_rfl

theorem i_spec_PartsOk_fn {ds rs : List D} (hle : ds.length ≤ 72) (h : AW Try.prog 72 i_spec_PartsOk (Ends [.tmp 2] rs) (init ds)) : Fn Try.prog k_spec_PartsOk (lent ds) true rs :=
  Fn.intro' (by kernel_rfl) Try.func79 (by kernel_rfl) i_spec_PartsOk_ok (by kernel_rfl) hle h.h

theorem i_spec_PartsOk_fnB {ds rs : List D} (hle : ds.length ≤ 72) (h : AW Try.prog 72 i_spec_PartsOk (EndsB [.tmp 2] rs) (init ds)) : Fn Try.prog k_spec_PartsOk (lent ds) false rs :=
  Fn.introB' (by kernel_rfl) Try.func79 (by kernel_rfl) i_spec_PartsOk_ok (by kernel_rfl) hle h.h

abbrev i_spec_ClientOk_r0 : List RO := [
  ⟨⟨none, .box 1 (.t 0)⟩, 0, []⟩,
  ⟨⟨none, .mov 2 (.c (.one (.d (.bool false))))⟩, 0, []⟩]

abbrev i_spec_ClientOk_r1 : List RO := [
  ⟨⟨none, .faddr 4 0 (.t 1)⟩, 0, []⟩,
  ⟨⟨none, .load 5 none (.t 4)⟩, 0, []⟩,
  ⟨⟨none, .callv 6 (.c (.one (.fn k_spec_l1In []))) [(.t 5), (.c (.one (.d (.int .i64 0)))), (.c (.one (.d (.int .i64 5))))]⟩, 0, []⟩,
  ⟨⟨none, .inv 7 (.t 6)⟩, 0, []⟩,
  ⟨⟨none, .mov 8 (.t 7)⟩, 0, []⟩,
  ⟨⟨some (8, false), .faddr 9 2 (.t 1)⟩, 0, []⟩,
  ⟨⟨some (8, false), .load 10 none (.t 9)⟩, 0, []⟩,
  ⟨⟨some (8, false), .callv 11 (.c (.one (.fn k_spec_l1Whole []))) [(.t 10)]⟩, 0, []⟩,
  ⟨⟨some (8, false), .inv 12 (.t 11)⟩, 0, []⟩,
  ⟨⟨none, .pick 13 (.t 8) (.c (.one (.d (.bool true)))) (.t 12)⟩, 0, []⟩,
  ⟨⟨none, .mov 14 (.t 13)⟩, 0, []⟩,
  ⟨⟨some (14, false), .faddr 15 0 (.t 1)⟩, 0, []⟩,
  ⟨⟨some (14, false), .load 16 none (.t 15)⟩, 0, []⟩,
  ⟨⟨some (14, false), .bin 17 .neq (.t 16) (.c (.one (.d (.int .i64 0))))⟩, 0, []⟩,
  ⟨⟨some (14, false), .mov 18 (.t 17)⟩, 0, []⟩,
  ⟨⟨some (18, true), .faddr 19 2 (.t 1)⟩, 0, []⟩,
  ⟨⟨some (18, true), .load 20 none (.t 19)⟩, 0, []⟩,
  ⟨⟨some (18, true), .bin 21 .eql (.t 20) (.c (.one (.d (.int .i64 0))))⟩, 0, []⟩,
  ⟨⟨some (14, false), .pick 22 (.t 18) (.t 21) (.c (.one (.d (.bool false))))⟩, 0, []⟩,
  ⟨⟨none, .pick 23 (.t 14) (.c (.one (.d (.bool true)))) (.t 22)⟩, 0, []⟩]

abbrev i_spec_ClientOk_r2 : List RO := [
  ⟨⟨none, .mov 2 (.c (.one (.d (.bool false))))⟩, 0, []⟩]

abbrev i_spec_ClientOk_r3 : List RO := [
  ⟨⟨none, .faddr 24 5 (.t 1)⟩, 0, []⟩,
  ⟨⟨none, .load 25 none (.t 24)⟩, 0, []⟩,
  ⟨⟨none, .bin 26 .eql (.t 25) (.c (.one (.d (.int .i64 0))))⟩, 0, []⟩,
  ⟨⟨none, .mov 27 (.t 26)⟩, 0, []⟩,
  ⟨⟨some (27, true), .faddr 28 6 (.t 1)⟩, 0, []⟩,
  ⟨⟨some (27, true), .load 29 none (.t 28)⟩, 0, []⟩,
  ⟨⟨some (27, true), .bin 30 .eql (.t 29) (.c (.one (.d (.int .i64 0))))⟩, 0, []⟩,
  ⟨⟨none, .pick 31 (.t 27) (.t 30) (.c (.one (.d (.bool false))))⟩, 0, []⟩,
  ⟨⟨none, .mov 32 (.t 31)⟩, 0, []⟩,
  ⟨⟨some (32, true), .faddr 33 7 (.t 1)⟩, 0, []⟩,
  ⟨⟨some (32, true), .load 34 none (.t 33)⟩, 0, []⟩,
  ⟨⟨some (32, true), .bin 35 .eql (.t 34) (.c (.one (.d (.int .i64 0))))⟩, 0, []⟩,
  ⟨⟨none, .pick 36 (.t 32) (.t 35) (.c (.one (.d (.bool false))))⟩, 0, []⟩,
  ⟨⟨none, .mov 3 (.t 36)⟩, 0, []⟩]

abbrev i_spec_ClientOk_r4 : List RO := [
  ⟨⟨none, .faddr 37 0 (.t 1)⟩, 0, []⟩,
  ⟨⟨none, .load 38 none (.t 37)⟩, 0, []⟩,
  ⟨⟨none, .bin 39 .lss (.t 38) (.c (.one (.d (.int .i64 2))))⟩, 0, []⟩]

abbrev i_spec_ClientOk_r5 : List RO := [
  ⟨⟨none, .mov 40 (.t 3)⟩, 0, []⟩,
  ⟨⟨none, .mov 41 (.t 40)⟩, 0, []⟩,
  ⟨⟨some (41, true), .faddr 42 1 (.t 1)⟩, 0, []⟩,
  ⟨⟨some (41, true), .load 43 none (.t 42)⟩, 0, []⟩,
  ⟨⟨some (41, true), .bin 44 .eql (.t 43) (.c (.one (.d (.int .i64 0))))⟩, 0, []⟩,
  ⟨⟨none, .pick 45 (.t 41) (.t 44) (.c (.one (.d (.bool false))))⟩, 0, []⟩,
  ⟨⟨none, .mov 46 (.t 45)⟩, 0, []⟩,
  ⟨⟨some (46, true), .faddr 47 3 (.t 1)⟩, 0, []⟩,
  ⟨⟨some (46, true), .load 48 none (.t 47)⟩, 0, []⟩,
  ⟨⟨some (46, true), .len 49 false (.t 48)⟩, 0, []⟩,
  ⟨⟨some (46, true), .bin 50 .eql (.t 49) (.c (.one (.d (.int .i64 0))))⟩, 0, []⟩,
  ⟨⟨none, .pick 51 (.t 46) (.t 50) (.c (.one (.d (.bool false))))⟩, 0, []⟩,
  ⟨⟨none, .mov 52 (.t 51)⟩, 0, []⟩,
  ⟨⟨some (52, true), .faddr 53 4 (.t 1)⟩, 0, []⟩,
  ⟨⟨some (52, true), .load 54 none (.t 53)⟩, 0, []⟩,
  ⟨⟨some (52, true), .len 55 false (.t 54)⟩, 0, []⟩,
  ⟨⟨some (52, true), .bin 56 .eql (.t 55) (.c (.one (.d (.int .i64 0))))⟩, 0, []⟩,
  ⟨⟨none, .pick 57 (.t 52) (.t 56) (.c (.one (.d (.bool false))))⟩, 0, []⟩,
  ⟨⟨none, .mov 58 (.t 57)⟩, 0, []⟩,
  ⟨⟨some (58, true), .faddr 59 8 (.t 1)⟩, 0, []⟩,
  ⟨⟨some (58, true), .load 60 none (.t 59)⟩, 0, []⟩,
  ⟨⟨some (58, true), .len 61 false (.t 60)⟩, 0, []⟩,
  ⟨⟨some (58, true), .bin 62 .eql (.t 61) (.c (.one (.d (.int .i64 0))))⟩, 0, []⟩,
  ⟨⟨none, .pick 63 (.t 58) (.t 62) (.c (.one (.d (.bool false))))⟩, 0, []⟩,
  ⟨⟨none, .mov 2 (.t 63)⟩, 0, []⟩]

abbrev i_spec_ClientOk_r6 : List RO := [
  ⟨⟨none, .faddr 64 0 (.t 1)⟩, 0, []⟩,
  ⟨⟨none, .load 65 none (.t 64)⟩, 0, []⟩,
  ⟨⟨none, .bin 66 .eql (.t 65) (.c (.one (.d (.int .i64 3))))⟩, 0, []⟩]

abbrev i_spec_ClientOk_r7 : List RO := [
  ⟨⟨none, .faddr 67 5 (.t 1)⟩, 0, []⟩,
  ⟨⟨none, .load 68 none (.t 67)⟩, 0, []⟩,
  ⟨⟨none, .faddr 69 6 (.t 1)⟩, 0, []⟩,
  ⟨⟨none, .load 70 none (.t 69)⟩, 0, []⟩,
  ⟨⟨none, .callv 71 (.c (.one (.fn k_spec_l16RangeOk []))) [(.t 68), (.t 70)]⟩, 0, []⟩,
  ⟨⟨none, .mov 72 (.t 71)⟩, 0, []⟩,
  ⟨⟨some (72, true), .faddr 73 7 (.t 1)⟩, 0, []⟩,
  ⟨⟨some (72, true), .load 74 none (.t 73)⟩, 0, []⟩,
  ⟨⟨some (72, true), .callv 75 (.c (.one (.fn k_spec_l15Group []))) [(.t 74)]⟩, 0, []⟩,
  ⟨⟨none, .pick 76 (.t 72) (.t 75) (.c (.one (.d (.bool false))))⟩, 0, []⟩,
  ⟨⟨none, .mov 3 (.t 76)⟩, 0, []⟩]

abbrev i_spec_ClientOk_r8 : List RO := [
  ⟨⟨none, .mov 77 (.t 3)⟩, 0, []⟩,
  ⟨⟨none, .mov 78 (.t 77)⟩, 0, []⟩,
  ⟨⟨some (78, true), .faddr 79 1 (.t 1)⟩, 0, []⟩,
  ⟨⟨some (78, true), .load 80 none (.t 79)⟩, 0, []⟩,
  ⟨⟨some (78, true), .callv 81 (.c (.one (.fn k_spec_l12Tx []))) [(.t 80)]⟩, 0, []⟩,
  ⟨⟨none, .pick 82 (.t 78) (.t 81) (.c (.one (.d (.bool false))))⟩, 0, []⟩,
  ⟨⟨none, .mov 83 (.t 82)⟩, 0, []⟩,
  ⟨⟨some (83, true), .faddr 84 3 (.t 1)⟩, 0, []⟩,
  ⟨⟨some (83, true), .load 85 none (.t 84)⟩, 0, []⟩,
  ⟨⟨some (83, true), .callv 86 (.c (.one (.fn k_spec_WritesOk []))) [(.t 85)]⟩, 0, []⟩,
  ⟨⟨none, .pick 87 (.t 83) (.t 86) (.c (.one (.d (.bool false))))⟩, 0, []⟩,
  ⟨⟨none, .mov 88 (.t 87)⟩, 0, []⟩,
  ⟨⟨some (88, true), .faddr 89 4 (.t 1)⟩, 0, []⟩,
  ⟨⟨some (88, true), .load 90 none (.t 89)⟩, 0, []⟩,
  ⟨⟨some (88, true), .callv 91 (.c (.one (.fn k_spec_l16SeenOk []))) [(.t 90)]⟩, 0, []⟩,
  ⟨⟨none, .pick 92 (.t 88) (.t 91) (.c (.one (.d (.bool false))))⟩, 0, []⟩,
  ⟨⟨none, .mov 93 (.t 92)⟩, 0, []⟩,
  ⟨⟨some (93, true), .faddr 94 8 (.t 1)⟩, 0, []⟩,
  ⟨⟨some (93, true), .load 95 none (.t 94)⟩, 0, []⟩,
  ⟨⟨some (93, true), .callv 96 (.c (.one (.fn k_spec_PartsOk []))) [(.t 95)]⟩, 0, []⟩,
  ⟨⟨none, .pick 97 (.t 93) (.t 96) (.c (.one (.d (.bool false))))⟩, 0, []⟩,
  ⟨⟨none, .mov 2 (.t 97)⟩, 0, []⟩]

def i_spec_ClientOk : IC := (.seq (.reg i_spec_ClientOk_r0)
  (.seq (.seq (.reg i_spec_ClientOk_r1)
  (.cond (.t 23) (.seq (.reg i_spec_ClientOk_r2)
  .ret) .skip))
  (.seq (.reg i_spec_ClientOk_r3)
  (.seq (.seq (.reg i_spec_ClientOk_r4)
  (.cond (.t 39) (.seq (.reg i_spec_ClientOk_r5)
  .ret) .skip))
  (.seq (.seq (.reg i_spec_ClientOk_r6)
  (.cond (.t 66) (.reg i_spec_ClientOk_r7) .skip))
  (.seq (.reg i_spec_ClientOk_r8)
  .ret))))))

theorem i_spec_ClientOk_ok : (Try.f27.body.bind fun c => toIC Try.prog 98 c []) = some (i_spec_ClientOk, []) := by kernel_rfl

theorem i_spec_ClientOk_fn {ds rs : List D} (hle : ds.length ≤ 98) (h : AW Try.prog 98 i_spec_ClientOk (Ends [.tmp 2] rs) (init ds)) : Fn Try.prog k_spec_ClientOk (lent ds) true rs :=
  Fn.intro' (by kernel_rfl) Try.func27 (by kernel_rfl) i_spec_ClientOk_ok (by kernel_rfl) hle h.h

theorem i_spec_ClientOk_fnB {ds rs : List D} (hle : ds.length ≤ 98) (h : AW Try.prog 98 i_spec_ClientOk (EndsB [.tmp 2] rs) (init ds)) : Fn Try.prog k_spec_ClientOk (lent ds) false rs :=
  Fn.introB' (by kernel_rfl) Try.func27 (by kernel_rfl) i_spec_ClientOk_ok (by kernel_rfl) hle h.h

abbrev i_impl_from_r0 : List RO := [
  ⟨⟨none, .mov 6 (.c (.one (.d (.bool false))))⟩, 0, []⟩]

abbrev i_impl_from_r1 : List RO := [
  ⟨⟨none, .mov 7 (.t 0)⟩, 0, []⟩,
  ⟨⟨none, .mov 8 (.t 1)⟩, 0, []⟩,
  ⟨⟨none, .bin 9 .geq (.t 7) (.t 8)⟩, 0, []⟩,
  ⟨⟨none, .mov 10 (.t 9)⟩, 0, []⟩,
  ⟨⟨some (10, true), .mov 11 (.t 0)⟩, 0, []⟩,
  ⟨⟨some (10, true), .mov 12 (.t 2)⟩, 0, []⟩,
  ⟨⟨some (10, true), .bin 13 .leq (.t 11) (.t 12)⟩, 0, []⟩,
  ⟨⟨none, .pick 14 (.t 10) (.t 13) (.c (.one (.d (.bool false))))⟩, 0, []⟩,
  ⟨⟨none, .mov 6 (.t 14)⟩, 0, []⟩]

def i_impl_from : IC := (.seq (.reg i_impl_from_r0)
  (.seq (.reg i_impl_from_r1)
  .ret))

theorem i_impl_from_ok : (Try.f75.body.bind fun c => toIC Try.prog 15 c []) = some (i_impl_from, []) := by kernel_rfl

theorem i_impl_from_fn {ds rs : List D} (hle : ds.length ≤ 15) (h : AW Try.prog 15 i_impl_from (Ends [.tmp 6] rs) (init ds)) : Fn Try.prog k_impl_from (lent ds) true rs :=
  Fn.intro' (by kernel_rfl) Try.func75 (by kernel_rfl) i_impl_from_ok (by kernel_rfl) hle h.h

theorem i_impl_from_fnB {ds rs : List D} (hle : ds.length ≤ 15) (h : AW Try.prog 15 i_impl_from (EndsB [.tmp 6] rs) (init ds)) : Fn Try.prog k_impl_from (lent ds) false rs :=
  Fn.introB' (by kernel_rfl) Try.func75 (by kernel_rfl) i_impl_from_ok (by kernel_rfl) hle h.h

abbrev i_impl_isWhole_r0 : List RO := [
  ⟨⟨none, .mov 2 (.c (.one (.d (.bool false))))⟩, 0, []⟩]

abbrev i_impl_isWhole_r1 : List RO := [
  ⟨⟨none, .mov 3 (.t 0)⟩, 0, []⟩,
  ⟨⟨none, .callv 4 (.c (.one (.fn k_impl_from []))) [(.t 3), (.c (.one (.d (.int .i64 0)))), (.c (.one (.d (.int .i64 1000000000))))]⟩, 0, []⟩,
  ⟨⟨none, .mov 2 (.t 4)⟩, 0, []⟩]

def i_impl_isWhole : IC := (.seq (.reg i_impl_isWhole_r0)
  (.seq (.reg i_impl_isWhole_r1)
  .ret))

theorem i_impl_isWhole_ok : (Try.f99.body.bind fun c => toIC Try.prog 5 c []) = some (i_impl_isWhole, []) := by kernel_rfl

theorem i_impl_isWhole_fn {ds rs : List D} (hle : ds.length ≤ 5) (h : AW Try.prog 5 i_impl_isWhole (Ends [.tmp 2] rs) (init ds)) : Fn Try.prog k_impl_isWhole (lent ds) true rs :=
  Fn.intro' (by kernel_rfl) Try.func99 (by kernel_rfl) i_impl_isWhole_ok (by kernel_rfl) hle h.h

theorem i_impl_isWhole_fnB {ds rs : List D} (hle : ds.length ≤ 5) (h : AW Try.prog 5 i_impl_isWhole (EndsB [.tmp 2] rs) (init ds)) : Fn Try.prog k_impl_isWhole (lent ds) false rs :=
  Fn.introB' (by kernel_rfl) Try.func99 (by kernel_rfl) i_impl_isWhole_ok (by kernel_rfl) hle h.h

abbrev i_impl_RangeOk_r0 : List RO := [
  ⟨⟨none, .box 1 (.t 0)⟩, 0, []⟩,
  ⟨⟨none, .mov 2 (.c (.one (.d (.bool false))))⟩, 0, []⟩]

abbrev i_impl_RangeOk_r1 : List RO := [
  ⟨⟨none, .faddr 3 0 (.t 1)⟩, 0, []⟩,
  ⟨⟨none, .load 4 none (.t 3)⟩, 0, []⟩,
  ⟨⟨none, .bin 5 .geq (.t 4) (.c (.one (.d (.int .i64 0))))⟩, 0, []⟩,
  ⟨⟨none, .mov 6 (.t 5)⟩, 0, []⟩,
  ⟨⟨some (6, true), .faddr 7 0 (.t 1)⟩, 0, []⟩,
  ⟨⟨some (6, true), .load 8 none (.t 7)⟩, 0, []⟩,
  ⟨⟨some (6, true), .faddr 9 1 (.t 1)⟩, 0, []⟩,
  ⟨⟨some (6, true), .load 10 none (.t 9)⟩, 0, []⟩,
  ⟨⟨some (6, true), .bin 11 .lss (.t 8) (.t 10)⟩, 0, []⟩,
  ⟨⟨none, .pick 12 (.t 6) (.t 11) (.c (.one (.d (.bool false))))⟩, 0, []⟩,
  ⟨⟨none, .mov 13 (.t 12)⟩, 0, []⟩,
  ⟨⟨some (13, true), .faddr 14 1 (.t 1)⟩, 0, []⟩,
  ⟨⟨some (13, true), .load 15 none (.t 14)⟩, 0, []⟩,
  ⟨⟨some (13, true), .bin 16 .leq (.t 15) (.c (.one (.d (.int .i64 1000))))⟩, 0, []⟩,
  ⟨⟨none, .pick 17 (.t 13) (.t 16) (.c (.one (.d (.bool false))))⟩, 0, []⟩,
  ⟨⟨none, .mov 2 (.t 17)⟩, 0, []⟩]

def i_impl_RangeOk : IC := (.seq (.reg i_impl_RangeOk_r0)
  (.seq (.reg i_impl_RangeOk_r1)
  .ret))

theorem i_impl_RangeOk_ok : (Try.f100.body.bind fun c => toIC Try.prog 18 c []) = some (i_impl_RangeOk, []) := by kernel_rfl

theorem i_impl_RangeOk_fn {ds rs : List D} (hle : ds.length ≤ 18) (h : AW Try.prog 18 i_impl_RangeOk (Ends [.tmp 2] rs) (init ds)) : Fn Try.prog k_impl_RangeOk (lent ds) true rs :=
  Fn.intro' (by kernel_rfl) Try.func100 (by kernel_rfl) i_impl_RangeOk_ok (by kernel_rfl) hle h.h

theorem i_impl_RangeOk_fnB {ds rs : List D} (hle : ds.length ≤ 18) (h : AW Try.prog 18 i_impl_RangeOk (EndsB [.tmp 2] rs) (init ds)) : Fn Try.prog k_impl_RangeOk (lent ds) false rs :=
  Fn.introB' (by kernel_rfl) Try.func100 (by kernel_rfl) i_impl_RangeOk_ok (by kernel_rfl) hle h.h

abbrev i_impl_isGroup_r0 : List RO := [
  ⟨⟨none, .mov 2 (.c (.one (.d (.bool false))))⟩, 0, []⟩]

abbrev i_impl_isGroup_r1 : List RO := [
  ⟨⟨none, .mov 3 (.t 0)⟩, 0, []⟩,
  ⟨⟨none, .callv 4 (.c (.one (.fn k_impl_from []))) [(.t 3), (.c (.one (.d (.int .i64 0)))), (.c (.one (.d (.int .i64 3))))]⟩, 0, []⟩,
  ⟨⟨none, .mov 2 (.t 4)⟩, 0, []⟩]

def i_impl_isGroup : IC := (.seq (.reg i_impl_isGroup_r0)
  (.seq (.reg i_impl_isGroup_r1)
  .ret))

theorem i_impl_isGroup_ok : (Try.f72.body.bind fun c => toIC Try.prog 5 c []) = some (i_impl_isGroup, []) := by kernel_rfl

theorem i_impl_isGroup_fn {ds rs : List D} (hle : ds.length ≤ 5) (h : AW Try.prog 5 i_impl_isGroup (Ends [.tmp 2] rs) (init ds)) : Fn Try.prog k_impl_isGroup (lent ds) true rs :=
  Fn.intro' (by kernel_rfl) Try.func72 (by kernel_rfl) i_impl_isGroup_ok (by kernel_rfl) hle h.h

theorem i_impl_isGroup_fnB {ds rs : List D} (hle : ds.length ≤ 5) (h : AW Try.prog 5 i_impl_isGroup (EndsB [.tmp 2] rs) (init ds)) : Fn Try.prog k_impl_isGroup (lent ds) false rs :=
  Fn.introB' (by kernel_rfl) Try.func72 (by kernel_rfl) i_impl_isGroup_ok (by kernel_rfl) hle h.h

abbrev i_impl_isTx_r0 : List RO := [
  ⟨⟨none, .mov 2 (.c (.one (.d (.bool false))))⟩, 0, []⟩]

abbrev i_impl_isTx_r1 : List RO := [
  ⟨⟨none, .mov 3 (.t 0)⟩, 0, []⟩,
  ⟨⟨none, .callv 4 (.c (.one (.fn k_impl_from []))) [(.t 3), (.c (.one (.d (.int .i64 1)))), (.c (.one (.d (.int .i64 60))))]⟩, 0, []⟩,
  ⟨⟨none, .mov 2 (.t 4)⟩, 0, []⟩]

def i_impl_isTx : IC := (.seq (.reg i_impl_isTx_r0)
  (.seq (.reg i_impl_isTx_r1)
  .ret))

theorem i_impl_isTx_ok : (Try.f101.body.bind fun c => toIC Try.prog 5 c []) = some (i_impl_isTx, []) := by kernel_rfl

theorem i_impl_isTx_fn {ds rs : List D} (hle : ds.length ≤ 5) (h : AW Try.prog 5 i_impl_isTx (Ends [.tmp 2] rs) (init ds)) : Fn Try.prog k_impl_isTx (lent ds) true rs :=
  Fn.intro' (by kernel_rfl) Try.func101 (by kernel_rfl) i_impl_isTx_ok (by kernel_rfl) hle h.h

theorem i_impl_isTx_fnB {ds rs : List D} (hle : ds.length ≤ 5) (h : AW Try.prog 5 i_impl_isTx (EndsB [.tmp 2] rs) (init ds)) : Fn Try.prog k_impl_isTx (lent ds) false rs :=
  Fn.introB' (by kernel_rfl) Try.func101 (by kernel_rfl) i_impl_isTx_ok (by kernel_rfl) hle h.h

abbrev i_impl_isKey_r0 : List RO := [
  ⟨⟨none, .mov 2 (.c (.one (.d (.bool false))))⟩, 0, []⟩]

abbrev i_impl_isKey_r1 : List RO := [
  ⟨⟨none, .mov 3 (.t 0)⟩, 0, []⟩,
  ⟨⟨none, .callv 4 (.c (.one (.fn k_impl_from []))) [(.t 3), (.c (.one (.d (.int .i64 0)))), (.c (.one (.d (.int .i64 999))))]⟩, 0, []⟩,
  ⟨⟨none, .mov 2 (.t 4)⟩, 0, []⟩]

def i_impl_isKey : IC := (.seq (.reg i_impl_isKey_r0)
  (.seq (.reg i_impl_isKey_r1)
  .ret))

theorem i_impl_isKey_ok : (Try.f169.body.bind fun c => toIC Try.prog 5 c []) = some (i_impl_isKey, []) := by kernel_rfl

theorem i_impl_isKey_fn {ds rs : List D} (hle : ds.length ≤ 5) (h : AW Try.prog 5 i_impl_isKey (Ends [.tmp 2] rs) (init ds)) : Fn Try.prog k_impl_isKey (lent ds) true rs :=
  Fn.intro' (by kernel_rfl) Try.func169 (by kernel_rfl) i_impl_isKey_ok (by kernel_rfl) hle h.h

theorem i_impl_isKey_fnB {ds rs : List D} (hle : ds.length ≤ 5) (h : AW Try.prog 5 i_impl_isKey (EndsB [.tmp 2] rs) (init ds)) : Fn Try.prog k_impl_isKey (lent ds) false rs :=
  Fn.introB' (by kernel_rfl) Try.func169 (by kernel_rfl) i_impl_isKey_ok (by kernel_rfl) hle h.h

abbrev i_impl_isAnswer_r0 : List RO := [
  ⟨⟨none, .mov 2 (.c (.one (.d (.bool false))))⟩, 0, []⟩]

abbrev i_impl_isAnswer_r1 : List RO := [
  ⟨⟨none, .mov 3 (.t 0)⟩, 0, []⟩,
  ⟨⟨none, .callv 4 (.c (.one (.fn k_impl_from []))) [(.t 3), (.c (.one (.d (.int .i64 (-1))))), (.c (.one (.d (.int .i64 1000000000))))]⟩, 0, []⟩,
  ⟨⟨none, .mov 2 (.t 4)⟩, 0, []⟩]

def i_impl_isAnswer : IC := (.seq (.reg i_impl_isAnswer_r0)
  (.seq (.reg i_impl_isAnswer_r1)
  .ret))

theorem i_impl_isAnswer_ok : (Try.f170.body.bind fun c => toIC Try.prog 5 c []) = some (i_impl_isAnswer, []) := by kernel_rfl

theorem i_impl_isAnswer_fn {ds rs : List D} (hle : ds.length ≤ 5) (h : AW Try.prog 5 i_impl_isAnswer (Ends [.tmp 2] rs) (init ds)) : Fn Try.prog k_impl_isAnswer (lent ds) true rs :=
  Fn.intro' (by kernel_rfl) Try.func170 (by kernel_rfl) i_impl_isAnswer_ok (by kernel_rfl) hle h.h

theorem i_impl_isAnswer_fnB {ds rs : List D} (hle : ds.length ≤ 5) (h : AW Try.prog 5 i_impl_isAnswer (EndsB [.tmp 2] rs) (init ds)) : Fn Try.prog k_impl_isAnswer (lent ds) false rs :=
  Fn.introB' (by kernel_rfl) Try.func170 (by kernel_rfl) i_impl_isAnswer_ok (by kernel_rfl) hle h.h

abbrev i_impl_WritesOk_r0 : List RO := [
  ⟨⟨none, .mov 2 (.c (.one (.d (.bool false))))⟩, 0, []⟩]

abbrev i_impl_WritesOk_r1 : List RO := [
  ⟨⟨none, .mov 5 (.t 0)⟩, 0, []⟩,
  ⟨⟨none, .len 6 false (.t 5)⟩, 0, []⟩,
  ⟨⟨none, .mov 7 (.c (.one (.d (.int .i64 0))))⟩, 0, []⟩]

abbrev i_impl_WritesOk_r2 : List RO := [
  ⟨⟨none, .bin 8 .lss (.t 7) (.t 6)⟩, 0, []⟩]

abbrev i_impl_WritesOk_r3 : List RO := [
  ⟨⟨none, .mov 9 (.t 7)⟩, 0, []⟩,
  ⟨⟨none, .iaddr 10 2 (.t 5) (.t 7)⟩, 0, []⟩,
  ⟨⟨none, .load 11 (some 2) (.t 10)⟩, 0, []⟩,
  ⟨⟨none, .var 4 [(.d (.int .i64 0)), (.d (.int .i64 0))]⟩, 0, []⟩,
  ⟨⟨none, .mov 3 (.t 9)⟩, 0, []⟩,
  ⟨⟨none, .store 2 [(.int .i64 0), (.int .i64 0)] (.t 4) (.t 11)⟩, 0, []⟩]

abbrev i_impl_WritesOk_r4 : List RO := [
  ⟨⟨none, .faddr 12 0 (.t 4)⟩, 0, []⟩,
  ⟨⟨none, .load 13 none (.t 12)⟩, 1, []⟩,
  ⟨⟨none, .callv 14 (.c (.one (.fn k_impl_isKey []))) [(.t 13)]⟩, 3, []⟩,
  ⟨⟨none, .inv 15 (.t 14)⟩, 7, []⟩,
  ⟨⟨none, .mov 16 (.t 15)⟩, 15, []⟩,
  ⟨⟨some (16, false), .faddr 17 1 (.t 4)⟩, 31, []⟩,
  ⟨⟨some (16, false), .load 18 none (.t 17)⟩, 63, []⟩,
  ⟨⟨some (16, false), .callv 19 (.c (.one (.fn k_impl_isAnswer []))) [(.t 18)]⟩, 127, []⟩,
  ⟨⟨some (16, false), .inv 20 (.t 19)⟩, 255, []⟩,
  ⟨⟨none, .pick 21 (.t 16) (.c (.one (.d (.bool true)))) (.t 20)⟩, 511, []⟩,
  ⟨⟨none, .mov 22 (.t 21)⟩, 1023, []⟩,
  ⟨⟨some (22, false), .mov 23 (.t 3)⟩, 2047, []⟩,
  ⟨⟨some (22, false), .bin 24 .gtr (.t 23) (.c (.one (.d (.int .i64 0))))⟩, 4095, []⟩,
  ⟨⟨some (22, false), .mov 25 (.t 24)⟩, 8191, []⟩,
  ⟨⟨some (25, true), .mov 26 (.t 0)⟩, 16383, []⟩,
  ⟨⟨some (25, true), .mov 27 (.t 3)⟩, 16383, []⟩,
  ⟨⟨some (25, true), .bin 28 .sub (.t 27) (.c (.one (.d (.int .i64 1))))⟩, 49151, []⟩,
  ⟨⟨some (25, true), .iaddr 29 2 (.t 26) (.t 28)⟩, 131071, []⟩,
  ⟨⟨some (25, true), .faddr 30 0 (.t 29)⟩, 262143, []⟩,
  ⟨⟨some (25, true), .load 31 none (.t 30)⟩, 524287, []⟩,
  ⟨⟨some (25, true), .faddr 32 0 (.t 4)⟩, 16383, []⟩,
  ⟨⟨some (25, true), .load 33 none (.t 32)⟩, 1064959, []⟩,
  ⟨⟨some (25, true), .bin 34 .geq (.t 31) (.t 33)⟩, 4194303, []⟩,
  ⟨⟨some (22, false), .pick 35 (.t 25) (.t 34) (.c (.one (.d (.bool false))))⟩, 8388607, []⟩,
  ⟨⟨none, .pick 36 (.t 22) (.c (.one (.d (.bool true)))) (.t 35)⟩, 16777215, []⟩]

abbrev i_impl_WritesOk_r5 : List RO := [
  ⟨⟨none, .mov 2 (.c (.one (.d (.bool false))))⟩, 0, []⟩]

abbrev i_impl_WritesOk_r6 : List RO := [
  ⟨⟨none, .bin 37 .add (.t 7) (.c (.one (.d (.int .i64 1))))⟩, 0, []⟩,
  ⟨⟨none, .mov 7 (.t 37)⟩, 0, []⟩]

abbrev i_impl_WritesOk_r7 : List RO := [
  ⟨⟨none, .mov 38 (.t 0)⟩, 0, []⟩,
  ⟨⟨none, .len 39 false (.t 38)⟩, 0, []⟩,
  ⟨⟨none, .bin 40 .leq (.t 39) (.c (.one (.d (.int .i64 60))))⟩, 0, []⟩,
  ⟨⟨none, .mov 2 (.t 40)⟩, 0, []⟩]

def i_impl_WritesOk : IC := (.seq (.reg i_impl_WritesOk_r0)
  (.seq (.seq (.reg i_impl_WritesOk_r1)
  (.block 0 (.loop (.seq (.reg i_impl_WritesOk_r2)
  (.seq (.cond (.t 8) .skip (.exit 0))
  (.seq (.block 1 (.seq (.reg i_impl_WritesOk_r3)
  (.seq (.regd i_impl_WritesOk_r4)
  (.cond (.t 36) (.seq (.reg i_impl_WritesOk_r5)
  .ret) .skip))))
  (.reg i_impl_WritesOk_r6)))))))
  (.seq (.reg i_impl_WritesOk_r7)
  .ret)))

theorem i_impl_WritesOk_ok : (Try.f74.body.bind fun c => toIC Try.prog 41 c [[(0, []), (1, []), (3, []), (7, []), (15, []), (31, []), (63, []), (127, []), (255, []), (511, []), (1023, []), (2047, []), (4095, []), (8191, []), (16383, []), (16383, []), (49151, []), (131071, []), (262143, []), (524287, []), (16383, []), (1064959, []), (4194303, []), (8388607, []), (16777215, [])]]) = some (i_impl_WritesOk, []) := by kernel_rfl

theorem i_impl_WritesOk_fn {ds rs : List D} (hle : ds.length ≤ 41) (h : AW Try.prog 41 i_impl_WritesOk (Ends [.tmp 2] rs) (init ds)) : Fn Try.prog k_impl_WritesOk (lent ds) true rs :=
  Fn.intro' (by kernel_rfl) Try.func74 (by kernel_rfl) i_impl_WritesOk_ok (by kernel_rfl) hle h.h

theorem i_impl_WritesOk_fnB {ds rs : List D} (hle : ds.length ≤ 41) (h : AW Try.prog 41 i_impl_WritesOk (EndsB [.tmp 2] rs) (init ds)) : Fn Try.prog k_impl_WritesOk (lent ds) false rs :=
  Fn.introB' (by kernel_rfl) Try.func74 (by kernel_rfl) i_impl_WritesOk_ok (by kernel_rfl) hle h.h

abbrev i_impl_PartsOk_r0 : List RO := [
  ⟨⟨none, .mov 2 (.c (.one (.d (.bool false))))⟩, 0, []⟩]

abbrev i_impl_PartsOk_r1 : List RO := [
  ⟨⟨none, .mov 3 (.c (.one (.d (.int .i64 0))))⟩, 0, []⟩]

abbrev i_impl_PartsOk_r2 : List RO := [
  ⟨⟨none, .mov 6 (.t 0)⟩, 0, []⟩,
  ⟨⟨none, .len 7 false (.t 6)⟩, 0, []⟩,
  ⟨⟨none, .mov 8 (.c (.one (.d (.int .i64 0))))⟩, 0, []⟩]

abbrev i_impl_PartsOk_r3 : List RO := [
  ⟨⟨none, .bin 9 .lss (.t 8) (.t 7)⟩, 0, []⟩]

abbrev i_impl_PartsOk_r4 : List RO := [
  ⟨⟨none, .iaddr 10 3 (.t 6) (.t 8)⟩, 0, []⟩,
  ⟨⟨none, .load 11 (some 3) (.t 10)⟩, 0, []⟩,
  ⟨⟨none, .var 5 [(.d (.int .i64 0)), (.d (.int .i64 0)), (.d (.int .i64 0))]⟩, 0, []⟩,
  ⟨⟨none, .store 3 [(.int .i64 0), (.int .i64 0), (.int .i64 0)] (.t 5) (.t 11)⟩, 0, []⟩]

abbrev i_impl_PartsOk_r5 : List RO := [
  ⟨⟨none, .faddr 12 0 (.t 5)⟩, 0, []⟩,
  ⟨⟨none, .load 13 none (.t 12)⟩, 0, []⟩,
  ⟨⟨none, .mov 14 (.t 3)⟩, 0, []⟩,
  ⟨⟨none, .bin 15 .neq (.t 13) (.t 14)⟩, 0, []⟩,
  ⟨⟨none, .mov 16 (.t 15)⟩, 0, []⟩,
  ⟨⟨some (16, false), .faddr 17 1 (.t 5)⟩, 0, []⟩,
  ⟨⟨some (16, false), .load 18 none (.t 17)⟩, 0, []⟩,
  ⟨⟨some (16, false), .faddr 19 0 (.t 5)⟩, 0, []⟩,
  ⟨⟨some (16, false), .load 20 none (.t 19)⟩, 0, []⟩,
  ⟨⟨some (16, false), .bin 21 .leq (.t 18) (.t 20)⟩, 0, []⟩,
  ⟨⟨none, .pick 22 (.t 16) (.c (.one (.d (.bool true)))) (.t 21)⟩, 0, []⟩,
  ⟨⟨none, .mov 23 (.t 22)⟩, 0, []⟩,
  ⟨⟨some (23, false), .faddr 24 2 (.t 5)⟩, 0, []⟩,
  ⟨⟨some (23, false), .load 25 none (.t 24)⟩, 0, []⟩,
  ⟨⟨some (23, false), .callv 26 (.c (.one (.fn k_impl_isGroup []))) [(.t 25)]⟩, 0, []⟩,
  ⟨⟨some (23, false), .inv 27 (.t 26)⟩, 0, []⟩,
  ⟨⟨none, .pick 28 (.t 23) (.c (.one (.d (.bool true)))) (.t 27)⟩, 0, []⟩]

abbrev i_impl_PartsOk_r6 : List RO := [
  ⟨⟨none, .mov 2 (.c (.one (.d (.bool false))))⟩, 0, []⟩]

abbrev i_impl_PartsOk_r7 : List RO := [
  ⟨⟨none, .faddr 29 1 (.t 5)⟩, 0, []⟩,
  ⟨⟨none, .load 30 none (.t 29)⟩, 0, []⟩,
  ⟨⟨none, .mov 3 (.t 30)⟩, 0, []⟩]

abbrev i_impl_PartsOk_r8 : List RO := [
  ⟨⟨none, .bin 31 .add (.t 8) (.c (.one (.d (.int .i64 1))))⟩, 0, []⟩,
  ⟨⟨none, .mov 8 (.t 31)⟩, 0, []⟩]

abbrev i_impl_PartsOk_r9 : List RO := [
  ⟨⟨none, .mov 32 (.t 0)⟩, 0, []⟩,
  ⟨⟨none, .len 33 false (.t 32)⟩, 0, []⟩,
  ⟨⟨none, .callv 34 (.c (.one (.fn k_impl_from []))) [(.t 33), (.c (.one (.d (.int .i64 1)))), (.c (.one (.d (.int .i64 16))))]⟩, 0, []⟩,
  ⟨⟨none, .mov 35 (.t 34)⟩, 0, []⟩,
  ⟨⟨some (35, true), .mov 36 (.t 3)⟩, 0, []⟩,
  ⟨⟨some (35, true), .bin 37 .eql (.t 36) (.c (.one (.d (.int .i64 1000))))⟩, 0, []⟩,
  ⟨⟨none, .pick 38 (.t 35) (.t 37) (.c (.one (.d (.bool false))))⟩, 0, []⟩,
  ⟨⟨none, .mov 2 (.t 38)⟩, 0, []⟩]

def i_impl_PartsOk : IC := (.seq (.reg i_impl_PartsOk_r0)
  (.seq (.reg i_impl_PartsOk_r1)
  (.seq (.seq (.reg i_impl_PartsOk_r2)
  (.block 0 (.loop (.seq (.reg i_impl_PartsOk_r3)
  (.seq (.cond (.t 9) .skip (.exit 0))
  (.seq (.block 1 (.seq (.reg i_impl_PartsOk_r4)
  (.seq (.seq (.reg i_impl_PartsOk_r5)
  (.cond (.t 28) (.seq (.reg i_impl_PartsOk_r6)
  .ret) .skip))
  (.reg i_impl_PartsOk_r7))))
  (.reg i_impl_PartsOk_r8)))))))
  (.seq (.reg i_impl_PartsOk_r9)
  .ret))))

theorem i_impl_PartsOk_ok : (Try.f85.body.bind fun c => toIC Try.prog 39 c []) = some (i_impl_PartsOk, []) := by kernel_rfl

theorem i_impl_PartsOk_fn {ds rs : List D} (hle : ds.length ≤ 39) (h : AW Try.prog 39 i_impl_PartsOk (Ends [.tmp 2] rs) (init ds)) : Fn Try.prog k_impl_PartsOk (lent ds) true rs :=
  Fn.intro' (by kernel_rfl) Try.func85 (by kernel_rfl) i_impl_PartsOk_ok (by kernel_rfl) hle h.h

theorem i_impl_PartsOk_fnB {ds rs : List D} (hle : ds.length ≤ 39) (h : AW Try.prog 39 i_impl_PartsOk (EndsB [.tmp 2] rs) (init ds)) : Fn Try.prog k_impl_PartsOk (lent ds) false rs :=
  Fn.introB' (by kernel_rfl) Try.func85 (by kernel_rfl) i_impl_PartsOk_ok (by kernel_rfl) hle h.h

abbrev i__impl_Seen_keys_r0 : List RO := [
  ⟨⟨none, .box 1 (.t 0)⟩, 0, []⟩,
  ⟨⟨none, .var 2 [(.d (.int .i64 0)), (.d (.int .i64 0))]⟩, 0, []⟩]

abbrev i__impl_Seen_keys_r1 : List RO := [
  ⟨⟨none, .faddr 3 1 (.t 1)⟩, 0, []⟩,
  ⟨⟨none, .load 4 none (.t 3)⟩, 0, []⟩,
  ⟨⟨none, .faddr 5 2 (.t 1)⟩, 0, []⟩,
  ⟨⟨none, .load 6 none (.t 5)⟩, 0, []⟩,
  ⟨⟨none, .build 7 [(.d (.int .i64 0)), (.d (.int .i64 0))] [(0, 1, (.t 4)), (1, 1, (.t 6))]⟩, 0, []⟩,
  ⟨⟨none, .store 2 [(.int .i64 0), (.int .i64 0)] (.t 2) (.t 7)⟩, 0, []⟩]

def i__impl_Seen_keys : IC := (.seq (.reg i__impl_Seen_keys_r0)
  (.seq (.reg i__impl_Seen_keys_r1)
  .ret))

theorem i__impl_Seen_keys_ok : (Try.f104.body.bind fun c => toIC Try.prog 8 c []) = some (i__impl_Seen_keys, []) := by kernel_rfl

theorem i__impl_Seen_keys_fn {ds rs : List D} (hle : ds.length ≤ 8) (h : AW Try.prog 8 i__impl_Seen_keys (Ends [.cell 2 (some 2)] rs) (init ds)) : Fn Try.prog k__impl_Seen_keys (lent ds) true rs :=
  Fn.intro' (by kernel_rfl) Try.func104 (by kernel_rfl) i__impl_Seen_keys_ok (by kernel_rfl) hle h.h

theorem i__impl_Seen_keys_fnB {ds rs : List D} (hle : ds.length ≤ 8) (h : AW Try.prog 8 i__impl_Seen_keys (EndsB [.cell 2 (some 2)] rs) (init ds)) : Fn Try.prog k__impl_Seen_keys (lent ds) false rs :=
  Fn.introB' (by kernel_rfl) Try.func104 (by kernel_rfl) i__impl_Seen_keys_ok (by kernel_rfl) hle h.h

abbrev i_impl_ClientOk_1_r0 : List RO := [
  ⟨⟨none, .box 1 (.t 0)⟩, 0, []⟩,
  ⟨⟨none, .mov 2 (.c (.one (.d (.bool false))))⟩, 0, []⟩]

abbrev i_impl_ClientOk_1_r1 : List RO := [
  ⟨⟨none, .faddr 3 0 (.t 1)⟩, 0, []⟩,
  ⟨⟨none, .load 4 none (.t 3)⟩, 0, []⟩,
  ⟨⟨none, .callv 5 (.c (.one (.fn k_impl_isGroup []))) [(.t 4)]⟩, 0, []⟩,
  ⟨⟨none, .inv 6 (.t 5)⟩, 0, []⟩,
  ⟨⟨none, .mov 7 (.t 6)⟩, 0, []⟩,
  ⟨⟨some (7, false), .load 8 (some 3) (.t 1)⟩, 0, []⟩,
  ⟨⟨some (7, false), .callv 9 (.c (.one (.fn k__impl_Seen_keys []))) [(.t 8)]⟩, 0, []⟩,
  ⟨⟨some (7, false), .callv 10 (.c (.one (.fn k_impl_RangeOk []))) [(.t 9)]⟩, 0, []⟩,
  ⟨⟨some (7, false), .inv 11 (.t 10)⟩, 0, []⟩,
  ⟨⟨none, .pick 12 (.t 7) (.c (.one (.d (.bool true)))) (.t 11)⟩, 0, []⟩,
  ⟨⟨none, .mov 2 (.t 12)⟩, 0, []⟩]

def i_impl_ClientOk_1 : IC := (.seq (.reg i_impl_ClientOk_1_r0)
  (.seq (.reg i_impl_ClientOk_1_r1)
  .ret))

theorem i_impl_ClientOk_1_ok : (Try.f103.body.bind fun c => toIC Try.prog 13 c []) = some (i_impl_ClientOk_1, []) := by kernel_rfl

theorem i_impl_ClientOk_1_fn {ds rs : List D} (hle : ds.length ≤ 13) (h : AW Try.prog 13 i_impl_ClientOk_1 (Ends [.tmp 2] rs) (init ds)) : Fn Try.prog k_impl_ClientOk_1 (lent ds) true rs :=
  Fn.intro' (by kernel_rfl) Try.func103 (by kernel_rfl) i_impl_ClientOk_1_ok (by kernel_rfl) hle h.h

theorem i_impl_ClientOk_1_fnB {ds rs : List D} (hle : ds.length ≤ 13) (h : AW Try.prog 13 i_impl_ClientOk_1 (EndsB [.tmp 2] rs) (init ds)) : Fn Try.prog k_impl_ClientOk_1 (lent ds) false rs :=
  Fn.introB' (by kernel_rfl) Try.func103 (by kernel_rfl) i_impl_ClientOk_1_ok (by kernel_rfl) hle h.h

abbrev i_slices_IndexFunc___impl_Seen_impl_Seen__r0 : List RO := [
  ⟨⟨none, .mov 4 (.c (.one (.d (.int .i64 0))))⟩, 0, []⟩]

abbrev i_slices_IndexFunc___impl_Seen_impl_Seen__r1 : List RO := [
  ⟨⟨none, .mov 6 (.t 0)⟩, 0, []⟩,
  ⟨⟨none, .len 7 false (.t 6)⟩, 0, []⟩,
  ⟨⟨none, .mov 8 (.c (.one (.d (.int .i64 0))))⟩, 0, []⟩]

abbrev i_slices_IndexFunc___impl_Seen_impl_Seen__r2 : List RO := [
  ⟨⟨none, .bin 9 .lss (.t 8) (.t 7)⟩, 0, []⟩]

abbrev i_slices_IndexFunc___impl_Seen_impl_Seen__r3 : List RO := [
  ⟨⟨none, .mov 10 (.t 8)⟩, 0, []⟩,
  ⟨⟨none, .mov 5 (.t 10)⟩, 0, []⟩]

abbrev i_slices_IndexFunc___impl_Seen_impl_Seen__r4 : List RO := [
  ⟨⟨none, .mov 11 (.t 1)⟩, 0, []⟩,
  ⟨⟨none, .mov 12 (.t 0)⟩, 0, []⟩,
  ⟨⟨none, .mov 13 (.t 5)⟩, 0, []⟩,
  ⟨⟨none, .iaddr 14 3 (.t 12) (.t 13)⟩, 0, []⟩,
  ⟨⟨none, .load 15 (some 3) (.t 14)⟩, 0, []⟩,
  ⟨⟨none, .callv 16 (.t 11) [(.t 15)]⟩, 0, []⟩]

abbrev i_slices_IndexFunc___impl_Seen_impl_Seen__r5 : List RO := [
  ⟨⟨none, .mov 17 (.t 5)⟩, 0, []⟩,
  ⟨⟨none, .mov 4 (.t 17)⟩, 0, []⟩]

abbrev i_slices_IndexFunc___impl_Seen_impl_Seen__r6 : List RO := [
  ⟨⟨none, .bin 18 .add (.t 8) (.c (.one (.d (.int .i64 1))))⟩, 0, []⟩,
  ⟨⟨none, .mov 8 (.t 18)⟩, 0, []⟩]

abbrev i_slices_IndexFunc___impl_Seen_impl_Seen__r7 : List RO := [
  ⟨⟨none, .mov 4 (.c (.one (.d (.int .i64 (-1)))))⟩, 0, []⟩]

def i_slices_IndexFunc___impl_Seen_impl_Seen_ : IC := (.seq (.reg i_slices_IndexFunc___impl_Seen_impl_Seen__r0)
  (.seq (.seq (.reg i_slices_IndexFunc___impl_Seen_impl_Seen__r1)
  (.block 0 (.loop (.seq (.reg i_slices_IndexFunc___impl_Seen_impl_Seen__r2)
  (.seq (.cond (.t 9) .skip (.exit 0))
  (.seq (.block 1 (.seq (.reg i_slices_IndexFunc___impl_Seen_impl_Seen__r3)
  (.seq (.reg i_slices_IndexFunc___impl_Seen_impl_Seen__r4)
  (.cond (.t 16) (.seq (.reg i_slices_IndexFunc___impl_Seen_impl_Seen__r5)
  .ret) .skip))))
  (.reg i_slices_IndexFunc___impl_Seen_impl_Seen__r6)))))))
  (.seq (.reg i_slices_IndexFunc___impl_Seen_impl_Seen__r7)
  .ret)))

theorem i_slices_IndexFunc___impl_Seen_impl_Seen__ok : (Try.f177.body.bind fun c => toIC Try.prog 19 c []) = some (i_slices_IndexFunc___impl_Seen_impl_Seen_, []) := by kernel_rfl

theorem i_slices_IndexFunc___impl_Seen_impl_Seen__fn {ds rs : List D} (hle : ds.length ≤ 19) (h : AW Try.prog 19 i_slices_IndexFunc___impl_Seen_impl_Seen_ (Ends [.tmp 4] rs) (init ds)) : Fn Try.prog k_slices_IndexFunc___impl_Seen_impl_Seen_ (lent ds) true rs :=
  Fn.intro' (by kernel_rfl) Try.func177 (by kernel_rfl) i_slices_IndexFunc___impl_Seen_impl_Seen__ok (by kernel_rfl) hle h.h

theorem i_slices_IndexFunc___impl_Seen_impl_Seen__fnB {ds rs : List D} (hle : ds.length ≤ 19) (h : AW Try.prog 19 i_slices_IndexFunc___impl_Seen_impl_Seen_ (EndsB [.tmp 4] rs) (init ds)) : Fn Try.prog k_slices_IndexFunc___impl_Seen_impl_Seen_ (lent ds) false rs :=
  Fn.introB' (by kernel_rfl) Try.func177 (by kernel_rfl) i_slices_IndexFunc___impl_Seen_impl_Seen__ok (by kernel_rfl) hle h.h

abbrev i_slices_ContainsFunc___impl_Seen_impl_Seen__r0 : List RO := [
  ⟨⟨none, .mov 4 (.c (.one (.d (.bool false))))⟩, 0, []⟩]

abbrev i_slices_ContainsFunc___impl_Seen_impl_Seen__r1 : List RO := [
  ⟨⟨none, .mov 5 (.t 0)⟩, 0, []⟩,
  ⟨⟨none, .mov 6 (.t 1)⟩, 0, []⟩,
  ⟨⟨none, .callv 7 (.c (.one (.fn k_slices_IndexFunc___impl_Seen_impl_Seen_ []))) [(.t 5), (.t 6)]⟩, 0, []⟩,
  ⟨⟨none, .bin 8 .geq (.t 7) (.c (.one (.d (.int .i64 0))))⟩, 0, []⟩,
  ⟨⟨none, .mov 4 (.t 8)⟩, 0, []⟩]

def i_slices_ContainsFunc___impl_Seen_impl_Seen_ : IC := (.seq (.reg i_slices_ContainsFunc___impl_Seen_impl_Seen__r0)
  (.seq (.reg i_slices_ContainsFunc___impl_Seen_impl_Seen__r1)
  .ret))

theorem i_slices_ContainsFunc___impl_Seen_impl_Seen__ok : (Try.f102.body.bind fun c => toIC Try.prog 9 c []) = some (i_slices_ContainsFunc___impl_Seen_impl_Seen_, []) := by kernel_rfl

theorem i_slices_ContainsFunc___impl_Seen_impl_Seen__fn {ds rs : List D} (hle : ds.length ≤ 9) (h : AW Try.prog 9 i_slices_ContainsFunc___impl_Seen_impl_Seen_ (Ends [.tmp 4] rs) (init ds)) : Fn Try.prog k_slices_ContainsFunc___impl_Seen_impl_Seen_ (lent ds) true rs :=
  Fn.intro' (by kernel_rfl) Try.func102 (by kernel_rfl) i_slices_ContainsFunc___impl_Seen_impl_Seen__ok (by kernel_rfl) hle h.h

theorem i_slices_ContainsFunc___impl_Seen_impl_Seen__fnB {ds rs : List D} (hle : ds.length ≤ 9) (h : AW Try.prog 9 i_slices_ContainsFunc___impl_Seen_impl_Seen_ (EndsB [.tmp 4] rs) (init ds)) : Fn Try.prog k_slices_ContainsFunc___impl_Seen_impl_Seen_ (lent ds) false rs :=
  Fn.introB' (by kernel_rfl) Try.func102 (by kernel_rfl) i_slices_ContainsFunc___impl_Seen_impl_Seen__ok (by kernel_rfl) hle h.h

abbrev i_impl_ClientOk_r0 : List RO := [
  ⟨⟨none, .box 1 (.t 0)⟩, 0, []⟩,
  ⟨⟨none, .mov 2 (.c (.one (.d (.bool false))))⟩, 0, []⟩]

abbrev i_impl_ClientOk_r1 : List RO := [
  ⟨⟨none, .faddr 4 0 (.t 1)⟩, 0, []⟩,
  ⟨⟨none, .load 5 none (.t 4)⟩, 0, []⟩,
  ⟨⟨none, .callv 6 (.c (.one (.fn k_impl_from []))) [(.t 5), (.c (.one (.d (.int .i64 0)))), (.c (.one (.d (.int .i64 5))))]⟩, 0, []⟩,
  ⟨⟨none, .inv 7 (.t 6)⟩, 0, []⟩,
  ⟨⟨none, .mov 8 (.t 7)⟩, 0, []⟩,
  ⟨⟨some (8, false), .faddr 9 2 (.t 1)⟩, 0, []⟩,
  ⟨⟨some (8, false), .load 10 none (.t 9)⟩, 0, []⟩,
  ⟨⟨some (8, false), .callv 11 (.c (.one (.fn k_impl_isWhole []))) [(.t 10)]⟩, 0, []⟩,
  ⟨⟨some (8, false), .inv 12 (.t 11)⟩, 0, []⟩,
  ⟨⟨none, .pick 13 (.t 8) (.c (.one (.d (.bool true)))) (.t 12)⟩, 0, []⟩,
  ⟨⟨none, .mov 14 (.t 13)⟩, 0, []⟩,
  ⟨⟨some (14, false), .faddr 15 2 (.t 1)⟩, 0, []⟩,
  ⟨⟨some (14, false), .load 16 none (.t 15)⟩, 0, []⟩,
  ⟨⟨some (14, false), .bin 17 .eql (.t 16) (.c (.one (.d (.int .i64 0))))⟩, 0, []⟩,
  ⟨⟨some (14, false), .mov 18 (.t 17)⟩, 0, []⟩,
  ⟨⟨some (18, true), .faddr 19 0 (.t 1)⟩, 0, []⟩,
  ⟨⟨some (18, true), .load 20 none (.t 19)⟩, 0, []⟩,
  ⟨⟨some (18, true), .bin 21 .neq (.t 20) (.c (.one (.d (.int .i64 0))))⟩, 0, []⟩,
  ⟨⟨some (14, false), .pick 22 (.t 18) (.t 21) (.c (.one (.d (.bool false))))⟩, 0, []⟩,
  ⟨⟨none, .pick 23 (.t 14) (.c (.one (.d (.bool true)))) (.t 22)⟩, 0, []⟩]

abbrev i_impl_ClientOk_r2 : List RO := [
  ⟨⟨none, .mov 2 (.c (.one (.d (.bool false))))⟩, 0, []⟩]

abbrev i_impl_ClientOk_r3 : List RO := [
  ⟨⟨none, .faddr 24 5 (.t 1)⟩, 0, []⟩,
  ⟨⟨none, .load 25 none (.t 24)⟩, 0, []⟩,
  ⟨⟨none, .bin 26 .eql (.t 25) (.c (.one (.d (.int .i64 0))))⟩, 0, []⟩,
  ⟨⟨none, .mov 27 (.t 26)⟩, 0, []⟩,
  ⟨⟨some (27, true), .faddr 28 6 (.t 1)⟩, 0, []⟩,
  ⟨⟨some (27, true), .load 29 none (.t 28)⟩, 0, []⟩,
  ⟨⟨some (27, true), .bin 30 .eql (.t 29) (.c (.one (.d (.int .i64 0))))⟩, 0, []⟩,
  ⟨⟨none, .pick 31 (.t 27) (.t 30) (.c (.one (.d (.bool false))))⟩, 0, []⟩,
  ⟨⟨none, .mov 32 (.t 31)⟩, 0, []⟩,
  ⟨⟨some (32, true), .faddr 33 7 (.t 1)⟩, 0, []⟩,
  ⟨⟨some (32, true), .load 34 none (.t 33)⟩, 0, []⟩,
  ⟨⟨some (32, true), .bin 35 .eql (.t 34) (.c (.one (.d (.int .i64 0))))⟩, 0, []⟩,
  ⟨⟨none, .pick 36 (.t 32) (.t 35) (.c (.one (.d (.bool false))))⟩, 0, []⟩,
  ⟨⟨none, .mov 3 (.t 36)⟩, 0, []⟩]

abbrev i_impl_ClientOk_r4 : List RO := [
  ⟨⟨none, .faddr 37 0 (.t 1)⟩, 0, []⟩,
  ⟨⟨none, .load 38 none (.t 37)⟩, 0, []⟩,
  ⟨⟨none, .bin 39 .eql (.t 38) (.c (.one (.d (.int .i64 0))))⟩, 0, []⟩,
  ⟨⟨none, .mov 40 (.t 39)⟩, 0, []⟩,
  ⟨⟨some (40, false), .faddr 41 0 (.t 1)⟩, 0, []⟩,
  ⟨⟨some (40, false), .load 42 none (.t 41)⟩, 0, []⟩,
  ⟨⟨some (40, false), .bin 43 .eql (.t 42) (.c (.one (.d (.int .i64 1))))⟩, 0, []⟩,
  ⟨⟨none, .pick 44 (.t 40) (.c (.one (.d (.bool true)))) (.t 43)⟩, 0, []⟩]

abbrev i_impl_ClientOk_r5 : List RO := [
  ⟨⟨none, .mov 45 (.t 3)⟩, 0, []⟩,
  ⟨⟨none, .mov 46 (.t 45)⟩, 0, []⟩,
  ⟨⟨some (46, true), .faddr 47 1 (.t 1)⟩, 0, []⟩,
  ⟨⟨some (46, true), .load 48 none (.t 47)⟩, 0, []⟩,
  ⟨⟨some (46, true), .bin 49 .eql (.t 48) (.c (.one (.d (.int .i64 0))))⟩, 0, []⟩,
  ⟨⟨none, .pick 50 (.t 46) (.t 49) (.c (.one (.d (.bool false))))⟩, 0, []⟩,
  ⟨⟨none, .mov 51 (.t 50)⟩, 0, []⟩,
  ⟨⟨some (51, true), .faddr 52 3 (.t 1)⟩, 0, []⟩,
  ⟨⟨some (51, true), .load 53 none (.t 52)⟩, 0, []⟩,
  ⟨⟨some (51, true), .len 54 false (.t 53)⟩, 0, []⟩,
  ⟨⟨some (51, true), .faddr 55 4 (.t 1)⟩, 0, []⟩,
  ⟨⟨some (51, true), .load 56 none (.t 55)⟩, 0, []⟩,
  ⟨⟨some (51, true), .len 57 false (.t 56)⟩, 0, []⟩,
  ⟨⟨some (51, true), .bin 58 .add (.t 54) (.t 57)⟩, 0, []⟩,
  ⟨⟨some (51, true), .faddr 59 8 (.t 1)⟩, 0, []⟩,
  ⟨⟨some (51, true), .load 60 none (.t 59)⟩, 0, []⟩,
  ⟨⟨some (51, true), .len 61 false (.t 60)⟩, 0, []⟩,
  ⟨⟨some (51, true), .bin 62 .add (.t 58) (.t 61)⟩, 0, []⟩,
  ⟨⟨some (51, true), .bin 63 .eql (.t 62) (.c (.one (.d (.int .i64 0))))⟩, 0, []⟩,
  ⟨⟨none, .pick 64 (.t 51) (.t 63) (.c (.one (.d (.bool false))))⟩, 0, []⟩,
  ⟨⟨none, .mov 2 (.t 64)⟩, 0, []⟩]

abbrev i_impl_ClientOk_r6 : List RO := [
  ⟨⟨none, .faddr 65 0 (.t 1)⟩, 0, []⟩,
  ⟨⟨none, .load 66 none (.t 65)⟩, 0, []⟩,
  ⟨⟨none, .bin 67 .eql (.t 66) (.c (.one (.d (.int .i64 3))))⟩, 0, []⟩]

abbrev i_impl_ClientOk_r7 : List RO := [
  ⟨⟨none, .faddr 68 5 (.t 1)⟩, 0, []⟩,
  ⟨⟨none, .load 69 none (.t 68)⟩, 0, []⟩,
  ⟨⟨none, .faddr 70 6 (.t 1)⟩, 0, []⟩,
  ⟨⟨none, .load 71 none (.t 70)⟩, 0, []⟩,
  ⟨⟨none, .build 72 [(.d (.int .i64 0)), (.d (.int .i64 0))] [(0, 1, (.t 69)), (1, 1, (.t 71))]⟩, 0, []⟩,
  ⟨⟨none, .callv 73 (.c (.one (.fn k_impl_RangeOk []))) [(.t 72)]⟩, 0, []⟩,
  ⟨⟨none, .mov 74 (.t 73)⟩, 0, []⟩,
  ⟨⟨some (74, true), .faddr 75 7 (.t 1)⟩, 0, []⟩,
  ⟨⟨some (74, true), .load 76 none (.t 75)⟩, 0, []⟩,
  ⟨⟨some (74, true), .callv 77 (.c (.one (.fn k_impl_isGroup []))) [(.t 76)]⟩, 0, []⟩,
  ⟨⟨none, .pick 78 (.t 74) (.t 77) (.c (.one (.d (.bool false))))⟩, 0, []⟩,
  ⟨⟨none, .mov 3 (.t 78)⟩, 0, []⟩]

abbrev i_impl_ClientOk_r8 : List RO := [
  ⟨⟨none, .mov 79 (.t 3)⟩, 0, []⟩,
  ⟨⟨none, .mov 80 (.t 79)⟩, 0, []⟩,
  ⟨⟨some (80, true), .faddr 81 1 (.t 1)⟩, 0, []⟩,
  ⟨⟨some (80, true), .load 82 none (.t 81)⟩, 0, []⟩,
  ⟨⟨some (80, true), .callv 83 (.c (.one (.fn k_impl_isTx []))) [(.t 82)]⟩, 0, []⟩,
  ⟨⟨none, .pick 84 (.t 80) (.t 83) (.c (.one (.d (.bool false))))⟩, 0, []⟩,
  ⟨⟨none, .mov 85 (.t 84)⟩, 0, []⟩,
  ⟨⟨some (85, true), .faddr 86 3 (.t 1)⟩, 0, []⟩,
  ⟨⟨some (85, true), .load 87 none (.t 86)⟩, 0, []⟩,
  ⟨⟨some (85, true), .callv 88 (.c (.one (.fn k_impl_WritesOk []))) [(.t 87)]⟩, 0, []⟩,
  ⟨⟨none, .pick 89 (.t 85) (.t 88) (.c (.one (.d (.bool false))))⟩, 0, []⟩,
  ⟨⟨none, .mov 90 (.t 89)⟩, 0, []⟩,
  ⟨⟨some (90, true), .faddr 91 4 (.t 1)⟩, 0, []⟩,
  ⟨⟨some (90, true), .load 92 none (.t 91)⟩, 0, []⟩,
  ⟨⟨some (90, true), .len 93 false (.t 92)⟩, 0, []⟩,
  ⟨⟨some (90, true), .bin 94 .leq (.t 93) (.c (.one (.d (.int .i64 16))))⟩, 0, []⟩,
  ⟨⟨none, .pick 95 (.t 90) (.t 94) (.c (.one (.d (.bool false))))⟩, 0, []⟩,
  ⟨⟨none, .mov 96 (.t 95)⟩, 0, []⟩,
  ⟨⟨some (96, true), .faddr 97 8 (.t 1)⟩, 0, []⟩,
  ⟨⟨some (96, true), .load 98 none (.t 97)⟩, 0, []⟩,
  ⟨⟨some (96, true), .callv 99 (.c (.one (.fn k_impl_PartsOk []))) [(.t 98)]⟩, 0, []⟩,
  ⟨⟨none, .pick 100 (.t 96) (.t 99) (.c (.one (.d (.bool false))))⟩, 0, []⟩,
  ⟨⟨none, .mov 101 (.t 100)⟩, 0, []⟩,
  ⟨⟨some (101, true), .faddr 102 4 (.t 1)⟩, 0, []⟩,
  ⟨⟨some (101, true), .load 103 none (.t 102)⟩, 0, []⟩,
  ⟨⟨some (101, true), .callv 104 (.c (.one (.fn k_slices_ContainsFunc___impl_Seen_impl_Seen_ []))) [(.t 103), (.c (.one (.fn k_impl_ClientOk_1 [])))]⟩, 0, []⟩,
  ⟨⟨some (101, true), .inv 105 (.t 104)⟩, 0, []⟩,
  ⟨⟨none, .pick 106 (.t 101) (.t 105) (.c (.one (.d (.bool false))))⟩, 0, []⟩,
  ⟨⟨none, .mov 2 (.t 106)⟩, 0, []⟩]

def i_impl_ClientOk : IC := (.seq (.reg i_impl_ClientOk_r0)
  (.seq (.seq (.reg i_impl_ClientOk_r1)
  (.cond (.t 23) (.seq (.reg i_impl_ClientOk_r2)
  .ret) .skip))
  (.seq (.reg i_impl_ClientOk_r3)
  (.seq (.seq (.reg i_impl_ClientOk_r4)
  (.cond (.t 44) (.seq (.reg i_impl_ClientOk_r5)
  .ret) .skip))
  (.seq (.seq (.reg i_impl_ClientOk_r6)
  (.cond (.t 67) (.reg i_impl_ClientOk_r7) .skip))
  (.seq (.reg i_impl_ClientOk_r8)
  .ret))))))

theorem i_impl_ClientOk_ok : (Try.f29.body.bind fun c => toIC Try.prog 107 c []) = some (i_impl_ClientOk, []) := by kernel_rfl

theorem i_impl_ClientOk_fn {ds rs : List D} (hle : ds.length ≤ 107) (h : AW Try.prog 107 i_impl_ClientOk (Ends [.tmp 2] rs) (init ds)) : Fn Try.prog k_impl_ClientOk (lent ds) true rs :=
  Fn.intro' (by kernel_rfl) Try.func29 (by kernel_rfl) i_impl_ClientOk_ok (by kernel_rfl) hle h.h

theorem i_impl_ClientOk_fnB {ds rs : List D} (hle : ds.length ≤ 107) (h : AW Try.prog 107 i_impl_ClientOk (EndsB [.tmp 2] rs) (init ds)) : Fn Try.prog k_impl_ClientOk (lent ds) false rs :=
  Fn.introB' (by kernel_rfl) Try.func29 (by kernel_rfl) i_impl_ClientOk_ok (by kernel_rfl) hle h.h

abbrev i_laws_eqWrite_r0 : List RO := [
  ⟨⟨none, .box 2 (.t 0)⟩, 0, []⟩,
  ⟨⟨none, .box 3 (.t 1)⟩, 0, []⟩,
  ⟨⟨none, .mov 4 (.c (.one (.d (.bool false))))⟩, 0, []⟩]

abbrev i_laws_eqWrite_r1 : List RO := [
  ⟨⟨none, .faddr 5 0 (.t 2)⟩, 0, []⟩,
  ⟨⟨none, .load 6 none (.t 5)⟩, 0, []⟩,
  ⟨⟨none, .faddr 7 0 (.t 3)⟩, 0, []⟩,
  ⟨⟨none, .load 8 none (.t 7)⟩, 0, []⟩,
  ⟨⟨none, .bin 9 .neq (.t 6) (.t 8)⟩, 0, []⟩]

abbrev i_laws_eqWrite_r2 : List RO := [
  ⟨⟨none, .mov 4 (.c (.one (.d (.bool false))))⟩, 0, []⟩]

abbrev i_laws_eqWrite_r3 : List RO := [
  ⟨⟨none, .faddr 10 1 (.t 2)⟩, 0, []⟩,
  ⟨⟨none, .load 11 none (.t 10)⟩, 0, []⟩,
  ⟨⟨none, .faddr 12 1 (.t 3)⟩, 0, []⟩,
  ⟨⟨none, .load 13 none (.t 12)⟩, 0, []⟩,
  ⟨⟨none, .bin 14 .neq (.t 11) (.t 13)⟩, 0, []⟩]

abbrev i_laws_eqWrite_r4 : List RO := [
  ⟨⟨none, .mov 4 (.c (.one (.d (.bool false))))⟩, 0, []⟩]

abbrev i_laws_eqWrite_r5 : List RO := [
  ⟨⟨none, .mov 4 (.c (.one (.d (.bool true))))⟩, 0, []⟩]

def i_laws_eqWrite : IC := (.seq (.reg i_laws_eqWrite_r0)
  (.seq (.seq (.reg i_laws_eqWrite_r1)
  (.cond (.t 9) (.seq (.reg i_laws_eqWrite_r2)
  .ret) .skip))
  (.seq (.seq (.reg i_laws_eqWrite_r3)
  (.cond (.t 14) (.seq (.reg i_laws_eqWrite_r4)
  .ret) .skip))
  (.seq (.reg i_laws_eqWrite_r5)
  .ret))))

theorem i_laws_eqWrite_ok : (Try.f178.body.bind fun c => toIC Try.prog 15 c []) = some (i_laws_eqWrite, []) := by kernel_rfl

theorem i_laws_eqWrite_fn {ds rs : List D} (hle : ds.length ≤ 15) (h : AW Try.prog 15 i_laws_eqWrite (Ends [.tmp 4] rs) (init ds)) : Fn Try.prog k_laws_eqWrite (lent ds) true rs :=
  Fn.intro' (by kernel_rfl) Try.func178 (by kernel_rfl) i_laws_eqWrite_ok (by kernel_rfl) hle h.h

theorem i_laws_eqWrite_fnB {ds rs : List D} (hle : ds.length ≤ 15) (h : AW Try.prog 15 i_laws_eqWrite (EndsB [.tmp 4] rs) (init ds)) : Fn Try.prog k_laws_eqWrite (lent ds) false rs :=
  Fn.introB' (by kernel_rfl) Try.func178 (by kernel_rfl) i_laws_eqWrite_ok (by kernel_rfl) hle h.h

abbrev i_laws_eqWriteS_r0 : List RO := [
  ⟨⟨none, .mov 4 (.c (.one (.d (.bool false))))⟩, 0, []⟩]

abbrev i_laws_eqWriteS_r1 : List RO := [
  ⟨⟨none, .mov 6 (.t 0)⟩, 0, []⟩,
  ⟨⟨none, .len 7 false (.t 6)⟩, 0, []⟩,
  ⟨⟨none, .mov 8 (.t 1)⟩, 0, []⟩,
  ⟨⟨none, .len 9 false (.t 8)⟩, 0, []⟩,
  ⟨⟨none, .bin 10 .neq (.t 7) (.t 9)⟩, 0, []⟩]

abbrev i_laws_eqWriteS_r2 : List RO := [
  ⟨⟨none, .mov 4 (.c (.one (.d (.bool false))))⟩, 0, []⟩]

abbrev i_laws_eqWriteS_r3 : List RO := [
  ⟨⟨none, .mov 5 (.c (.one (.d (.int .i64 0))))⟩, 0, []⟩]

abbrev i_laws_eqWriteS_r4 : List RO := [
  ⟨⟨none, .mov 11 (.t 5)⟩, 0, []⟩,
  ⟨⟨none, .mov 12 (.t 0)⟩, 0, []⟩,
  ⟨⟨none, .len 13 false (.t 12)⟩, 0, []⟩,
  ⟨⟨none, .bin 14 .lss (.t 11) (.t 13)⟩, 0, []⟩]

abbrev i_laws_eqWriteS_r5 : List RO := [
  ⟨⟨none, .mov 17 (.t 0)⟩, 0, []⟩,
  ⟨⟨none, .mov 18 (.t 5)⟩, 0, []⟩,
  ⟨⟨none, .iaddr 19 2 (.t 17) (.t 18)⟩, 3, []⟩,
  ⟨⟨none, .load 20 (some 2) (.t 19)⟩, 7, []⟩,
  ⟨⟨none, .mov 21 (.t 1)⟩, 0, []⟩,
  ⟨⟨none, .mov 22 (.t 5)⟩, 0, []⟩,
  ⟨⟨none, .iaddr 23 2 (.t 21) (.t 22)⟩, 48, []⟩,
  ⟨⟨none, .load 24 (some 2) (.t 23)⟩, 112, []⟩,
  ⟨⟨none, .callv 25 (.c (.one (.fn k_laws_eqWrite []))) [(.t 20), (.t 24)]⟩, 255, []⟩,
  ⟨⟨none, .inv 26 (.t 25)⟩, 511, []⟩]

abbrev i_laws_eqWriteS_r6 : List RO := [
  ⟨⟨none, .mov 4 (.c (.one (.d (.bool false))))⟩, 0, []⟩]

abbrev i_laws_eqWriteS_r7 : List RO := [
  ⟨⟨none, .mov 15 (.t 5)⟩, 0, []⟩,
  ⟨⟨none, .bin 16 .add (.t 15) (.c (.one (.d (.int .i64 1))))⟩, 0, []⟩,
  ⟨⟨none, .mov 5 (.t 16)⟩, 0, []⟩]

abbrev i_laws_eqWriteS_r8 : List RO := [
  ⟨⟨none, .mov 4 (.c (.one (.d (.bool true))))⟩, 0, []⟩]

def i_laws_eqWriteS : IC := (.seq (.reg i_laws_eqWriteS_r0)
  (.seq (.seq (.reg i_laws_eqWriteS_r1)
  (.cond (.t 10) (.seq (.reg i_laws_eqWriteS_r2)
  .ret) .skip))
  (.seq (.seq (.reg i_laws_eqWriteS_r3)
  (.block 0 (.loop (.seq (.seq (.reg i_laws_eqWriteS_r4)
  (.cond (.t 14) .skip (.exit 0)))
  (.seq (.block 1 (.seq (.regd i_laws_eqWriteS_r5)
  (.cond (.t 26) (.seq (.reg i_laws_eqWriteS_r6)
  .ret) .skip)))
  (.reg i_laws_eqWriteS_r7))))))
  (.seq (.reg i_laws_eqWriteS_r8)
  .ret))))

theorem i_laws_eqWriteS_ok : (Try.f105.body.bind fun c => toIC Try.prog 27 c [[(0, []), (0, []), (3, []), (7, []), (0, []), (0, []), (48, []), (112, []), (255, []), (511, [])]]) = some (i_laws_eqWriteS, []) := by kernel_rfl

theorem i_laws_eqWriteS_fn {ds rs : List D} (hle : ds.length ≤ 27) (h : AW Try.prog 27 i_laws_eqWriteS (Ends [.tmp 4] rs) (init ds)) : Fn Try.prog k_laws_eqWriteS (lent ds) true rs :=
  Fn.intro' (by kernel_rfl) Try.func105 (by kernel_rfl) i_laws_eqWriteS_ok (by kernel_rfl) hle h.h

theorem i_laws_eqWriteS_fnB {ds rs : List D} (hle : ds.length ≤ 27) (h : AW Try.prog 27 i_laws_eqWriteS (EndsB [.tmp 4] rs) (init ds)) : Fn Try.prog k_laws_eqWriteS (lent ds) false rs :=
  Fn.introB' (by kernel_rfl) Try.func105 (by kernel_rfl) i_laws_eqWriteS_ok (by kernel_rfl) hle h.h

abbrev i_laws_eqSeen_r0 : List RO := [
  ⟨⟨none, .box 2 (.t 0)⟩, 0, []⟩,
  ⟨⟨none, .box 3 (.t 1)⟩, 0, []⟩,
  ⟨⟨none, .mov 4 (.c (.one (.d (.bool false))))⟩, 0, []⟩]

abbrev i_laws_eqSeen_r1 : List RO := [
  ⟨⟨none, .faddr 5 0 (.t 2)⟩, 0, []⟩,
  ⟨⟨none, .load 6 none (.t 5)⟩, 0, []⟩,
  ⟨⟨none, .faddr 7 0 (.t 3)⟩, 0, []⟩,
  ⟨⟨none, .load 8 none (.t 7)⟩, 0, []⟩,
  ⟨⟨none, .bin 9 .neq (.t 6) (.t 8)⟩, 0, []⟩]

abbrev i_laws_eqSeen_r2 : List RO := [
  ⟨⟨none, .mov 4 (.c (.one (.d (.bool false))))⟩, 0, []⟩]

abbrev i_laws_eqSeen_r3 : List RO := [
  ⟨⟨none, .faddr 10 1 (.t 2)⟩, 0, []⟩,
  ⟨⟨none, .load 11 none (.t 10)⟩, 0, []⟩,
  ⟨⟨none, .faddr 12 1 (.t 3)⟩, 0, []⟩,
  ⟨⟨none, .load 13 none (.t 12)⟩, 0, []⟩,
  ⟨⟨none, .bin 14 .neq (.t 11) (.t 13)⟩, 0, []⟩]

abbrev i_laws_eqSeen_r4 : List RO := [
  ⟨⟨none, .mov 4 (.c (.one (.d (.bool false))))⟩, 0, []⟩]

abbrev i_laws_eqSeen_r5 : List RO := [
  ⟨⟨none, .faddr 15 2 (.t 2)⟩, 0, []⟩,
  ⟨⟨none, .load 16 none (.t 15)⟩, 0, []⟩,
  ⟨⟨none, .faddr 17 2 (.t 3)⟩, 0, []⟩,
  ⟨⟨none, .load 18 none (.t 17)⟩, 0, []⟩,
  ⟨⟨none, .bin 19 .neq (.t 16) (.t 18)⟩, 0, []⟩]

abbrev i_laws_eqSeen_r6 : List RO := [
  ⟨⟨none, .mov 4 (.c (.one (.d (.bool false))))⟩, 0, []⟩]

abbrev i_laws_eqSeen_r7 : List RO := [
  ⟨⟨none, .mov 4 (.c (.one (.d (.bool true))))⟩, 0, []⟩]

def i_laws_eqSeen : IC := (.seq (.reg i_laws_eqSeen_r0)
  (.seq (.seq (.reg i_laws_eqSeen_r1)
  (.cond (.t 9) (.seq (.reg i_laws_eqSeen_r2)
  .ret) .skip))
  (.seq (.seq (.reg i_laws_eqSeen_r3)
  (.cond (.t 14) (.seq (.reg i_laws_eqSeen_r4)
  .ret) .skip))
  (.seq (.seq (.reg i_laws_eqSeen_r5)
  (.cond (.t 19) (.seq (.reg i_laws_eqSeen_r6)
  .ret) .skip))
  (.seq (.reg i_laws_eqSeen_r7)
  .ret)))))

theorem i_laws_eqSeen_ok : (Try.f179.body.bind fun c => toIC Try.prog 20 c []) = some (i_laws_eqSeen, []) := by kernel_rfl

theorem i_laws_eqSeen_fn {ds rs : List D} (hle : ds.length ≤ 20) (h : AW Try.prog 20 i_laws_eqSeen (Ends [.tmp 4] rs) (init ds)) : Fn Try.prog k_laws_eqSeen (lent ds) true rs :=
  Fn.intro' (by kernel_rfl) Try.func179 (by kernel_rfl) i_laws_eqSeen_ok (by kernel_rfl) hle h.h

theorem i_laws_eqSeen_fnB {ds rs : List D} (hle : ds.length ≤ 20) (h : AW Try.prog 20 i_laws_eqSeen (EndsB [.tmp 4] rs) (init ds)) : Fn Try.prog k_laws_eqSeen (lent ds) false rs :=
  Fn.introB' (by kernel_rfl) Try.func179 (by kernel_rfl) i_laws_eqSeen_ok (by kernel_rfl) hle h.h

abbrev i_laws_eqSeenS_r0 : List RO := [
  ⟨⟨none, .mov 4 (.c (.one (.d (.bool false))))⟩, 0, []⟩]

abbrev i_laws_eqSeenS_r1 : List RO := [
  ⟨⟨none, .mov 6 (.t 0)⟩, 0, []⟩,
  ⟨⟨none, .len 7 false (.t 6)⟩, 0, []⟩,
  ⟨⟨none, .mov 8 (.t 1)⟩, 0, []⟩,
  ⟨⟨none, .len 9 false (.t 8)⟩, 0, []⟩,
  ⟨⟨none, .bin 10 .neq (.t 7) (.t 9)⟩, 0, []⟩]

abbrev i_laws_eqSeenS_r2 : List RO := [
  ⟨⟨none, .mov 4 (.c (.one (.d (.bool false))))⟩, 0, []⟩]

abbrev i_laws_eqSeenS_r3 : List RO := [
  ⟨⟨none, .mov 5 (.c (.one (.d (.int .i64 0))))⟩, 0, []⟩]

abbrev i_laws_eqSeenS_r4 : List RO := [
  ⟨⟨none, .mov 11 (.t 5)⟩, 0, []⟩,
  ⟨⟨none, .mov 12 (.t 0)⟩, 0, []⟩,
  ⟨⟨none, .len 13 false (.t 12)⟩, 0, []⟩,
  ⟨⟨none, .bin 14 .lss (.t 11) (.t 13)⟩, 0, []⟩]

abbrev i_laws_eqSeenS_r5 : List RO := [
  ⟨⟨none, .mov 17 (.t 0)⟩, 0, []⟩,
  ⟨⟨none, .mov 18 (.t 5)⟩, 0, []⟩,
  ⟨⟨none, .iaddr 19 3 (.t 17) (.t 18)⟩, 3, []⟩,
  ⟨⟨none, .load 20 (some 3) (.t 19)⟩, 7, []⟩,
  ⟨⟨none, .mov 21 (.t 1)⟩, 0, []⟩,
  ⟨⟨none, .mov 22 (.t 5)⟩, 0, []⟩,
  ⟨⟨none, .iaddr 23 3 (.t 21) (.t 22)⟩, 48, []⟩,
  ⟨⟨none, .load 24 (some 3) (.t 23)⟩, 112, []⟩,
  ⟨⟨none, .callv 25 (.c (.one (.fn k_laws_eqSeen []))) [(.t 20), (.t 24)]⟩, 255, []⟩,
  ⟨⟨none, .inv 26 (.t 25)⟩, 511, []⟩]

abbrev i_laws_eqSeenS_r6 : List RO := [
  ⟨⟨none, .mov 4 (.c (.one (.d (.bool false))))⟩, 0, []⟩]

abbrev i_laws_eqSeenS_r7 : List RO := [
  ⟨⟨none, .mov 15 (.t 5)⟩, 0, []⟩,
  ⟨⟨none, .bin 16 .add (.t 15) (.c (.one (.d (.int .i64 1))))⟩, 0, []⟩,
  ⟨⟨none, .mov 5 (.t 16)⟩, 0, []⟩]

abbrev i_laws_eqSeenS_r8 : List RO := [
  ⟨⟨none, .mov 4 (.c (.one (.d (.bool true))))⟩, 0, []⟩]

def i_laws_eqSeenS : IC := (.seq (.reg i_laws_eqSeenS_r0)
  (.seq (.seq (.reg i_laws_eqSeenS_r1)
  (.cond (.t 10) (.seq (.reg i_laws_eqSeenS_r2)
  .ret) .skip))
  (.seq (.seq (.reg i_laws_eqSeenS_r3)
  (.block 0 (.loop (.seq (.seq (.reg i_laws_eqSeenS_r4)
  (.cond (.t 14) .skip (.exit 0)))
  (.seq (.block 1 (.seq (.regd i_laws_eqSeenS_r5)
  (.cond (.t 26) (.seq (.reg i_laws_eqSeenS_r6)
  .ret) .skip)))
  (.reg i_laws_eqSeenS_r7))))))
  (.seq (.reg i_laws_eqSeenS_r8)
  .ret))))

theorem i_laws_eqSeenS_ok : (Try.f106.body.bind fun c => toIC Try.prog 27 c [[(0, []), (0, []), (3, []), (7, []), (0, []), (0, []), (48, []), (112, []), (255, []), (511, [])]]) = some (i_laws_eqSeenS, []) := by kernel_rfl

theorem i_laws_eqSeenS_fn {ds rs : List D} (hle : ds.length ≤ 27) (h : AW Try.prog 27 i_laws_eqSeenS (Ends [.tmp 4] rs) (init ds)) : Fn Try.prog k_laws_eqSeenS (lent ds) true rs :=
  Fn.intro' (by kernel_rfl) Try.func106 (by kernel_rfl) i_laws_eqSeenS_ok (by kernel_rfl) hle h.h

theorem i_laws_eqSeenS_fnB {ds rs : List D} (hle : ds.length ≤ 27) (h : AW Try.prog 27 i_laws_eqSeenS (EndsB [.tmp 4] rs) (init ds)) : Fn Try.prog k_laws_eqSeenS (lent ds) false rs :=
  Fn.introB' (by kernel_rfl) Try.func106 (by kernel_rfl) i_laws_eqSeenS_ok (by kernel_rfl) hle h.h

abbrev i_laws_eqPart_r0 : List RO := [
  ⟨⟨none, .box 2 (.t 0)⟩, 0, []⟩,
  ⟨⟨none, .box 3 (.t 1)⟩, 0, []⟩,
  ⟨⟨none, .mov 4 (.c (.one (.d (.bool false))))⟩, 0, []⟩]

abbrev i_laws_eqPart_r1 : List RO := [
  ⟨⟨none, .faddr 5 0 (.t 2)⟩, 0, []⟩,
  ⟨⟨none, .load 6 none (.t 5)⟩, 0, []⟩,
  ⟨⟨none, .faddr 7 0 (.t 3)⟩, 0, []⟩,
  ⟨⟨none, .load 8 none (.t 7)⟩, 0, []⟩,
  ⟨⟨none, .bin 9 .neq (.t 6) (.t 8)⟩, 0, []⟩]

abbrev i_laws_eqPart_r2 : List RO := [
  ⟨⟨none, .mov 4 (.c (.one (.d (.bool false))))⟩, 0, []⟩]

abbrev i_laws_eqPart_r3 : List RO := [
  ⟨⟨none, .faddr 10 1 (.t 2)⟩, 0, []⟩,
  ⟨⟨none, .load 11 none (.t 10)⟩, 0, []⟩,
  ⟨⟨none, .faddr 12 1 (.t 3)⟩, 0, []⟩,
  ⟨⟨none, .load 13 none (.t 12)⟩, 0, []⟩,
  ⟨⟨none, .bin 14 .neq (.t 11) (.t 13)⟩, 0, []⟩]

abbrev i_laws_eqPart_r4 : List RO := [
  ⟨⟨none, .mov 4 (.c (.one (.d (.bool false))))⟩, 0, []⟩]

abbrev i_laws_eqPart_r5 : List RO := [
  ⟨⟨none, .faddr 15 2 (.t 2)⟩, 0, []⟩,
  ⟨⟨none, .load 16 none (.t 15)⟩, 0, []⟩,
  ⟨⟨none, .faddr 17 2 (.t 3)⟩, 0, []⟩,
  ⟨⟨none, .load 18 none (.t 17)⟩, 0, []⟩,
  ⟨⟨none, .bin 19 .neq (.t 16) (.t 18)⟩, 0, []⟩]

abbrev i_laws_eqPart_r6 : List RO := [
  ⟨⟨none, .mov 4 (.c (.one (.d (.bool false))))⟩, 0, []⟩]

abbrev i_laws_eqPart_r7 : List RO := [
  ⟨⟨none, .mov 4 (.c (.one (.d (.bool true))))⟩, 0, []⟩]

def i_laws_eqPart : IC := (.seq (.reg i_laws_eqPart_r0)
  (.seq (.seq (.reg i_laws_eqPart_r1)
  (.cond (.t 9) (.seq (.reg i_laws_eqPart_r2)
  .ret) .skip))
  (.seq (.seq (.reg i_laws_eqPart_r3)
  (.cond (.t 14) (.seq (.reg i_laws_eqPart_r4)
  .ret) .skip))
  (.seq (.seq (.reg i_laws_eqPart_r5)
  (.cond (.t 19) (.seq (.reg i_laws_eqPart_r6)
  .ret) .skip))
  (.seq (.reg i_laws_eqPart_r7)
  .ret)))))

theorem i_laws_eqPart_ok : (Try.f172.body.bind fun c => toIC Try.prog 20 c []) = some (i_laws_eqPart, []) := by kernel_rfl

theorem i_laws_eqPart_fn {ds rs : List D} (hle : ds.length ≤ 20) (h : AW Try.prog 20 i_laws_eqPart (Ends [.tmp 4] rs) (init ds)) : Fn Try.prog k_laws_eqPart (lent ds) true rs :=
  Fn.intro' (by kernel_rfl) Try.func172 (by kernel_rfl) i_laws_eqPart_ok (by kernel_rfl) hle h.h

theorem i_laws_eqPart_fnB {ds rs : List D} (hle : ds.length ≤ 20) (h : AW Try.prog 20 i_laws_eqPart (EndsB [.tmp 4] rs) (init ds)) : Fn Try.prog k_laws_eqPart (lent ds) false rs :=
  Fn.introB' (by kernel_rfl) Try.func172 (by kernel_rfl) i_laws_eqPart_ok (by kernel_rfl) hle h.h

abbrev i_laws_eqPartS_r0 : List RO := [
  ⟨⟨none, .mov 4 (.c (.one (.d (.bool false))))⟩, 0, []⟩]

abbrev i_laws_eqPartS_r1 : List RO := [
  ⟨⟨none, .mov 6 (.t 0)⟩, 0, []⟩,
  ⟨⟨none, .len 7 false (.t 6)⟩, 0, []⟩,
  ⟨⟨none, .mov 8 (.t 1)⟩, 0, []⟩,
  ⟨⟨none, .len 9 false (.t 8)⟩, 0, []⟩,
  ⟨⟨none, .bin 10 .neq (.t 7) (.t 9)⟩, 0, []⟩]

abbrev i_laws_eqPartS_r2 : List RO := [
  ⟨⟨none, .mov 4 (.c (.one (.d (.bool false))))⟩, 0, []⟩]

abbrev i_laws_eqPartS_r3 : List RO := [
  ⟨⟨none, .mov 5 (.c (.one (.d (.int .i64 0))))⟩, 0, []⟩]

abbrev i_laws_eqPartS_r4 : List RO := [
  ⟨⟨none, .mov 11 (.t 5)⟩, 0, []⟩,
  ⟨⟨none, .mov 12 (.t 0)⟩, 0, []⟩,
  ⟨⟨none, .len 13 false (.t 12)⟩, 0, []⟩,
  ⟨⟨none, .bin 14 .lss (.t 11) (.t 13)⟩, 0, []⟩]

abbrev i_laws_eqPartS_r5 : List RO := [
  ⟨⟨none, .mov 17 (.t 0)⟩, 0, []⟩,
  ⟨⟨none, .mov 18 (.t 5)⟩, 0, []⟩,
  ⟨⟨none, .iaddr 19 3 (.t 17) (.t 18)⟩, 3, []⟩,
  ⟨⟨none, .load 20 (some 3) (.t 19)⟩, 7, []⟩,
  ⟨⟨none, .mov 21 (.t 1)⟩, 0, []⟩,
  ⟨⟨none, .mov 22 (.t 5)⟩, 0, []⟩,
  ⟨⟨none, .iaddr 23 3 (.t 21) (.t 22)⟩, 48, []⟩,
  ⟨⟨none, .load 24 (some 3) (.t 23)⟩, 112, []⟩,
  ⟨⟨none, .callv 25 (.c (.one (.fn k_laws_eqPart []))) [(.t 20), (.t 24)]⟩, 255, []⟩,
  ⟨⟨none, .inv 26 (.t 25)⟩, 511, []⟩]

abbrev i_laws_eqPartS_r6 : List RO := [
  ⟨⟨none, .mov 4 (.c (.one (.d (.bool false))))⟩, 0, []⟩]

abbrev i_laws_eqPartS_r7 : List RO := [
  ⟨⟨none, .mov 15 (.t 5)⟩, 0, []⟩,
  ⟨⟨none, .bin 16 .add (.t 15) (.c (.one (.d (.int .i64 1))))⟩, 0, []⟩,
  ⟨⟨none, .mov 5 (.t 16)⟩, 0, []⟩]

abbrev i_laws_eqPartS_r8 : List RO := [
  ⟨⟨none, .mov 4 (.c (.one (.d (.bool true))))⟩, 0, []⟩]

def i_laws_eqPartS : IC := (.seq (.reg i_laws_eqPartS_r0)
  (.seq (.seq (.reg i_laws_eqPartS_r1)
  (.cond (.t 10) (.seq (.reg i_laws_eqPartS_r2)
  .ret) .skip))
  (.seq (.seq (.reg i_laws_eqPartS_r3)
  (.block 0 (.loop (.seq (.seq (.reg i_laws_eqPartS_r4)
  (.cond (.t 14) .skip (.exit 0)))
  (.seq (.block 1 (.seq (.regd i_laws_eqPartS_r5)
  (.cond (.t 26) (.seq (.reg i_laws_eqPartS_r6)
  .ret) .skip)))
  (.reg i_laws_eqPartS_r7))))))
  (.seq (.reg i_laws_eqPartS_r8)
  .ret))))

theorem i_laws_eqPartS_ok : (Try.f87.body.bind fun c => toIC Try.prog 27 c [[(0, []), (0, []), (3, []), (7, []), (0, []), (0, []), (48, []), (112, []), (255, []), (511, [])]]) = some (i_laws_eqPartS, []) := by kernel_rfl

theorem i_laws_eqPartS_fn {ds rs : List D} (hle : ds.length ≤ 27) (h : AW Try.prog 27 i_laws_eqPartS (Ends [.tmp 4] rs) (init ds)) : Fn Try.prog k_laws_eqPartS (lent ds) true rs :=
  Fn.intro' (by kernel_rfl) Try.func87 (by kernel_rfl) i_laws_eqPartS_ok (by kernel_rfl) hle h.h

theorem i_laws_eqPartS_fnB {ds rs : List D} (hle : ds.length ≤ 27) (h : AW Try.prog 27 i_laws_eqPartS (EndsB [.tmp 4] rs) (init ds)) : Fn Try.prog k_laws_eqPartS (lent ds) false rs :=
  Fn.introB' (by kernel_rfl) Try.func87 (by kernel_rfl) i_laws_eqPartS_ok (by kernel_rfl) hle h.h

abbrev i_laws_eqClient_r0 : List RO := [
  ⟨⟨none, .box 2 (.t 0)⟩, 0, []⟩,
  ⟨⟨none, .box 3 (.t 1)⟩, 0, []⟩,
  ⟨⟨none, .mov 4 (.c (.one (.d (.bool false))))⟩, 0, []⟩]

abbrev i_laws_eqClient_r1 : List RO := [
  ⟨⟨none, .faddr 5 0 (.t 2)⟩, 0, []⟩,
  ⟨⟨none, .load 6 none (.t 5)⟩, 0, []⟩,
  ⟨⟨none, .faddr 7 0 (.t 3)⟩, 0, []⟩,
  ⟨⟨none, .load 8 none (.t 7)⟩, 0, []⟩,
  ⟨⟨none, .bin 9 .neq (.t 6) (.t 8)⟩, 0, []⟩]

abbrev i_laws_eqClient_r2 : List RO := [
  ⟨⟨none, .mov 4 (.c (.one (.d (.bool false))))⟩, 0, []⟩]

abbrev i_laws_eqClient_r3 : List RO := [
  ⟨⟨none, .faddr 10 1 (.t 2)⟩, 0, []⟩,
  ⟨⟨none, .load 11 none (.t 10)⟩, 0, []⟩,
  ⟨⟨none, .faddr 12 1 (.t 3)⟩, 0, []⟩,
  ⟨⟨none, .load 13 none (.t 12)⟩, 0, []⟩,
  ⟨⟨none, .bin 14 .neq (.t 11) (.t 13)⟩, 0, []⟩]

abbrev i_laws_eqClient_r4 : List RO := [
  ⟨⟨none, .mov 4 (.c (.one (.d (.bool false))))⟩, 0, []⟩]

abbrev i_laws_eqClient_r5 : List RO := [
  ⟨⟨none, .faddr 15 2 (.t 2)⟩, 0, []⟩,
  ⟨⟨none, .load 16 none (.t 15)⟩, 0, []⟩,
  ⟨⟨none, .faddr 17 2 (.t 3)⟩, 0, []⟩,
  ⟨⟨none, .load 18 none (.t 17)⟩, 0, []⟩,
  ⟨⟨none, .bin 19 .neq (.t 16) (.t 18)⟩, 0, []⟩]

abbrev i_laws_eqClient_r6 : List RO := [
  ⟨⟨none, .mov 4 (.c (.one (.d (.bool false))))⟩, 0, []⟩]

abbrev i_laws_eqClient_r7 : List RO := [
  ⟨⟨none, .faddr 20 3 (.t 2)⟩, 0, []⟩,
  ⟨⟨none, .load 21 none (.t 20)⟩, 0, []⟩,
  ⟨⟨none, .faddr 22 3 (.t 3)⟩, 0, []⟩,
  ⟨⟨none, .load 23 none (.t 22)⟩, 0, []⟩,
  ⟨⟨none, .callv 24 (.c (.one (.fn k_laws_eqWriteS []))) [(.t 21), (.t 23)]⟩, 0, []⟩,
  ⟨⟨none, .inv 25 (.t 24)⟩, 0, []⟩]

abbrev i_laws_eqClient_r8 : List RO := [
  ⟨⟨none, .mov 4 (.c (.one (.d (.bool false))))⟩, 0, []⟩]

abbrev i_laws_eqClient_r9 : List RO := [
  ⟨⟨none, .faddr 26 4 (.t 2)⟩, 0, []⟩,
  ⟨⟨none, .load 27 none (.t 26)⟩, 0, []⟩,
  ⟨⟨none, .faddr 28 4 (.t 3)⟩, 0, []⟩,
  ⟨⟨none, .load 29 none (.t 28)⟩, 0, []⟩,
  ⟨⟨none, .callv 30 (.c (.one (.fn k_laws_eqSeenS []))) [(.t 27), (.t 29)]⟩, 0, []⟩,
  ⟨⟨none, .inv 31 (.t 30)⟩, 0, []⟩]

abbrev i_laws_eqClient_r10 : List RO := [
  ⟨⟨none, .mov 4 (.c (.one (.d (.bool false))))⟩, 0, []⟩]

abbrev i_laws_eqClient_r11 : List RO := [
  ⟨⟨none, .faddr 32 5 (.t 2)⟩, 0, []⟩,
  ⟨⟨none, .load 33 none (.t 32)⟩, 0, []⟩,
  ⟨⟨none, .faddr 34 5 (.t 3)⟩, 0, []⟩,
  ⟨⟨none, .load 35 none (.t 34)⟩, 0, []⟩,
  ⟨⟨none, .bin 36 .neq (.t 33) (.t 35)⟩, 0, []⟩]

abbrev i_laws_eqClient_r12 : List RO := [
  ⟨⟨none, .mov 4 (.c (.one (.d (.bool false))))⟩, 0, []⟩]

abbrev i_laws_eqClient_r13 : List RO := [
  ⟨⟨none, .faddr 37 6 (.t 2)⟩, 0, []⟩,
  ⟨⟨none, .load 38 none (.t 37)⟩, 0, []⟩,
  ⟨⟨none, .faddr 39 6 (.t 3)⟩, 0, []⟩,
  ⟨⟨none, .load 40 none (.t 39)⟩, 0, []⟩,
  ⟨⟨none, .bin 41 .neq (.t 38) (.t 40)⟩, 0, []⟩]

abbrev i_laws_eqClient_r14 : List RO := [
  ⟨⟨none, .mov 4 (.c (.one (.d (.bool false))))⟩, 0, []⟩]

abbrev i_laws_eqClient_r15 : List RO := [
  ⟨⟨none, .faddr 42 7 (.t 2)⟩, 0, []⟩,
  ⟨⟨none, .load 43 none (.t 42)⟩, 0, []⟩,
  ⟨⟨none, .faddr 44 7 (.t 3)⟩, 0, []⟩,
  ⟨⟨none, .load 45 none (.t 44)⟩, 0, []⟩,
  ⟨⟨none, .bin 46 .neq (.t 43) (.t 45)⟩, 0, []⟩]

abbrev i_laws_eqClient_r16 : List RO := [
  ⟨⟨none, .mov 4 (.c (.one (.d (.bool false))))⟩, 0, []⟩]

abbrev i_laws_eqClient_r17 : List RO := [
  ⟨⟨none, .faddr 47 8 (.t 2)⟩, 0, []⟩,
  ⟨⟨none, .load 48 none (.t 47)⟩, 0, []⟩,
  ⟨⟨none, .faddr 49 8 (.t 3)⟩, 0, []⟩,
  ⟨⟨none, .load 50 none (.t 49)⟩, 0, []⟩,
  ⟨⟨none, .callv 51 (.c (.one (.fn k_laws_eqPartS []))) [(.t 48), (.t 50)]⟩, 0, []⟩,
  ⟨⟨none, .inv 52 (.t 51)⟩, 0, []⟩]

abbrev i_laws_eqClient_r18 : List RO := [
  ⟨⟨none, .mov 4 (.c (.one (.d (.bool false))))⟩, 0, []⟩]

abbrev i_laws_eqClient_r19 : List RO := [
  ⟨⟨none, .mov 4 (.c (.one (.d (.bool true))))⟩, 0, []⟩]

def i_laws_eqClient : IC := (.seq (.reg i_laws_eqClient_r0)
  (.seq (.seq (.reg i_laws_eqClient_r1)
  (.cond (.t 9) (.seq (.reg i_laws_eqClient_r2)
  .ret) .skip))
  (.seq (.seq (.reg i_laws_eqClient_r3)
  (.cond (.t 14) (.seq (.reg i_laws_eqClient_r4)
  .ret) .skip))
  (.seq (.seq (.reg i_laws_eqClient_r5)
  (.cond (.t 19) (.seq (.reg i_laws_eqClient_r6)
  .ret) .skip))
  (.seq (.seq (.reg i_laws_eqClient_r7)
  (.cond (.t 25) (.seq (.reg i_laws_eqClient_r8)
  .ret) .skip))
  (.seq (.seq (.reg i_laws_eqClient_r9)
  (.cond (.t 31) (.seq (.reg i_laws_eqClient_r10)
  .ret) .skip))
  (.seq (.seq (.reg i_laws_eqClient_r11)
  (.cond (.t 36) (.seq (.reg i_laws_eqClient_r12)
  .ret) .skip))
  (.seq (.seq (.reg i_laws_eqClient_r13)
  (.cond (.t 41) (.seq (.reg i_laws_eqClient_r14)
  .ret) .skip))
  (.seq (.seq (.reg i_laws_eqClient_r15)
  (.cond (.t 46) (.seq (.reg i_laws_eqClient_r16)
  .ret) .skip))
  (.seq (.seq (.reg i_laws_eqClient_r17)
  (.cond (.t 52) (.seq (.reg i_laws_eqClient_r18)
  .ret) .skip))
  (.seq (.reg i_laws_eqClient_r19)
  .ret)))))))))))

theorem i_laws_eqClient_ok : (Try.f30.body.bind fun c => toIC Try.prog 53 c []) = some (i_laws_eqClient, []) := by kernel_rfl

theorem i_laws_eqClient_fn {ds rs : List D} (hle : ds.length ≤ 53) (h : AW Try.prog 53 i_laws_eqClient (Ends [.tmp 4] rs) (init ds)) : Fn Try.prog k_laws_eqClient (lent ds) true rs :=
  Fn.intro' (by kernel_rfl) Try.func30 (by kernel_rfl) i_laws_eqClient_ok (by kernel_rfl) hle h.h

theorem i_laws_eqClient_fnB {ds rs : List D} (hle : ds.length ≤ 53) (h : AW Try.prog 53 i_laws_eqClient (EndsB [.tmp 4] rs) (init ds)) : Fn Try.prog k_laws_eqClient (lent ds) false rs :=
  Fn.introB' (by kernel_rfl) Try.func30 (by kernel_rfl) i_laws_eqClient_ok (by kernel_rfl) hle h.h

abbrev i_laws_FnExactClientOk_r0 : List RO := [
  ⟨⟨none, .box 1 (.t 0)⟩, 0, []⟩,
  ⟨⟨none, .mov 2 (.c (.one (.d (.bool false))))⟩, 0, []⟩]

abbrev i_laws_FnExactClientOk_r1 : List RO := [
  ⟨⟨none, .mov 3 (.c (.one (.d (.int .i64 1048576))))⟩, 0, []⟩]

abbrev i_laws_FnExactClientOk_r2 : List RO := [
  ⟨⟨none, .load 7 (some 9) (.t 1)⟩, 0, []⟩,
  ⟨⟨none, .mov 8 (.t 3)⟩, 0, []⟩,
  ⟨⟨none, .callv 9 (.c (.one (.fn k_laws_szClient []))) [(.t 7), (.t 8)]⟩, 0, []⟩,
  ⟨⟨none, .mov 3 (.t 9)⟩, 0, []⟩]

abbrev i_laws_FnExactClientOk_r3 : List RO := [
  ⟨⟨none, .mov 10 (.t 3)⟩, 0, []⟩,
  ⟨⟨none, .bin 11 .lss (.t 10) (.c (.one (.d (.int .i64 0))))⟩, 0, []⟩]

abbrev i_laws_FnExactClientOk_r4 : List RO := [
  ⟨⟨none, .mov 2 (.c (.one (.d (.bool true))))⟩, 0, []⟩]

abbrev i_laws_FnExactClientOk_r5 : List RO := [
  ⟨⟨none, .load 12 (some 9) (.t 1)⟩, 0, []⟩,
  ⟨⟨none, .callv 13 (.c (.one (.fn k_laws_toClient []))) [(.t 12)]⟩, 0, []⟩,
  ⟨⟨none, .callv 14 (.c (.one (.fn k_spec_ClientOk []))) [(.t 13)]⟩, 0, []⟩,
  ⟨⟨none, .mov 4 (.t 14)⟩, 0, []⟩]

abbrev i_laws_FnExactClientOk_r6 : List RO := [
  ⟨⟨none, .load 15 (some 9) (.t 1)⟩, 0, []⟩,
  ⟨⟨none, .callv 16 (.c (.one (.fn k_laws_toClient []))) [(.t 15)]⟩, 0, []⟩,
  ⟨⟨none, .var 5 [(.d (.int .i64 0)), (.d (.int .i64 0)), (.d (.int .i64 0)), .zs, .zs, (.d (.int .i64 0)), (.d (.int .i64 0)), (.d (.int .i64 0)), .zs]⟩, 0, []⟩,
  ⟨⟨none, .store 9 [(.int .i64 0), (.int .i64 0), (.int .i64 0), (.sl 2 []), (.sl 3 []), (.int .i64 0), (.int .i64 0), (.int .i64 0), (.sl 3 [])] (.t 5) (.t 16)⟩, 0, []⟩]

abbrev i_laws_FnExactClientOk_r7 : List RO := [
  ⟨⟨none, .load 17 (some 9) (.t 5)⟩, 0, []⟩,
  ⟨⟨none, .callv 18 (.c (.one (.fn k_impl_ClientOk []))) [(.t 17)]⟩, 0, []⟩,
  ⟨⟨none, .mov 6 (.t 18)⟩, 0, []⟩]

abbrev i_laws_FnExactClientOk_r8 : List RO := [
  ⟨⟨none, .mov 19 (.t 6)⟩, 0, []⟩,
  ⟨⟨none, .mov 20 (.t 4)⟩, 0, []⟩,
  ⟨⟨none, .beq 21 true (.t 19) (.t 20)⟩, 0, []⟩]

abbrev i_laws_FnExactClientOk_r9 : List RO := [
  ⟨⟨none, .mov 2 (.c (.one (.d (.bool false))))⟩, 0, []⟩]

abbrev i_laws_FnExactClientOk_r10 : List RO := [
  ⟨⟨none, .load 22 (some 9) (.t 5)⟩, 0, [24]⟩,
  ⟨⟨none, .load 23 (some 9) (.t 1)⟩, 0, []⟩,
  ⟨⟨none, .callv 24 (.c (.one (.fn k_laws_toClient []))) [(.t 23)]⟩, 2, []⟩,
  ⟨⟨none, .callv 25 (.c (.one (.fn k_laws_eqClient []))) [(.t 22), (.t 24)]⟩, 7, []⟩,
  ⟨⟨none, .inv 26 (.t 25)⟩, 15, []⟩]

abbrev i_laws_FnExactClientOk_r11 : List RO := [
  ⟨⟨none, .mov 2 (.c (.one (.d (.bool false))))⟩, 0, []⟩]

abbrev i_laws_FnExactClientOk_r12 : List RO := [
  ⟨⟨none, .mov 2 (.c (.one (.d (.bool true))))⟩, 0, []⟩]

def i_laws_FnExactClientOk : IC := (.seq (.reg i_laws_FnExactClientOk_r0)
  (.seq (.reg i_laws_FnExactClientOk_r1)
  (.seq (.reg i_laws_FnExactClientOk_r2)
  (.seq (.seq (.reg i_laws_FnExactClientOk_r3)
  (.cond (.t 11) (.seq (.reg i_laws_FnExactClientOk_r4)
  .ret) .skip))
  (.seq (.reg i_laws_FnExactClientOk_r5)
  (.seq (.reg i_laws_FnExactClientOk_r6)
  (.seq (.reg i_laws_FnExactClientOk_r7)
  (.seq (.seq (.reg i_laws_FnExactClientOk_r8)
  (.cond (.t 21) (.seq (.reg i_laws_FnExactClientOk_r9)
  .ret) .skip))
  (.seq (.seq (.regd i_laws_FnExactClientOk_r10)
  (.cond (.t 26) (.seq (.reg i_laws_FnExactClientOk_r11)
  .ret) .skip))
  (.seq (.reg i_laws_FnExactClientOk_r12)
  .ret))))))))))

theorem i_laws_FnExactClientOk_ok : (Try.f6.body.bind fun c => toIC Try.prog 27 c [[(0, [24]), (0, []), (2, []), (7, []), (15, [])]]) = some (i_laws_FnExactClientOk, []) := by kernel_rfl

theorem i_laws_FnExactClientOk_fn {ds rs : List D} (hle : ds.length ≤ 27) (h : AW Try.prog 27 i_laws_FnExactClientOk (Ends [.tmp 2] rs) (init ds)) : Fn Try.prog k_laws_FnExactClientOk (lent ds) true rs :=
  Fn.intro' (by kernel_rfl) Try.func6 (by kernel_rfl) i_laws_FnExactClientOk_ok (by kernel_rfl) hle h.h

theorem i_laws_FnExactClientOk_fnB {ds rs : List D} (hle : ds.length ≤ 27) (h : AW Try.prog 27 i_laws_FnExactClientOk (EndsB [.tmp 2] rs) (init ds)) : Fn Try.prog k_laws_FnExactClientOk (lent ds) false rs :=
  Fn.introB' (by kernel_rfl) Try.func6 (by kernel_rfl) i_laws_FnExactClientOk_ok (by kernel_rfl) hle h.h

end Go.AW
