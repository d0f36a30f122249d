/- The compact code of functions of the program, and that it is the program's: made by a program of the prover's own (tool/GenIC.lean). Conditions: none. -/
import Derived.Test.YtnhleppnhaakgaaYc
import Derived.Test.YtnhleppnhaakgaaRows
import Derived.KernelRfl
set_option linter.unusedVariables false
set_option maxRecDepth 100000
namespace Go.AW
open Go.Proofs

abbrev k_laws_FnExactAtlasSplit : Nat := 8
abbrev k_impl_AtlasOk : Nat := 30
abbrev k_laws_szAtlas : Nat := 58
abbrev k_spec_AtlasSplit : Nat := 59
abbrev k_laws_toAtlas : Nat := 60
abbrev k_impl_AtlasSplit : Nat := 61
abbrev k_laws_eqAtlas : Nat := 62
abbrev k_laws_markAtlas : Nat := 63
abbrev k_laws_heldAtlas : Nat := 64
abbrev k_laws_szCellS : Nat := 91
abbrev k_spec_StoreOk : Nat := 97
abbrev k_spec_RangeOk : Nat := 99
abbrev k_laws_toCellS : Nat := 103
abbrev k_impl_RangeOk : Nat := 107
abbrev k_impl_StoreOk : Nat := 110
abbrev k_laws_eqCellS : Nat := 115
abbrev k_impl_copyAtlas : Nat := 121
abbrev k_impl_partAt : Nat := 122
abbrev k_impl_isGroup : Nat := 123
abbrev k_spec_AtlasOk : Nat := 124
abbrev k_spec_l15Copy : Nat := 125
abbrev k_spec_PartAt : Nat := 126
abbrev k_spec_l15Group : Nat := 127
abbrev k_impl_from : Nat := 128
abbrev k__impl_Move_keys : Nat := 130
abbrev k_impl_cellsIn : Nat := 131
abbrev k_slices_Clone___impl_Cell_impl_Cell_ : Nat := 132
abbrev k_impl_PartsOk : Nat := 134
abbrev k_impl_moveOk : Nat := 135
abbrev k_impl_isWhole : Nat := 138
abbrev k_spec_l1Whole : Nat := 141
abbrev k_spec_l1In : Nat := 142
abbrev k_laws_szPartS : Nat := 165
abbrev k_laws_szMove : Nat := 166
abbrev k_spec_SplitAt : Nat := 167
abbrev k_laws_toPartS : Nat := 168
abbrev k_laws_toMove : Nat := 169
abbrev k_impl_SplitAt : Nat := 170
abbrev k_laws_eqPartS : Nat := 171
abbrev k_laws_eqMove : Nat := 172
abbrev k_laws_markPartS : Nat := 173
abbrev k_laws_markMove : Nat := 174
abbrev k_laws_heldPartS : Nat := 175
abbrev k_laws_heldMove : Nat := 176
abbrev k_spec_l10Key : Nat := 203
abbrev k_laws_toCell : Nat := 205
abbrev k_impl_isKey : Nat := 208
abbrev k_laws_eqCell : Nat := 214
abbrev k_slices_Clone___impl_Part_impl_Part_ : Nat := 221
abbrev k_slices_IndexFunc___impl_Part_impl_Part_ : Nat := 222
abbrev k_impl_partAt_1 : Nat := 223
abbrev k_spec_PartsOk : Nat := 224
abbrev k_spec_l15In : Nat := 225
abbrev k_slices_ContainsFunc___impl_Cell_impl_Cell_ : Nat := 226
abbrev k_impl_cellsIn_1 : Nat := 227
abbrev k__impl_Range_has : Nat := 228
abbrev k_laws_toPart : Nat := 244
abbrev k_impl_PartAt : Nat := 245
abbrev k_slices_Insert___impl_Part_impl_Part_ : Nat := 246
abbrev k_laws_eqPart : Nat := 247
abbrev k_laws_markCellS : Nat := 248
abbrev k_laws_heldCellS : Nat := 249
abbrev k_slices_IndexFunc___impl_Cell_impl_Cell_ : Nat := 264
abbrev k_slices_overlaps_impl_Part_ : Nat := 270
abbrev k_slices_rotateRight_impl_Part_ : Nat := 271
abbrev i_laws_szPartS_r0 : List RO := [
  ⟨⟨none, .mov 4 (.c (.one (.d (.int .i64 0))))⟩, 0, []⟩]

abbrev i_laws_szPartS_r1 : List RO := [
  ⟨⟨none, .mov 5 (.t 1)⟩, 0, []⟩,
  ⟨⟨none, .mov 6 (.t 0)⟩, 0, []⟩,
  ⟨⟨none, .len 7 false (.t 6)⟩, 0, []⟩,
  ⟨⟨none, .bin 8 .sub (.t 5) (.t 7)⟩, 0, []⟩,
  ⟨⟨none, .mov 1 (.t 8)⟩, 0, []⟩]

abbrev i_laws_szPartS_r2 : List RO := [
  ⟨⟨none, .mov 9 (.t 1)⟩, 0, []⟩,
  ⟨⟨none, .bin 10 .lss (.t 9) (.c (.one (.d (.int .i64 0))))⟩, 0, []⟩]

abbrev i_laws_szPartS_r3 : List RO := [
  ⟨⟨none, .mov 4 (.c (.one (.d (.int .i64 (-1)))))⟩, 0, []⟩]

abbrev i_laws_szPartS_r4 : List RO := [
  ⟨⟨none, .mov 11 (.t 1)⟩, 0, []⟩,
  ⟨⟨none, .mov 4 (.t 11)⟩, 0, []⟩]

def i_laws_szPartS : IC := (.seq (.reg i_laws_szPartS_r0)
  (.seq (.reg i_laws_szPartS_r1)
  (.seq (.seq (.reg i_laws_szPartS_r2)
  (.cond (.t 10) (.seq (.reg i_laws_szPartS_r3)
  .ret) .skip))
  (.seq (.reg i_laws_szPartS_r4)
  .ret))))

theorem i_laws_szPartS_ok : (Try.f165.body.bind fun c => toIC Try.prog 12 c []) = some (i_laws_szPartS, []) := by kernel_rfl

theorem i_laws_szPartS_fn {ds rs : List D} (hle : ds.length ≤ 12) (h : AW Try.prog 12 i_laws_szPartS (Ends [.tmp 4] rs) (init ds)) : Fn Try.prog k_laws_szPartS (lent ds) true rs :=
  Fn.intro' (by kernel_rfl) Try.func165 (by kernel_rfl) i_laws_szPartS_ok (by kernel_rfl) hle h.h

abbrev i_laws_szCellS_r0 : List RO := [
  ⟨⟨none, .mov 4 (.c (.one (.d (.int .i64 0))))⟩, 0, []⟩]

abbrev i_laws_szCellS_r1 : List RO := [
  ⟨⟨none, .mov 5 (.t 1)⟩, 0, []⟩,
  ⟨⟨none, .mov 6 (.t 0)⟩, 0, []⟩,
  ⟨⟨none, .len 7 false (.t 6)⟩, 0, []⟩,
  ⟨⟨none, .bin 8 .sub (.t 5) (.t 7)⟩, 0, []⟩,
  ⟨⟨none, .mov 1 (.t 8)⟩, 0, []⟩]

abbrev i_laws_szCellS_r2 : List RO := [
  ⟨⟨none, .mov 9 (.t 1)⟩, 0, []⟩,
  ⟨⟨none, .bin 10 .lss (.t 9) (.c (.one (.d (.int .i64 0))))⟩, 0, []⟩]

abbrev i_laws_szCellS_r3 : List RO := [
  ⟨⟨none, .mov 4 (.c (.one (.d (.int .i64 (-1)))))⟩, 0, []⟩]

abbrev i_laws_szCellS_r4 : List RO := [
  ⟨⟨none, .mov 11 (.t 1)⟩, 0, []⟩,
  ⟨⟨none, .mov 4 (.t 11)⟩, 0, []⟩]

def i_laws_szCellS : IC := (.seq (.reg i_laws_szCellS_r0)
  (.seq (.reg i_laws_szCellS_r1)
  (.seq (.seq (.reg i_laws_szCellS_r2)
  (.cond (.t 10) (.seq (.reg i_laws_szCellS_r3)
  .ret) .skip))
  (.seq (.reg i_laws_szCellS_r4)
  .ret))))

theorem i_laws_szCellS_ok : (Try.f91.body.bind fun c => toIC Try.prog 12 c []) = some (i_laws_szCellS, []) := by kernel_rfl

theorem i_laws_szCellS_fn {ds rs : List D} (hle : ds.length ≤ 12) (h : AW Try.prog 12 i_laws_szCellS (Ends [.tmp 4] rs) (init ds)) : Fn Try.prog k_laws_szCellS (lent ds) true rs :=
  Fn.intro' (by kernel_rfl) Try.func91 (by kernel_rfl) i_laws_szCellS_ok (by kernel_rfl) hle h.h

abbrev i_laws_szMove_r0 : List RO := [
  ⟨⟨none, .box 2 (.t 0)⟩, 0, []⟩,
  ⟨⟨none, .mov 4 (.c (.one (.d (.int .i64 0))))⟩, 0, []⟩]

abbrev i_laws_szMove_r1 : List RO := [
  ⟨⟨none, .faddr 5 6 (.t 2)⟩, 0, []⟩,
  ⟨⟨none, .load 6 none (.t 5)⟩, 0, []⟩,
  ⟨⟨none, .mov 7 (.t 1)⟩, 0, []⟩,
  ⟨⟨none, .callv 8 (.c (.one (.fn k_laws_szCellS []))) [(.t 6), (.t 7)]⟩, 0, []⟩,
  ⟨⟨none, .mov 1 (.t 8)⟩, 0, []⟩]

abbrev i_laws_szMove_r2 : List RO := [
  ⟨⟨none, .mov 9 (.t 1)⟩, 0, []⟩,
  ⟨⟨none, .bin 10 .lss (.t 9) (.c (.one (.d (.int .i64 0))))⟩, 0, []⟩]

abbrev i_laws_szMove_r3 : List RO := [
  ⟨⟨none, .mov 4 (.c (.one (.d (.int .i64 (-1)))))⟩, 0, []⟩]

abbrev i_laws_szMove_r4 : List RO := [
  ⟨⟨none, .mov 11 (.t 1)⟩, 0, []⟩,
  ⟨⟨none, .mov 4 (.t 11)⟩, 0, []⟩]

def i_laws_szMove : IC := (.seq (.reg i_laws_szMove_r0)
  (.seq (.reg i_laws_szMove_r1)
  (.seq (.seq (.reg i_laws_szMove_r2)
  (.cond (.t 10) (.seq (.reg i_laws_szMove_r3)
  .ret) .skip))
  (.seq (.reg i_laws_szMove_r4)
  .ret))))

theorem i_laws_szMove_ok : (Try.f166.body.bind fun c => toIC Try.prog 12 c []) = some (i_laws_szMove, []) := by kernel_rfl

theorem i_laws_szMove_fn {ds rs : List D} (hle : ds.length ≤ 12) (h : AW Try.prog 12 i_laws_szMove (Ends [.tmp 4] rs) (init ds)) : Fn Try.prog k_laws_szMove (lent ds) true rs :=
  Fn.intro' (by kernel_rfl) Try.func166 (by kernel_rfl) i_laws_szMove_ok (by kernel_rfl) hle h.h

abbrev i_laws_szAtlas_r0 : List RO := [
  ⟨⟨none, .box 2 (.t 0)⟩, 0, []⟩,
  ⟨⟨none, .mov 4 (.c (.one (.d (.int .i64 0))))⟩, 0, []⟩]

abbrev i_laws_szAtlas_r1 : List RO := [
  ⟨⟨none, .faddr 5 1 (.t 2)⟩, 0, []⟩,
  ⟨⟨none, .load 6 none (.t 5)⟩, 0, []⟩,
  ⟨⟨none, .mov 7 (.t 1)⟩, 0, []⟩,
  ⟨⟨none, .callv 8 (.c (.one (.fn k_laws_szPartS []))) [(.t 6), (.t 7)]⟩, 0, []⟩,
  ⟨⟨none, .mov 1 (.t 8)⟩, 0, []⟩]

abbrev i_laws_szAtlas_r2 : List RO := [
  ⟨⟨none, .mov 9 (.t 1)⟩, 0, []⟩,
  ⟨⟨none, .bin 10 .lss (.t 9) (.c (.one (.d (.int .i64 0))))⟩, 0, []⟩]

abbrev i_laws_szAtlas_r3 : List RO := [
  ⟨⟨none, .mov 4 (.c (.one (.d (.int .i64 (-1)))))⟩, 0, []⟩]

abbrev i_laws_szAtlas_r4 : List RO := [
  ⟨⟨none, .faddr 11 2 (.t 2)⟩, 0, []⟩,
  ⟨⟨none, .load 12 (some 7) (.t 11)⟩, 0, []⟩,
  ⟨⟨none, .mov 13 (.t 1)⟩, 0, []⟩,
  ⟨⟨none, .callv 14 (.c (.one (.fn k_laws_szMove []))) [(.t 12), (.t 13)]⟩, 0, []⟩,
  ⟨⟨none, .mov 1 (.t 14)⟩, 0, []⟩]

abbrev i_laws_szAtlas_r5 : List RO := [
  ⟨⟨none, .mov 15 (.t 1)⟩, 0, []⟩,
  ⟨⟨none, .bin 16 .lss (.t 15) (.c (.one (.d (.int .i64 0))))⟩, 0, []⟩]

abbrev i_laws_szAtlas_r6 : List RO := [
  ⟨⟨none, .mov 4 (.c (.one (.d (.int .i64 (-1)))))⟩, 0, []⟩]

abbrev i_laws_szAtlas_r7 : List RO := [
  ⟨⟨none, .mov 17 (.t 1)⟩, 0, []⟩,
  ⟨⟨none, .mov 4 (.t 17)⟩, 0, []⟩]

def i_laws_szAtlas : IC := (.seq (.reg i_laws_szAtlas_r0)
  (.seq (.reg i_laws_szAtlas_r1)
  (.seq (.seq (.reg i_laws_szAtlas_r2)
  (.cond (.t 10) (.seq (.reg i_laws_szAtlas_r3)
  .ret) .skip))
  (.seq (.reg i_laws_szAtlas_r4)
  (.seq (.seq (.reg i_laws_szAtlas_r5)
  (.cond (.t 16) (.seq (.reg i_laws_szAtlas_r6)
  .ret) .skip))
  (.seq (.reg i_laws_szAtlas_r7)
  .ret))))))

theorem i_laws_szAtlas_ok : (Try.f58.body.bind fun c => toIC Try.prog 18 c []) = some (i_laws_szAtlas, []) := by kernel_rfl

theorem i_laws_szAtlas_fn {ds rs : List D} (hle : ds.length ≤ 18) (h : AW Try.prog 18 i_laws_szAtlas (Ends [.tmp 4] rs) (init ds)) : Fn Try.prog k_laws_szAtlas (lent ds) true rs :=
  Fn.intro' (by kernel_rfl) Try.func58 (by kernel_rfl) i_laws_szAtlas_ok (by kernel_rfl) hle h.h

abbrev i_laws_toPart_r0 : List RO := [
  ⟨⟨none, .box 1 (.t 0)⟩, 0, []⟩,
  ⟨⟨none, .var 2 [(.d (.int .i64 0)), (.d (.int .i64 0)), (.d (.int .i64 0))]⟩, 0, []⟩]

abbrev i_laws_toPart_r1 : List RO := [
  ⟨⟨none, .var 3 [(.d (.int .i64 0)), (.d (.int .i64 0)), (.d (.int .i64 0))]⟩, 0, []⟩]

abbrev i_laws_toPart_r2 : List RO := [
  ⟨⟨none, .faddr 4 0 (.t 1)⟩, 0, []⟩,
  ⟨⟨none, .load 5 none (.t 4)⟩, 0, []⟩,
  ⟨⟨none, .faddr 6 0 (.t 3)⟩, 0, []⟩,
  ⟨⟨none, .store 1 [(.int .i64 0)] (.t 6) (.t 5)⟩, 0, []⟩]

abbrev i_laws_toPart_r3 : List RO := [
  ⟨⟨none, .faddr 7 1 (.t 1)⟩, 0, []⟩,
  ⟨⟨none, .load 8 none (.t 7)⟩, 0, []⟩,
  ⟨⟨none, .faddr 9 1 (.t 3)⟩, 0, []⟩,
  ⟨⟨none, .store 1 [(.int .i64 0)] (.t 9) (.t 8)⟩, 0, []⟩]

abbrev i_laws_toPart_r4 : List RO := [
  ⟨⟨none, .faddr 10 2 (.t 1)⟩, 0, []⟩,
  ⟨⟨none, .load 11 none (.t 10)⟩, 0, []⟩,
  ⟨⟨none, .faddr 12 2 (.t 3)⟩, 0, []⟩,
  ⟨⟨none, .store 1 [(.int .i64 0)] (.t 12) (.t 11)⟩, 0, []⟩]

abbrev i_laws_toPart_r5 : List RO := [
  ⟨⟨none, .load 13 (some 3) (.t 3)⟩, 0, []⟩,
  ⟨⟨none, .store 3 [(.int .i64 0), (.int .i64 0), (.int .i64 0)] (.t 2) (.t 13)⟩, 0, []⟩]

def i_laws_toPart : IC := (.seq (.reg i_laws_toPart_r0)
  (.seq (.reg i_laws_toPart_r1)
  (.seq (.reg i_laws_toPart_r2)
  (.seq (.reg i_laws_toPart_r3)
  (.seq (.reg i_laws_toPart_r4)
  (.seq (.reg i_laws_toPart_r5)
  .ret))))))

theorem i_laws_toPart_ok : (Try.f244.body.bind fun c => toIC Try.prog 14 c []) = some (i_laws_toPart, []) := by kernel_rfl

theorem i_laws_toPart_fn {ds rs : List D} (hle : ds.length ≤ 14) (h : AW Try.prog 14 i_laws_toPart (Ends [.cell 2 (some 3)] rs) (init ds)) : Fn Try.prog k_laws_toPart (lent ds) true rs :=
  Fn.intro' (by kernel_rfl) Try.func244 (by kernel_rfl) i_laws_toPart_ok (by kernel_rfl) hle h.h

abbrev i_laws_toPartS_r0 : List RO := [
  ⟨⟨none, .mov 2 (.c (.one .zs))⟩, 0, []⟩]

abbrev i_laws_toPartS_r1 : List RO := [
  ⟨⟨none, .mov 5 (.t 0)⟩, 0, []⟩,
  ⟨⟨none, .len 6 false (.t 5)⟩, 0, []⟩,
  ⟨⟨none, .mksl 7 3 24 [(.int .i64 0), (.int .i64 0), (.int .i64 0)] (.t 6) (.t 6)⟩, 0, []⟩,
  ⟨⟨none, .mov 3 (.t 7)⟩, 0, []⟩]

abbrev i_laws_toPartS_r2 : List RO := [
  ⟨⟨none, .mov 4 (.c (.one (.d (.int .i64 0))))⟩, 0, []⟩]

abbrev i_laws_toPartS_r3 : List RO := [
  ⟨⟨none, .mov 8 (.t 4)⟩, 0, []⟩,
  ⟨⟨none, .mov 9 (.t 0)⟩, 0, []⟩,
  ⟨⟨none, .len 10 false (.t 9)⟩, 0, []⟩,
  ⟨⟨none, .bin 11 .lss (.t 8) (.t 10)⟩, 0, []⟩]

abbrev i_laws_toPartS_r4 : List RO := [
  ⟨⟨none, .mov 14 (.t 3)⟩, 0, []⟩,
  ⟨⟨none, .mov 15 (.t 4)⟩, 0, []⟩,
  ⟨⟨none, .mov 16 (.t 0)⟩, 0, []⟩,
  ⟨⟨none, .mov 17 (.t 4)⟩, 0, []⟩,
  ⟨⟨none, .iaddr 18 3 (.t 16) (.t 17)⟩, 0, []⟩,
  ⟨⟨none, .load 19 (some 3) (.t 18)⟩, 0, []⟩,
  ⟨⟨none, .callv 20 (.c (.one (.fn k_laws_toPart []))) [(.t 19)]⟩, 0, []⟩,
  ⟨⟨none, .iaddr 21 3 (.t 14) (.t 15)⟩, 0, []⟩,
  ⟨⟨none, .store 3 [(.int .i64 0), (.int .i64 0), (.int .i64 0)] (.t 21) (.t 20)⟩, 0, []⟩]

abbrev i_laws_toPartS_r5 : List RO := [
  ⟨⟨none, .mov 12 (.t 4)⟩, 0, []⟩,
  ⟨⟨none, .bin 13 .add (.t 12) (.c (.one (.d (.int .i64 1))))⟩, 0, []⟩,
  ⟨⟨none, .mov 4 (.t 13)⟩, 0, []⟩]

abbrev i_laws_toPartS_r6 : List RO := [
  ⟨⟨none, .mov 22 (.t 3)⟩, 0, []⟩,
  ⟨⟨none, .mov 2 (.t 22)⟩, 0, []⟩]

def i_laws_toPartS : IC := (.seq (.reg i_laws_toPartS_r0)
  (.seq (.reg i_laws_toPartS_r1)
  (.seq (.seq (.reg i_laws_toPartS_r2)
  (.block 0 (.loop (.seq (.seq (.reg i_laws_toPartS_r3)
  (.cond (.t 11) .skip (.exit 0)))
  (.seq (.block 1 (.reg i_laws_toPartS_r4))
  (.reg i_laws_toPartS_r5))))))
  (.seq (.reg i_laws_toPartS_r6)
  .ret))))

theorem i_laws_toPartS_ok : (Try.f168.body.bind fun c => toIC Try.prog 23 c []) = some (i_laws_toPartS, []) := by kernel_rfl

theorem i_laws_toPartS_fn {ds rs : List D} (hle : ds.length ≤ 23) (h : AW Try.prog 23 i_laws_toPartS (Ends [.tmp 2] rs) (init ds)) : Fn Try.prog k_laws_toPartS (lent ds) true rs :=
  Fn.intro' (by kernel_rfl) Try.func168 (by kernel_rfl) i_laws_toPartS_ok (by kernel_rfl) hle h.h

abbrev i_laws_toCell_r0 : List RO := [
  ⟨⟨none, .box 1 (.t 0)⟩, 0, []⟩,
  ⟨⟨none, .var 2 [(.d (.int .i64 0)), (.d (.int .i64 0))]⟩, 0, []⟩]

abbrev i_laws_toCell_r1 : List RO := [
  ⟨⟨none, .var 3 [(.d (.int .i64 0)), (.d (.int .i64 0))]⟩, 0, []⟩]

abbrev i_laws_toCell_r2 : List RO := [
  ⟨⟨none, .faddr 4 0 (.t 1)⟩, 0, []⟩,
  ⟨⟨none, .load 5 none (.t 4)⟩, 0, []⟩,
  ⟨⟨none, .faddr 6 0 (.t 3)⟩, 0, []⟩,
  ⟨⟨none, .store 1 [(.int .i64 0)] (.t 6) (.t 5)⟩, 0, []⟩]

abbrev i_laws_toCell_r3 : List RO := [
  ⟨⟨none, .faddr 7 1 (.t 1)⟩, 0, []⟩,
  ⟨⟨none, .load 8 none (.t 7)⟩, 0, []⟩,
  ⟨⟨none, .faddr 9 1 (.t 3)⟩, 0, []⟩,
  ⟨⟨none, .store 1 [(.int .i64 0)] (.t 9) (.t 8)⟩, 0, []⟩]

abbrev i_laws_toCell_r4 : List RO := [
  ⟨⟨none, .load 10 (some 2) (.t 3)⟩, 0, []⟩,
  ⟨⟨none, .store 2 [(.int .i64 0), (.int .i64 0)] (.t 2) (.t 10)⟩, 0, []⟩]

def i_laws_toCell : IC := (.seq (.reg i_laws_toCell_r0)
  (.seq (.reg i_laws_toCell_r1)
  (.seq (.reg i_laws_toCell_r2)
  (.seq (.reg i_laws_toCell_r3)
  (.seq (.reg i_laws_toCell_r4)
  .ret)))))

theorem i_laws_toCell_ok : (Try.f205.body.bind fun c => toIC Try.prog 11 c []) = some (i_laws_toCell, []) := by kernel_rfl

theorem i_laws_toCell_fn {ds rs : List D} (hle : ds.length ≤ 11) (h : AW Try.prog 11 i_laws_toCell (Ends [.cell 2 (some 2)] rs) (init ds)) : Fn Try.prog k_laws_toCell (lent ds) true rs :=
  Fn.intro' (by kernel_rfl) Try.func205 (by kernel_rfl) i_laws_toCell_ok (by kernel_rfl) hle h.h

abbrev i_laws_toCellS_r0 : List RO := [
  ⟨⟨none, .mov 2 (.c (.one .zs))⟩, 0, []⟩]

abbrev i_laws_toCellS_r1 : List RO := [
  ⟨⟨none, .mov 5 (.t 0)⟩, 0, []⟩,
  ⟨⟨none, .len 6 false (.t 5)⟩, 0, []⟩,
  ⟨⟨none, .mksl 7 2 16 [(.int .i64 0), (.int .i64 0)] (.t 6) (.t 6)⟩, 0, []⟩,
  ⟨⟨none, .mov 3 (.t 7)⟩, 0, []⟩]

abbrev i_laws_toCellS_r2 : List RO := [
  ⟨⟨none, .mov 4 (.c (.one (.d (.int .i64 0))))⟩, 0, []⟩]

abbrev i_laws_toCellS_r3 : List RO := [
  ⟨⟨none, .mov 8 (.t 4)⟩, 0, []⟩,
  ⟨⟨none, .mov 9 (.t 0)⟩, 0, []⟩,
  ⟨⟨none, .len 10 false (.t 9)⟩, 0, []⟩,
  ⟨⟨none, .bin 11 .lss (.t 8) (.t 10)⟩, 0, []⟩]

abbrev i_laws_toCellS_r4 : List RO := [
  ⟨⟨none, .mov 14 (.t 3)⟩, 0, []⟩,
  ⟨⟨none, .mov 15 (.t 4)⟩, 0, []⟩,
  ⟨⟨none, .mov 16 (.t 0)⟩, 0, []⟩,
  ⟨⟨none, .mov 17 (.t 4)⟩, 0, []⟩,
  ⟨⟨none, .iaddr 18 2 (.t 16) (.t 17)⟩, 0, []⟩,
  ⟨⟨none, .load 19 (some 2) (.t 18)⟩, 0, []⟩,
  ⟨⟨none, .callv 20 (.c (.one (.fn k_laws_toCell []))) [(.t 19)]⟩, 0, []⟩,
  ⟨⟨none, .iaddr 21 2 (.t 14) (.t 15)⟩, 0, []⟩,
  ⟨⟨none, .store 2 [(.int .i64 0), (.int .i64 0)] (.t 21) (.t 20)⟩, 0, []⟩]

abbrev i_laws_toCellS_r5 : List RO := [
  ⟨⟨none, .mov 12 (.t 4)⟩, 0, []⟩,
  ⟨⟨none, .bin 13 .add (.t 12) (.c (.one (.d (.int .i64 1))))⟩, 0, []⟩,
  ⟨⟨none, .mov 4 (.t 13)⟩, 0, []⟩]

abbrev i_laws_toCellS_r6 : List RO := [
  ⟨⟨none, .mov 22 (.t 3)⟩, 0, []⟩,
  ⟨⟨none, .mov 2 (.t 22)⟩, 0, []⟩]

def i_laws_toCellS : IC := (.seq (.reg i_laws_toCellS_r0)
  (.seq (.reg i_laws_toCellS_r1)
  (.seq (.seq (.reg i_laws_toCellS_r2)
  (.block 0 (.loop (.seq (.seq (.reg i_laws_toCellS_r3)
  (.cond (.t 11) .skip (.exit 0)))
  (.seq (.block 1 (.reg i_laws_toCellS_r4))
  (.reg i_laws_toCellS_r5))))))
  (.seq (.reg i_laws_toCellS_r6)
  .ret))))

theorem i_laws_toCellS_ok : (Try.f103.body.bind fun c => toIC Try.prog 23 c []) = some (i_laws_toCellS, []) := by kernel_rfl

theorem i_laws_toCellS_fn {ds rs : List D} (hle : ds.length ≤ 23) (h : AW Try.prog 23 i_laws_toCellS (Ends [.tmp 2] rs) (init ds)) : Fn Try.prog k_laws_toCellS (lent ds) true rs :=
  Fn.intro' (by kernel_rfl) Try.func103 (by kernel_rfl) i_laws_toCellS_ok (by kernel_rfl) hle h.h

abbrev i_laws_toMove_r0 : List RO := [
  ⟨⟨none, .box 1 (.t 0)⟩, 0, []⟩,
  ⟨⟨none, .var 2 [(.d (.int .i64 0)), (.d (.int .i64 0)), (.d (.int .i64 0)), (.d (.int .i64 0)), (.d (.int .i64 0)), (.d (.int .i64 0)), .zs]⟩, 0, []⟩]

abbrev i_laws_toMove_r1 : List RO := [
  ⟨⟨none, .var 3 [(.d (.int .i64 0)), (.d (.int .i64 0)), (.d (.int .i64 0)), (.d (.int .i64 0)), (.d (.int .i64 0)), (.d (.int .i64 0)), .zs]⟩, 0, []⟩]

abbrev i_laws_toMove_r2 : List RO := [
  ⟨⟨none, .faddr 4 0 (.t 1)⟩, 0, []⟩,
  ⟨⟨none, .load 5 none (.t 4)⟩, 0, []⟩,
  ⟨⟨none, .faddr 6 0 (.t 3)⟩, 0, []⟩,
  ⟨⟨none, .store 1 [(.int .i64 0)] (.t 6) (.t 5)⟩, 0, []⟩]

abbrev i_laws_toMove_r3 : List RO := [
  ⟨⟨none, .faddr 7 1 (.t 1)⟩, 0, []⟩,
  ⟨⟨none, .load 8 none (.t 7)⟩, 0, []⟩,
  ⟨⟨none, .faddr 9 1 (.t 3)⟩, 0, []⟩,
  ⟨⟨none, .store 1 [(.int .i64 0)] (.t 9) (.t 8)⟩, 0, []⟩]

abbrev i_laws_toMove_r4 : List RO := [
  ⟨⟨none, .faddr 10 2 (.t 1)⟩, 0, []⟩,
  ⟨⟨none, .load 11 none (.t 10)⟩, 0, []⟩,
  ⟨⟨none, .faddr 12 2 (.t 3)⟩, 0, []⟩,
  ⟨⟨none, .store 1 [(.int .i64 0)] (.t 12) (.t 11)⟩, 0, []⟩]

abbrev i_laws_toMove_r5 : List RO := [
  ⟨⟨none, .faddr 13 3 (.t 1)⟩, 0, []⟩,
  ⟨⟨none, .load 14 none (.t 13)⟩, 0, []⟩,
  ⟨⟨none, .faddr 15 3 (.t 3)⟩, 0, []⟩,
  ⟨⟨none, .store 1 [(.int .i64 0)] (.t 15) (.t 14)⟩, 0, []⟩]

abbrev i_laws_toMove_r6 : List RO := [
  ⟨⟨none, .faddr 16 4 (.t 1)⟩, 0, []⟩,
  ⟨⟨none, .load 17 none (.t 16)⟩, 0, []⟩,
  ⟨⟨none, .faddr 18 4 (.t 3)⟩, 0, []⟩,
  ⟨⟨none, .store 1 [(.int .i64 0)] (.t 18) (.t 17)⟩, 0, []⟩]

abbrev i_laws_toMove_r7 : List RO := [
  ⟨⟨none, .faddr 19 5 (.t 1)⟩, 0, []⟩,
  ⟨⟨none, .load 20 none (.t 19)⟩, 0, []⟩,
  ⟨⟨none, .faddr 21 5 (.t 3)⟩, 0, []⟩,
  ⟨⟨none, .store 1 [(.int .i64 0)] (.t 21) (.t 20)⟩, 0, []⟩]

abbrev i_laws_toMove_r8 : List RO := [
  ⟨⟨none, .faddr 22 6 (.t 1)⟩, 0, []⟩,
  ⟨⟨none, .load 23 none (.t 22)⟩, 0, []⟩,
  ⟨⟨none, .callv 24 (.c (.one (.fn k_laws_toCellS []))) [(.t 23)]⟩, 0, []⟩,
  ⟨⟨none, .faddr 25 6 (.t 3)⟩, 0, []⟩,
  ⟨⟨none, .store 1 [(.sl 2 [])] (.t 25) (.t 24)⟩, 0, []⟩]

abbrev i_laws_toMove_r9 : List RO := [
  ⟨⟨none, .load 26 (some 7) (.t 3)⟩, 0, []⟩,
  ⟨⟨none, .store 7 [(.int .i64 0), (.int .i64 0), (.int .i64 0), (.int .i64 0), (.int .i64 0), (.int .i64 0), (.sl 2 [])] (.t 2) (.t 26)⟩, 0, []⟩]

def i_laws_toMove : IC := (.seq (.reg i_laws_toMove_r0)
  (.seq (.reg i_laws_toMove_r1)
  (.seq (.reg i_laws_toMove_r2)
  (.seq (.reg i_laws_toMove_r3)
  (.seq (.reg i_laws_toMove_r4)
  (.seq (.reg i_laws_toMove_r5)
  (.seq (.reg i_laws_toMove_r6)
  (.seq (.reg i_laws_toMove_r7)
  (.seq (.reg i_laws_toMove_r8)
  (.seq (.reg i_laws_toMove_r9)
  .ret))))))))))

theorem i_laws_toMove_ok : (Try.f169.body.bind fun c => toIC Try.prog 27 c []) = some (i_laws_toMove, []) := by kernel_rfl

theorem i_laws_toMove_fn {ds rs : List D} (hle : ds.length ≤ 27) (h : AW Try.prog 27 i_laws_toMove (Ends [.cell 2 (some 7)] rs) (init ds)) : Fn Try.prog k_laws_toMove (lent ds) true rs :=
  Fn.intro' (by kernel_rfl) Try.func169 (by kernel_rfl) i_laws_toMove_ok (by kernel_rfl) hle h.h

abbrev i_laws_toAtlas_r0 : List RO := [
  ⟨⟨none, .box 1 (.t 0)⟩, 0, []⟩,
  ⟨⟨none, .var 2 [(.d (.int .i64 0)), .zs, (.d (.int .i64 0)), (.d (.int .i64 0)), (.d (.int .i64 0)), (.d (.int .i64 0)), (.d (.int .i64 0)), (.d (.int .i64 0)), .zs]⟩, 0, []⟩]

abbrev i_laws_toAtlas_r1 : List RO := [
  ⟨⟨none, .var 3 [(.d (.int .i64 0)), .zs, (.d (.int .i64 0)), (.d (.int .i64 0)), (.d (.int .i64 0)), (.d (.int .i64 0)), (.d (.int .i64 0)), (.d (.int .i64 0)), .zs]⟩, 0, []⟩]

abbrev i_laws_toAtlas_r2 : List RO := [
  ⟨⟨none, .faddr 4 0 (.t 1)⟩, 0, []⟩,
  ⟨⟨none, .load 5 none (.t 4)⟩, 0, []⟩,
  ⟨⟨none, .faddr 6 0 (.t 3)⟩, 0, []⟩,
  ⟨⟨none, .store 1 [(.int .i64 0)] (.t 6) (.t 5)⟩, 0, []⟩]

abbrev i_laws_toAtlas_r3 : List RO := [
  ⟨⟨none, .faddr 7 1 (.t 1)⟩, 0, []⟩,
  ⟨⟨none, .load 8 none (.t 7)⟩, 0, []⟩,
  ⟨⟨none, .callv 9 (.c (.one (.fn k_laws_toPartS []))) [(.t 8)]⟩, 0, []⟩,
  ⟨⟨none, .faddr 10 1 (.t 3)⟩, 0, []⟩,
  ⟨⟨none, .store 1 [(.sl 3 [])] (.t 10) (.t 9)⟩, 0, []⟩]

abbrev i_laws_toAtlas_r4 : List RO := [
  ⟨⟨none, .faddr 11 2 (.t 1)⟩, 0, []⟩,
  ⟨⟨none, .load 12 (some 7) (.t 11)⟩, 0, []⟩,
  ⟨⟨none, .callv 13 (.c (.one (.fn k_laws_toMove []))) [(.t 12)]⟩, 0, []⟩,
  ⟨⟨none, .faddr 14 2 (.t 3)⟩, 0, []⟩,
  ⟨⟨none, .store 7 [(.int .i64 0), (.int .i64 0), (.int .i64 0), (.int .i64 0), (.int .i64 0), (.int .i64 0), (.sl 2 [])] (.t 14) (.t 13)⟩, 0, []⟩]

abbrev i_laws_toAtlas_r5 : List RO := [
  ⟨⟨none, .load 15 (some 9) (.t 3)⟩, 0, []⟩,
  ⟨⟨none, .store 9 [(.int .i64 0), (.sl 3 []), (.int .i64 0), (.int .i64 0), (.int .i64 0), (.int .i64 0), (.int .i64 0), (.int .i64 0), (.sl 2 [])] (.t 2) (.t 15)⟩, 0, []⟩]

def i_laws_toAtlas : IC := (.seq (.reg i_laws_toAtlas_r0)
  (.seq (.reg i_laws_toAtlas_r1)
  (.seq (.reg i_laws_toAtlas_r2)
  (.seq (.reg i_laws_toAtlas_r3)
  (.seq (.reg i_laws_toAtlas_r4)
  (.seq (.reg i_laws_toAtlas_r5)
  .ret))))))

theorem i_laws_toAtlas_ok : (Try.f60.body.bind fun c => toIC Try.prog 16 c []) = some (i_laws_toAtlas, []) := by kernel_rfl

theorem i_laws_toAtlas_fn {ds rs : List D} (hle : ds.length ≤ 16) (h : AW Try.prog 16 i_laws_toAtlas (Ends [.cell 2 (some 9)] rs) (init ds)) : Fn Try.prog k_laws_toAtlas (lent ds) true rs :=
  Fn.intro' (by kernel_rfl) Try.func60 (by kernel_rfl) i_laws_toAtlas_ok (by kernel_rfl) hle h.h

abbrev i_spec_l1In_r0 : List RO := [
  ⟨⟨none, .mov 6 (.c (.one (.d (.bool false))))⟩, 0, []⟩]

abbrev i_spec_l1In_r1 : List RO := [
  ⟨⟨none, .mov 7 (.t 0)⟩, 0, []⟩,
  ⟨⟨none, .mov 8 (.t 1)⟩, 0, []⟩,
  ⟨⟨none, .bin 9 .geq (.t 7) (.t 8)⟩, 0, []⟩,
  ⟨⟨none, .mov 10 (.t 9)⟩, 0, []⟩,
  ⟨⟨some (10, true), .mov 11 (.t 0)⟩, 0, []⟩,
  ⟨⟨some (10, true), .mov 12 (.t 2)⟩, 0, []⟩,
  ⟨⟨some (10, true), .bin 13 .leq (.t 11) (.t 12)⟩, 0, []⟩,
  ⟨⟨none, .pick 14 (.t 10) (.t 13) (.c (.one (.d (.bool false))))⟩, 0, []⟩,
  ⟨⟨none, .mov 6 (.t 14)⟩, 0, []⟩]

def i_spec_l1In : IC := (.seq (.reg i_spec_l1In_r0)
  (.seq (.reg i_spec_l1In_r1)
  .ret))

theorem i_spec_l1In_ok : (Try.f142.body.bind fun c => toIC Try.prog 15 c []) = some (i_spec_l1In, []) := by kernel_rfl

theorem i_spec_l1In_fn {ds rs : List D} (hle : ds.length ≤ 15) (h : AW Try.prog 15 i_spec_l1In (Ends [.tmp 6] rs) (init ds)) : Fn Try.prog k_spec_l1In (lent ds) true rs :=
  Fn.intro' (by kernel_rfl) Try.func142 (by kernel_rfl) i_spec_l1In_ok (by kernel_rfl) hle h.h

abbrev i_spec_PartsOk_r0 : List RO := [
  ⟨⟨none, .mov 2 (.c (.one (.d (.bool false))))⟩, 0, []⟩]

abbrev i_spec_PartsOk_r1 : List RO := [
  ⟨⟨none, .mov 6 (.t 0)⟩, 0, []⟩,
  ⟨⟨none, .len 7 false (.t 6)⟩, 0, []⟩,
  ⟨⟨none, .mov 3 (.t 7)⟩, 0, []⟩]

abbrev i_spec_PartsOk_r2 : List RO := [
  ⟨⟨none, .mov 8 (.t 3)⟩, 0, []⟩,
  ⟨⟨none, .callv 9 (.c (.one (.fn k_spec_l1In []))) [(.t 8), (.c (.one (.d (.int .i64 1)))), (.c (.one (.d (.int .i64 16))))]⟩, 0, []⟩,
  ⟨⟨none, .inv 10 (.t 9)⟩, 0, []⟩,
  ⟨⟨none, .mov 11 (.t 10)⟩, 0, []⟩,
  ⟨⟨some (11, false), .mov 12 (.t 0)⟩, 0, []⟩,
  ⟨⟨some (11, false), .iaddr 13 3 (.t 12) (.c (.one (.d (.int .i64 0))))⟩, 0, []⟩,
  ⟨⟨some (11, false), .faddr 14 0 (.t 13)⟩, 0, []⟩,
  ⟨⟨some (11, false), .load 15 none (.t 14)⟩, 0, []⟩,
  ⟨⟨some (11, false), .bin 16 .neq (.t 15) (.c (.one (.d (.int .i64 0))))⟩, 0, []⟩,
  ⟨⟨none, .pick 17 (.t 11) (.c (.one (.d (.bool true)))) (.t 16)⟩, 0, []⟩,
  ⟨⟨none, .mov 18 (.t 17)⟩, 0, []⟩,
  ⟨⟨some (18, false), .mov 19 (.t 0)⟩, 0, []⟩,
  ⟨⟨some (18, false), .mov 20 (.t 3)⟩, 0, []⟩,
  ⟨⟨some (18, false), .bin 21 .sub (.t 20) (.c (.one (.d (.int .i64 1))))⟩, 0, []⟩,
  ⟨⟨some (18, false), .iaddr 22 3 (.t 19) (.t 21)⟩, 0, []⟩,
  ⟨⟨some (18, false), .faddr 23 1 (.t 22)⟩, 0, []⟩,
  ⟨⟨some (18, false), .load 24 none (.t 23)⟩, 0, []⟩,
  ⟨⟨some (18, false), .bin 25 .neq (.t 24) (.c (.one (.d (.int .i64 1000))))⟩, 0, []⟩,
  ⟨⟨none, .pick 26 (.t 18) (.c (.one (.d (.bool true)))) (.t 25)⟩, 0, []⟩]

abbrev i_spec_PartsOk_r3 : List RO := [
  ⟨⟨none, .mov 2 (.c (.one (.d (.bool false))))⟩, 0, []⟩]

abbrev i_spec_PartsOk_r4 : List RO := [
  ⟨⟨none, .mov 4 (.c (.one (.d (.int .i64 0))))⟩, 0, []⟩]

abbrev i_spec_PartsOk_r5 : List RO := [
  ⟨⟨none, .mov 27 (.t 4)⟩, 0, []⟩,
  ⟨⟨none, .mov 28 (.t 3)⟩, 0, []⟩,
  ⟨⟨none, .bin 29 .lss (.t 27) (.t 28)⟩, 0, []⟩]

abbrev i_spec_PartsOk_r6 : List RO := [
  ⟨⟨none, .mov 32 (.t 0)⟩, 0, []⟩,
  ⟨⟨none, .mov 33 (.t 4)⟩, 0, []⟩,
  ⟨⟨none, .iaddr 34 3 (.t 32) (.t 33)⟩, 0, []⟩,
  ⟨⟨none, .load 35 (some 3) (.t 34)⟩, 0, []⟩,
  ⟨⟨none, .var 5 [(.d (.int .i64 0)), (.d (.int .i64 0)), (.d (.int .i64 0))]⟩, 0, []⟩,
  ⟨⟨none, .store 3 [(.int .i64 0), (.int .i64 0), (.int .i64 0)] (.t 5) (.t 35)⟩, 0, []⟩]

abbrev i_spec_PartsOk_r7 : List RO := [
  ⟨⟨none, .faddr 36 0 (.t 5)⟩, 0, []⟩,
  ⟨⟨none, .load 37 none (.t 36)⟩, 1, []⟩,
  ⟨⟨none, .faddr 38 1 (.t 5)⟩, 0, []⟩,
  ⟨⟨none, .load 39 none (.t 38)⟩, 4, []⟩,
  ⟨⟨none, .bin 40 .geq (.t 37) (.t 39)⟩, 15, []⟩,
  ⟨⟨none, .mov 41 (.t 40)⟩, 31, []⟩,
  ⟨⟨some (41, false), .faddr 42 0 (.t 5)⟩, 63, []⟩,
  ⟨⟨some (41, false), .load 43 none (.t 42)⟩, 127, []⟩,
  ⟨⟨some (41, false), .bin 44 .lss (.t 43) (.c (.one (.d (.int .i64 0))))⟩, 255, []⟩,
  ⟨⟨none, .pick 45 (.t 41) (.c (.one (.d (.bool true)))) (.t 44)⟩, 511, []⟩,
  ⟨⟨none, .mov 46 (.t 45)⟩, 1023, []⟩,
  ⟨⟨some (46, false), .faddr 47 1 (.t 5)⟩, 2047, []⟩,
  ⟨⟨some (46, false), .load 48 none (.t 47)⟩, 4095, []⟩,
  ⟨⟨some (46, false), .bin 49 .gtr (.t 48) (.c (.one (.d (.int .i64 1000))))⟩, 8191, []⟩,
  ⟨⟨none, .pick 50 (.t 46) (.c (.one (.d (.bool true)))) (.t 49)⟩, 16383, []⟩,
  ⟨⟨none, .mov 51 (.t 50)⟩, 32767, []⟩,
  ⟨⟨some (51, false), .faddr 52 2 (.t 5)⟩, 65535, []⟩,
  ⟨⟨some (51, false), .load 53 none (.t 52)⟩, 131071, []⟩,
  ⟨⟨some (51, false), .callv 54 (.c (.one (.fn k_spec_l1In []))) [(.t 53), (.c (.one (.d (.int .i64 0)))), (.c (.one (.d (.int .i64 3))))]⟩, 262143, []⟩,
  ⟨⟨some (51, false), .inv 55 (.t 54)⟩, 524287, []⟩,
  ⟨⟨none, .pick 56 (.t 51) (.c (.one (.d (.bool true)))) (.t 55)⟩, 1048575, []⟩,
  ⟨⟨none, .mov 57 (.t 56)⟩, 2097151, []⟩,
  ⟨⟨some (57, false), .mov 58 (.t 4)⟩, 4194303, []⟩,
  ⟨⟨some (57, false), .bin 59 .gtr (.t 58) (.c (.one (.d (.int .i64 0))))⟩, 8388607, []⟩,
  ⟨⟨some (57, false), .mov 60 (.t 59)⟩, 16777215, []⟩,
  ⟨⟨some (60, true), .mov 61 (.t 0)⟩, 33554431, []⟩,
  ⟨⟨some (60, true), .mov 62 (.t 4)⟩, 33554431, []⟩,
  ⟨⟨some (60, true), .bin 63 .sub (.t 62) (.c (.one (.d (.int .i64 1))))⟩, 100663295, []⟩,
  ⟨⟨some (60, true), .iaddr 64 3 (.t 61) (.t 63)⟩, 268435455, []⟩,
  ⟨⟨some (60, true), .faddr 65 1 (.t 64)⟩, 536870911, []⟩,
  ⟨⟨some (60, true), .load 66 none (.t 65)⟩, 1073741823, []⟩,
  ⟨⟨some (60, true), .faddr 67 0 (.t 5)⟩, 33554431, []⟩,
  ⟨⟨some (60, true), .load 68 none (.t 67)⟩, 2181038079, []⟩,
  ⟨⟨some (60, true), .bin 69 .neq (.t 66) (.t 68)⟩, 8589934591, []⟩,
  ⟨⟨some (57, false), .pick 70 (.t 60) (.t 69) (.c (.one (.d (.bool false))))⟩, 17179869183, []⟩,
  ⟨⟨none, .pick 71 (.t 57) (.c (.one (.d (.bool true)))) (.t 70)⟩, 34359738367, []⟩]

abbrev i_spec_PartsOk_r8 : List RO := [
  ⟨⟨none, .mov 2 (.c (.one (.d (.bool false))))⟩, 0, []⟩]

abbrev i_spec_PartsOk_r9 : List RO := [
  ⟨⟨none, .mov 30 (.t 4)⟩, 0, []⟩,
  ⟨⟨none, .bin 31 .add (.t 30) (.c (.one (.d (.int .i64 1))))⟩, 0, []⟩,
  ⟨⟨none, .mov 4 (.t 31)⟩, 0, []⟩]

abbrev i_spec_PartsOk_r10 : List RO := [
  ⟨⟨none, .mov 2 (.c (.one (.d (.bool true))))⟩, 0, []⟩]

def i_spec_PartsOk : IC := (.seq (.reg i_spec_PartsOk_r0)
  (.seq (.reg i_spec_PartsOk_r1)
  (.seq (.seq (.reg i_spec_PartsOk_r2)
  (.cond (.t 26) (.seq (.reg i_spec_PartsOk_r3)
  .ret) .skip))
  (.seq (.seq (.reg i_spec_PartsOk_r4)
  (.block 0 (.loop (.seq (.seq (.reg i_spec_PartsOk_r5)
  (.cond (.t 29) .skip (.exit 0)))
  (.seq (.block 1 (.seq (.reg i_spec_PartsOk_r6)
  (.seq (.regd i_spec_PartsOk_r7)
  (.cond (.t 71) (.seq (.reg i_spec_PartsOk_r8)
  .ret) .skip))))
  (.reg i_spec_PartsOk_r9))))))
  (.seq (.reg i_spec_PartsOk_r10)
  .ret)))))

theorem i_spec_PartsOk_ok : (Try.f224.body.bind fun c => toIC Try.prog 72 c [[(0, []), (1, []), (0, []), (4, []), (15, []), (31, []), (63, []), (127, []), (255, []), (511, []), (1023, []), (2047, []), (4095, []), (8191, []), (16383, []), (32767, []), (65535, []), (131071, []), (262143, []), (524287, []), (1048575, []), (2097151, []), (4194303, []), (8388607, []), (16777215, []), (33554431, []), (33554431, []), (100663295, []), (268435455, []), (536870911, []), (1073741823, []), (33554431, []), (2181038079, []), (8589934591, []), (17179869183, []), (34359738367, [])]]) = some (i_spec_PartsOk, []) := by kernel_rfl

theorem i_spec_PartsOk_fn {ds rs : List D} (hle : ds.length ≤ 72) (h : AW Try.prog 72 i_spec_PartsOk (Ends [.tmp 2] rs) (init ds)) : Fn Try.prog k_spec_PartsOk (lent ds) true rs :=
  Fn.intro' (by kernel_rfl) Try.func224 (by kernel_rfl) i_spec_PartsOk_ok (by kernel_rfl) hle h.h

abbrev i_spec_l10Key_r0 : List RO := [
  ⟨⟨none, .mov 2 (.c (.one (.d (.bool false))))⟩, 0, []⟩]

abbrev i_spec_l10Key_r1 : List RO := [
  ⟨⟨none, .mov 3 (.t 0)⟩, 0, []⟩,
  ⟨⟨none, .callv 4 (.c (.one (.fn k_spec_l1In []))) [(.t 3), (.c (.one (.d (.int .i64 0)))), (.c (.one (.d (.int .i64 999))))]⟩, 0, []⟩,
  ⟨⟨none, .mov 2 (.t 4)⟩, 0, []⟩]

def i_spec_l10Key : IC := (.seq (.reg i_spec_l10Key_r0)
  (.seq (.reg i_spec_l10Key_r1)
  .ret))

theorem i_spec_l10Key_ok : (Try.f203.body.bind fun c => toIC Try.prog 5 c []) = some (i_spec_l10Key, []) := by kernel_rfl

theorem i_spec_l10Key_fn {ds rs : List D} (hle : ds.length ≤ 5) (h : AW Try.prog 5 i_spec_l10Key (Ends [.tmp 2] rs) (init ds)) : Fn Try.prog k_spec_l10Key (lent ds) true rs :=
  Fn.intro' (by kernel_rfl) Try.func203 (by kernel_rfl) i_spec_l10Key_ok (by kernel_rfl) hle h.h

abbrev i_spec_l1Whole_r0 : List RO := [
  ⟨⟨none, .mov 2 (.c (.one (.d (.bool false))))⟩, 0, []⟩]

abbrev i_spec_l1Whole_r1 : List RO := [
  ⟨⟨none, .mov 3 (.t 0)⟩, 0, []⟩,
  ⟨⟨none, .callv 4 (.c (.one (.fn k_spec_l1In []))) [(.t 3), (.c (.one (.d (.int .i64 0)))), (.c (.one (.d (.int .i64 1000000000))))]⟩, 0, []⟩,
  ⟨⟨none, .mov 2 (.t 4)⟩, 0, []⟩]

def i_spec_l1Whole : IC := (.seq (.reg i_spec_l1Whole_r0)
  (.seq (.reg i_spec_l1Whole_r1)
  .ret))

theorem i_spec_l1Whole_ok : (Try.f141.body.bind fun c => toIC Try.prog 5 c []) = some (i_spec_l1Whole, []) := by kernel_rfl

theorem i_spec_l1Whole_fn {ds rs : List D} (hle : ds.length ≤ 5) (h : AW Try.prog 5 i_spec_l1Whole (Ends [.tmp 2] rs) (init ds)) : Fn Try.prog k_spec_l1Whole (lent ds) true rs :=
  Fn.intro' (by kernel_rfl) Try.func141 (by kernel_rfl) i_spec_l1Whole_ok (by kernel_rfl) hle h.h

abbrev i_spec_StoreOk_r0 : List RO := [
  ⟨⟨none, .mov 2 (.c (.one (.d (.bool false))))⟩, 0, []⟩]

abbrev i_spec_StoreOk_r1 : List RO := [
  ⟨⟨none, .mov 4 (.t 0)⟩, 0, []⟩,
  ⟨⟨none, .len 5 false (.t 4)⟩, 0, []⟩,
  ⟨⟨none, .bin 6 .gtr (.t 5) (.c (.one (.d (.int .i64 60))))⟩, 0, []⟩]

abbrev i_spec_StoreOk_r2 : List RO := [
  ⟨⟨none, .mov 2 (.c (.one (.d (.bool false))))⟩, 0, []⟩]

abbrev i_spec_StoreOk_r3 : List RO := [
  ⟨⟨none, .mov 3 (.c (.one (.d (.int .i64 0))))⟩, 0, []⟩]

abbrev i_spec_StoreOk_r4 : List RO := [
  ⟨⟨none, .mov 7 (.t 3)⟩, 0, []⟩,
  ⟨⟨none, .mov 8 (.t 0)⟩, 0, []⟩,
  ⟨⟨none, .len 9 false (.t 8)⟩, 0, []⟩,
  ⟨⟨none, .bin 10 .lss (.t 7) (.t 9)⟩, 0, []⟩]

abbrev i_spec_StoreOk_r5 : List RO := [
  ⟨⟨none, .mov 13 (.t 0)⟩, 0, []⟩,
  ⟨⟨none, .mov 14 (.t 3)⟩, 0, []⟩,
  ⟨⟨none, .iaddr 15 2 (.t 13) (.t 14)⟩, 3, []⟩,
  ⟨⟨none, .faddr 16 0 (.t 15)⟩, 7, []⟩,
  ⟨⟨none, .load 17 none (.t 16)⟩, 15, []⟩,
  ⟨⟨none, .callv 18 (.c (.one (.fn k_spec_l10Key []))) [(.t 17)]⟩, 31, []⟩,
  ⟨⟨none, .inv 19 (.t 18)⟩, 63, []⟩,
  ⟨⟨none, .mov 20 (.t 19)⟩, 127, []⟩,
  ⟨⟨some (20, false), .mov 21 (.t 0)⟩, 255, []⟩,
  ⟨⟨some (20, false), .mov 22 (.t 3)⟩, 255, []⟩,
  ⟨⟨some (20, false), .iaddr 23 2 (.t 21) (.t 22)⟩, 1023, []⟩,
  ⟨⟨some (20, false), .faddr 24 1 (.t 23)⟩, 2047, []⟩,
  ⟨⟨some (20, false), .load 25 none (.t 24)⟩, 4095, []⟩,
  ⟨⟨some (20, false), .callv 26 (.c (.one (.fn k_spec_l1Whole []))) [(.t 25)]⟩, 8191, []⟩,
  ⟨⟨some (20, false), .inv 27 (.t 26)⟩, 16383, []⟩,
  ⟨⟨none, .pick 28 (.t 20) (.c (.one (.d (.bool true)))) (.t 27)⟩, 32767, []⟩,
  ⟨⟨none, .mov 29 (.t 28)⟩, 65535, []⟩,
  ⟨⟨some (29, false), .mov 30 (.t 3)⟩, 131071, []⟩,
  ⟨⟨some (29, false), .bin 31 .gtr (.t 30) (.c (.one (.d (.int .i64 0))))⟩, 262143, []⟩,
  ⟨⟨some (29, false), .mov 32 (.t 31)⟩, 524287, []⟩,
  ⟨⟨some (32, true), .mov 33 (.t 0)⟩, 1048575, []⟩,
  ⟨⟨some (32, true), .mov 34 (.t 3)⟩, 1048575, []⟩,
  ⟨⟨some (32, true), .bin 35 .sub (.t 34) (.c (.one (.d (.int .i64 1))))⟩, 3145727, []⟩,
  ⟨⟨some (32, true), .iaddr 36 2 (.t 33) (.t 35)⟩, 8388607, []⟩,
  ⟨⟨some (32, true), .faddr 37 0 (.t 36)⟩, 16777215, []⟩,
  ⟨⟨some (32, true), .load 38 none (.t 37)⟩, 33554431, []⟩,
  ⟨⟨some (32, true), .mov 39 (.t 0)⟩, 1048575, []⟩,
  ⟨⟨some (32, true), .mov 40 (.t 3)⟩, 1048575, []⟩,
  ⟨⟨some (32, true), .iaddr 41 2 (.t 39) (.t 40)⟩, 202375167, []⟩,
  ⟨⟨some (32, true), .faddr 42 0 (.t 41)⟩, 470810623, []⟩,
  ⟨⟨some (32, true), .load 43 none (.t 42)⟩, 1007681535, []⟩,
  ⟨⟨some (32, true), .bin 44 .geq (.t 38) (.t 43)⟩, 2147483647, []⟩,
  ⟨⟨some (29, false), .pick 45 (.t 32) (.t 44) (.c (.one (.d (.bool false))))⟩, 4294967295, []⟩,
  ⟨⟨none, .pick 46 (.t 29) (.c (.one (.d (.bool true)))) (.t 45)⟩, 8589934591, []⟩]

abbrev i_spec_StoreOk_r6 : List RO := [
  ⟨⟨none, .mov 2 (.c (.one (.d (.bool false))))⟩, 0, []⟩]

abbrev i_spec_StoreOk_r7 : List RO := [
  ⟨⟨none, .mov 11 (.t 3)⟩, 0, []⟩,
  ⟨⟨none, .bin 12 .add (.t 11) (.c (.one (.d (.int .i64 1))))⟩, 0, []⟩,
  ⟨⟨none, .mov 3 (.t 12)⟩, 0, []⟩]

abbrev i_spec_StoreOk_r8 : List RO := [
  ⟨⟨none, .mov 2 (.c (.one (.d (.bool true))))⟩, 0, []⟩]

def i_spec_StoreOk : IC := (.seq (.reg i_spec_StoreOk_r0)
  (.seq (.seq (.reg i_spec_StoreOk_r1)
  (.cond (.t 6) (.seq (.reg i_spec_StoreOk_r2)
  .ret) .skip))
  (.seq (.seq (.reg i_spec_StoreOk_r3)
  (.block 0 (.loop (.seq (.seq (.reg i_spec_StoreOk_r4)
  (.cond (.t 10) .skip (.exit 0)))
  (.seq (.block 1 (.seq (.regd i_spec_StoreOk_r5)
  (.cond (.t 46) (.seq (.reg i_spec_StoreOk_r6)
  .ret) .skip)))
  (.reg i_spec_StoreOk_r7))))))
  (.seq (.reg i_spec_StoreOk_r8)
  .ret))))

theorem i_spec_StoreOk_ok : (Try.f97.body.bind fun c => toIC Try.prog 47 c [[(0, []), (0, []), (3, []), (7, []), (15, []), (31, []), (63, []), (127, []), (255, []), (255, []), (1023, []), (2047, []), (4095, []), (8191, []), (16383, []), (32767, []), (65535, []), (131071, []), (262143, []), (524287, []), (1048575, []), (1048575, []), (3145727, []), (8388607, []), (16777215, []), (33554431, []), (1048575, []), (1048575, []), (202375167, []), (470810623, []), (1007681535, []), (2147483647, []), (4294967295, []), (8589934591, [])]]) = some (i_spec_StoreOk, []) := by kernel_rfl

theorem i_spec_StoreOk_fn {ds rs : List D} (hle : ds.length ≤ 47) (h : AW Try.prog 47 i_spec_StoreOk (Ends [.tmp 2] rs) (init ds)) : Fn Try.prog k_spec_StoreOk (lent ds) true rs :=
  Fn.intro' (by kernel_rfl) Try.func97 (by kernel_rfl) i_spec_StoreOk_ok (by kernel_rfl) hle h.h

abbrev i_spec_RangeOk_r0 : List RO := [
  ⟨⟨none, .box 1 (.t 0)⟩, 0, []⟩,
  ⟨⟨none, .mov 2 (.c (.one (.d (.bool false))))⟩, 0, []⟩]

abbrev i_spec_RangeOk_r1 : List RO := [
  ⟨⟨none, .faddr 3 0 (.t 1)⟩, 0, []⟩,
  ⟨⟨none, .load 4 none (.t 3)⟩, 0, []⟩,
  ⟨⟨none, .bin 5 .geq (.t 4) (.c (.one (.d (.int .i64 0))))⟩, 0, []⟩,
  ⟨⟨none, .mov 6 (.t 5)⟩, 0, []⟩,
  ⟨⟨some (6, true), .faddr 7 0 (.t 1)⟩, 0, []⟩,
  ⟨⟨some (6, true), .load 8 none (.t 7)⟩, 0, []⟩,
  ⟨⟨some (6, true), .faddr 9 1 (.t 1)⟩, 0, []⟩,
  ⟨⟨some (6, true), .load 10 none (.t 9)⟩, 0, []⟩,
  ⟨⟨some (6, true), .bin 11 .lss (.t 8) (.t 10)⟩, 0, []⟩,
  ⟨⟨none, .pick 12 (.t 6) (.t 11) (.c (.one (.d (.bool false))))⟩, 0, []⟩,
  ⟨⟨none, .mov 13 (.t 12)⟩, 0, []⟩,
  ⟨⟨some (13, true), .faddr 14 1 (.t 1)⟩, 0, []⟩,
  ⟨⟨some (13, true), .load 15 none (.t 14)⟩, 0, []⟩,
  ⟨⟨some (13, true), .bin 16 .leq (.t 15) (.c (.one (.d (.int .i64 1000))))⟩, 0, []⟩,
  ⟨⟨none, .pick 17 (.t 13) (.t 16) (.c (.one (.d (.bool false))))⟩, 0, []⟩,
  ⟨⟨none, .mov 2 (.t 17)⟩, 0, []⟩]

def i_spec_RangeOk : IC := (.seq (.reg i_spec_RangeOk_r0)
  (.seq (.reg i_spec_RangeOk_r1)
  .ret))

theorem i_spec_RangeOk_ok : (Try.f99.body.bind fun c => toIC Try.prog 18 c []) = some (i_spec_RangeOk, []) := by kernel_rfl

theorem i_spec_RangeOk_fn {ds rs : List D} (hle : ds.length ≤ 18) (h : AW Try.prog 18 i_spec_RangeOk (Ends [.tmp 2] rs) (init ds)) : Fn Try.prog k_spec_RangeOk (lent ds) true rs :=
  Fn.intro' (by kernel_rfl) Try.func99 (by kernel_rfl) i_spec_RangeOk_ok (by kernel_rfl) hle h.h

abbrev i_spec_l15Group_r0 : List RO := [
  ⟨⟨none, .mov 2 (.c (.one (.d (.bool false))))⟩, 0, []⟩]

abbrev i_spec_l15Group_r1 : List RO := [
  ⟨⟨none, .mov 3 (.t 0)⟩, 0, []⟩,
  ⟨⟨none, .callv 4 (.c (.one (.fn k_spec_l1In []))) [(.t 3), (.c (.one (.d (.int .i64 0)))), (.c (.one (.d (.int .i64 3))))]⟩, 0, []⟩,
  ⟨⟨none, .mov 2 (.t 4)⟩, 0, []⟩]

def i_spec_l15Group : IC := (.seq (.reg i_spec_l15Group_r0)
  (.seq (.reg i_spec_l15Group_r1)
  .ret))

theorem i_spec_l15Group_ok : (Try.f127.body.bind fun c => toIC Try.prog 5 c []) = some (i_spec_l15Group, []) := by kernel_rfl

theorem i_spec_l15Group_fn {ds rs : List D} (hle : ds.length ≤ 5) (h : AW Try.prog 5 i_spec_l15Group (Ends [.tmp 2] rs) (init ds)) : Fn Try.prog k_spec_l15Group (lent ds) true rs :=
  Fn.intro' (by kernel_rfl) Try.func127 (by kernel_rfl) i_spec_l15Group_ok (by kernel_rfl) hle h.h

abbrev i_spec_l15In_r0 : List RO := [
  ⟨⟨none, .box 3 (.t 1)⟩, 0, []⟩,
  ⟨⟨none, .mov 4 (.c (.one (.d (.bool false))))⟩, 0, []⟩]

abbrev i_spec_l15In_r1 : List RO := [
  ⟨⟨none, .mov 5 (.c (.one (.d (.int .i64 0))))⟩, 0, []⟩]

abbrev i_spec_l15In_r2 : List RO := [
  ⟨⟨none, .mov 6 (.t 5)⟩, 0, []⟩,
  ⟨⟨none, .mov 7 (.t 0)⟩, 0, []⟩,
  ⟨⟨none, .len 8 false (.t 7)⟩, 0, []⟩,
  ⟨⟨none, .bin 9 .lss (.t 6) (.t 8)⟩, 0, []⟩]

abbrev i_spec_l15In_r3 : List RO := [
  ⟨⟨none, .mov 12 (.t 0)⟩, 0, []⟩,
  ⟨⟨none, .mov 13 (.t 5)⟩, 0, []⟩,
  ⟨⟨none, .iaddr 14 2 (.t 12) (.t 13)⟩, 3, []⟩,
  ⟨⟨none, .faddr 15 0 (.t 14)⟩, 7, []⟩,
  ⟨⟨none, .load 16 none (.t 15)⟩, 15, []⟩,
  ⟨⟨none, .faddr 17 2 (.t 3)⟩, 0, []⟩,
  ⟨⟨none, .load 18 none (.t 17)⟩, 32, []⟩,
  ⟨⟨none, .faddr 19 3 (.t 3)⟩, 0, []⟩,
  ⟨⟨none, .load 20 none (.t 19)⟩, 128, []⟩,
  ⟨⟨none, .bin 21 .sub (.t 20) (.c (.one (.d (.int .i64 1))))⟩, 384, []⟩,
  ⟨⟨none, .callv 22 (.c (.one (.fn k_spec_l1In []))) [(.t 16), (.t 18), (.t 21)]⟩, 1023, []⟩,
  ⟨⟨none, .inv 23 (.t 22)⟩, 2047, []⟩]

abbrev i_spec_l15In_r4 : List RO := [
  ⟨⟨none, .mov 4 (.c (.one (.d (.bool false))))⟩, 0, []⟩]

abbrev i_spec_l15In_r5 : List RO := [
  ⟨⟨none, .mov 10 (.t 5)⟩, 0, []⟩,
  ⟨⟨none, .bin 11 .add (.t 10) (.c (.one (.d (.int .i64 1))))⟩, 0, []⟩,
  ⟨⟨none, .mov 5 (.t 11)⟩, 0, []⟩]

abbrev i_spec_l15In_r6 : List RO := [
  ⟨⟨none, .mov 4 (.c (.one (.d (.bool true))))⟩, 0, []⟩]

def i_spec_l15In : IC := (.seq (.reg i_spec_l15In_r0)
  (.seq (.seq (.reg i_spec_l15In_r1)
  (.block 0 (.loop (.seq (.seq (.reg i_spec_l15In_r2)
  (.cond (.t 9) .skip (.exit 0)))
  (.seq (.block 1 (.seq (.regd i_spec_l15In_r3)
  (.cond (.t 23) (.seq (.reg i_spec_l15In_r4)
  .ret) .skip)))
  (.reg i_spec_l15In_r5))))))
  (.seq (.reg i_spec_l15In_r6)
  .ret)))

theorem i_spec_l15In_ok : (Try.f225.body.bind fun c => toIC Try.prog 24 c [[(0, []), (0, []), (3, []), (7, []), (15, []), (0, []), (32, []), (0, []), (128, []), (384, []), (1023, []), (2047, [])]]) = some (i_spec_l15In, []) := by kernel_rfl

theorem i_spec_l15In_fn {ds rs : List D} (hle : ds.length ≤ 24) (h : AW Try.prog 24 i_spec_l15In (Ends [.tmp 4] rs) (init ds)) : Fn Try.prog k_spec_l15In (lent ds) true rs :=
  Fn.intro' (by kernel_rfl) Try.func225 (by kernel_rfl) i_spec_l15In_ok (by kernel_rfl) hle h.h

abbrev i_spec_AtlasOk_r0 : List RO := [
  ⟨⟨none, .box 1 (.t 0)⟩, 0, []⟩,
  ⟨⟨none, .mov 2 (.c (.one (.d (.bool false))))⟩, 0, []⟩]

abbrev i_spec_AtlasOk_r1 : List RO := [
  ⟨⟨none, .faddr 4 2 (.t 1)⟩, 0, []⟩,
  ⟨⟨none, .load 5 (some 7) (.t 4)⟩, 0, []⟩,
  ⟨⟨none, .var 3 [(.d (.int .i64 0)), (.d (.int .i64 0)), (.d (.int .i64 0)), (.d (.int .i64 0)), (.d (.int .i64 0)), (.d (.int .i64 0)), .zs]⟩, 0, []⟩,
  ⟨⟨none, .store 7 [(.int .i64 0), (.int .i64 0), (.int .i64 0), (.int .i64 0), (.int .i64 0), (.int .i64 0), (.sl 2 [])] (.t 3) (.t 5)⟩, 0, []⟩]

abbrev i_spec_AtlasOk_r2 : List RO := [
  ⟨⟨none, .faddr 6 0 (.t 1)⟩, 0, []⟩,
  ⟨⟨none, .load 7 none (.t 6)⟩, 0, []⟩,
  ⟨⟨none, .callv 8 (.c (.one (.fn k_spec_l1In []))) [(.t 7), (.c (.one (.d (.int .i64 0)))), (.c (.one (.d (.int .i64 1000000))))]⟩, 0, []⟩,
  ⟨⟨none, .inv 9 (.t 8)⟩, 0, []⟩,
  ⟨⟨none, .mov 10 (.t 9)⟩, 0, []⟩,
  ⟨⟨some (10, false), .faddr 11 1 (.t 1)⟩, 0, []⟩,
  ⟨⟨some (10, false), .load 12 none (.t 11)⟩, 0, []⟩,
  ⟨⟨some (10, false), .callv 13 (.c (.one (.fn k_spec_PartsOk []))) [(.t 12)]⟩, 0, []⟩,
  ⟨⟨some (10, false), .inv 14 (.t 13)⟩, 0, []⟩,
  ⟨⟨none, .pick 15 (.t 10) (.c (.one (.d (.bool true)))) (.t 14)⟩, 0, []⟩,
  ⟨⟨none, .mov 16 (.t 15)⟩, 0, []⟩,
  ⟨⟨some (16, false), .faddr 17 0 (.t 3)⟩, 0, []⟩,
  ⟨⟨some (16, false), .load 18 none (.t 17)⟩, 0, []⟩,
  ⟨⟨some (16, false), .callv 19 (.c (.one (.fn k_spec_l1In []))) [(.t 18), (.c (.one (.d (.int .i64 0)))), (.c (.one (.d (.int .i64 300000))))]⟩, 0, []⟩,
  ⟨⟨some (16, false), .inv 20 (.t 19)⟩, 0, []⟩,
  ⟨⟨none, .pick 21 (.t 16) (.c (.one (.d (.bool true)))) (.t 20)⟩, 0, []⟩,
  ⟨⟨none, .mov 22 (.t 21)⟩, 0, []⟩,
  ⟨⟨some (22, false), .faddr 23 1 (.t 3)⟩, 0, []⟩,
  ⟨⟨some (22, false), .load 24 none (.t 23)⟩, 0, []⟩,
  ⟨⟨some (22, false), .callv 25 (.c (.one (.fn k_spec_l1In []))) [(.t 24), (.c (.one (.d (.int .i64 0)))), (.c (.one (.d (.int .i64 4))))]⟩, 0, []⟩,
  ⟨⟨some (22, false), .inv 26 (.t 25)⟩, 0, []⟩,
  ⟨⟨none, .pick 27 (.t 22) (.c (.one (.d (.bool true)))) (.t 26)⟩, 0, []⟩,
  ⟨⟨none, .mov 28 (.t 27)⟩, 0, []⟩,
  ⟨⟨some (28, false), .faddr 29 6 (.t 3)⟩, 0, []⟩,
  ⟨⟨some (28, false), .load 30 none (.t 29)⟩, 0, []⟩,
  ⟨⟨some (28, false), .callv 31 (.c (.one (.fn k_spec_StoreOk []))) [(.t 30)]⟩, 0, []⟩,
  ⟨⟨some (28, false), .inv 32 (.t 31)⟩, 0, []⟩,
  ⟨⟨none, .pick 33 (.t 28) (.c (.one (.d (.bool true)))) (.t 32)⟩, 0, []⟩]

abbrev i_spec_AtlasOk_r3 : List RO := [
  ⟨⟨none, .mov 2 (.c (.one (.d (.bool false))))⟩, 0, []⟩]

abbrev i_spec_AtlasOk_r4 : List RO := [
  ⟨⟨none, .faddr 34 1 (.t 3)⟩, 0, []⟩,
  ⟨⟨none, .load 35 none (.t 34)⟩, 0, []⟩,
  ⟨⟨none, .bin 36 .eql (.t 35) (.c (.one (.d (.int .i64 0))))⟩, 0, []⟩]

abbrev i_spec_AtlasOk_r5 : List RO := [
  ⟨⟨none, .faddr 37 2 (.t 3)⟩, 0, []⟩,
  ⟨⟨none, .load 38 none (.t 37)⟩, 0, []⟩,
  ⟨⟨none, .bin 39 .eql (.t 38) (.c (.one (.d (.int .i64 0))))⟩, 0, []⟩,
  ⟨⟨none, .mov 40 (.t 39)⟩, 0, []⟩,
  ⟨⟨some (40, true), .faddr 41 3 (.t 3)⟩, 0, []⟩,
  ⟨⟨some (40, true), .load 42 none (.t 41)⟩, 0, []⟩,
  ⟨⟨some (40, true), .bin 43 .eql (.t 42) (.c (.one (.d (.int .i64 0))))⟩, 0, []⟩,
  ⟨⟨none, .pick 44 (.t 40) (.t 43) (.c (.one (.d (.bool false))))⟩, 0, []⟩,
  ⟨⟨none, .mov 45 (.t 44)⟩, 0, []⟩,
  ⟨⟨some (45, true), .faddr 46 4 (.t 3)⟩, 0, []⟩,
  ⟨⟨some (45, true), .load 47 none (.t 46)⟩, 0, []⟩,
  ⟨⟨some (45, true), .bin 48 .eql (.t 47) (.c (.one (.d (.int .i64 0))))⟩, 0, []⟩,
  ⟨⟨none, .pick 49 (.t 45) (.t 48) (.c (.one (.d (.bool false))))⟩, 0, []⟩,
  ⟨⟨none, .mov 50 (.t 49)⟩, 0, []⟩,
  ⟨⟨some (50, true), .faddr 51 5 (.t 3)⟩, 0, []⟩,
  ⟨⟨some (50, true), .load 52 none (.t 51)⟩, 0, []⟩,
  ⟨⟨some (50, true), .bin 53 .eql (.t 52) (.c (.one (.d (.int .i64 0))))⟩, 0, []⟩,
  ⟨⟨none, .pick 54 (.t 50) (.t 53) (.c (.one (.d (.bool false))))⟩, 0, []⟩,
  ⟨⟨none, .mov 55 (.t 54)⟩, 0, []⟩,
  ⟨⟨some (55, true), .faddr 56 6 (.t 3)⟩, 0, []⟩,
  ⟨⟨some (55, true), .load 57 none (.t 56)⟩, 0, []⟩,
  ⟨⟨some (55, true), .len 58 false (.t 57)⟩, 0, []⟩,
  ⟨⟨some (55, true), .bin 59 .eql (.t 58) (.c (.one (.d (.int .i64 0))))⟩, 0, []⟩,
  ⟨⟨none, .pick 60 (.t 55) (.t 59) (.c (.one (.d (.bool false))))⟩, 0, []⟩,
  ⟨⟨none, .mov 2 (.t 60)⟩, 0, []⟩]

abbrev i_spec_AtlasOk_r6 : List RO := [
  ⟨⟨none, .faddr 61 0 (.t 3)⟩, 0, []⟩,
  ⟨⟨none, .load 62 none (.t 61)⟩, 0, []⟩,
  ⟨⟨none, .bin 63 .lss (.t 62) (.c (.one (.d (.int .i64 1))))⟩, 0, []⟩,
  ⟨⟨none, .mov 64 (.t 63)⟩, 0, []⟩,
  ⟨⟨some (64, false), .faddr 65 2 (.t 3)⟩, 0, []⟩,
  ⟨⟨some (64, false), .load 66 none (.t 65)⟩, 0, []⟩,
  ⟨⟨some (64, false), .faddr 67 3 (.t 3)⟩, 0, []⟩,
  ⟨⟨some (64, false), .load 68 none (.t 67)⟩, 0, []⟩,
  ⟨⟨some (64, false), .build 69 [(.d (.int .i64 0)), (.d (.int .i64 0))] [(0, 1, (.t 66)), (1, 1, (.t 68))]⟩, 0, []⟩,
  ⟨⟨some (64, false), .callv 70 (.c (.one (.fn k_spec_RangeOk []))) [(.t 69)]⟩, 0, []⟩,
  ⟨⟨some (64, false), .inv 71 (.t 70)⟩, 0, []⟩,
  ⟨⟨none, .pick 72 (.t 64) (.c (.one (.d (.bool true)))) (.t 71)⟩, 0, []⟩,
  ⟨⟨none, .mov 73 (.t 72)⟩, 0, []⟩,
  ⟨⟨some (73, false), .faddr 74 4 (.t 3)⟩, 0, []⟩,
  ⟨⟨some (73, false), .load 75 none (.t 74)⟩, 0, []⟩,
  ⟨⟨some (73, false), .callv 76 (.c (.one (.fn k_spec_l15Group []))) [(.t 75)]⟩, 0, []⟩,
  ⟨⟨some (73, false), .inv 77 (.t 76)⟩, 0, []⟩,
  ⟨⟨none, .pick 78 (.t 73) (.c (.one (.d (.bool true)))) (.t 77)⟩, 0, []⟩,
  ⟨⟨none, .mov 79 (.t 78)⟩, 0, []⟩,
  ⟨⟨some (79, false), .faddr 80 5 (.t 3)⟩, 0, []⟩,
  ⟨⟨some (79, false), .load 81 none (.t 80)⟩, 0, []⟩,
  ⟨⟨some (79, false), .callv 82 (.c (.one (.fn k_spec_l15Group []))) [(.t 81)]⟩, 0, []⟩,
  ⟨⟨some (79, false), .inv 83 (.t 82)⟩, 0, []⟩,
  ⟨⟨none, .pick 84 (.t 79) (.c (.one (.d (.bool true)))) (.t 83)⟩, 0, []⟩,
  ⟨⟨none, .mov 85 (.t 84)⟩, 0, []⟩,
  ⟨⟨some (85, false), .faddr 86 4 (.t 3)⟩, 0, []⟩,
  ⟨⟨some (85, false), .load 87 none (.t 86)⟩, 0, []⟩,
  ⟨⟨some (85, false), .faddr 88 5 (.t 3)⟩, 0, []⟩,
  ⟨⟨some (85, false), .load 89 none (.t 88)⟩, 0, []⟩,
  ⟨⟨some (85, false), .bin 90 .eql (.t 87) (.t 89)⟩, 0, []⟩,
  ⟨⟨none, .pick 91 (.t 85) (.c (.one (.d (.bool true)))) (.t 90)⟩, 0, []⟩]

abbrev i_spec_AtlasOk_r7 : List RO := [
  ⟨⟨none, .mov 2 (.c (.one (.d (.bool false))))⟩, 0, []⟩]

abbrev i_spec_AtlasOk_r8 : List RO := [
  ⟨⟨none, .faddr 92 6 (.t 3)⟩, 0, []⟩,
  ⟨⟨none, .load 93 none (.t 92)⟩, 0, []⟩,
  ⟨⟨none, .load 94 (some 7) (.t 3)⟩, 0, []⟩,
  ⟨⟨none, .callv 95 (.c (.one (.fn k_spec_l15In []))) [(.t 93), (.t 94)]⟩, 0, []⟩,
  ⟨⟨none, .mov 96 (.t 95)⟩, 0, []⟩,
  ⟨⟨some (96, true), .faddr 97 1 (.t 3)⟩, 0, []⟩,
  ⟨⟨some (96, true), .load 98 none (.t 97)⟩, 0, []⟩,
  ⟨⟨some (96, true), .bin 99 .eql (.t 98) (.c (.one (.d (.int .i64 2))))⟩, 0, []⟩,
  ⟨⟨some (96, true), .mov 100 (.t 99)⟩, 0, []⟩,
  ⟨⟨some (100, false), .faddr 101 6 (.t 3)⟩, 0, []⟩,
  ⟨⟨some (100, false), .load 102 none (.t 101)⟩, 0, []⟩,
  ⟨⟨some (100, false), .len 103 false (.t 102)⟩, 0, []⟩,
  ⟨⟨some (100, false), .bin 104 .eql (.t 103) (.c (.one (.d (.int .i64 0))))⟩, 0, []⟩,
  ⟨⟨some (96, true), .pick 105 (.t 100) (.c (.one (.d (.bool true)))) (.t 104)⟩, 0, []⟩,
  ⟨⟨none, .pick 106 (.t 96) (.t 105) (.c (.one (.d (.bool false))))⟩, 0, []⟩,
  ⟨⟨none, .mov 2 (.t 106)⟩, 0, []⟩]

def i_spec_AtlasOk : IC := (.seq (.reg i_spec_AtlasOk_r0)
  (.seq (.reg i_spec_AtlasOk_r1)
  (.seq (.seq (.reg i_spec_AtlasOk_r2)
  (.cond (.t 33) (.seq (.reg i_spec_AtlasOk_r3)
  .ret) .skip))
  (.seq (.seq (.reg i_spec_AtlasOk_r4)
  (.cond (.t 36) (.seq (.reg i_spec_AtlasOk_r5)
  .ret) .skip))
  (.seq (.seq (.reg i_spec_AtlasOk_r6)
  (.cond (.t 91) (.seq (.reg i_spec_AtlasOk_r7)
  .ret) .skip))
  (.seq (.reg i_spec_AtlasOk_r8)
  .ret))))))

theorem i_spec_AtlasOk_ok : (Try.f124.body.bind fun c => toIC Try.prog 107 c []) = some (i_spec_AtlasOk, []) := by kernel_rfl

theorem i_spec_AtlasOk_fn {ds rs : List D} (hle : ds.length ≤ 107) (h : AW Try.prog 107 i_spec_AtlasOk (Ends [.tmp 2] rs) (init ds)) : Fn Try.prog k_spec_AtlasOk (lent ds) true rs :=
  Fn.intro' (by kernel_rfl) Try.func124 (by kernel_rfl) i_spec_AtlasOk_ok (by kernel_rfl) hle h.h

abbrev i_spec_l15Copy_r0 : List RO := [
  ⟨⟨none, .box 1 (.t 0)⟩, 0, []⟩,
  ⟨⟨none, .var 2 [(.d (.int .i64 0)), .zs, (.d (.int .i64 0)), (.d (.int .i64 0)), (.d (.int .i64 0)), (.d (.int .i64 0)), (.d (.int .i64 0)), (.d (.int .i64 0)), .zs]⟩, 0, []⟩]

abbrev i_spec_l15Copy_r1 : List RO := [
  ⟨⟨none, .bslice 3 3 [] []⟩, 0, []⟩,
  ⟨⟨none, .faddr 4 1 (.t 1)⟩, 0, []⟩,
  ⟨⟨none, .load 5 none (.t 4)⟩, 0, []⟩,
  ⟨⟨none, .app 6 3 24 [(.int .i64 0), (.int .i64 0), (.int .i64 0)] (.t 3) (.t 5)⟩, 0, []⟩,
  ⟨⟨none, .faddr 7 1 (.t 1)⟩, 0, []⟩,
  ⟨⟨none, .store 1 [(.sl 3 [])] (.t 7) (.t 6)⟩, 0, []⟩]

abbrev i_spec_l15Copy_r2 : List RO := [
  ⟨⟨none, .bslice 8 2 [] []⟩, 0, []⟩,
  ⟨⟨none, .faddr 9 2 (.t 1)⟩, 0, []⟩,
  ⟨⟨none, .faddr 10 6 (.t 9)⟩, 0, []⟩,
  ⟨⟨none, .load 11 none (.t 10)⟩, 0, []⟩,
  ⟨⟨none, .app 12 2 16 [(.int .i64 0), (.int .i64 0)] (.t 8) (.t 11)⟩, 0, []⟩,
  ⟨⟨none, .faddr 13 2 (.t 1)⟩, 0, []⟩,
  ⟨⟨none, .faddr 14 6 (.t 13)⟩, 0, []⟩,
  ⟨⟨none, .store 1 [(.sl 2 [])] (.t 14) (.t 12)⟩, 0, []⟩]

abbrev i_spec_l15Copy_r3 : List RO := [
  ⟨⟨none, .load 15 (some 9) (.t 1)⟩, 0, []⟩,
  ⟨⟨none, .store 9 [(.int .i64 0), (.sl 3 []), (.int .i64 0), (.int .i64 0), (.int .i64 0), (.int .i64 0), (.int .i64 0), (.int .i64 0), (.sl 2 [])] (.t 2) (.t 15)⟩, 0, []⟩]

def i_spec_l15Copy : IC := (.seq (.reg i_spec_l15Copy_r0)
  (.seq (.reg i_spec_l15Copy_r1)
  (.seq (.reg i_spec_l15Copy_r2)
  (.seq (.reg i_spec_l15Copy_r3)
  .ret))))

theorem i_spec_l15Copy_ok : (Try.f125.body.bind fun c => toIC Try.prog 16 c []) = some (i_spec_l15Copy, []) := by kernel_rfl

theorem i_spec_l15Copy_fn {ds rs : List D} (hle : ds.length ≤ 16) (h : AW Try.prog 16 i_spec_l15Copy (Ends [.cell 2 (some 9)] rs) (init ds)) : Fn Try.prog k_spec_l15Copy (lent ds) true rs :=
  Fn.intro' (by kernel_rfl) Try.func125 (by kernel_rfl) i_spec_l15Copy_ok (by kernel_rfl) hle h.h

abbrev i_spec_PartAt_r0 : List RO := [
  ⟨⟨none, .mov 4 (.c (.one (.d (.int .i64 0))))⟩, 0, []⟩]

abbrev i_spec_PartAt_r1 : List RO := [
  ⟨⟨none, .mov 5 (.c (.one (.d (.int .i64 0))))⟩, 0, []⟩]

abbrev i_spec_PartAt_r2 : List RO := [
  ⟨⟨none, .mov 6 (.t 5)⟩, 0, []⟩,
  ⟨⟨none, .mov 7 (.t 0)⟩, 0, []⟩,
  ⟨⟨none, .len 8 false (.t 7)⟩, 0, []⟩,
  ⟨⟨none, .bin 9 .lss (.t 6) (.t 8)⟩, 0, []⟩,
  ⟨⟨none, .mov 10 (.t 9)⟩, 0, []⟩,
  ⟨⟨some (10, true), .mov 11 (.t 0)⟩, 0, []⟩,
  ⟨⟨some (10, true), .callv 12 (.c (.one (.fn k_spec_PartsOk []))) [(.t 11)]⟩, 0, []⟩,
  ⟨⟨none, .pick 13 (.t 10) (.t 12) (.c (.one (.d (.bool false))))⟩, 0, []⟩]

abbrev i_spec_PartAt_r3 : List RO := [
  ⟨⟨none, .mov 16 (.t 0)⟩, 0, []⟩,
  ⟨⟨none, .mov 17 (.t 5)⟩, 0, []⟩,
  ⟨⟨none, .iaddr 18 3 (.t 16) (.t 17)⟩, 0, []⟩,
  ⟨⟨none, .faddr 19 0 (.t 18)⟩, 0, []⟩,
  ⟨⟨none, .load 20 none (.t 19)⟩, 0, []⟩,
  ⟨⟨none, .mov 21 (.t 1)⟩, 0, []⟩,
  ⟨⟨none, .bin 22 .leq (.t 20) (.t 21)⟩, 0, []⟩,
  ⟨⟨none, .mov 23 (.t 22)⟩, 0, []⟩,
  ⟨⟨some (23, true), .mov 24 (.t 1)⟩, 0, []⟩,
  ⟨⟨some (23, true), .mov 25 (.t 0)⟩, 0, []⟩,
  ⟨⟨some (23, true), .mov 26 (.t 5)⟩, 0, []⟩,
  ⟨⟨some (23, true), .iaddr 27 3 (.t 25) (.t 26)⟩, 0, []⟩,
  ⟨⟨some (23, true), .faddr 28 1 (.t 27)⟩, 0, []⟩,
  ⟨⟨some (23, true), .load 29 none (.t 28)⟩, 0, []⟩,
  ⟨⟨some (23, true), .bin 30 .lss (.t 24) (.t 29)⟩, 0, []⟩,
  ⟨⟨none, .pick 31 (.t 23) (.t 30) (.c (.one (.d (.bool false))))⟩, 0, []⟩]

abbrev i_spec_PartAt_r4 : List RO := [
  ⟨⟨none, .mov 32 (.t 5)⟩, 0, []⟩,
  ⟨⟨none, .mov 4 (.t 32)⟩, 0, []⟩]

abbrev i_spec_PartAt_r5 : List RO := [
  ⟨⟨none, .mov 14 (.t 5)⟩, 0, []⟩,
  ⟨⟨none, .bin 15 .add (.t 14) (.c (.one (.d (.int .i64 1))))⟩, 0, []⟩,
  ⟨⟨none, .mov 5 (.t 15)⟩, 0, []⟩]

abbrev i_spec_PartAt_r6 : List RO := [
  ⟨⟨none, .mov 4 (.c (.one (.d (.int .i64 (-1)))))⟩, 0, []⟩]

def i_spec_PartAt : IC := (.seq (.reg i_spec_PartAt_r0)
  (.seq (.seq (.reg i_spec_PartAt_r1)
  (.block 0 (.loop (.seq (.seq (.reg i_spec_PartAt_r2)
  (.cond (.t 13) .skip (.exit 0)))
  (.seq (.block 1 (.seq (.reg i_spec_PartAt_r3)
  (.cond (.t 31) (.seq (.reg i_spec_PartAt_r4)
  .ret) .skip)))
  (.reg i_spec_PartAt_r5))))))
  (.seq (.reg i_spec_PartAt_r6)
  .ret)))

theorem i_spec_PartAt_ok : (Try.f126.body.bind fun c => toIC Try.prog 33 c []) = some (i_spec_PartAt, []) := by kernel_rfl

theorem i_spec_PartAt_fn {ds rs : List D} (hle : ds.length ≤ 33) (h : AW Try.prog 33 i_spec_PartAt (Ends [.tmp 4] rs) (init ds)) : Fn Try.prog k_spec_PartAt (lent ds) true rs :=
  Fn.intro' (by kernel_rfl) Try.func126 (by kernel_rfl) i_spec_PartAt_ok (by kernel_rfl) hle h.h

abbrev i_spec_SplitAt_r0 : List RO := [
  ⟨⟨none, .mov 4 (.c (.one .zs))⟩, 0, []⟩,
  ⟨⟨none, .mov 5 (.c (.one (.d (.bool false))))⟩, 0, []⟩]

abbrev i_spec_SplitAt_r1 : List RO := [
  ⟨⟨none, .mov 10 (.t 0)⟩, 0, []⟩,
  ⟨⟨none, .mov 11 (.t 1)⟩, 0, []⟩,
  ⟨⟨none, .callv 12 (.c (.one (.fn k_spec_PartAt []))) [(.t 10), (.t 11)]⟩, 0, []⟩,
  ⟨⟨none, .mov 6 (.t 12)⟩, 0, []⟩]

abbrev i_spec_SplitAt_r2 : List RO := [
  ⟨⟨none, .bslice 13 3 [] []⟩, 0, []⟩,
  ⟨⟨none, .mov 7 (.t 13)⟩, 0, []⟩]

abbrev i_spec_SplitAt_r3 : List RO := [
  ⟨⟨none, .mov 14 (.t 6)⟩, 0, []⟩,
  ⟨⟨none, .bin 15 .lss (.t 14) (.c (.one (.d (.int .i64 0))))⟩, 0, []⟩,
  ⟨⟨none, .mov 16 (.t 15)⟩, 0, []⟩,
  ⟨⟨some (16, false), .mov 17 (.t 0)⟩, 0, []⟩,
  ⟨⟨some (16, false), .mov 18 (.t 6)⟩, 0, []⟩,
  ⟨⟨some (16, false), .iaddr 19 3 (.t 17) (.t 18)⟩, 0, []⟩,
  ⟨⟨some (16, false), .faddr 20 0 (.t 19)⟩, 0, []⟩,
  ⟨⟨some (16, false), .load 21 none (.t 20)⟩, 0, []⟩,
  ⟨⟨some (16, false), .mov 22 (.t 1)⟩, 0, []⟩,
  ⟨⟨some (16, false), .bin 23 .eql (.t 21) (.t 22)⟩, 0, []⟩,
  ⟨⟨none, .pick 24 (.t 16) (.c (.one (.d (.bool true)))) (.t 23)⟩, 0, []⟩,
  ⟨⟨none, .mov 25 (.t 24)⟩, 0, []⟩,
  ⟨⟨some (25, false), .mov 26 (.t 0)⟩, 0, []⟩,
  ⟨⟨some (25, false), .len 27 false (.t 26)⟩, 0, []⟩,
  ⟨⟨some (25, false), .bin 28 .eql (.t 27) (.c (.one (.d (.int .i64 16))))⟩, 0, []⟩,
  ⟨⟨none, .pick 29 (.t 25) (.c (.one (.d (.bool true)))) (.t 28)⟩, 0, []⟩]

abbrev i_spec_SplitAt_r4 : List RO := [
  ⟨⟨none, .mov 30 (.t 7)⟩, 0, []⟩,
  ⟨⟨none, .mov 4 (.t 30)⟩, 0, []⟩,
  ⟨⟨none, .mov 5 (.c (.one (.d (.bool false))))⟩, 0, []⟩]

abbrev i_spec_SplitAt_r5 : List RO := [
  ⟨⟨none, .mov 8 (.c (.one (.d (.int .i64 0))))⟩, 0, []⟩]

abbrev i_spec_SplitAt_r6 : List RO := [
  ⟨⟨none, .mov 31 (.t 8)⟩, 0, []⟩,
  ⟨⟨none, .mov 32 (.t 0)⟩, 0, []⟩,
  ⟨⟨none, .len 33 false (.t 32)⟩, 0, []⟩,
  ⟨⟨none, .bin 34 .lss (.t 31) (.t 33)⟩, 0, []⟩]

abbrev i_spec_SplitAt_r7 : List RO := [
  ⟨⟨none, .mov 37 (.t 0)⟩, 0, []⟩,
  ⟨⟨none, .mov 38 (.t 8)⟩, 0, []⟩,
  ⟨⟨none, .iaddr 39 3 (.t 37) (.t 38)⟩, 0, []⟩,
  ⟨⟨none, .load 40 (some 3) (.t 39)⟩, 0, []⟩,
  ⟨⟨none, .var 9 [(.d (.int .i64 0)), (.d (.int .i64 0)), (.d (.int .i64 0))]⟩, 0, []⟩,
  ⟨⟨none, .store 3 [(.int .i64 0), (.int .i64 0), (.int .i64 0)] (.t 9) (.t 40)⟩, 0, []⟩]

abbrev i_spec_SplitAt_r8 : List RO := [
  ⟨⟨none, .mov 41 (.t 8)⟩, 0, []⟩,
  ⟨⟨none, .mov 42 (.t 6)⟩, 0, []⟩,
  ⟨⟨none, .bin 43 .eql (.t 41) (.t 42)⟩, 0, []⟩]

abbrev i_spec_SplitAt_r9 : List RO := [
  ⟨⟨none, .mov 44 (.t 7)⟩, 0, []⟩,
  ⟨⟨none, .faddr 45 0 (.t 9)⟩, 0, []⟩,
  ⟨⟨none, .load 46 none (.t 45)⟩, 0, []⟩,
  ⟨⟨none, .mov 47 (.t 1)⟩, 0, []⟩,
  ⟨⟨none, .faddr 48 2 (.t 9)⟩, 0, []⟩,
  ⟨⟨none, .load 49 none (.t 48)⟩, 0, []⟩,
  ⟨⟨none, .build 50 [(.d (.int .i64 0)), (.d (.int .i64 0)), (.d (.int .i64 0))] [(0, 1, (.t 46)), (1, 1, (.t 47)), (2, 1, (.t 49))]⟩, 0, []⟩,
  ⟨⟨none, .bslice 51 3 [(.d (.int .i64 0)), (.d (.int .i64 0)), (.d (.int .i64 0))] [(0, 3, (.t 50))]⟩, 0, []⟩,
  ⟨⟨none, .app 52 3 24 [(.int .i64 0), (.int .i64 0), (.int .i64 0)] (.t 44) (.t 51)⟩, 0, []⟩,
  ⟨⟨none, .mov 7 (.t 52)⟩, 0, []⟩]

abbrev i_spec_SplitAt_r10 : List RO := [
  ⟨⟨none, .mov 53 (.t 1)⟩, 0, []⟩,
  ⟨⟨none, .faddr 54 0 (.t 9)⟩, 0, []⟩,
  ⟨⟨none, .store 1 [(.int .i64 0)] (.t 54) (.t 53)⟩, 0, []⟩]

abbrev i_spec_SplitAt_r11 : List RO := [
  ⟨⟨none, .mov 55 (.t 7)⟩, 0, []⟩,
  ⟨⟨none, .load 56 (some 3) (.t 9)⟩, 0, []⟩,
  ⟨⟨none, .bslice 57 3 [(.d (.int .i64 0)), (.d (.int .i64 0)), (.d (.int .i64 0))] [(0, 3, (.t 56))]⟩, 0, []⟩,
  ⟨⟨none, .app 58 3 24 [(.int .i64 0), (.int .i64 0), (.int .i64 0)] (.t 55) (.t 57)⟩, 0, []⟩,
  ⟨⟨none, .mov 7 (.t 58)⟩, 0, []⟩]

abbrev i_spec_SplitAt_r12 : List RO := [
  ⟨⟨none, .mov 35 (.t 8)⟩, 0, []⟩,
  ⟨⟨none, .bin 36 .add (.t 35) (.c (.one (.d (.int .i64 1))))⟩, 0, []⟩,
  ⟨⟨none, .mov 8 (.t 36)⟩, 0, []⟩]

abbrev i_spec_SplitAt_r13 : List RO := [
  ⟨⟨none, .mov 59 (.t 7)⟩, 0, []⟩,
  ⟨⟨none, .mov 4 (.t 59)⟩, 0, []⟩,
  ⟨⟨none, .mov 5 (.c (.one (.d (.bool true))))⟩, 0, []⟩]

def i_spec_SplitAt : IC := (.seq (.reg i_spec_SplitAt_r0)
  (.seq (.reg i_spec_SplitAt_r1)
  (.seq (.reg i_spec_SplitAt_r2)
  (.seq (.seq (.reg i_spec_SplitAt_r3)
  (.cond (.t 29) (.seq (.reg i_spec_SplitAt_r4)
  .ret) .skip))
  (.seq (.seq (.reg i_spec_SplitAt_r5)
  (.block 0 (.loop (.seq (.seq (.reg i_spec_SplitAt_r6)
  (.cond (.t 34) .skip (.exit 0)))
  (.seq (.block 1 (.seq (.reg i_spec_SplitAt_r7)
  (.seq (.seq (.reg i_spec_SplitAt_r8)
  (.cond (.t 43) (.seq (.reg i_spec_SplitAt_r9)
  (.reg i_spec_SplitAt_r10)) .skip))
  (.reg i_spec_SplitAt_r11))))
  (.reg i_spec_SplitAt_r12))))))
  (.seq (.reg i_spec_SplitAt_r13)
  .ret))))))

theorem i_spec_SplitAt_ok : (Try.f167.body.bind fun c => toIC Try.prog 60 c []) = some (i_spec_SplitAt, []) := by kernel_rfl

theorem i_spec_SplitAt_fn {ds rs : List D} (hle : ds.length ≤ 60) (h : AW Try.prog 60 i_spec_SplitAt (Ends [.tmp 4, .tmp 5] rs) (init ds)) : Fn Try.prog k_spec_SplitAt (lent ds) true rs :=
  Fn.intro' (by kernel_rfl) Try.func167 (by kernel_rfl) i_spec_SplitAt_ok (by kernel_rfl) hle h.h

abbrev i_spec_AtlasSplit_r0 : List RO := [
  ⟨⟨none, .box 2 (.t 0)⟩, 0, []⟩,
  ⟨⟨none, .var 4 [(.d (.int .i64 0)), .zs, (.d (.int .i64 0)), (.d (.int .i64 0)), (.d (.int .i64 0)), (.d (.int .i64 0)), (.d (.int .i64 0)), (.d (.int .i64 0)), .zs]⟩, 0, []⟩,
  ⟨⟨none, .mov 5 (.c (.one (.d (.int .i64 0))))⟩, 0, []⟩]

abbrev i_spec_AtlasSplit_r1 : List RO := [
  ⟨⟨none, .load 9 (some 9) (.t 2)⟩, 0, []⟩,
  ⟨⟨none, .callv 10 (.c (.one (.fn k_spec_AtlasOk []))) [(.t 9)]⟩, 0, []⟩,
  ⟨⟨none, .inv 11 (.t 10)⟩, 0, []⟩]

abbrev i_spec_AtlasSplit_r2 : List RO := [
  ⟨⟨none, .build 12 [(.d (.int .i64 0)), .zs, (.d (.int .i64 0)), (.d (.int .i64 0)), (.d (.int .i64 0)), (.d (.int .i64 0)), (.d (.int .i64 0)), (.d (.int .i64 0)), .zs] []⟩, 0, []⟩,
  ⟨⟨none, .store 9 [(.int .i64 0), (.sl 3 []), (.int .i64 0), (.int .i64 0), (.int .i64 0), (.int .i64 0), (.int .i64 0), (.int .i64 0), (.sl 2 [])] (.t 4) (.t 12)⟩, 0, []⟩,
  ⟨⟨none, .mov 5 (.c (.one (.d (.int .i64 1))))⟩, 0, []⟩]

abbrev i_spec_AtlasSplit_r3 : List RO := [
  ⟨⟨none, .load 13 (some 9) (.t 2)⟩, 0, []⟩,
  ⟨⟨none, .callv 14 (.c (.one (.fn k_spec_l15Copy []))) [(.t 13)]⟩, 0, []⟩,
  ⟨⟨none, .var 6 [(.d (.int .i64 0)), .zs, (.d (.int .i64 0)), (.d (.int .i64 0)), (.d (.int .i64 0)), (.d (.int .i64 0)), (.d (.int .i64 0)), (.d (.int .i64 0)), .zs]⟩, 0, []⟩,
  ⟨⟨none, .store 9 [(.int .i64 0), (.sl 3 []), (.int .i64 0), (.int .i64 0), (.int .i64 0), (.int .i64 0), (.int .i64 0), (.int .i64 0), (.sl 2 [])] (.t 6) (.t 14)⟩, 0, []⟩]

abbrev i_spec_AtlasSplit_r4 : List RO := [
  ⟨⟨none, .faddr 16 1 (.t 2)⟩, 0, []⟩,
  ⟨⟨none, .load 17 none (.t 16)⟩, 0, []⟩,
  ⟨⟨none, .mov 18 (.t 1)⟩, 0, []⟩,
  ⟨⟨none, .callv 19 (.c (.one (.fn k_spec_SplitAt []))) [(.t 17), (.t 18)]⟩, 0, []⟩,
  ⟨⟨none, .mov 15 (.t 19)⟩, 0, []⟩,
  ⟨⟨none, .ext 20 (.t 15) 0⟩, 0, []⟩,
  ⟨⟨none, .ext 21 (.t 15) 1⟩, 0, []⟩,
  ⟨⟨none, .mov 7 (.t 20)⟩, 0, []⟩,
  ⟨⟨none, .mov 8 (.t 21)⟩, 0, []⟩]

abbrev i_spec_AtlasSplit_r5 : List RO := [
  ⟨⟨none, .mov 22 (.t 8)⟩, 0, []⟩,
  ⟨⟨none, .inv 23 (.t 22)⟩, 0, []⟩,
  ⟨⟨none, .mov 24 (.t 23)⟩, 0, []⟩,
  ⟨⟨some (24, false), .faddr 25 0 (.t 2)⟩, 0, []⟩,
  ⟨⟨some (24, false), .load 26 none (.t 25)⟩, 0, []⟩,
  ⟨⟨some (24, false), .bin 27 .eql (.t 26) (.c (.one (.d (.int .i64 1000000))))⟩, 0, []⟩,
  ⟨⟨none, .pick 28 (.t 24) (.c (.one (.d (.bool true)))) (.t 27)⟩, 0, []⟩]

abbrev i_spec_AtlasSplit_r6 : List RO := [
  ⟨⟨none, .load 29 (some 9) (.t 6)⟩, 0, []⟩,
  ⟨⟨none, .store 9 [(.int .i64 0), (.sl 3 []), (.int .i64 0), (.int .i64 0), (.int .i64 0), (.int .i64 0), (.int .i64 0), (.int .i64 0), (.sl 2 [])] (.t 4) (.t 29)⟩, 0, []⟩,
  ⟨⟨none, .mov 5 (.c (.one (.d (.int .i64 3))))⟩, 0, []⟩]

abbrev i_spec_AtlasSplit_r7 : List RO := [
  ⟨⟨none, .mov 30 (.t 7)⟩, 0, []⟩,
  ⟨⟨none, .faddr 31 1 (.t 6)⟩, 0, []⟩,
  ⟨⟨none, .store 1 [(.sl 3 [])] (.t 31) (.t 30)⟩, 0, []⟩]

abbrev i_spec_AtlasSplit_r8 : List RO := [
  ⟨⟨none, .faddr 32 0 (.t 6)⟩, 0, []⟩,
  ⟨⟨none, .load 33 none (.t 32)⟩, 0, []⟩,
  ⟨⟨none, .bin 34 .add (.t 33) (.c (.one (.d (.int .i64 1))))⟩, 0, []⟩,
  ⟨⟨none, .faddr 35 0 (.t 6)⟩, 0, []⟩,
  ⟨⟨none, .store 1 [(.int .i64 0)] (.t 35) (.t 34)⟩, 0, []⟩]

abbrev i_spec_AtlasSplit_r9 : List RO := [
  ⟨⟨none, .load 36 (some 9) (.t 6)⟩, 0, []⟩,
  ⟨⟨none, .store 9 [(.int .i64 0), (.sl 3 []), (.int .i64 0), (.int .i64 0), (.int .i64 0), (.int .i64 0), (.int .i64 0), (.int .i64 0), (.sl 2 [])] (.t 4) (.t 36)⟩, 0, []⟩,
  ⟨⟨none, .mov 5 (.c (.one (.d (.int .i64 0))))⟩, 0, []⟩]

def i_spec_AtlasSplit : IC := (.seq (.reg i_spec_AtlasSplit_r0)
  (.seq (.seq (.reg i_spec_AtlasSplit_r1)
  (.cond (.t 11) (.seq (.reg i_spec_AtlasSplit_r2)
  .ret) .skip))
  (.seq (.reg i_spec_AtlasSplit_r3)
  (.seq (.reg i_spec_AtlasSplit_r4)
  (.seq (.seq (.reg i_spec_AtlasSplit_r5)
  (.cond (.t 28) (.seq (.reg i_spec_AtlasSplit_r6)
  .ret) .skip))
  (.seq (.reg i_spec_AtlasSplit_r7)
  (.seq (.reg i_spec_AtlasSplit_r8)
  (.seq (.reg i_spec_AtlasSplit_r9)
  .ret))))))))

theorem i_spec_AtlasSplit_ok : (Try.f59.body.bind fun c => toIC Try.prog 37 c []) = some (i_spec_AtlasSplit, []) := by kernel_rfl

theorem i_spec_AtlasSplit_fn {ds rs : List D} (hle : ds.length ≤ 37) (h : AW Try.prog 37 i_spec_AtlasSplit (Ends [.cell 4 (some 9), .tmp 5] rs) (init ds)) : Fn Try.prog k_spec_AtlasSplit (lent ds) true rs :=
  Fn.intro' (by kernel_rfl) Try.func59 (by kernel_rfl) i_spec_AtlasSplit_ok (by kernel_rfl) hle h.h

abbrev i_impl_from_r0 : List RO := [
  ⟨⟨none, .mov 6 (.c (.one (.d (.bool false))))⟩, 0, []⟩]

abbrev i_impl_from_r1 : List RO := [
  ⟨⟨none, .mov 7 (.t 0)⟩, 0, []⟩,
  ⟨⟨none, .mov 8 (.t 1)⟩, 0, []⟩,
  ⟨⟨none, .bin 9 .geq (.t 7) (.t 8)⟩, 0, []⟩,
  ⟨⟨none, .mov 10 (.t 9)⟩, 0, []⟩,
  ⟨⟨some (10, true), .mov 11 (.t 0)⟩, 0, []⟩,
  ⟨⟨some (10, true), .mov 12 (.t 2)⟩, 0, []⟩,
  ⟨⟨some (10, true), .bin 13 .leq (.t 11) (.t 12)⟩, 0, []⟩,
  ⟨⟨none, .pick 14 (.t 10) (.t 13) (.c (.one (.d (.bool false))))⟩, 0, []⟩,
  ⟨⟨none, .mov 6 (.t 14)⟩, 0, []⟩]

def i_impl_from : IC := (.seq (.reg i_impl_from_r0)
  (.seq (.reg i_impl_from_r1)
  .ret))

theorem i_impl_from_ok : (Try.f128.body.bind fun c => toIC Try.prog 15 c []) = some (i_impl_from, []) := by kernel_rfl

theorem i_impl_from_fn {ds rs : List D} (hle : ds.length ≤ 15) (h : AW Try.prog 15 i_impl_from (Ends [.tmp 6] rs) (init ds)) : Fn Try.prog k_impl_from (lent ds) true rs :=
  Fn.intro' (by kernel_rfl) Try.func128 (by kernel_rfl) i_impl_from_ok (by kernel_rfl) hle h.h

abbrev i_impl_isGroup_r0 : List RO := [
  ⟨⟨none, .mov 2 (.c (.one (.d (.bool false))))⟩, 0, []⟩]

abbrev i_impl_isGroup_r1 : List RO := [
  ⟨⟨none, .mov 3 (.t 0)⟩, 0, []⟩,
  ⟨⟨none, .callv 4 (.c (.one (.fn k_impl_from []))) [(.t 3), (.c (.one (.d (.int .i64 0)))), (.c (.one (.d (.int .i64 3))))]⟩, 0, []⟩,
  ⟨⟨none, .mov 2 (.t 4)⟩, 0, []⟩]

def i_impl_isGroup : IC := (.seq (.reg i_impl_isGroup_r0)
  (.seq (.reg i_impl_isGroup_r1)
  .ret))

theorem i_impl_isGroup_ok : (Try.f123.body.bind fun c => toIC Try.prog 5 c []) = some (i_impl_isGroup, []) := by kernel_rfl

theorem i_impl_isGroup_fn {ds rs : List D} (hle : ds.length ≤ 5) (h : AW Try.prog 5 i_impl_isGroup (Ends [.tmp 2] rs) (init ds)) : Fn Try.prog k_impl_isGroup (lent ds) true rs :=
  Fn.intro' (by kernel_rfl) Try.func123 (by kernel_rfl) i_impl_isGroup_ok (by kernel_rfl) hle h.h

abbrev i_impl_PartsOk_r0 : List RO := [
  ⟨⟨none, .mov 2 (.c (.one (.d (.bool false))))⟩, 0, []⟩]

abbrev i_impl_PartsOk_r1 : List RO := [
  ⟨⟨none, .mov 3 (.c (.one (.d (.int .i64 0))))⟩, 0, []⟩]

abbrev i_impl_PartsOk_r2 : List RO := [
  ⟨⟨none, .mov 6 (.t 0)⟩, 0, []⟩,
  ⟨⟨none, .len 7 false (.t 6)⟩, 0, []⟩,
  ⟨⟨none, .mov 8 (.c (.one (.d (.int .i64 0))))⟩, 0, []⟩]

abbrev i_impl_PartsOk_r3 : List RO := [
  ⟨⟨none, .bin 9 .lss (.t 8) (.t 7)⟩, 0, []⟩]

abbrev i_impl_PartsOk_r4 : List RO := [
  ⟨⟨none, .iaddr 10 3 (.t 6) (.t 8)⟩, 0, []⟩,
  ⟨⟨none, .load 11 (some 3) (.t 10)⟩, 0, []⟩,
  ⟨⟨none, .var 5 [(.d (.int .i64 0)), (.d (.int .i64 0)), (.d (.int .i64 0))]⟩, 0, []⟩,
  ⟨⟨none, .store 3 [(.int .i64 0), (.int .i64 0), (.int .i64 0)] (.t 5) (.t 11)⟩, 0, []⟩]

abbrev i_impl_PartsOk_r5 : List RO := [
  ⟨⟨none, .faddr 12 0 (.t 5)⟩, 0, []⟩,
  ⟨⟨none, .load 13 none (.t 12)⟩, 0, []⟩,
  ⟨⟨none, .mov 14 (.t 3)⟩, 0, []⟩,
  ⟨⟨none, .bin 15 .neq (.t 13) (.t 14)⟩, 0, []⟩,
  ⟨⟨none, .mov 16 (.t 15)⟩, 0, []⟩,
  ⟨⟨some (16, false), .faddr 17 1 (.t 5)⟩, 0, []⟩,
  ⟨⟨some (16, false), .load 18 none (.t 17)⟩, 0, []⟩,
  ⟨⟨some (16, false), .faddr 19 0 (.t 5)⟩, 0, []⟩,
  ⟨⟨some (16, false), .load 20 none (.t 19)⟩, 0, []⟩,
  ⟨⟨some (16, false), .bin 21 .leq (.t 18) (.t 20)⟩, 0, []⟩,
  ⟨⟨none, .pick 22 (.t 16) (.c (.one (.d (.bool true)))) (.t 21)⟩, 0, []⟩,
  ⟨⟨none, .mov 23 (.t 22)⟩, 0, []⟩,
  ⟨⟨some (23, false), .faddr 24 2 (.t 5)⟩, 0, []⟩,
  ⟨⟨some (23, false), .load 25 none (.t 24)⟩, 0, []⟩,
  ⟨⟨some (23, false), .callv 26 (.c (.one (.fn k_impl_isGroup []))) [(.t 25)]⟩, 0, []⟩,
  ⟨⟨some (23, false), .inv 27 (.t 26)⟩, 0, []⟩,
  ⟨⟨none, .pick 28 (.t 23) (.c (.one (.d (.bool true)))) (.t 27)⟩, 0, []⟩]

abbrev i_impl_PartsOk_r6 : List RO := [
  ⟨⟨none, .mov 2 (.c (.one (.d (.bool false))))⟩, 0, []⟩]

abbrev i_impl_PartsOk_r7 : List RO := [
  ⟨⟨none, .faddr 29 1 (.t 5)⟩, 0, []⟩,
  ⟨⟨none, .load 30 none (.t 29)⟩, 0, []⟩,
  ⟨⟨none, .mov 3 (.t 30)⟩, 0, []⟩]

abbrev i_impl_PartsOk_r8 : List RO := [
  ⟨⟨none, .bin 31 .add (.t 8) (.c (.one (.d (.int .i64 1))))⟩, 0, []⟩,
  ⟨⟨none, .mov 8 (.t 31)⟩, 0, []⟩]

abbrev i_impl_PartsOk_r9 : List RO := [
  ⟨⟨none, .mov 32 (.t 0)⟩, 0, []⟩,
  ⟨⟨none, .len 33 false (.t 32)⟩, 0, []⟩,
  ⟨⟨none, .callv 34 (.c (.one (.fn k_impl_from []))) [(.t 33), (.c (.one (.d (.int .i64 1)))), (.c (.one (.d (.int .i64 16))))]⟩, 0, []⟩,
  ⟨⟨none, .mov 35 (.t 34)⟩, 0, []⟩,
  ⟨⟨some (35, true), .mov 36 (.t 3)⟩, 0, []⟩,
  ⟨⟨some (35, true), .bin 37 .eql (.t 36) (.c (.one (.d (.int .i64 1000))))⟩, 0, []⟩,
  ⟨⟨none, .pick 38 (.t 35) (.t 37) (.c (.one (.d (.bool false))))⟩, 0, []⟩,
  ⟨⟨none, .mov 2 (.t 38)⟩, 0, []⟩]

def i_impl_PartsOk : IC := (.seq (.reg i_impl_PartsOk_r0)
  (.seq (.reg i_impl_PartsOk_r1)
  (.seq (.seq (.reg i_impl_PartsOk_r2)
  (.block 0 (.loop (.seq (.reg i_impl_PartsOk_r3)
  (.seq (.cond (.t 9) .skip (.exit 0))
  (.seq (.block 1 (.seq (.reg i_impl_PartsOk_r4)
  (.seq (.seq (.reg i_impl_PartsOk_r5)
  (.cond (.t 28) (.seq (.reg i_impl_PartsOk_r6)
  .ret) .skip))
  (.reg i_impl_PartsOk_r7))))
  (.reg i_impl_PartsOk_r8)))))))
  (.seq (.reg i_impl_PartsOk_r9)
  .ret))))

theorem i_impl_PartsOk_ok : (Try.f134.body.bind fun c => toIC Try.prog 39 c []) = some (i_impl_PartsOk, []) := by kernel_rfl

theorem i_impl_PartsOk_fn {ds rs : List D} (hle : ds.length ≤ 39) (h : AW Try.prog 39 i_impl_PartsOk (Ends [.tmp 2] rs) (init ds)) : Fn Try.prog k_impl_PartsOk (lent ds) true rs :=
  Fn.intro' (by kernel_rfl) Try.func134 (by kernel_rfl) i_impl_PartsOk_ok (by kernel_rfl) hle h.h

abbrev i__impl_Move_keys_r0 : List RO := [
  ⟨⟨none, .box 1 (.t 0)⟩, 0, []⟩,
  ⟨⟨none, .var 2 [(.d (.int .i64 0)), (.d (.int .i64 0))]⟩, 0, []⟩]

abbrev i__impl_Move_keys_r1 : List RO := [
  ⟨⟨none, .faddr 3 2 (.t 1)⟩, 0, []⟩,
  ⟨⟨none, .load 4 none (.t 3)⟩, 0, []⟩,
  ⟨⟨none, .faddr 5 3 (.t 1)⟩, 0, []⟩,
  ⟨⟨none, .load 6 none (.t 5)⟩, 0, []⟩,
  ⟨⟨none, .build 7 [(.d (.int .i64 0)), (.d (.int .i64 0))] [(0, 1, (.t 4)), (1, 1, (.t 6))]⟩, 0, []⟩,
  ⟨⟨none, .store 2 [(.int .i64 0), (.int .i64 0)] (.t 2) (.t 7)⟩, 0, []⟩]

def i__impl_Move_keys : IC := (.seq (.reg i__impl_Move_keys_r0)
  (.seq (.reg i__impl_Move_keys_r1)
  .ret))

theorem i__impl_Move_keys_ok : (Try.f130.body.bind fun c => toIC Try.prog 8 c []) = some (i__impl_Move_keys, []) := by kernel_rfl

theorem i__impl_Move_keys_fn {ds rs : List D} (hle : ds.length ≤ 8) (h : AW Try.prog 8 i__impl_Move_keys (Ends [.cell 2 (some 2)] rs) (init ds)) : Fn Try.prog k__impl_Move_keys (lent ds) true rs :=
  Fn.intro' (by kernel_rfl) Try.func130 (by kernel_rfl) i__impl_Move_keys_ok (by kernel_rfl) hle h.h

abbrev i_impl_RangeOk_r0 : List RO := [
  ⟨⟨none, .box 1 (.t 0)⟩, 0, []⟩,
  ⟨⟨none, .mov 2 (.c (.one (.d (.bool false))))⟩, 0, []⟩]

abbrev i_impl_RangeOk_r1 : List RO := [
  ⟨⟨none, .faddr 3 0 (.t 1)⟩, 0, []⟩,
  ⟨⟨none, .load 4 none (.t 3)⟩, 0, []⟩,
  ⟨⟨none, .bin 5 .geq (.t 4) (.c (.one (.d (.int .i64 0))))⟩, 0, []⟩,
  ⟨⟨none, .mov 6 (.t 5)⟩, 0, []⟩,
  ⟨⟨some (6, true), .faddr 7 0 (.t 1)⟩, 0, []⟩,
  ⟨⟨some (6, true), .load 8 none (.t 7)⟩, 0, []⟩,
  ⟨⟨some (6, true), .faddr 9 1 (.t 1)⟩, 0, []⟩,
  ⟨⟨some (6, true), .load 10 none (.t 9)⟩, 0, []⟩,
  ⟨⟨some (6, true), .bin 11 .lss (.t 8) (.t 10)⟩, 0, []⟩,
  ⟨⟨none, .pick 12 (.t 6) (.t 11) (.c (.one (.d (.bool false))))⟩, 0, []⟩,
  ⟨⟨none, .mov 13 (.t 12)⟩, 0, []⟩,
  ⟨⟨some (13, true), .faddr 14 1 (.t 1)⟩, 0, []⟩,
  ⟨⟨some (13, true), .load 15 none (.t 14)⟩, 0, []⟩,
  ⟨⟨some (13, true), .bin 16 .leq (.t 15) (.c (.one (.d (.int .i64 1000))))⟩, 0, []⟩,
  ⟨⟨none, .pick 17 (.t 13) (.t 16) (.c (.one (.d (.bool false))))⟩, 0, []⟩,
  ⟨⟨none, .mov 2 (.t 17)⟩, 0, []⟩]

def i_impl_RangeOk : IC := (.seq (.reg i_impl_RangeOk_r0)
  (.seq (.reg i_impl_RangeOk_r1)
  .ret))

theorem i_impl_RangeOk_ok : (Try.f107.body.bind fun c => toIC Try.prog 18 c []) = some (i_impl_RangeOk, []) := by kernel_rfl

theorem i_impl_RangeOk_fn {ds rs : List D} (hle : ds.length ≤ 18) (h : AW Try.prog 18 i_impl_RangeOk (Ends [.tmp 2] rs) (init ds)) : Fn Try.prog k_impl_RangeOk (lent ds) true rs :=
  Fn.intro' (by kernel_rfl) Try.func107 (by kernel_rfl) i_impl_RangeOk_ok (by kernel_rfl) hle h.h

abbrev i_impl_isKey_r0 : List RO := [
  ⟨⟨none, .mov 2 (.c (.one (.d (.bool false))))⟩, 0, []⟩]

abbrev i_impl_isKey_r1 : List RO := [
  ⟨⟨none, .mov 3 (.t 0)⟩, 0, []⟩,
  ⟨⟨none, .callv 4 (.c (.one (.fn k_impl_from []))) [(.t 3), (.c (.one (.d (.int .i64 0)))), (.c (.one (.d (.int .i64 999))))]⟩, 0, []⟩,
  ⟨⟨none, .mov 2 (.t 4)⟩, 0, []⟩]

def i_impl_isKey : IC := (.seq (.reg i_impl_isKey_r0)
  (.seq (.reg i_impl_isKey_r1)
  .ret))

theorem i_impl_isKey_ok : (Try.f208.body.bind fun c => toIC Try.prog 5 c []) = some (i_impl_isKey, []) := by kernel_rfl

theorem i_impl_isKey_fn {ds rs : List D} (hle : ds.length ≤ 5) (h : AW Try.prog 5 i_impl_isKey (Ends [.tmp 2] rs) (init ds)) : Fn Try.prog k_impl_isKey (lent ds) true rs :=
  Fn.intro' (by kernel_rfl) Try.func208 (by kernel_rfl) i_impl_isKey_ok (by kernel_rfl) hle h.h

abbrev i_impl_isWhole_r0 : List RO := [
  ⟨⟨none, .mov 2 (.c (.one (.d (.bool false))))⟩, 0, []⟩]

abbrev i_impl_isWhole_r1 : List RO := [
  ⟨⟨none, .mov 3 (.t 0)⟩, 0, []⟩,
  ⟨⟨none, .callv 4 (.c (.one (.fn k_impl_from []))) [(.t 3), (.c (.one (.d (.int .i64 0)))), (.c (.one (.d (.int .i64 1000000000))))]⟩, 0, []⟩,
  ⟨⟨none, .mov 2 (.t 4)⟩, 0, []⟩]

def i_impl_isWhole : IC := (.seq (.reg i_impl_isWhole_r0)
  (.seq (.reg i_impl_isWhole_r1)
  .ret))

theorem i_impl_isWhole_ok : (Try.f138.body.bind fun c => toIC Try.prog 5 c []) = some (i_impl_isWhole, []) := by kernel_rfl

theorem i_impl_isWhole_fn {ds rs : List D} (hle : ds.length ≤ 5) (h : AW Try.prog 5 i_impl_isWhole (Ends [.tmp 2] rs) (init ds)) : Fn Try.prog k_impl_isWhole (lent ds) true rs :=
  Fn.intro' (by kernel_rfl) Try.func138 (by kernel_rfl) i_impl_isWhole_ok (by kernel_rfl) hle h.h

abbrev i_impl_StoreOk_r0 : List RO := [
  ⟨⟨none, .mov 2 (.c (.one (.d (.bool false))))⟩, 0, []⟩]

abbrev i_impl_StoreOk_r1 : List RO := [
  ⟨⟨none, .mov 5 (.t 0)⟩, 0, []⟩,
  ⟨⟨none, .len 6 false (.t 5)⟩, 0, []⟩,
  ⟨⟨none, .mov 7 (.c (.one (.d (.int .i64 0))))⟩, 0, []⟩]

abbrev i_impl_StoreOk_r2 : List RO := [
  ⟨⟨none, .bin 8 .lss (.t 7) (.t 6)⟩, 0, []⟩]

abbrev i_impl_StoreOk_r3 : List RO := [
  ⟨⟨none, .mov 9 (.t 7)⟩, 0, []⟩,
  ⟨⟨none, .iaddr 10 2 (.t 5) (.t 7)⟩, 0, []⟩,
  ⟨⟨none, .load 11 (some 2) (.t 10)⟩, 0, []⟩,
  ⟨⟨none, .var 4 [(.d (.int .i64 0)), (.d (.int .i64 0))]⟩, 0, []⟩,
  ⟨⟨none, .mov 3 (.t 9)⟩, 0, []⟩,
  ⟨⟨none, .store 2 [(.int .i64 0), (.int .i64 0)] (.t 4) (.t 11)⟩, 0, []⟩]

abbrev i_impl_StoreOk_r4 : List RO := [
  ⟨⟨none, .faddr 12 0 (.t 4)⟩, 0, []⟩,
  ⟨⟨none, .load 13 none (.t 12)⟩, 1, []⟩,
  ⟨⟨none, .callv 14 (.c (.one (.fn k_impl_isKey []))) [(.t 13)]⟩, 3, []⟩,
  ⟨⟨none, .inv 15 (.t 14)⟩, 7, []⟩,
  ⟨⟨none, .mov 16 (.t 15)⟩, 15, []⟩,
  ⟨⟨some (16, false), .faddr 17 1 (.t 4)⟩, 31, []⟩,
  ⟨⟨some (16, false), .load 18 none (.t 17)⟩, 63, []⟩,
  ⟨⟨some (16, false), .callv 19 (.c (.one (.fn k_impl_isWhole []))) [(.t 18)]⟩, 127, []⟩,
  ⟨⟨some (16, false), .inv 20 (.t 19)⟩, 255, []⟩,
  ⟨⟨none, .pick 21 (.t 16) (.c (.one (.d (.bool true)))) (.t 20)⟩, 511, []⟩,
  ⟨⟨none, .mov 22 (.t 21)⟩, 1023, []⟩,
  ⟨⟨some (22, false), .mov 23 (.t 3)⟩, 2047, []⟩,
  ⟨⟨some (22, false), .bin 24 .gtr (.t 23) (.c (.one (.d (.int .i64 0))))⟩, 4095, []⟩,
  ⟨⟨some (22, false), .mov 25 (.t 24)⟩, 8191, []⟩,
  ⟨⟨some (25, true), .mov 26 (.t 0)⟩, 16383, []⟩,
  ⟨⟨some (25, true), .mov 27 (.t 3)⟩, 16383, []⟩,
  ⟨⟨some (25, true), .bin 28 .sub (.t 27) (.c (.one (.d (.int .i64 1))))⟩, 49151, []⟩,
  ⟨⟨some (25, true), .iaddr 29 2 (.t 26) (.t 28)⟩, 131071, []⟩,
  ⟨⟨some (25, true), .faddr 30 0 (.t 29)⟩, 262143, []⟩,
  ⟨⟨some (25, true), .load 31 none (.t 30)⟩, 524287, []⟩,
  ⟨⟨some (25, true), .faddr 32 0 (.t 4)⟩, 16383, []⟩,
  ⟨⟨some (25, true), .load 33 none (.t 32)⟩, 1064959, []⟩,
  ⟨⟨some (25, true), .bin 34 .geq (.t 31) (.t 33)⟩, 4194303, []⟩,
  ⟨⟨some (22, false), .pick 35 (.t 25) (.t 34) (.c (.one (.d (.bool false))))⟩, 8388607, []⟩,
  ⟨⟨none, .pick 36 (.t 22) (.c (.one (.d (.bool true)))) (.t 35)⟩, 16777215, []⟩]

abbrev i_impl_StoreOk_r5 : List RO := [
  ⟨⟨none, .mov 2 (.c (.one (.d (.bool false))))⟩, 0, []⟩]

abbrev i_impl_StoreOk_r6 : List RO := [
  ⟨⟨none, .bin 37 .add (.t 7) (.c (.one (.d (.int .i64 1))))⟩, 0, []⟩,
  ⟨⟨none, .mov 7 (.t 37)⟩, 0, []⟩]

abbrev i_impl_StoreOk_r7 : List RO := [
  ⟨⟨none, .mov 38 (.t 0)⟩, 0, []⟩,
  ⟨⟨none, .len 39 false (.t 38)⟩, 0, []⟩,
  ⟨⟨none, .bin 40 .leq (.t 39) (.c (.one (.d (.int .i64 60))))⟩, 0, []⟩,
  ⟨⟨none, .mov 2 (.t 40)⟩, 0, []⟩]

def i_impl_StoreOk : IC := (.seq (.reg i_impl_StoreOk_r0)
  (.seq (.seq (.reg i_impl_StoreOk_r1)
  (.block 0 (.loop (.seq (.reg i_impl_StoreOk_r2)
  (.seq (.cond (.t 8) .skip (.exit 0))
  (.seq (.block 1 (.seq (.reg i_impl_StoreOk_r3)
  (.seq (.regd i_impl_StoreOk_r4)
  (.cond (.t 36) (.seq (.reg i_impl_StoreOk_r5)
  .ret) .skip))))
  (.reg i_impl_StoreOk_r6)))))))
  (.seq (.reg i_impl_StoreOk_r7)
  .ret)))

theorem i_impl_StoreOk_ok : (Try.f110.body.bind fun c => toIC Try.prog 41 c [[(0, []), (1, []), (3, []), (7, []), (15, []), (31, []), (63, []), (127, []), (255, []), (511, []), (1023, []), (2047, []), (4095, []), (8191, []), (16383, []), (16383, []), (49151, []), (131071, []), (262143, []), (524287, []), (16383, []), (1064959, []), (4194303, []), (8388607, []), (16777215, [])]]) = some (i_impl_StoreOk, []) := by kernel_rfl

theorem i_impl_StoreOk_fn {ds rs : List D} (hle : ds.length ≤ 41) (h : AW Try.prog 41 i_impl_StoreOk (Ends [.tmp 2] rs) (init ds)) : Fn Try.prog k_impl_StoreOk (lent ds) true rs :=
  Fn.intro' (by kernel_rfl) Try.func110 (by kernel_rfl) i_impl_StoreOk_ok (by kernel_rfl) hle h.h

abbrev i__impl_Range_has_r0 : List RO := [
  ⟨⟨none, .box 2 (.t 0)⟩, 0, []⟩,
  ⟨⟨none, .mov 4 (.c (.one (.d (.bool false))))⟩, 0, []⟩]

abbrev i__impl_Range_has_r1 : List RO := [
  ⟨⟨none, .mov 5 (.t 1)⟩, 0, []⟩,
  ⟨⟨none, .faddr 6 0 (.t 2)⟩, 0, []⟩,
  ⟨⟨none, .load 7 none (.t 6)⟩, 0, []⟩,
  ⟨⟨none, .faddr 8 1 (.t 2)⟩, 0, []⟩,
  ⟨⟨none, .load 9 none (.t 8)⟩, 0, []⟩,
  ⟨⟨none, .bin 10 .sub (.t 9) (.c (.one (.d (.int .i64 1))))⟩, 0, []⟩,
  ⟨⟨none, .callv 11 (.c (.one (.fn k_impl_from []))) [(.t 5), (.t 7), (.t 10)]⟩, 0, []⟩,
  ⟨⟨none, .mov 4 (.t 11)⟩, 0, []⟩]

def i__impl_Range_has : IC := (.seq (.reg i__impl_Range_has_r0)
  (.seq (.reg i__impl_Range_has_r1)
  .ret))

theorem i__impl_Range_has_ok : (Try.f228.body.bind fun c => toIC Try.prog 12 c []) = some (i__impl_Range_has, []) := by kernel_rfl

theorem i__impl_Range_has_fn {ds rs : List D} (hle : ds.length ≤ 12) (h : AW Try.prog 12 i__impl_Range_has (Ends [.tmp 4] rs) (init ds)) : Fn Try.prog k__impl_Range_has (lent ds) true rs :=
  Fn.intro' (by kernel_rfl) Try.func228 (by kernel_rfl) i__impl_Range_has_ok (by kernel_rfl) hle h.h

abbrev i_impl_cellsIn_1_r0 : List RO := [
  ⟨⟨none, .box 2 (.t 0)⟩, 0, []⟩,
  ⟨⟨none, .mov 3 (.c (.one (.d (.bool false))))⟩, 0, []⟩]

abbrev i_impl_cellsIn_1_r1 : List RO := [
  ⟨⟨none, .load 4 (some 2) (.t 1)⟩, 0, []⟩,
  ⟨⟨none, .faddr 5 0 (.t 2)⟩, 0, []⟩,
  ⟨⟨none, .load 6 none (.t 5)⟩, 0, []⟩,
  ⟨⟨none, .callv 7 (.c (.one (.fn k__impl_Range_has []))) [(.t 4), (.t 6)]⟩, 0, []⟩,
  ⟨⟨none, .inv 8 (.t 7)⟩, 0, []⟩,
  ⟨⟨none, .mov 3 (.t 8)⟩, 0, []⟩]

def i_impl_cellsIn_1 : IC := (.seq (.reg i_impl_cellsIn_1_r0)
  (.seq (.reg i_impl_cellsIn_1_r1)
  .ret))

theorem i_impl_cellsIn_1_ok : (Try.f227.body.bind fun c => toIC Try.prog 9 c []) = some (i_impl_cellsIn_1, []) := by kernel_rfl

theorem i_impl_cellsIn_1_fn {ds rs : List D} (hle : ds.length ≤ 9) (h : AW Try.prog 9 i_impl_cellsIn_1 (Ends [.tmp 3] rs) (init ds)) : Fn Try.prog k_impl_cellsIn_1 (lent ds) true rs :=
  Fn.intro' (by kernel_rfl) Try.func227 (by kernel_rfl) i_impl_cellsIn_1_ok (by kernel_rfl) hle h.h

abbrev i_slices_IndexFunc___impl_Cell_impl_Cell__r0 : List RO := [
  ⟨⟨none, .mov 4 (.c (.one (.d (.int .i64 0))))⟩, 0, []⟩]

abbrev i_slices_IndexFunc___impl_Cell_impl_Cell__r1 : List RO := [
  ⟨⟨none, .mov 6 (.t 0)⟩, 0, []⟩,
  ⟨⟨none, .len 7 false (.t 6)⟩, 0, []⟩,
  ⟨⟨none, .mov 8 (.c (.one (.d (.int .i64 0))))⟩, 0, []⟩]

abbrev i_slices_IndexFunc___impl_Cell_impl_Cell__r2 : List RO := [
  ⟨⟨none, .bin 9 .lss (.t 8) (.t 7)⟩, 0, []⟩]

abbrev i_slices_IndexFunc___impl_Cell_impl_Cell__r3 : List RO := [
  ⟨⟨none, .mov 10 (.t 8)⟩, 0, []⟩,
  ⟨⟨none, .mov 5 (.t 10)⟩, 0, []⟩]

abbrev i_slices_IndexFunc___impl_Cell_impl_Cell__r4 : List RO := [
  ⟨⟨none, .mov 11 (.t 1)⟩, 0, []⟩,
  ⟨⟨none, .mov 12 (.t 0)⟩, 0, []⟩,
  ⟨⟨none, .mov 13 (.t 5)⟩, 0, []⟩,
  ⟨⟨none, .iaddr 14 2 (.t 12) (.t 13)⟩, 0, []⟩,
  ⟨⟨none, .load 15 (some 2) (.t 14)⟩, 0, []⟩,
  ⟨⟨none, .callv 16 (.t 11) [(.t 15)]⟩, 0, []⟩]

abbrev i_slices_IndexFunc___impl_Cell_impl_Cell__r5 : List RO := [
  ⟨⟨none, .mov 17 (.t 5)⟩, 0, []⟩,
  ⟨⟨none, .mov 4 (.t 17)⟩, 0, []⟩]

abbrev i_slices_IndexFunc___impl_Cell_impl_Cell__r6 : List RO := [
  ⟨⟨none, .bin 18 .add (.t 8) (.c (.one (.d (.int .i64 1))))⟩, 0, []⟩,
  ⟨⟨none, .mov 8 (.t 18)⟩, 0, []⟩]

abbrev i_slices_IndexFunc___impl_Cell_impl_Cell__r7 : List RO := [
  ⟨⟨none, .mov 4 (.c (.one (.d (.int .i64 (-1)))))⟩, 0, []⟩]

def i_slices_IndexFunc___impl_Cell_impl_Cell_ : IC := (.seq (.reg i_slices_IndexFunc___impl_Cell_impl_Cell__r0)
  (.seq (.seq (.reg i_slices_IndexFunc___impl_Cell_impl_Cell__r1)
  (.block 0 (.loop (.seq (.reg i_slices_IndexFunc___impl_Cell_impl_Cell__r2)
  (.seq (.cond (.t 9) .skip (.exit 0))
  (.seq (.block 1 (.seq (.reg i_slices_IndexFunc___impl_Cell_impl_Cell__r3)
  (.seq (.reg i_slices_IndexFunc___impl_Cell_impl_Cell__r4)
  (.cond (.t 16) (.seq (.reg i_slices_IndexFunc___impl_Cell_impl_Cell__r5)
  .ret) .skip))))
  (.reg i_slices_IndexFunc___impl_Cell_impl_Cell__r6)))))))
  (.seq (.reg i_slices_IndexFunc___impl_Cell_impl_Cell__r7)
  .ret)))

theorem i_slices_IndexFunc___impl_Cell_impl_Cell__ok : (Try.f264.body.bind fun c => toIC Try.prog 19 c []) = some (i_slices_IndexFunc___impl_Cell_impl_Cell_, []) := by kernel_rfl

theorem i_slices_IndexFunc___impl_Cell_impl_Cell__fn {ds rs : List D} (hle : ds.length ≤ 19) (h : AW Try.prog 19 i_slices_IndexFunc___impl_Cell_impl_Cell_ (Ends [.tmp 4] rs) (init ds)) : Fn Try.prog k_slices_IndexFunc___impl_Cell_impl_Cell_ (lent ds) true rs :=
  Fn.intro' (by kernel_rfl) Try.func264 (by kernel_rfl) i_slices_IndexFunc___impl_Cell_impl_Cell__ok (by kernel_rfl) hle h.h

abbrev i_slices_ContainsFunc___impl_Cell_impl_Cell__r0 : List RO := [
  ⟨⟨none, .mov 4 (.c (.one (.d (.bool false))))⟩, 0, []⟩]

abbrev i_slices_ContainsFunc___impl_Cell_impl_Cell__r1 : List RO := [
  ⟨⟨none, .mov 5 (.t 0)⟩, 0, []⟩,
  ⟨⟨none, .mov 6 (.t 1)⟩, 0, []⟩,
  ⟨⟨none, .callv 7 (.c (.one (.fn k_slices_IndexFunc___impl_Cell_impl_Cell_ []))) [(.t 5), (.t 6)]⟩, 0, []⟩,
  ⟨⟨none, .bin 8 .geq (.t 7) (.c (.one (.d (.int .i64 0))))⟩, 0, []⟩,
  ⟨⟨none, .mov 4 (.t 8)⟩, 0, []⟩]

def i_slices_ContainsFunc___impl_Cell_impl_Cell_ : IC := (.seq (.reg i_slices_ContainsFunc___impl_Cell_impl_Cell__r0)
  (.seq (.reg i_slices_ContainsFunc___impl_Cell_impl_Cell__r1)
  .ret))

theorem i_slices_ContainsFunc___impl_Cell_impl_Cell__ok : (Try.f226.body.bind fun c => toIC Try.prog 9 c []) = some (i_slices_ContainsFunc___impl_Cell_impl_Cell_, []) := by kernel_rfl

theorem i_slices_ContainsFunc___impl_Cell_impl_Cell__fn {ds rs : List D} (hle : ds.length ≤ 9) (h : AW Try.prog 9 i_slices_ContainsFunc___impl_Cell_impl_Cell_ (Ends [.tmp 4] rs) (init ds)) : Fn Try.prog k_slices_ContainsFunc___impl_Cell_impl_Cell_ (lent ds) true rs :=
  Fn.intro' (by kernel_rfl) Try.func226 (by kernel_rfl) i_slices_ContainsFunc___impl_Cell_impl_Cell__ok (by kernel_rfl) hle h.h

abbrev i_impl_cellsIn_r0 : List RO := [
  ⟨⟨none, .box 3 (.t 1)⟩, 0, []⟩,
  ⟨⟨none, .mov 4 (.c (.one (.d (.bool false))))⟩, 0, []⟩]

abbrev i_impl_cellsIn_r1 : List RO := [
  ⟨⟨none, .mov 5 (.t 0)⟩, 0, []⟩,
  ⟨⟨none, .callv 6 (.c (.one (.fn k_impl_StoreOk []))) [(.t 5)]⟩, 0, []⟩,
  ⟨⟨none, .mov 7 (.t 6)⟩, 0, []⟩,
  ⟨⟨some (7, true), .mov 8 (.t 0)⟩, 0, []⟩,
  ⟨⟨some (7, true), .mkfn 9 k_impl_cellsIn_1 [(.t 3)]⟩, 0, []⟩,
  ⟨⟨some (7, true), .callv 10 (.c (.one (.fn k_slices_ContainsFunc___impl_Cell_impl_Cell_ []))) [(.t 8), (.t 9)]⟩, 0, []⟩,
  ⟨⟨some (7, true), .inv 11 (.t 10)⟩, 0, []⟩,
  ⟨⟨none, .pick 12 (.t 7) (.t 11) (.c (.one (.d (.bool false))))⟩, 0, []⟩,
  ⟨⟨none, .mov 4 (.t 12)⟩, 0, []⟩]

def i_impl_cellsIn : IC := (.seq (.reg i_impl_cellsIn_r0)
  (.seq (.reg i_impl_cellsIn_r1)
  .ret))

theorem i_impl_cellsIn_ok : (Try.f131.body.bind fun c => toIC Try.prog 13 c []) = some (i_impl_cellsIn, []) := by kernel_rfl

theorem i_impl_cellsIn_fn {ds rs : List D} (hle : ds.length ≤ 13) (h : AW Try.prog 13 i_impl_cellsIn (Ends [.tmp 4] rs) (init ds)) : Fn Try.prog k_impl_cellsIn (lent ds) true rs :=
  Fn.intro' (by kernel_rfl) Try.func131 (by kernel_rfl) i_impl_cellsIn_ok (by kernel_rfl) hle h.h

abbrev i_impl_moveOk_r0 : List RO := [
  ⟨⟨none, .box 1 (.t 0)⟩, 0, []⟩,
  ⟨⟨none, .mov 2 (.c (.one (.d (.bool false))))⟩, 0, []⟩]

abbrev i_impl_moveOk_r1 : List RO := [
  ⟨⟨none, .faddr 3 0 (.t 1)⟩, 0, []⟩,
  ⟨⟨none, .load 4 none (.t 3)⟩, 0, []⟩,
  ⟨⟨none, .callv 5 (.c (.one (.fn k_impl_from []))) [(.t 4), (.c (.one (.d (.int .i64 0)))), (.c (.one (.d (.int .i64 300000))))]⟩, 0, []⟩,
  ⟨⟨none, .inv 6 (.t 5)⟩, 0, []⟩,
  ⟨⟨none, .mov 7 (.t 6)⟩, 0, []⟩,
  ⟨⟨some (7, false), .faddr 8 1 (.t 1)⟩, 0, []⟩,
  ⟨⟨some (7, false), .load 9 none (.t 8)⟩, 0, []⟩,
  ⟨⟨some (7, false), .callv 10 (.c (.one (.fn k_impl_from []))) [(.t 9), (.c (.one (.d (.int .i64 0)))), (.c (.one (.d (.int .i64 4))))]⟩, 0, []⟩,
  ⟨⟨some (7, false), .inv 11 (.t 10)⟩, 0, []⟩,
  ⟨⟨none, .pick 12 (.t 7) (.c (.one (.d (.bool true)))) (.t 11)⟩, 0, []⟩]

abbrev i_impl_moveOk_r2 : List RO := [
  ⟨⟨none, .mov 2 (.c (.one (.d (.bool false))))⟩, 0, []⟩]

abbrev i_impl_moveOk_r3 : List RO := [
  ⟨⟨none, .faddr 13 1 (.t 1)⟩, 0, []⟩,
  ⟨⟨none, .load 14 none (.t 13)⟩, 0, []⟩,
  ⟨⟨none, .bin 15 .eql (.t 14) (.c (.one (.d (.int .i64 0))))⟩, 0, []⟩]

abbrev i_impl_moveOk_r4 : List RO := [
  ⟨⟨none, .faddr 16 2 (.t 1)⟩, 0, []⟩,
  ⟨⟨none, .load 17 none (.t 16)⟩, 0, []⟩,
  ⟨⟨none, .bin 18 .eql (.t 17) (.c (.one (.d (.int .i64 0))))⟩, 0, []⟩,
  ⟨⟨none, .mov 19 (.t 18)⟩, 0, []⟩,
  ⟨⟨some (19, true), .faddr 20 3 (.t 1)⟩, 0, []⟩,
  ⟨⟨some (19, true), .load 21 none (.t 20)⟩, 0, []⟩,
  ⟨⟨some (19, true), .bin 22 .eql (.t 21) (.c (.one (.d (.int .i64 0))))⟩, 0, []⟩,
  ⟨⟨none, .pick 23 (.t 19) (.t 22) (.c (.one (.d (.bool false))))⟩, 0, []⟩,
  ⟨⟨none, .mov 24 (.t 23)⟩, 0, []⟩,
  ⟨⟨some (24, true), .faddr 25 4 (.t 1)⟩, 0, []⟩,
  ⟨⟨some (24, true), .load 26 none (.t 25)⟩, 0, []⟩,
  ⟨⟨some (24, true), .bin 27 .eql (.t 26) (.c (.one (.d (.int .i64 0))))⟩, 0, []⟩,
  ⟨⟨none, .pick 28 (.t 24) (.t 27) (.c (.one (.d (.bool false))))⟩, 0, []⟩,
  ⟨⟨none, .mov 29 (.t 28)⟩, 0, []⟩,
  ⟨⟨some (29, true), .faddr 30 5 (.t 1)⟩, 0, []⟩,
  ⟨⟨some (29, true), .load 31 none (.t 30)⟩, 0, []⟩,
  ⟨⟨some (29, true), .bin 32 .eql (.t 31) (.c (.one (.d (.int .i64 0))))⟩, 0, []⟩,
  ⟨⟨none, .pick 33 (.t 29) (.t 32) (.c (.one (.d (.bool false))))⟩, 0, []⟩,
  ⟨⟨none, .mov 34 (.t 33)⟩, 0, []⟩,
  ⟨⟨some (34, true), .faddr 35 6 (.t 1)⟩, 0, []⟩,
  ⟨⟨some (34, true), .load 36 none (.t 35)⟩, 0, []⟩,
  ⟨⟨some (34, true), .len 37 false (.t 36)⟩, 0, []⟩,
  ⟨⟨some (34, true), .bin 38 .eql (.t 37) (.c (.one (.d (.int .i64 0))))⟩, 0, []⟩,
  ⟨⟨none, .pick 39 (.t 34) (.t 38) (.c (.one (.d (.bool false))))⟩, 0, []⟩,
  ⟨⟨none, .mov 2 (.t 39)⟩, 0, []⟩]

abbrev i_impl_moveOk_r5 : List RO := [
  ⟨⟨none, .faddr 40 0 (.t 1)⟩, 0, []⟩,
  ⟨⟨none, .load 41 none (.t 40)⟩, 1, []⟩,
  ⟨⟨none, .bin 42 .geq (.t 41) (.c (.one (.d (.int .i64 1))))⟩, 3, []⟩,
  ⟨⟨none, .mov 43 (.t 42)⟩, 7, []⟩,
  ⟨⟨some (43, true), .load 44 (some 7) (.t 1)⟩, 15, []⟩,
  ⟨⟨some (43, true), .callv 45 (.c (.one (.fn k__impl_Move_keys []))) [(.t 44)]⟩, 31, []⟩,
  ⟨⟨some (43, true), .callv 46 (.c (.one (.fn k_impl_RangeOk []))) [(.t 45)]⟩, 63, []⟩,
  ⟨⟨none, .pick 47 (.t 43) (.t 46) (.c (.one (.d (.bool false))))⟩, 127, []⟩,
  ⟨⟨none, .mov 48 (.t 47)⟩, 255, []⟩,
  ⟨⟨some (48, true), .faddr 49 4 (.t 1)⟩, 511, []⟩,
  ⟨⟨some (48, true), .load 50 none (.t 49)⟩, 1023, []⟩,
  ⟨⟨some (48, true), .callv 51 (.c (.one (.fn k_impl_isGroup []))) [(.t 50)]⟩, 2047, []⟩,
  ⟨⟨none, .pick 52 (.t 48) (.t 51) (.c (.one (.d (.bool false))))⟩, 4095, []⟩,
  ⟨⟨none, .mov 53 (.t 52)⟩, 8191, []⟩,
  ⟨⟨some (53, true), .faddr 54 5 (.t 1)⟩, 16383, []⟩,
  ⟨⟨some (53, true), .load 55 none (.t 54)⟩, 32767, []⟩,
  ⟨⟨some (53, true), .callv 56 (.c (.one (.fn k_impl_isGroup []))) [(.t 55)]⟩, 65535, []⟩,
  ⟨⟨none, .pick 57 (.t 53) (.t 56) (.c (.one (.d (.bool false))))⟩, 131071, []⟩,
  ⟨⟨none, .mov 58 (.t 57)⟩, 262143, []⟩,
  ⟨⟨some (58, true), .faddr 59 4 (.t 1)⟩, 524287, []⟩,
  ⟨⟨some (58, true), .load 60 none (.t 59)⟩, 1048575, []⟩,
  ⟨⟨some (58, true), .faddr 61 5 (.t 1)⟩, 524287, []⟩,
  ⟨⟨some (58, true), .load 62 none (.t 61)⟩, 2621439, []⟩,
  ⟨⟨some (58, true), .bin 63 .neq (.t 60) (.t 62)⟩, 8388607, []⟩,
  ⟨⟨none, .pick 64 (.t 58) (.t 63) (.c (.one (.d (.bool false))))⟩, 16777215, []⟩,
  ⟨⟨none, .mov 65 (.t 64)⟩, 33554431, []⟩,
  ⟨⟨some (65, true), .faddr 66 6 (.t 1)⟩, 67108863, []⟩,
  ⟨⟨some (65, true), .load 67 none (.t 66)⟩, 134217727, [69]⟩,
  ⟨⟨some (65, true), .load 68 (some 7) (.t 1)⟩, 67108863, []⟩,
  ⟨⟨some (65, true), .callv 69 (.c (.one (.fn k__impl_Move_keys []))) [(.t 68)]⟩, 335544319, []⟩,
  ⟨⟨some (65, true), .callv 70 (.c (.one (.fn k_impl_cellsIn []))) [(.t 67), (.t 69)]⟩, 1073741823, []⟩,
  ⟨⟨none, .pick 71 (.t 65) (.t 70) (.c (.one (.d (.bool false))))⟩, 2147483647, []⟩,
  ⟨⟨none, .mov 72 (.t 71)⟩, 4294967295, []⟩,
  ⟨⟨some (72, true), .faddr 73 1 (.t 1)⟩, 8589934591, []⟩,
  ⟨⟨some (72, true), .load 74 none (.t 73)⟩, 17179869183, []⟩,
  ⟨⟨some (72, true), .bin 75 .eql (.t 74) (.c (.one (.d (.int .i64 2))))⟩, 34359738367, []⟩,
  ⟨⟨some (72, true), .mov 76 (.t 75)⟩, 68719476735, []⟩,
  ⟨⟨some (76, false), .faddr 77 6 (.t 1)⟩, 137438953471, []⟩,
  ⟨⟨some (76, false), .load 78 none (.t 77)⟩, 274877906943, []⟩,
  ⟨⟨some (76, false), .len 79 false (.t 78)⟩, 549755813887, []⟩,
  ⟨⟨some (76, false), .bin 80 .eql (.t 79) (.c (.one (.d (.int .i64 0))))⟩, 1099511627775, []⟩,
  ⟨⟨some (72, true), .pick 81 (.t 76) (.c (.one (.d (.bool true)))) (.t 80)⟩, 2199023255551, []⟩,
  ⟨⟨none, .pick 82 (.t 72) (.t 81) (.c (.one (.d (.bool false))))⟩, 4398046511103, []⟩,
  ⟨⟨none, .mov 2 (.t 82)⟩, 8796093022207, []⟩]

def i_impl_moveOk : IC := (.seq (.reg i_impl_moveOk_r0)
  (.seq (.seq (.reg i_impl_moveOk_r1)
  (.cond (.t 12) (.seq (.reg i_impl_moveOk_r2)
  .ret) .skip))
  (.seq (.seq (.reg i_impl_moveOk_r3)
  (.cond (.t 15) (.seq (.reg i_impl_moveOk_r4)
  .ret) .skip))
  (.seq (.regd i_impl_moveOk_r5)
  .ret))))

theorem i_impl_moveOk_ok : (Try.f135.body.bind fun c => toIC Try.prog 83 c [[(0, []), (1, []), (3, []), (7, []), (15, []), (31, []), (63, []), (127, []), (255, []), (511, []), (1023, []), (2047, []), (4095, []), (8191, []), (16383, []), (32767, []), (65535, []), (131071, []), (262143, []), (524287, []), (1048575, []), (524287, []), (2621439, []), (8388607, []), (16777215, []), (33554431, []), (67108863, []), (134217727, [69]), (67108863, []), (335544319, []), (1073741823, []), (2147483647, []), (4294967295, []), (8589934591, []), (17179869183, []), (34359738367, []), (68719476735, []), (137438953471, []), (274877906943, []), (549755813887, []), (1099511627775, []), (2199023255551, []), (4398046511103, []), (8796093022207, [])]]) = some (i_impl_moveOk, []) := by kernel_rfl

theorem i_impl_moveOk_fn {ds rs : List D} (hle : ds.length ≤ 83) (h : AW Try.prog 83 i_impl_moveOk (Ends [.tmp 2] rs) (init ds)) : Fn Try.prog k_impl_moveOk (lent ds) true rs :=
  Fn.intro' (by kernel_rfl) Try.func135 (by kernel_rfl) i_impl_moveOk_ok (by kernel_rfl) hle h.h

abbrev i_impl_AtlasOk_r0 : List RO := [
  ⟨⟨none, .box 1 (.t 0)⟩, 0, []⟩,
  ⟨⟨none, .mov 2 (.c (.one (.d (.bool false))))⟩, 0, []⟩]

abbrev i_impl_AtlasOk_r1 : List RO := [
  ⟨⟨none, .faddr 3 0 (.t 1)⟩, 0, []⟩,
  ⟨⟨none, .load 4 none (.t 3)⟩, 0, []⟩,
  ⟨⟨none, .callv 5 (.c (.one (.fn k_impl_from []))) [(.t 4), (.c (.one (.d (.int .i64 0)))), (.c (.one (.d (.int .i64 1000000))))]⟩, 0, []⟩,
  ⟨⟨none, .mov 6 (.t 5)⟩, 0, []⟩,
  ⟨⟨some (6, true), .faddr 7 1 (.t 1)⟩, 0, []⟩,
  ⟨⟨some (6, true), .load 8 none (.t 7)⟩, 0, []⟩,
  ⟨⟨some (6, true), .callv 9 (.c (.one (.fn k_impl_PartsOk []))) [(.t 8)]⟩, 0, []⟩,
  ⟨⟨none, .pick 10 (.t 6) (.t 9) (.c (.one (.d (.bool false))))⟩, 0, []⟩,
  ⟨⟨none, .mov 11 (.t 10)⟩, 0, []⟩,
  ⟨⟨some (11, true), .faddr 12 2 (.t 1)⟩, 0, []⟩,
  ⟨⟨some (11, true), .load 13 (some 7) (.t 12)⟩, 0, []⟩,
  ⟨⟨some (11, true), .callv 14 (.c (.one (.fn k_impl_moveOk []))) [(.t 13)]⟩, 0, []⟩,
  ⟨⟨none, .pick 15 (.t 11) (.t 14) (.c (.one (.d (.bool false))))⟩, 0, []⟩,
  ⟨⟨none, .mov 2 (.t 15)⟩, 0, []⟩]

def i_impl_AtlasOk : IC := (.seq (.reg i_impl_AtlasOk_r0)
  (.seq (.reg i_impl_AtlasOk_r1)
  .ret))

theorem i_impl_AtlasOk_ok : (Try.f30.body.bind fun c => toIC Try.prog 16 c []) = some (i_impl_AtlasOk, []) := by kernel_rfl

theorem i_impl_AtlasOk_fn {ds rs : List D} (hle : ds.length ≤ 16) (h : AW Try.prog 16 i_impl_AtlasOk (Ends [.tmp 2] rs) (init ds)) : Fn Try.prog k_impl_AtlasOk (lent ds) true rs :=
  Fn.intro' (by kernel_rfl) Try.func30 (by kernel_rfl) i_impl_AtlasOk_ok (by kernel_rfl) hle h.h

abbrev i_slices_Clone___impl_Part_impl_Part__r0 : List RO := [
  ⟨⟨none, .mov 2 (.c (.one .zs))⟩, 0, []⟩]

abbrev i_slices_Clone___impl_Part_impl_Part__r1 : List RO := [
  ⟨⟨none, .mov 3 (.t 0)⟩, 0, []⟩,
  ⟨⟨none, .isnil 4 false (.t 3)⟩, 0, []⟩]

abbrev i_slices_Clone___impl_Part_impl_Part__r2 : List RO := [
  ⟨⟨none, .mov 2 (.c (.one .zs))⟩, 0, []⟩]

abbrev i_slices_Clone___impl_Part_impl_Part__r3 : List RO := [
  ⟨⟨none, .bslice 5 3 [] []⟩, 0, []⟩,
  ⟨⟨none, .mov 6 (.t 0)⟩, 0, []⟩,
  ⟨⟨none, .app 7 3 24 [(.int .i64 0), (.int .i64 0), (.int .i64 0)] (.t 5) (.t 6)⟩, 0, []⟩,
  ⟨⟨none, .mov 2 (.t 7)⟩, 0, []⟩]

def i_slices_Clone___impl_Part_impl_Part_ : IC := (.seq (.reg i_slices_Clone___impl_Part_impl_Part__r0)
  (.seq (.seq (.reg i_slices_Clone___impl_Part_impl_Part__r1)
  (.cond (.t 4) (.seq (.reg i_slices_Clone___impl_Part_impl_Part__r2)
  .ret) .skip))
  (.seq (.reg i_slices_Clone___impl_Part_impl_Part__r3)
  .ret)))

theorem i_slices_Clone___impl_Part_impl_Part__ok : (Try.f221.body.bind fun c => toIC Try.prog 8 c []) = some (i_slices_Clone___impl_Part_impl_Part_, []) := by kernel_rfl

theorem i_slices_Clone___impl_Part_impl_Part__fn {ds rs : List D} (hle : ds.length ≤ 8) (h : AW Try.prog 8 i_slices_Clone___impl_Part_impl_Part_ (Ends [.tmp 2] rs) (init ds)) : Fn Try.prog k_slices_Clone___impl_Part_impl_Part_ (lent ds) true rs :=
  Fn.intro' (by kernel_rfl) Try.func221 (by kernel_rfl) i_slices_Clone___impl_Part_impl_Part__ok (by kernel_rfl) hle h.h

abbrev i_slices_Clone___impl_Cell_impl_Cell__r0 : List RO := [
  ⟨⟨none, .mov 2 (.c (.one .zs))⟩, 0, []⟩]

abbrev i_slices_Clone___impl_Cell_impl_Cell__r1 : List RO := [
  ⟨⟨none, .mov 3 (.t 0)⟩, 0, []⟩,
  ⟨⟨none, .isnil 4 false (.t 3)⟩, 0, []⟩]

abbrev i_slices_Clone___impl_Cell_impl_Cell__r2 : List RO := [
  ⟨⟨none, .mov 2 (.c (.one .zs))⟩, 0, []⟩]

abbrev i_slices_Clone___impl_Cell_impl_Cell__r3 : List RO := [
  ⟨⟨none, .bslice 5 2 [] []⟩, 0, []⟩,
  ⟨⟨none, .mov 6 (.t 0)⟩, 0, []⟩,
  ⟨⟨none, .app 7 2 16 [(.int .i64 0), (.int .i64 0)] (.t 5) (.t 6)⟩, 0, []⟩,
  ⟨⟨none, .mov 2 (.t 7)⟩, 0, []⟩]

def i_slices_Clone___impl_Cell_impl_Cell_ : IC := (.seq (.reg i_slices_Clone___impl_Cell_impl_Cell__r0)
  (.seq (.seq (.reg i_slices_Clone___impl_Cell_impl_Cell__r1)
  (.cond (.t 4) (.seq (.reg i_slices_Clone___impl_Cell_impl_Cell__r2)
  .ret) .skip))
  (.seq (.reg i_slices_Clone___impl_Cell_impl_Cell__r3)
  .ret)))

theorem i_slices_Clone___impl_Cell_impl_Cell__ok : (Try.f132.body.bind fun c => toIC Try.prog 8 c []) = some (i_slices_Clone___impl_Cell_impl_Cell_, []) := by kernel_rfl

theorem i_slices_Clone___impl_Cell_impl_Cell__fn {ds rs : List D} (hle : ds.length ≤ 8) (h : AW Try.prog 8 i_slices_Clone___impl_Cell_impl_Cell_ (Ends [.tmp 2] rs) (init ds)) : Fn Try.prog k_slices_Clone___impl_Cell_impl_Cell_ (lent ds) true rs :=
  Fn.intro' (by kernel_rfl) Try.func132 (by kernel_rfl) i_slices_Clone___impl_Cell_impl_Cell__ok (by kernel_rfl) hle h.h

abbrev i_impl_copyAtlas_r0 : List RO := [
  ⟨⟨none, .box 1 (.t 0)⟩, 0, []⟩,
  ⟨⟨none, .var 2 [(.d (.int .i64 0)), .zs, (.d (.int .i64 0)), (.d (.int .i64 0)), (.d (.int .i64 0)), (.d (.int .i64 0)), (.d (.int .i64 0)), (.d (.int .i64 0)), .zs]⟩, 0, []⟩]

abbrev i_impl_copyAtlas_r1 : List RO := [
  ⟨⟨none, .faddr 3 1 (.t 1)⟩, 0, []⟩,
  ⟨⟨none, .load 4 none (.t 3)⟩, 0, []⟩,
  ⟨⟨none, .callv 5 (.c (.one (.fn k_slices_Clone___impl_Part_impl_Part_ []))) [(.t 4)]⟩, 0, []⟩,
  ⟨⟨none, .faddr 6 1 (.t 1)⟩, 0, []⟩,
  ⟨⟨none, .store 1 [(.sl 3 [])] (.t 6) (.t 5)⟩, 0, []⟩]

abbrev i_impl_copyAtlas_r2 : List RO := [
  ⟨⟨none, .faddr 7 2 (.t 1)⟩, 0, []⟩,
  ⟨⟨none, .faddr 8 6 (.t 7)⟩, 0, []⟩,
  ⟨⟨none, .load 9 none (.t 8)⟩, 0, []⟩,
  ⟨⟨none, .callv 10 (.c (.one (.fn k_slices_Clone___impl_Cell_impl_Cell_ []))) [(.t 9)]⟩, 0, []⟩,
  ⟨⟨none, .faddr 11 2 (.t 1)⟩, 0, []⟩,
  ⟨⟨none, .faddr 12 6 (.t 11)⟩, 0, []⟩,
  ⟨⟨none, .store 1 [(.sl 2 [])] (.t 12) (.t 10)⟩, 0, []⟩]

abbrev i_impl_copyAtlas_r3 : List RO := [
  ⟨⟨none, .load 13 (some 9) (.t 1)⟩, 0, []⟩,
  ⟨⟨none, .store 9 [(.int .i64 0), (.sl 3 []), (.int .i64 0), (.int .i64 0), (.int .i64 0), (.int .i64 0), (.int .i64 0), (.int .i64 0), (.sl 2 [])] (.t 2) (.t 13)⟩, 0, []⟩]

def i_impl_copyAtlas : IC := (.seq (.reg i_impl_copyAtlas_r0)
  (.seq (.reg i_impl_copyAtlas_r1)
  (.seq (.reg i_impl_copyAtlas_r2)
  (.seq (.reg i_impl_copyAtlas_r3)
  .ret))))

theorem i_impl_copyAtlas_ok : (Try.f121.body.bind fun c => toIC Try.prog 14 c []) = some (i_impl_copyAtlas, []) := by kernel_rfl

theorem i_impl_copyAtlas_fn {ds rs : List D} (hle : ds.length ≤ 14) (h : AW Try.prog 14 i_impl_copyAtlas (Ends [.cell 2 (some 9)] rs) (init ds)) : Fn Try.prog k_impl_copyAtlas (lent ds) true rs :=
  Fn.intro' (by kernel_rfl) Try.func121 (by kernel_rfl) i_impl_copyAtlas_ok (by kernel_rfl) hle h.h

abbrev i_impl_partAt_1_r0 : List RO := [
  ⟨⟨none, .box 2 (.t 0)⟩, 0, []⟩,
  ⟨⟨none, .mov 3 (.c (.one (.d (.bool false))))⟩, 0, []⟩]

abbrev i_impl_partAt_1_r1 : List RO := [
  ⟨⟨none, .load 4 none (.t 1)⟩, 0, []⟩,
  ⟨⟨none, .faddr 5 0 (.t 2)⟩, 0, []⟩,
  ⟨⟨none, .load 6 none (.t 5)⟩, 0, []⟩,
  ⟨⟨none, .faddr 7 1 (.t 2)⟩, 0, []⟩,
  ⟨⟨none, .load 8 none (.t 7)⟩, 0, []⟩,
  ⟨⟨none, .bin 9 .sub (.t 8) (.c (.one (.d (.int .i64 1))))⟩, 0, []⟩,
  ⟨⟨none, .callv 10 (.c (.one (.fn k_impl_from []))) [(.t 4), (.t 6), (.t 9)]⟩, 0, []⟩,
  ⟨⟨none, .mov 3 (.t 10)⟩, 0, []⟩]

def i_impl_partAt_1 : IC := (.seq (.reg i_impl_partAt_1_r0)
  (.seq (.reg i_impl_partAt_1_r1)
  .ret))

theorem i_impl_partAt_1_ok : (Try.f223.body.bind fun c => toIC Try.prog 11 c []) = some (i_impl_partAt_1, []) := by kernel_rfl

theorem i_impl_partAt_1_fn {ds rs : List D} (hle : ds.length ≤ 11) (h : AW Try.prog 11 i_impl_partAt_1 (Ends [.tmp 3] rs) (init ds)) : Fn Try.prog k_impl_partAt_1 (lent ds) true rs :=
  Fn.intro' (by kernel_rfl) Try.func223 (by kernel_rfl) i_impl_partAt_1_ok (by kernel_rfl) hle h.h

abbrev i_slices_IndexFunc___impl_Part_impl_Part__r0 : List RO := [
  ⟨⟨none, .mov 4 (.c (.one (.d (.int .i64 0))))⟩, 0, []⟩]

abbrev i_slices_IndexFunc___impl_Part_impl_Part__r1 : List RO := [
  ⟨⟨none, .mov 6 (.t 0)⟩, 0, []⟩,
  ⟨⟨none, .len 7 false (.t 6)⟩, 0, []⟩,
  ⟨⟨none, .mov 8 (.c (.one (.d (.int .i64 0))))⟩, 0, []⟩]

abbrev i_slices_IndexFunc___impl_Part_impl_Part__r2 : List RO := [
  ⟨⟨none, .bin 9 .lss (.t 8) (.t 7)⟩, 0, []⟩]

abbrev i_slices_IndexFunc___impl_Part_impl_Part__r3 : List RO := [
  ⟨⟨none, .mov 10 (.t 8)⟩, 0, []⟩,
  ⟨⟨none, .mov 5 (.t 10)⟩, 0, []⟩]

abbrev i_slices_IndexFunc___impl_Part_impl_Part__r4 : List RO := [
  ⟨⟨none, .mov 11 (.t 1)⟩, 0, []⟩,
  ⟨⟨none, .mov 12 (.t 0)⟩, 0, []⟩,
  ⟨⟨none, .mov 13 (.t 5)⟩, 0, []⟩,
  ⟨⟨none, .iaddr 14 3 (.t 12) (.t 13)⟩, 0, []⟩,
  ⟨⟨none, .load 15 (some 3) (.t 14)⟩, 0, []⟩,
  ⟨⟨none, .callv 16 (.t 11) [(.t 15)]⟩, 0, []⟩]

abbrev i_slices_IndexFunc___impl_Part_impl_Part__r5 : List RO := [
  ⟨⟨none, .mov 17 (.t 5)⟩, 0, []⟩,
  ⟨⟨none, .mov 4 (.t 17)⟩, 0, []⟩]

abbrev i_slices_IndexFunc___impl_Part_impl_Part__r6 : List RO := [
  ⟨⟨none, .bin 18 .add (.t 8) (.c (.one (.d (.int .i64 1))))⟩, 0, []⟩,
  ⟨⟨none, .mov 8 (.t 18)⟩, 0, []⟩]

abbrev i_slices_IndexFunc___impl_Part_impl_Part__r7 : List RO := [
  ⟨⟨none, .mov 4 (.c (.one (.d (.int .i64 (-1)))))⟩, 0, []⟩]

def i_slices_IndexFunc___impl_Part_impl_Part_ : IC := (.seq (.reg i_slices_IndexFunc___impl_Part_impl_Part__r0)
  (.seq (.seq (.reg i_slices_IndexFunc___impl_Part_impl_Part__r1)
  (.block 0 (.loop (.seq (.reg i_slices_IndexFunc___impl_Part_impl_Part__r2)
  (.seq (.cond (.t 9) .skip (.exit 0))
  (.seq (.block 1 (.seq (.reg i_slices_IndexFunc___impl_Part_impl_Part__r3)
  (.seq (.reg i_slices_IndexFunc___impl_Part_impl_Part__r4)
  (.cond (.t 16) (.seq (.reg i_slices_IndexFunc___impl_Part_impl_Part__r5)
  .ret) .skip))))
  (.reg i_slices_IndexFunc___impl_Part_impl_Part__r6)))))))
  (.seq (.reg i_slices_IndexFunc___impl_Part_impl_Part__r7)
  .ret)))

theorem i_slices_IndexFunc___impl_Part_impl_Part__ok : (Try.f222.body.bind fun c => toIC Try.prog 19 c []) = some (i_slices_IndexFunc___impl_Part_impl_Part_, []) := by kernel_rfl

theorem i_slices_IndexFunc___impl_Part_impl_Part__fn {ds rs : List D} (hle : ds.length ≤ 19) (h : AW Try.prog 19 i_slices_IndexFunc___impl_Part_impl_Part_ (Ends [.tmp 4] rs) (init ds)) : Fn Try.prog k_slices_IndexFunc___impl_Part_impl_Part_ (lent ds) true rs :=
  Fn.intro' (by kernel_rfl) Try.func222 (by kernel_rfl) i_slices_IndexFunc___impl_Part_impl_Part__ok (by kernel_rfl) hle h.h

abbrev i_impl_partAt_r0 : List RO := [
  ⟨⟨none, .box 3 (.t 1)⟩, 0, []⟩,
  ⟨⟨none, .mov 4 (.c (.one (.d (.int .i64 0))))⟩, 0, []⟩]

abbrev i_impl_partAt_r1 : List RO := [
  ⟨⟨none, .mov 5 (.t 0)⟩, 0, []⟩,
  ⟨⟨none, .mkfn 6 k_impl_partAt_1 [(.t 3)]⟩, 0, []⟩,
  ⟨⟨none, .callv 7 (.c (.one (.fn k_slices_IndexFunc___impl_Part_impl_Part_ []))) [(.t 5), (.t 6)]⟩, 0, []⟩,
  ⟨⟨none, .mov 4 (.t 7)⟩, 0, []⟩]

def i_impl_partAt : IC := (.seq (.reg i_impl_partAt_r0)
  (.seq (.reg i_impl_partAt_r1)
  .ret))

theorem i_impl_partAt_ok : (Try.f122.body.bind fun c => toIC Try.prog 8 c []) = some (i_impl_partAt, []) := by kernel_rfl

theorem i_impl_partAt_fn {ds rs : List D} (hle : ds.length ≤ 8) (h : AW Try.prog 8 i_impl_partAt (Ends [.tmp 4] rs) (init ds)) : Fn Try.prog k_impl_partAt (lent ds) true rs :=
  Fn.intro' (by kernel_rfl) Try.func122 (by kernel_rfl) i_impl_partAt_ok (by kernel_rfl) hle h.h

abbrev i_impl_PartAt_r0 : List RO := [
  ⟨⟨none, .mov 4 (.c (.one (.d (.int .i64 0))))⟩, 0, []⟩]

abbrev i_impl_PartAt_r1 : List RO := [
  ⟨⟨none, .mov 5 (.t 0)⟩, 0, []⟩,
  ⟨⟨none, .callv 6 (.c (.one (.fn k_impl_PartsOk []))) [(.t 5)]⟩, 0, []⟩,
  ⟨⟨none, .inv 7 (.t 6)⟩, 0, []⟩]

abbrev i_impl_PartAt_r2 : List RO := [
  ⟨⟨none, .mov 4 (.c (.one (.d (.int .i64 (-1)))))⟩, 0, []⟩]

abbrev i_impl_PartAt_r3 : List RO := [
  ⟨⟨none, .mov 8 (.t 0)⟩, 0, []⟩,
  ⟨⟨none, .mov 9 (.t 1)⟩, 0, []⟩,
  ⟨⟨none, .callv 10 (.c (.one (.fn k_impl_partAt []))) [(.t 8), (.t 9)]⟩, 0, []⟩,
  ⟨⟨none, .mov 4 (.t 10)⟩, 0, []⟩]

def i_impl_PartAt : IC := (.seq (.reg i_impl_PartAt_r0)
  (.seq (.seq (.reg i_impl_PartAt_r1)
  (.cond (.t 7) (.seq (.reg i_impl_PartAt_r2)
  .ret) .skip))
  (.seq (.reg i_impl_PartAt_r3)
  .ret)))

theorem i_impl_PartAt_ok : (Try.f245.body.bind fun c => toIC Try.prog 11 c []) = some (i_impl_PartAt, []) := by kernel_rfl

theorem i_impl_PartAt_fn {ds rs : List D} (hle : ds.length ≤ 11) (h : AW Try.prog 11 i_impl_PartAt (Ends [.tmp 4] rs) (init ds)) : Fn Try.prog k_impl_PartAt (lent ds) true rs :=
  Fn.intro' (by kernel_rfl) Try.func245 (by kernel_rfl) i_impl_PartAt_ok (by kernel_rfl) hle h.h

abbrev i_slices_Insert___impl_Part_impl_Part__r0 : List RO := [
  ⟨⟨none, .mov 6 (.c (.one .zs))⟩, 0, []⟩]

abbrev i_slices_Insert___impl_Part_impl_Part__r1 : List RO := [
  ⟨⟨none, .mov 10 (.t 0)⟩, 0, []⟩,
  ⟨⟨none, .mov 11 (.t 1)⟩, 0, []⟩,
  ⟨⟨none, .slice 12 3 (.t 10) (some (.t 11)) none none⟩, 0, []⟩]

abbrev i_slices_Insert___impl_Part_impl_Part__r2 : List RO := [
  ⟨⟨none, .mov 13 (.t 2)⟩, 0, []⟩,
  ⟨⟨none, .len 14 false (.t 13)⟩, 0, []⟩,
  ⟨⟨none, .mov 7 (.t 14)⟩, 0, []⟩]

abbrev i_slices_Insert___impl_Part_impl_Part__r3 : List RO := [
  ⟨⟨none, .mov 15 (.t 7)⟩, 0, []⟩,
  ⟨⟨none, .bin 16 .eql (.t 15) (.c (.one (.d (.int .i64 0))))⟩, 0, []⟩]

abbrev i_slices_Insert___impl_Part_impl_Part__r4 : List RO := [
  ⟨⟨none, .mov 17 (.t 0)⟩, 0, []⟩,
  ⟨⟨none, .mov 6 (.t 17)⟩, 0, []⟩]

abbrev i_slices_Insert___impl_Part_impl_Part__r5 : List RO := [
  ⟨⟨none, .mov 18 (.t 0)⟩, 0, []⟩,
  ⟨⟨none, .len 19 false (.t 18)⟩, 0, []⟩,
  ⟨⟨none, .mov 8 (.t 19)⟩, 0, []⟩]

abbrev i_slices_Insert___impl_Part_impl_Part__r6 : List RO := [
  ⟨⟨none, .mov 20 (.t 1)⟩, 0, []⟩,
  ⟨⟨none, .mov 21 (.t 8)⟩, 0, []⟩,
  ⟨⟨none, .bin 22 .eql (.t 20) (.t 21)⟩, 0, []⟩]

abbrev i_slices_Insert___impl_Part_impl_Part__r7 : List RO := [
  ⟨⟨none, .mov 23 (.t 0)⟩, 0, []⟩,
  ⟨⟨none, .mov 24 (.t 2)⟩, 0, []⟩,
  ⟨⟨none, .app 25 3 24 [(.int .i64 0), (.int .i64 0), (.int .i64 0)] (.t 23) (.t 24)⟩, 0, []⟩,
  ⟨⟨none, .mov 6 (.t 25)⟩, 0, []⟩]

abbrev i_slices_Insert___impl_Part_impl_Part__r8 : List RO := [
  ⟨⟨none, .mov 26 (.t 8)⟩, 0, []⟩,
  ⟨⟨none, .mov 27 (.t 7)⟩, 0, []⟩,
  ⟨⟨none, .bin 28 .add (.t 26) (.t 27)⟩, 0, []⟩,
  ⟨⟨none, .mov 29 (.t 0)⟩, 0, []⟩,
  ⟨⟨none, .cap 30 (.t 29)⟩, 0, []⟩,
  ⟨⟨none, .bin 31 .gtr (.t 28) (.t 30)⟩, 0, []⟩]

abbrev i_slices_Insert___impl_Part_impl_Part__r9 : List RO := [
  ⟨⟨none, .mov 32 (.t 0)⟩, 0, []⟩,
  ⟨⟨none, .mov 33 (.t 1)⟩, 0, []⟩,
  ⟨⟨none, .slice 34 3 (.t 32) none (some (.t 33)) none⟩, 0, []⟩,
  ⟨⟨none, .mov 35 (.t 8)⟩, 0, []⟩,
  ⟨⟨none, .mov 36 (.t 7)⟩, 0, []⟩,
  ⟨⟨none, .bin 37 .add (.t 35) (.t 36)⟩, 0, []⟩,
  ⟨⟨none, .mov 38 (.t 1)⟩, 0, []⟩,
  ⟨⟨none, .bin 39 .sub (.t 37) (.t 38)⟩, 0, []⟩,
  ⟨⟨none, .apm 40 3 24 [(.int .i64 0), (.int .i64 0), (.int .i64 0)] (.t 34) (.t 39)⟩, 0, []⟩,
  ⟨⟨none, .mov 9 (.t 40)⟩, 0, []⟩]

abbrev i_slices_Insert___impl_Part_impl_Part__r10 : List RO := [
  ⟨⟨none, .mov 41 (.t 9)⟩, 0, []⟩,
  ⟨⟨none, .mov 42 (.t 1)⟩, 0, []⟩,
  ⟨⟨none, .slice 43 3 (.t 41) (some (.t 42)) none none⟩, 0, []⟩,
  ⟨⟨none, .mov 44 (.t 2)⟩, 0, []⟩,
  ⟨⟨none, .copy 45 3 (.t 43) (.t 44)⟩, 0, []⟩]

abbrev i_slices_Insert___impl_Part_impl_Part__r11 : List RO := [
  ⟨⟨none, .mov 46 (.t 9)⟩, 0, []⟩,
  ⟨⟨none, .mov 47 (.t 1)⟩, 0, []⟩,
  ⟨⟨none, .mov 48 (.t 7)⟩, 0, []⟩,
  ⟨⟨none, .bin 49 .add (.t 47) (.t 48)⟩, 6, []⟩,
  ⟨⟨none, .slice 50 3 (.t 46) (some (.t 49)) none none⟩, 15, []⟩,
  ⟨⟨none, .mov 51 (.t 0)⟩, 0, []⟩,
  ⟨⟨none, .mov 52 (.t 1)⟩, 0, []⟩,
  ⟨⟨none, .slice 53 3 (.t 51) (some (.t 52)) none none⟩, 96, []⟩,
  ⟨⟨none, .copy 54 3 (.t 50) (.t 53)⟩, 255, []⟩]

abbrev i_slices_Insert___impl_Part_impl_Part__r12 : List RO := [
  ⟨⟨none, .mov 55 (.t 9)⟩, 0, []⟩,
  ⟨⟨none, .mov 6 (.t 55)⟩, 0, []⟩]

abbrev i_slices_Insert___impl_Part_impl_Part__r13 : List RO := [
  ⟨⟨none, .mov 56 (.t 0)⟩, 0, []⟩,
  ⟨⟨none, .mov 57 (.t 8)⟩, 0, []⟩,
  ⟨⟨none, .mov 58 (.t 7)⟩, 0, []⟩,
  ⟨⟨none, .bin 59 .add (.t 57) (.t 58)⟩, 0, []⟩,
  ⟨⟨none, .slice 60 3 (.t 56) none (some (.t 59)) none⟩, 0, []⟩,
  ⟨⟨none, .mov 0 (.t 60)⟩, 0, []⟩]

abbrev i_slices_Insert___impl_Part_impl_Part__r14 : List RO := [
  ⟨⟨none, .mov 61 (.t 2)⟩, 0, []⟩,
  ⟨⟨none, .mov 62 (.t 0)⟩, 0, []⟩,
  ⟨⟨none, .mov 63 (.t 1)⟩, 0, []⟩,
  ⟨⟨none, .mov 64 (.t 7)⟩, 0, []⟩,
  ⟨⟨none, .bin 65 .add (.t 63) (.t 64)⟩, 0, []⟩,
  ⟨⟨none, .slice 66 3 (.t 62) (some (.t 65)) none none⟩, 0, []⟩,
  ⟨⟨none, .callv 67 (.c (.one (.fn k_slices_overlaps_impl_Part_ []))) [(.t 61), (.t 66)]⟩, 0, []⟩,
  ⟨⟨none, .inv 68 (.t 67)⟩, 0, []⟩]

abbrev i_slices_Insert___impl_Part_impl_Part__r15 : List RO := [
  ⟨⟨none, .mov 69 (.t 0)⟩, 0, []⟩,
  ⟨⟨none, .mov 70 (.t 1)⟩, 0, []⟩,
  ⟨⟨none, .mov 71 (.t 7)⟩, 0, []⟩,
  ⟨⟨none, .bin 72 .add (.t 70) (.t 71)⟩, 6, []⟩,
  ⟨⟨none, .slice 73 3 (.t 69) (some (.t 72)) none none⟩, 15, []⟩,
  ⟨⟨none, .mov 74 (.t 0)⟩, 0, []⟩,
  ⟨⟨none, .mov 75 (.t 1)⟩, 0, []⟩,
  ⟨⟨none, .slice 76 3 (.t 74) (some (.t 75)) none none⟩, 96, []⟩,
  ⟨⟨none, .copy 77 3 (.t 73) (.t 76)⟩, 255, []⟩]

abbrev i_slices_Insert___impl_Part_impl_Part__r16 : List RO := [
  ⟨⟨none, .mov 78 (.t 0)⟩, 0, []⟩,
  ⟨⟨none, .mov 79 (.t 1)⟩, 0, []⟩,
  ⟨⟨none, .slice 80 3 (.t 78) (some (.t 79)) none none⟩, 0, []⟩,
  ⟨⟨none, .mov 81 (.t 2)⟩, 0, []⟩,
  ⟨⟨none, .copy 82 3 (.t 80) (.t 81)⟩, 0, []⟩]

abbrev i_slices_Insert___impl_Part_impl_Part__r17 : List RO := [
  ⟨⟨none, .mov 83 (.t 0)⟩, 0, []⟩,
  ⟨⟨none, .mov 6 (.t 83)⟩, 0, []⟩]

abbrev i_slices_Insert___impl_Part_impl_Part__r18 : List RO := [
  ⟨⟨none, .mov 84 (.t 0)⟩, 0, []⟩,
  ⟨⟨none, .mov 85 (.t 8)⟩, 0, []⟩,
  ⟨⟨none, .slice 86 3 (.t 84) (some (.t 85)) none none⟩, 0, []⟩,
  ⟨⟨none, .mov 87 (.t 2)⟩, 0, []⟩,
  ⟨⟨none, .copy 88 3 (.t 86) (.t 87)⟩, 0, []⟩]

abbrev i_slices_Insert___impl_Part_impl_Part__r19 : List RO := [
  ⟨⟨none, .mov 89 (.t 0)⟩, 0, []⟩,
  ⟨⟨none, .mov 90 (.t 1)⟩, 0, []⟩,
  ⟨⟨none, .slice 91 3 (.t 89) (some (.t 90)) none none⟩, 0, []⟩,
  ⟨⟨none, .mov 92 (.t 7)⟩, 0, []⟩,
  ⟨⟨none, .callv 93 (.c (.one (.fn k_slices_rotateRight_impl_Part_ []))) [(.t 91), (.t 92)]⟩, 0, []⟩]

abbrev i_slices_Insert___impl_Part_impl_Part__r20 : List RO := [
  ⟨⟨none, .mov 94 (.t 0)⟩, 0, []⟩,
  ⟨⟨none, .mov 6 (.t 94)⟩, 0, []⟩]

def i_slices_Insert___impl_Part_impl_Part_ : IC := (.seq (.reg i_slices_Insert___impl_Part_impl_Part__r0)
  (.seq (.reg i_slices_Insert___impl_Part_impl_Part__r1)
  (.seq (.reg i_slices_Insert___impl_Part_impl_Part__r2)
  (.seq (.seq (.reg i_slices_Insert___impl_Part_impl_Part__r3)
  (.cond (.t 16) (.seq (.reg i_slices_Insert___impl_Part_impl_Part__r4)
  .ret) .skip))
  (.seq (.reg i_slices_Insert___impl_Part_impl_Part__r5)
  (.seq (.seq (.reg i_slices_Insert___impl_Part_impl_Part__r6)
  (.cond (.t 22) (.seq (.reg i_slices_Insert___impl_Part_impl_Part__r7)
  .ret) .skip))
  (.seq (.seq (.reg i_slices_Insert___impl_Part_impl_Part__r8)
  (.cond (.t 31) (.seq (.reg i_slices_Insert___impl_Part_impl_Part__r9)
  (.seq (.reg i_slices_Insert___impl_Part_impl_Part__r10)
  (.seq (.regd i_slices_Insert___impl_Part_impl_Part__r11)
  (.seq (.reg i_slices_Insert___impl_Part_impl_Part__r12)
  .ret)))) .skip))
  (.seq (.reg i_slices_Insert___impl_Part_impl_Part__r13)
  (.seq (.seq (.reg i_slices_Insert___impl_Part_impl_Part__r14)
  (.cond (.t 68) (.seq (.regd i_slices_Insert___impl_Part_impl_Part__r15)
  (.seq (.reg i_slices_Insert___impl_Part_impl_Part__r16)
  (.seq (.reg i_slices_Insert___impl_Part_impl_Part__r17)
  .ret))) .skip))
  (.seq (.reg i_slices_Insert___impl_Part_impl_Part__r18)
  (.seq (.reg i_slices_Insert___impl_Part_impl_Part__r19)
  (.seq (.reg i_slices_Insert___impl_Part_impl_Part__r20)
  .ret))))))))))))

theorem i_slices_Insert___impl_Part_impl_Part__ok : (Try.f246.body.bind fun c => toIC Try.prog 95 c [[(0, []), (0, []), (0, []), (6, []), (15, []), (0, []), (0, []), (96, []), (255, [])], [(0, []), (0, []), (0, []), (6, []), (15, []), (0, []), (0, []), (96, []), (255, [])]]) = some (i_slices_Insert___impl_Part_impl_Part_, []) := by kernel_rfl

theorem i_slices_Insert___impl_Part_impl_Part__fnM {ars : List Ar} {rs : List D} (hle : ars.length ≤ 95) (hfr : freshL ⟨fun _ => .top, fun _ => none, fun _ => .top⟩ ((argB 0 ars).2.map (·.1))) (hlt : ((argB 0 ars).2.map (·.1)).all (fun n => Nat.ble n 1999999) = true) (h : AW Try.prog 95 i_slices_Insert___impl_Part_impl_Part_ (EndsM ars [.tmp 6] rs) (initM ars)) : Fn Try.prog k_slices_Insert___impl_Part_impl_Part_ ars true rs :=
  Fn.introM' (by kernel_rfl) Try.func246 (by kernel_rfl) i_slices_Insert___impl_Part_impl_Part__ok (by kernel_rfl) hle hfr hlt h.h

abbrev i_impl_SplitAt_r0 : List RO := [
  ⟨⟨none, .mov 4 (.c (.one .zs))⟩, 0, []⟩,
  ⟨⟨none, .mov 5 (.c (.one (.d (.bool false))))⟩, 0, []⟩]

abbrev i_impl_SplitAt_r1 : List RO := [
  ⟨⟨none, .mov 8 (.t 0)⟩, 0, []⟩,
  ⟨⟨none, .mov 9 (.t 1)⟩, 0, []⟩,
  ⟨⟨none, .callv 10 (.c (.one (.fn k_impl_PartAt []))) [(.t 8), (.t 9)]⟩, 0, []⟩,
  ⟨⟨none, .mov 6 (.t 10)⟩, 0, []⟩]

abbrev i_impl_SplitAt_r2 : List RO := [
  ⟨⟨none, .mov 11 (.t 6)⟩, 0, []⟩,
  ⟨⟨none, .bin 12 .lss (.t 11) (.c (.one (.d (.int .i64 0))))⟩, 0, []⟩,
  ⟨⟨none, .mov 13 (.t 12)⟩, 0, []⟩,
  ⟨⟨some (13, false), .mov 14 (.t 0)⟩, 0, []⟩,
  ⟨⟨some (13, false), .mov 15 (.t 6)⟩, 0, []⟩,
  ⟨⟨some (13, false), .iaddr 16 3 (.t 14) (.t 15)⟩, 0, []⟩,
  ⟨⟨some (13, false), .faddr 17 0 (.t 16)⟩, 0, []⟩,
  ⟨⟨some (13, false), .load 18 none (.t 17)⟩, 0, []⟩,
  ⟨⟨some (13, false), .mov 19 (.t 1)⟩, 0, []⟩,
  ⟨⟨some (13, false), .bin 20 .eql (.t 18) (.t 19)⟩, 0, []⟩,
  ⟨⟨none, .pick 21 (.t 13) (.c (.one (.d (.bool true)))) (.t 20)⟩, 0, []⟩,
  ⟨⟨none, .mov 22 (.t 21)⟩, 0, []⟩,
  ⟨⟨some (22, false), .mov 23 (.t 0)⟩, 0, []⟩,
  ⟨⟨some (22, false), .len 24 false (.t 23)⟩, 0, []⟩,
  ⟨⟨some (22, false), .bin 25 .eql (.t 24) (.c (.one (.d (.int .i64 16))))⟩, 0, []⟩,
  ⟨⟨none, .pick 26 (.t 22) (.c (.one (.d (.bool true)))) (.t 25)⟩, 0, []⟩]

abbrev i_impl_SplitAt_r3 : List RO := [
  ⟨⟨none, .mov 4 (.c (.one .zs))⟩, 0, []⟩,
  ⟨⟨none, .mov 5 (.c (.one (.d (.bool false))))⟩, 0, []⟩]

abbrev i_impl_SplitAt_r4 : List RO := [
  ⟨⟨none, .mov 27 (.t 0)⟩, 0, []⟩,
  ⟨⟨none, .callv 28 (.c (.one (.fn k_slices_Clone___impl_Part_impl_Part_ []))) [(.t 27)]⟩, 1, [43]⟩,
  ⟨⟨none, .mov 29 (.t 6)⟩, 0, []⟩,
  ⟨⟨none, .bin 30 .add (.t 29) (.c (.one (.d (.int .i64 1))))⟩, 4, []⟩,
  ⟨⟨none, .mov 31 (.t 1)⟩, 0, []⟩,
  ⟨⟨none, .mov 32 (.t 0)⟩, 0, []⟩,
  ⟨⟨none, .mov 33 (.t 6)⟩, 0, []⟩,
  ⟨⟨none, .iaddr 34 3 (.t 32) (.t 33)⟩, 96, [28]⟩,
  ⟨⟨none, .faddr 35 1 (.t 34)⟩, 224, []⟩,
  ⟨⟨none, .load 36 none (.t 35)⟩, 480, [28]⟩,
  ⟨⟨none, .mov 37 (.t 0)⟩, 0, []⟩,
  ⟨⟨none, .mov 38 (.t 6)⟩, 0, []⟩,
  ⟨⟨none, .iaddr 39 3 (.t 37) (.t 38)⟩, 3072, [28]⟩,
  ⟨⟨none, .faddr 40 2 (.t 39)⟩, 7168, []⟩,
  ⟨⟨none, .load 41 none (.t 40)⟩, 15360, [28]⟩,
  ⟨⟨none, .build 42 [(.d (.int .i64 0)), (.d (.int .i64 0)), (.d (.int .i64 0))] [(0, 1, (.t 31)), (1, 1, (.t 36)), (2, 1, (.t 41))]⟩, 32752, []⟩,
  ⟨⟨none, .bslice 43 3 [(.d (.int .i64 0)), (.d (.int .i64 0)), (.d (.int .i64 0))] [(0, 3, (.t 42))]⟩, 65520, [28]⟩]

abbrev i_impl_SplitAt_r5 : List RO := [
  ⟨⟨none, .callv 44 (.c (.one (.fn k_slices_Insert___impl_Part_impl_Part_ []))) [(.t 28), (.t 30), (.t 43)]⟩, 0, []⟩,
  ⟨⟨none, .mov 7 (.t 44)⟩, 0, []⟩]

abbrev i_impl_SplitAt_r6 : List RO := [
  ⟨⟨none, .mov 45 (.t 7)⟩, 0, []⟩,
  ⟨⟨none, .mov 46 (.t 6)⟩, 0, []⟩,
  ⟨⟨none, .mov 47 (.t 1)⟩, 0, []⟩,
  ⟨⟨none, .iaddr 48 3 (.t 45) (.t 46)⟩, 0, []⟩,
  ⟨⟨none, .faddr 49 1 (.t 48)⟩, 0, []⟩,
  ⟨⟨none, .store 1 [(.int .i64 0)] (.t 49) (.t 47)⟩, 0, []⟩]

abbrev i_impl_SplitAt_r7 : List RO := [
  ⟨⟨none, .mov 50 (.t 7)⟩, 0, []⟩,
  ⟨⟨none, .mov 4 (.t 50)⟩, 0, []⟩,
  ⟨⟨none, .mov 5 (.c (.one (.d (.bool true))))⟩, 0, []⟩]

def i_impl_SplitAt : IC := (.seq (.reg i_impl_SplitAt_r0)
  (.seq (.reg i_impl_SplitAt_r1)
  (.seq (.seq (.reg i_impl_SplitAt_r2)
  (.cond (.t 26) (.seq (.reg i_impl_SplitAt_r3)
  .ret) .skip))
  (.seq (.regt i_impl_SplitAt_r4 i_impl_SplitAt_r5)
  (.seq (.reg i_impl_SplitAt_r6)
  (.seq (.reg i_impl_SplitAt_r7)
  .ret))))))

theorem i_impl_SplitAt_ok : (Try.f170.body.bind fun c => toIC Try.prog 51 c [[(0, []), (1, [43]), (0, []), (4, []), (0, []), (0, []), (0, []), (96, [28]), (224, []), (480, [28]), (0, []), (0, []), (3072, [28]), (7168, []), (15360, [28]), (32752, []), (65520, [28]), (131071, [2000005]), (262143, [2000005])]]) = some (i_impl_SplitAt, []) := by kernel_rfl

theorem i_impl_SplitAt_fn {ds rs : List D} (hle : ds.length ≤ 51) (h : AW Try.prog 51 i_impl_SplitAt (Ends [.tmp 4, .tmp 5] rs) (init ds)) : Fn Try.prog k_impl_SplitAt (lent ds) true rs :=
  Fn.intro' (by kernel_rfl) Try.func170 (by kernel_rfl) i_impl_SplitAt_ok (by kernel_rfl) hle h.h

abbrev i_impl_AtlasSplit_r0 : List RO := [
  ⟨⟨none, .box 2 (.t 0)⟩, 0, []⟩,
  ⟨⟨none, .var 4 [(.d (.int .i64 0)), .zs, (.d (.int .i64 0)), (.d (.int .i64 0)), (.d (.int .i64 0)), (.d (.int .i64 0)), (.d (.int .i64 0)), (.d (.int .i64 0)), .zs]⟩, 0, []⟩,
  ⟨⟨none, .mov 5 (.c (.one (.d (.int .i64 0))))⟩, 0, []⟩]

abbrev i_impl_AtlasSplit_r1 : List RO := [
  ⟨⟨none, .load 9 (some 9) (.t 2)⟩, 0, []⟩,
  ⟨⟨none, .callv 10 (.c (.one (.fn k_impl_AtlasOk []))) [(.t 9)]⟩, 0, []⟩,
  ⟨⟨none, .inv 11 (.t 10)⟩, 0, []⟩]

abbrev i_impl_AtlasSplit_r2 : List RO := [
  ⟨⟨none, .build 12 [(.d (.int .i64 0)), .zs, (.d (.int .i64 0)), (.d (.int .i64 0)), (.d (.int .i64 0)), (.d (.int .i64 0)), (.d (.int .i64 0)), (.d (.int .i64 0)), .zs] []⟩, 0, []⟩,
  ⟨⟨none, .store 9 [(.int .i64 0), (.sl 3 []), (.int .i64 0), (.int .i64 0), (.int .i64 0), (.int .i64 0), (.int .i64 0), (.int .i64 0), (.sl 2 [])] (.t 4) (.t 12)⟩, 0, []⟩,
  ⟨⟨none, .mov 5 (.c (.one (.d (.int .i64 1))))⟩, 0, []⟩]

abbrev i_impl_AtlasSplit_r3 : List RO := [
  ⟨⟨none, .load 13 (some 9) (.t 2)⟩, 0, []⟩,
  ⟨⟨none, .callv 14 (.c (.one (.fn k_impl_copyAtlas []))) [(.t 13)]⟩, 0, []⟩,
  ⟨⟨none, .var 6 [(.d (.int .i64 0)), .zs, (.d (.int .i64 0)), (.d (.int .i64 0)), (.d (.int .i64 0)), (.d (.int .i64 0)), (.d (.int .i64 0)), (.d (.int .i64 0)), .zs]⟩, 0, []⟩,
  ⟨⟨none, .store 9 [(.int .i64 0), (.sl 3 []), (.int .i64 0), (.int .i64 0), (.int .i64 0), (.int .i64 0), (.int .i64 0), (.int .i64 0), (.sl 2 [])] (.t 6) (.t 14)⟩, 0, []⟩]

abbrev i_impl_AtlasSplit_r4 : List RO := [
  ⟨⟨none, .faddr 16 1 (.t 2)⟩, 0, []⟩,
  ⟨⟨none, .load 17 none (.t 16)⟩, 0, []⟩,
  ⟨⟨none, .mov 18 (.t 1)⟩, 0, []⟩,
  ⟨⟨none, .callv 19 (.c (.one (.fn k_impl_SplitAt []))) [(.t 17), (.t 18)]⟩, 0, []⟩,
  ⟨⟨none, .mov 15 (.t 19)⟩, 0, []⟩,
  ⟨⟨none, .ext 20 (.t 15) 0⟩, 0, []⟩,
  ⟨⟨none, .ext 21 (.t 15) 1⟩, 0, []⟩,
  ⟨⟨none, .mov 7 (.t 20)⟩, 0, []⟩,
  ⟨⟨none, .mov 8 (.t 21)⟩, 0, []⟩]

abbrev i_impl_AtlasSplit_r5 : List RO := [
  ⟨⟨none, .mov 22 (.t 8)⟩, 0, []⟩,
  ⟨⟨none, .inv 23 (.t 22)⟩, 0, []⟩,
  ⟨⟨none, .mov 24 (.t 23)⟩, 0, []⟩,
  ⟨⟨some (24, false), .faddr 25 0 (.t 2)⟩, 0, []⟩,
  ⟨⟨some (24, false), .load 26 none (.t 25)⟩, 0, []⟩,
  ⟨⟨some (24, false), .bin 27 .eql (.t 26) (.c (.one (.d (.int .i64 1000000))))⟩, 0, []⟩,
  ⟨⟨none, .pick 28 (.t 24) (.c (.one (.d (.bool true)))) (.t 27)⟩, 0, []⟩]

abbrev i_impl_AtlasSplit_r6 : List RO := [
  ⟨⟨none, .load 29 (some 9) (.t 6)⟩, 0, []⟩,
  ⟨⟨none, .store 9 [(.int .i64 0), (.sl 3 []), (.int .i64 0), (.int .i64 0), (.int .i64 0), (.int .i64 0), (.int .i64 0), (.int .i64 0), (.sl 2 [])] (.t 4) (.t 29)⟩, 0, []⟩,
  ⟨⟨none, .mov 5 (.c (.one (.d (.int .i64 3))))⟩, 0, []⟩]

abbrev i_impl_AtlasSplit_r7 : List RO := [
  ⟨⟨none, .mov 30 (.t 7)⟩, 0, []⟩,
  ⟨⟨none, .faddr 31 1 (.t 6)⟩, 0, []⟩,
  ⟨⟨none, .store 1 [(.sl 3 [])] (.t 31) (.t 30)⟩, 0, []⟩]

abbrev i_impl_AtlasSplit_r8 : List RO := [
  ⟨⟨none, .faddr 32 0 (.t 6)⟩, 0, []⟩,
  ⟨⟨none, .load 33 none (.t 32)⟩, 0, []⟩,
  ⟨⟨none, .bin 34 .add (.t 33) (.c (.one (.d (.int .i64 1))))⟩, 0, []⟩,
  ⟨⟨none, .faddr 35 0 (.t 6)⟩, 0, []⟩,
  ⟨⟨none, .store 1 [(.int .i64 0)] (.t 35) (.t 34)⟩, 0, []⟩]

abbrev i_impl_AtlasSplit_r9 : List RO := [
  ⟨⟨none, .load 36 (some 9) (.t 6)⟩, 0, []⟩,
  ⟨⟨none, .store 9 [(.int .i64 0), (.sl 3 []), (.int .i64 0), (.int .i64 0), (.int .i64 0), (.int .i64 0), (.int .i64 0), (.int .i64 0), (.sl 2 [])] (.t 4) (.t 36)⟩, 0, []⟩,
  ⟨⟨none, .mov 5 (.c (.one (.d (.int .i64 0))))⟩, 0, []⟩]

def i_impl_AtlasSplit : IC := (.seq (.reg i_impl_AtlasSplit_r0)
  (.seq (.seq (.reg i_impl_AtlasSplit_r1)
  (.cond (.t 11) (.seq (.reg i_impl_AtlasSplit_r2)
  .ret) .skip))
  (.seq (.reg i_impl_AtlasSplit_r3)
  (.seq (.reg i_impl_AtlasSplit_r4)
  (.seq (.seq (.reg i_impl_AtlasSplit_r5)
  (.cond (.t 28) (.seq (.reg i_impl_AtlasSplit_r6)
  .ret) .skip))
  (.seq (.reg i_impl_AtlasSplit_r7)
  (.seq (.reg i_impl_AtlasSplit_r8)
  (.seq (.reg i_impl_AtlasSplit_r9)
  .ret))))))))

theorem i_impl_AtlasSplit_ok : (Try.f61.body.bind fun c => toIC Try.prog 37 c []) = some (i_impl_AtlasSplit, []) := by kernel_rfl

theorem i_impl_AtlasSplit_fn {ds rs : List D} (hle : ds.length ≤ 37) (h : AW Try.prog 37 i_impl_AtlasSplit (Ends [.cell 4 (some 9), .tmp 5] rs) (init ds)) : Fn Try.prog k_impl_AtlasSplit (lent ds) true rs :=
  Fn.intro' (by kernel_rfl) Try.func61 (by kernel_rfl) i_impl_AtlasSplit_ok (by kernel_rfl) hle h.h

abbrev i_laws_eqPart_r0 : List RO := [
  ⟨⟨none, .box 2 (.t 0)⟩, 0, []⟩,
  ⟨⟨none, .box 3 (.t 1)⟩, 0, []⟩,
  ⟨⟨none, .mov 4 (.c (.one (.d (.bool false))))⟩, 0, []⟩]

abbrev i_laws_eqPart_r1 : List RO := [
  ⟨⟨none, .faddr 5 0 (.t 2)⟩, 0, []⟩,
  ⟨⟨none, .load 6 none (.t 5)⟩, 0, []⟩,
  ⟨⟨none, .faddr 7 0 (.t 3)⟩, 0, []⟩,
  ⟨⟨none, .load 8 none (.t 7)⟩, 0, []⟩,
  ⟨⟨none, .bin 9 .neq (.t 6) (.t 8)⟩, 0, []⟩]

abbrev i_laws_eqPart_r2 : List RO := [
  ⟨⟨none, .mov 4 (.c (.one (.d (.bool false))))⟩, 0, []⟩]

abbrev i_laws_eqPart_r3 : List RO := [
  ⟨⟨none, .faddr 10 1 (.t 2)⟩, 0, []⟩,
  ⟨⟨none, .load 11 none (.t 10)⟩, 0, []⟩,
  ⟨⟨none, .faddr 12 1 (.t 3)⟩, 0, []⟩,
  ⟨⟨none, .load 13 none (.t 12)⟩, 0, []⟩,
  ⟨⟨none, .bin 14 .neq (.t 11) (.t 13)⟩, 0, []⟩]

abbrev i_laws_eqPart_r4 : List RO := [
  ⟨⟨none, .mov 4 (.c (.one (.d (.bool false))))⟩, 0, []⟩]

abbrev i_laws_eqPart_r5 : List RO := [
  ⟨⟨none, .faddr 15 2 (.t 2)⟩, 0, []⟩,
  ⟨⟨none, .load 16 none (.t 15)⟩, 0, []⟩,
  ⟨⟨none, .faddr 17 2 (.t 3)⟩, 0, []⟩,
  ⟨⟨none, .load 18 none (.t 17)⟩, 0, []⟩,
  ⟨⟨none, .bin 19 .neq (.t 16) (.t 18)⟩, 0, []⟩]

abbrev i_laws_eqPart_r6 : List RO := [
  ⟨⟨none, .mov 4 (.c (.one (.d (.bool false))))⟩, 0, []⟩]

abbrev i_laws_eqPart_r7 : List RO := [
  ⟨⟨none, .mov 4 (.c (.one (.d (.bool true))))⟩, 0, []⟩]

def i_laws_eqPart : IC := (.seq (.reg i_laws_eqPart_r0)
  (.seq (.seq (.reg i_laws_eqPart_r1)
  (.cond (.t 9) (.seq (.reg i_laws_eqPart_r2)
  .ret) .skip))
  (.seq (.seq (.reg i_laws_eqPart_r3)
  (.cond (.t 14) (.seq (.reg i_laws_eqPart_r4)
  .ret) .skip))
  (.seq (.seq (.reg i_laws_eqPart_r5)
  (.cond (.t 19) (.seq (.reg i_laws_eqPart_r6)
  .ret) .skip))
  (.seq (.reg i_laws_eqPart_r7)
  .ret)))))

theorem i_laws_eqPart_ok : (Try.f247.body.bind fun c => toIC Try.prog 20 c []) = some (i_laws_eqPart, []) := by kernel_rfl

theorem i_laws_eqPart_fn {ds rs : List D} (hle : ds.length ≤ 20) (h : AW Try.prog 20 i_laws_eqPart (Ends [.tmp 4] rs) (init ds)) : Fn Try.prog k_laws_eqPart (lent ds) true rs :=
  Fn.intro' (by kernel_rfl) Try.func247 (by kernel_rfl) i_laws_eqPart_ok (by kernel_rfl) hle h.h

abbrev i_laws_eqPartS_r0 : List RO := [
  ⟨⟨none, .mov 4 (.c (.one (.d (.bool false))))⟩, 0, []⟩]

abbrev i_laws_eqPartS_r1 : List RO := [
  ⟨⟨none, .mov 6 (.t 0)⟩, 0, []⟩,
  ⟨⟨none, .len 7 false (.t 6)⟩, 0, []⟩,
  ⟨⟨none, .mov 8 (.t 1)⟩, 0, []⟩,
  ⟨⟨none, .len 9 false (.t 8)⟩, 0, []⟩,
  ⟨⟨none, .bin 10 .neq (.t 7) (.t 9)⟩, 0, []⟩]

abbrev i_laws_eqPartS_r2 : List RO := [
  ⟨⟨none, .mov 4 (.c (.one (.d (.bool false))))⟩, 0, []⟩]

abbrev i_laws_eqPartS_r3 : List RO := [
  ⟨⟨none, .mov 5 (.c (.one (.d (.int .i64 0))))⟩, 0, []⟩]

abbrev i_laws_eqPartS_r4 : List RO := [
  ⟨⟨none, .mov 11 (.t 5)⟩, 0, []⟩,
  ⟨⟨none, .mov 12 (.t 0)⟩, 0, []⟩,
  ⟨⟨none, .len 13 false (.t 12)⟩, 0, []⟩,
  ⟨⟨none, .bin 14 .lss (.t 11) (.t 13)⟩, 0, []⟩]

abbrev i_laws_eqPartS_r5 : List RO := [
  ⟨⟨none, .mov 17 (.t 0)⟩, 0, []⟩,
  ⟨⟨none, .mov 18 (.t 5)⟩, 0, []⟩,
  ⟨⟨none, .iaddr 19 3 (.t 17) (.t 18)⟩, 3, []⟩,
  ⟨⟨none, .load 20 (some 3) (.t 19)⟩, 7, []⟩,
  ⟨⟨none, .mov 21 (.t 1)⟩, 0, []⟩,
  ⟨⟨none, .mov 22 (.t 5)⟩, 0, []⟩,
  ⟨⟨none, .iaddr 23 3 (.t 21) (.t 22)⟩, 48, []⟩,
  ⟨⟨none, .load 24 (some 3) (.t 23)⟩, 112, []⟩,
  ⟨⟨none, .callv 25 (.c (.one (.fn k_laws_eqPart []))) [(.t 20), (.t 24)]⟩, 255, []⟩,
  ⟨⟨none, .inv 26 (.t 25)⟩, 511, []⟩]

abbrev i_laws_eqPartS_r6 : List RO := [
  ⟨⟨none, .mov 4 (.c (.one (.d (.bool false))))⟩, 0, []⟩]

abbrev i_laws_eqPartS_r7 : List RO := [
  ⟨⟨none, .mov 15 (.t 5)⟩, 0, []⟩,
  ⟨⟨none, .bin 16 .add (.t 15) (.c (.one (.d (.int .i64 1))))⟩, 0, []⟩,
  ⟨⟨none, .mov 5 (.t 16)⟩, 0, []⟩]

abbrev i_laws_eqPartS_r8 : List RO := [
  ⟨⟨none, .mov 4 (.c (.one (.d (.bool true))))⟩, 0, []⟩]

def i_laws_eqPartS : IC := (.seq (.reg i_laws_eqPartS_r0)
  (.seq (.seq (.reg i_laws_eqPartS_r1)
  (.cond (.t 10) (.seq (.reg i_laws_eqPartS_r2)
  .ret) .skip))
  (.seq (.seq (.reg i_laws_eqPartS_r3)
  (.block 0 (.loop (.seq (.seq (.reg i_laws_eqPartS_r4)
  (.cond (.t 14) .skip (.exit 0)))
  (.seq (.block 1 (.seq (.regd i_laws_eqPartS_r5)
  (.cond (.t 26) (.seq (.reg i_laws_eqPartS_r6)
  .ret) .skip)))
  (.reg i_laws_eqPartS_r7))))))
  (.seq (.reg i_laws_eqPartS_r8)
  .ret))))

theorem i_laws_eqPartS_ok : (Try.f171.body.bind fun c => toIC Try.prog 27 c [[(0, []), (0, []), (3, []), (7, []), (0, []), (0, []), (48, []), (112, []), (255, []), (511, [])]]) = some (i_laws_eqPartS, []) := by kernel_rfl

theorem i_laws_eqPartS_fn {ds rs : List D} (hle : ds.length ≤ 27) (h : AW Try.prog 27 i_laws_eqPartS (Ends [.tmp 4] rs) (init ds)) : Fn Try.prog k_laws_eqPartS (lent ds) true rs :=
  Fn.intro' (by kernel_rfl) Try.func171 (by kernel_rfl) i_laws_eqPartS_ok (by kernel_rfl) hle h.h

abbrev i_laws_eqCell_r0 : List RO := [
  ⟨⟨none, .box 2 (.t 0)⟩, 0, []⟩,
  ⟨⟨none, .box 3 (.t 1)⟩, 0, []⟩,
  ⟨⟨none, .mov 4 (.c (.one (.d (.bool false))))⟩, 0, []⟩]

abbrev i_laws_eqCell_r1 : List RO := [
  ⟨⟨none, .faddr 5 0 (.t 2)⟩, 0, []⟩,
  ⟨⟨none, .load 6 none (.t 5)⟩, 0, []⟩,
  ⟨⟨none, .faddr 7 0 (.t 3)⟩, 0, []⟩,
  ⟨⟨none, .load 8 none (.t 7)⟩, 0, []⟩,
  ⟨⟨none, .bin 9 .neq (.t 6) (.t 8)⟩, 0, []⟩]

abbrev i_laws_eqCell_r2 : List RO := [
  ⟨⟨none, .mov 4 (.c (.one (.d (.bool false))))⟩, 0, []⟩]

abbrev i_laws_eqCell_r3 : List RO := [
  ⟨⟨none, .faddr 10 1 (.t 2)⟩, 0, []⟩,
  ⟨⟨none, .load 11 none (.t 10)⟩, 0, []⟩,
  ⟨⟨none, .faddr 12 1 (.t 3)⟩, 0, []⟩,
  ⟨⟨none, .load 13 none (.t 12)⟩, 0, []⟩,
  ⟨⟨none, .bin 14 .neq (.t 11) (.t 13)⟩, 0, []⟩]

abbrev i_laws_eqCell_r4 : List RO := [
  ⟨⟨none, .mov 4 (.c (.one (.d (.bool false))))⟩, 0, []⟩]

abbrev i_laws_eqCell_r5 : List RO := [
  ⟨⟨none, .mov 4 (.c (.one (.d (.bool true))))⟩, 0, []⟩]

def i_laws_eqCell : IC := (.seq (.reg i_laws_eqCell_r0)
  (.seq (.seq (.reg i_laws_eqCell_r1)
  (.cond (.t 9) (.seq (.reg i_laws_eqCell_r2)
  .ret) .skip))
  (.seq (.seq (.reg i_laws_eqCell_r3)
  (.cond (.t 14) (.seq (.reg i_laws_eqCell_r4)
  .ret) .skip))
  (.seq (.reg i_laws_eqCell_r5)
  .ret))))

theorem i_laws_eqCell_ok : (Try.f214.body.bind fun c => toIC Try.prog 15 c []) = some (i_laws_eqCell, []) := by kernel_rfl

theorem i_laws_eqCell_fn {ds rs : List D} (hle : ds.length ≤ 15) (h : AW Try.prog 15 i_laws_eqCell (Ends [.tmp 4] rs) (init ds)) : Fn Try.prog k_laws_eqCell (lent ds) true rs :=
  Fn.intro' (by kernel_rfl) Try.func214 (by kernel_rfl) i_laws_eqCell_ok (by kernel_rfl) hle h.h

abbrev i_laws_eqCellS_r0 : List RO := [
  ⟨⟨none, .mov 4 (.c (.one (.d (.bool false))))⟩, 0, []⟩]

abbrev i_laws_eqCellS_r1 : List RO := [
  ⟨⟨none, .mov 6 (.t 0)⟩, 0, []⟩,
  ⟨⟨none, .len 7 false (.t 6)⟩, 0, []⟩,
  ⟨⟨none, .mov 8 (.t 1)⟩, 0, []⟩,
  ⟨⟨none, .len 9 false (.t 8)⟩, 0, []⟩,
  ⟨⟨none, .bin 10 .neq (.t 7) (.t 9)⟩, 0, []⟩]

abbrev i_laws_eqCellS_r2 : List RO := [
  ⟨⟨none, .mov 4 (.c (.one (.d (.bool false))))⟩, 0, []⟩]

abbrev i_laws_eqCellS_r3 : List RO := [
  ⟨⟨none, .mov 5 (.c (.one (.d (.int .i64 0))))⟩, 0, []⟩]

abbrev i_laws_eqCellS_r4 : List RO := [
  ⟨⟨none, .mov 11 (.t 5)⟩, 0, []⟩,
  ⟨⟨none, .mov 12 (.t 0)⟩, 0, []⟩,
  ⟨⟨none, .len 13 false (.t 12)⟩, 0, []⟩,
  ⟨⟨none, .bin 14 .lss (.t 11) (.t 13)⟩, 0, []⟩]

abbrev i_laws_eqCellS_r5 : List RO := [
  ⟨⟨none, .mov 17 (.t 0)⟩, 0, []⟩,
  ⟨⟨none, .mov 18 (.t 5)⟩, 0, []⟩,
  ⟨⟨none, .iaddr 19 2 (.t 17) (.t 18)⟩, 3, []⟩,
  ⟨⟨none, .load 20 (some 2) (.t 19)⟩, 7, []⟩,
  ⟨⟨none, .mov 21 (.t 1)⟩, 0, []⟩,
  ⟨⟨none, .mov 22 (.t 5)⟩, 0, []⟩,
  ⟨⟨none, .iaddr 23 2 (.t 21) (.t 22)⟩, 48, []⟩,
  ⟨⟨none, .load 24 (some 2) (.t 23)⟩, 112, []⟩,
  ⟨⟨none, .callv 25 (.c (.one (.fn k_laws_eqCell []))) [(.t 20), (.t 24)]⟩, 255, []⟩,
  ⟨⟨none, .inv 26 (.t 25)⟩, 511, []⟩]

abbrev i_laws_eqCellS_r6 : List RO := [
  ⟨⟨none, .mov 4 (.c (.one (.d (.bool false))))⟩, 0, []⟩]

abbrev i_laws_eqCellS_r7 : List RO := [
  ⟨⟨none, .mov 15 (.t 5)⟩, 0, []⟩,
  ⟨⟨none, .bin 16 .add (.t 15) (.c (.one (.d (.int .i64 1))))⟩, 0, []⟩,
  ⟨⟨none, .mov 5 (.t 16)⟩, 0, []⟩]

abbrev i_laws_eqCellS_r8 : List RO := [
  ⟨⟨none, .mov 4 (.c (.one (.d (.bool true))))⟩, 0, []⟩]

def i_laws_eqCellS : IC := (.seq (.reg i_laws_eqCellS_r0)
  (.seq (.seq (.reg i_laws_eqCellS_r1)
  (.cond (.t 10) (.seq (.reg i_laws_eqCellS_r2)
  .ret) .skip))
  (.seq (.seq (.reg i_laws_eqCellS_r3)
  (.block 0 (.loop (.seq (.seq (.reg i_laws_eqCellS_r4)
  (.cond (.t 14) .skip (.exit 0)))
  (.seq (.block 1 (.seq (.regd i_laws_eqCellS_r5)
  (.cond (.t 26) (.seq (.reg i_laws_eqCellS_r6)
  .ret) .skip)))
  (.reg i_laws_eqCellS_r7))))))
  (.seq (.reg i_laws_eqCellS_r8)
  .ret))))

theorem i_laws_eqCellS_ok : (Try.f115.body.bind fun c => toIC Try.prog 27 c [[(0, []), (0, []), (3, []), (7, []), (0, []), (0, []), (48, []), (112, []), (255, []), (511, [])]]) = some (i_laws_eqCellS, []) := by kernel_rfl

theorem i_laws_eqCellS_fn {ds rs : List D} (hle : ds.length ≤ 27) (h : AW Try.prog 27 i_laws_eqCellS (Ends [.tmp 4] rs) (init ds)) : Fn Try.prog k_laws_eqCellS (lent ds) true rs :=
  Fn.intro' (by kernel_rfl) Try.func115 (by kernel_rfl) i_laws_eqCellS_ok (by kernel_rfl) hle h.h

abbrev i_laws_eqMove_r0 : List RO := [
  ⟨⟨none, .box 2 (.t 0)⟩, 0, []⟩,
  ⟨⟨none, .box 3 (.t 1)⟩, 0, []⟩,
  ⟨⟨none, .mov 4 (.c (.one (.d (.bool false))))⟩, 0, []⟩]

abbrev i_laws_eqMove_r1 : List RO := [
  ⟨⟨none, .faddr 5 0 (.t 2)⟩, 0, []⟩,
  ⟨⟨none, .load 6 none (.t 5)⟩, 0, []⟩,
  ⟨⟨none, .faddr 7 0 (.t 3)⟩, 0, []⟩,
  ⟨⟨none, .load 8 none (.t 7)⟩, 0, []⟩,
  ⟨⟨none, .bin 9 .neq (.t 6) (.t 8)⟩, 0, []⟩]

abbrev i_laws_eqMove_r2 : List RO := [
  ⟨⟨none, .mov 4 (.c (.one (.d (.bool false))))⟩, 0, []⟩]

abbrev i_laws_eqMove_r3 : List RO := [
  ⟨⟨none, .faddr 10 1 (.t 2)⟩, 0, []⟩,
  ⟨⟨none, .load 11 none (.t 10)⟩, 0, []⟩,
  ⟨⟨none, .faddr 12 1 (.t 3)⟩, 0, []⟩,
  ⟨⟨none, .load 13 none (.t 12)⟩, 0, []⟩,
  ⟨⟨none, .bin 14 .neq (.t 11) (.t 13)⟩, 0, []⟩]

abbrev i_laws_eqMove_r4 : List RO := [
  ⟨⟨none, .mov 4 (.c (.one (.d (.bool false))))⟩, 0, []⟩]

abbrev i_laws_eqMove_r5 : List RO := [
  ⟨⟨none, .faddr 15 2 (.t 2)⟩, 0, []⟩,
  ⟨⟨none, .load 16 none (.t 15)⟩, 0, []⟩,
  ⟨⟨none, .faddr 17 2 (.t 3)⟩, 0, []⟩,
  ⟨⟨none, .load 18 none (.t 17)⟩, 0, []⟩,
  ⟨⟨none, .bin 19 .neq (.t 16) (.t 18)⟩, 0, []⟩]

abbrev i_laws_eqMove_r6 : List RO := [
  ⟨⟨none, .mov 4 (.c (.one (.d (.bool false))))⟩, 0, []⟩]

abbrev i_laws_eqMove_r7 : List RO := [
  ⟨⟨none, .faddr 20 3 (.t 2)⟩, 0, []⟩,
  ⟨⟨none, .load 21 none (.t 20)⟩, 0, []⟩,
  ⟨⟨none, .faddr 22 3 (.t 3)⟩, 0, []⟩,
  ⟨⟨none, .load 23 none (.t 22)⟩, 0, []⟩,
  ⟨⟨none, .bin 24 .neq (.t 21) (.t 23)⟩, 0, []⟩]

abbrev i_laws_eqMove_r8 : List RO := [
  ⟨⟨none, .mov 4 (.c (.one (.d (.bool false))))⟩, 0, []⟩]

abbrev i_laws_eqMove_r9 : List RO := [
  ⟨⟨none, .faddr 25 4 (.t 2)⟩, 0, []⟩,
  ⟨⟨none, .load 26 none (.t 25)⟩, 0, []⟩,
  ⟨⟨none, .faddr 27 4 (.t 3)⟩, 0, []⟩,
  ⟨⟨none, .load 28 none (.t 27)⟩, 0, []⟩,
  ⟨⟨none, .bin 29 .neq (.t 26) (.t 28)⟩, 0, []⟩]

abbrev i_laws_eqMove_r10 : List RO := [
  ⟨⟨none, .mov 4 (.c (.one (.d (.bool false))))⟩, 0, []⟩]

abbrev i_laws_eqMove_r11 : List RO := [
  ⟨⟨none, .faddr 30 5 (.t 2)⟩, 0, []⟩,
  ⟨⟨none, .load 31 none (.t 30)⟩, 0, []⟩,
  ⟨⟨none, .faddr 32 5 (.t 3)⟩, 0, []⟩,
  ⟨⟨none, .load 33 none (.t 32)⟩, 0, []⟩,
  ⟨⟨none, .bin 34 .neq (.t 31) (.t 33)⟩, 0, []⟩]

abbrev i_laws_eqMove_r12 : List RO := [
  ⟨⟨none, .mov 4 (.c (.one (.d (.bool false))))⟩, 0, []⟩]

abbrev i_laws_eqMove_r13 : List RO := [
  ⟨⟨none, .faddr 35 6 (.t 2)⟩, 0, []⟩,
  ⟨⟨none, .load 36 none (.t 35)⟩, 0, []⟩,
  ⟨⟨none, .faddr 37 6 (.t 3)⟩, 0, []⟩,
  ⟨⟨none, .load 38 none (.t 37)⟩, 0, []⟩,
  ⟨⟨none, .callv 39 (.c (.one (.fn k_laws_eqCellS []))) [(.t 36), (.t 38)]⟩, 0, []⟩,
  ⟨⟨none, .inv 40 (.t 39)⟩, 0, []⟩]

abbrev i_laws_eqMove_r14 : List RO := [
  ⟨⟨none, .mov 4 (.c (.one (.d (.bool false))))⟩, 0, []⟩]

abbrev i_laws_eqMove_r15 : List RO := [
  ⟨⟨none, .mov 4 (.c (.one (.d (.bool true))))⟩, 0, []⟩]

def i_laws_eqMove : IC := (.seq (.reg i_laws_eqMove_r0)
  (.seq (.seq (.reg i_laws_eqMove_r1)
  (.cond (.t 9) (.seq (.reg i_laws_eqMove_r2)
  .ret) .skip))
  (.seq (.seq (.reg i_laws_eqMove_r3)
  (.cond (.t 14) (.seq (.reg i_laws_eqMove_r4)
  .ret) .skip))
  (.seq (.seq (.reg i_laws_eqMove_r5)
  (.cond (.t 19) (.seq (.reg i_laws_eqMove_r6)
  .ret) .skip))
  (.seq (.seq (.reg i_laws_eqMove_r7)
  (.cond (.t 24) (.seq (.reg i_laws_eqMove_r8)
  .ret) .skip))
  (.seq (.seq (.reg i_laws_eqMove_r9)
  (.cond (.t 29) (.seq (.reg i_laws_eqMove_r10)
  .ret) .skip))
  (.seq (.seq (.reg i_laws_eqMove_r11)
  (.cond (.t 34) (.seq (.reg i_laws_eqMove_r12)
  .ret) .skip))
  (.seq (.seq (.reg i_laws_eqMove_r13)
  (.cond (.t 40) (.seq (.reg i_laws_eqMove_r14)
  .ret) .skip))
  (.seq (.reg i_laws_eqMove_r15)
  .ret)))))))))

theorem i_laws_eqMove_ok : (Try.f172.body.bind fun c => toIC Try.prog 41 c []) = some (i_laws_eqMove, []) := by kernel_rfl

theorem i_laws_eqMove_fn {ds rs : List D} (hle : ds.length ≤ 41) (h : AW Try.prog 41 i_laws_eqMove (Ends [.tmp 4] rs) (init ds)) : Fn Try.prog k_laws_eqMove (lent ds) true rs :=
  Fn.intro' (by kernel_rfl) Try.func172 (by kernel_rfl) i_laws_eqMove_ok (by kernel_rfl) hle h.h

abbrev i_laws_eqAtlas_r0 : List RO := [
  ⟨⟨none, .box 2 (.t 0)⟩, 0, []⟩,
  ⟨⟨none, .box 3 (.t 1)⟩, 0, []⟩,
  ⟨⟨none, .mov 4 (.c (.one (.d (.bool false))))⟩, 0, []⟩]

abbrev i_laws_eqAtlas_r1 : List RO := [
  ⟨⟨none, .faddr 5 0 (.t 2)⟩, 0, []⟩,
  ⟨⟨none, .load 6 none (.t 5)⟩, 0, []⟩,
  ⟨⟨none, .faddr 7 0 (.t 3)⟩, 0, []⟩,
  ⟨⟨none, .load 8 none (.t 7)⟩, 0, []⟩,
  ⟨⟨none, .bin 9 .neq (.t 6) (.t 8)⟩, 0, []⟩]

abbrev i_laws_eqAtlas_r2 : List RO := [
  ⟨⟨none, .mov 4 (.c (.one (.d (.bool false))))⟩, 0, []⟩]

abbrev i_laws_eqAtlas_r3 : List RO := [
  ⟨⟨none, .faddr 10 1 (.t 2)⟩, 0, []⟩,
  ⟨⟨none, .load 11 none (.t 10)⟩, 0, []⟩,
  ⟨⟨none, .faddr 12 1 (.t 3)⟩, 0, []⟩,
  ⟨⟨none, .load 13 none (.t 12)⟩, 0, []⟩,
  ⟨⟨none, .callv 14 (.c (.one (.fn k_laws_eqPartS []))) [(.t 11), (.t 13)]⟩, 0, []⟩,
  ⟨⟨none, .inv 15 (.t 14)⟩, 0, []⟩]

abbrev i_laws_eqAtlas_r4 : List RO := [
  ⟨⟨none, .mov 4 (.c (.one (.d (.bool false))))⟩, 0, []⟩]

abbrev i_laws_eqAtlas_r5 : List RO := [
  ⟨⟨none, .faddr 16 2 (.t 2)⟩, 0, []⟩,
  ⟨⟨none, .load 17 (some 7) (.t 16)⟩, 0, []⟩,
  ⟨⟨none, .faddr 18 2 (.t 3)⟩, 0, []⟩,
  ⟨⟨none, .load 19 (some 7) (.t 18)⟩, 0, []⟩,
  ⟨⟨none, .callv 20 (.c (.one (.fn k_laws_eqMove []))) [(.t 17), (.t 19)]⟩, 0, []⟩,
  ⟨⟨none, .inv 21 (.t 20)⟩, 0, []⟩]

abbrev i_laws_eqAtlas_r6 : List RO := [
  ⟨⟨none, .mov 4 (.c (.one (.d (.bool false))))⟩, 0, []⟩]

abbrev i_laws_eqAtlas_r7 : List RO := [
  ⟨⟨none, .mov 4 (.c (.one (.d (.bool true))))⟩, 0, []⟩]

def i_laws_eqAtlas : IC := (.seq (.reg i_laws_eqAtlas_r0)
  (.seq (.seq (.reg i_laws_eqAtlas_r1)
  (.cond (.t 9) (.seq (.reg i_laws_eqAtlas_r2)
  .ret) .skip))
  (.seq (.seq (.reg i_laws_eqAtlas_r3)
  (.cond (.t 15) (.seq (.reg i_laws_eqAtlas_r4)
  .ret) .skip))
  (.seq (.seq (.reg i_laws_eqAtlas_r5)
  (.cond (.t 21) (.seq (.reg i_laws_eqAtlas_r6)
  .ret) .skip))
  (.seq (.reg i_laws_eqAtlas_r7)
  .ret)))))

theorem i_laws_eqAtlas_ok : (Try.f62.body.bind fun c => toIC Try.prog 22 c []) = some (i_laws_eqAtlas, []) := by kernel_rfl

theorem i_laws_eqAtlas_fn {ds rs : List D} (hle : ds.length ≤ 22) (h : AW Try.prog 22 i_laws_eqAtlas (Ends [.tmp 4] rs) (init ds)) : Fn Try.prog k_laws_eqAtlas (lent ds) true rs :=
  Fn.intro' (by kernel_rfl) Try.func62 (by kernel_rfl) i_laws_eqAtlas_ok (by kernel_rfl) hle h.h

abbrev i_laws_markPartS_r0 : List RO := [
  ⟨⟨none, .mov 4 (.c (.one (.d (.int .i64 0))))⟩, 0, []⟩]

abbrev i_laws_markPartS_r1 : List RO := [
  ⟨⟨none, .mov 5 (.c (.one (.d (.int .i64 0))))⟩, 0, []⟩]

abbrev i_laws_markPartS_r2 : List RO := [
  ⟨⟨none, .mov 6 (.t 5)⟩, 0, []⟩,
  ⟨⟨none, .mov 7 (.t 0)⟩, 0, []⟩,
  ⟨⟨none, .len 8 false (.t 7)⟩, 0, []⟩,
  ⟨⟨none, .bin 9 .lss (.t 6) (.t 8)⟩, 0, []⟩]

abbrev i_laws_markPartS_r3 : List RO := [
  ⟨⟨none, .mov 12 (.t 0)⟩, 0, []⟩,
  ⟨⟨none, .mov 13 (.t 5)⟩, 0, []⟩,
  ⟨⟨none, .mov 14 (.t 1)⟩, 0, []⟩,
  ⟨⟨none, .iaddr 15 3 (.t 12) (.t 13)⟩, 0, []⟩,
  ⟨⟨none, .faddr 16 0 (.t 15)⟩, 0, []⟩,
  ⟨⟨none, .store 1 [(.int .i64 0)] (.t 16) (.t 14)⟩, 0, []⟩]

abbrev i_laws_markPartS_r4 : List RO := [
  ⟨⟨none, .mov 17 (.t 1)⟩, 0, []⟩,
  ⟨⟨none, .bin 18 .add (.t 17) (.c (.one (.d (.int .i64 1))))⟩, 0, []⟩,
  ⟨⟨none, .mov 1 (.t 18)⟩, 0, []⟩]

abbrev i_laws_markPartS_r5 : List RO := [
  ⟨⟨none, .mov 19 (.t 0)⟩, 0, []⟩,
  ⟨⟨none, .mov 20 (.t 5)⟩, 0, []⟩,
  ⟨⟨none, .mov 21 (.t 1)⟩, 0, []⟩,
  ⟨⟨none, .iaddr 22 3 (.t 19) (.t 20)⟩, 0, []⟩,
  ⟨⟨none, .faddr 23 1 (.t 22)⟩, 0, []⟩,
  ⟨⟨none, .store 1 [(.int .i64 0)] (.t 23) (.t 21)⟩, 0, []⟩]

abbrev i_laws_markPartS_r6 : List RO := [
  ⟨⟨none, .mov 24 (.t 1)⟩, 0, []⟩,
  ⟨⟨none, .bin 25 .add (.t 24) (.c (.one (.d (.int .i64 1))))⟩, 0, []⟩,
  ⟨⟨none, .mov 1 (.t 25)⟩, 0, []⟩]

abbrev i_laws_markPartS_r7 : List RO := [
  ⟨⟨none, .mov 26 (.t 0)⟩, 0, []⟩,
  ⟨⟨none, .mov 27 (.t 5)⟩, 0, []⟩,
  ⟨⟨none, .mov 28 (.t 1)⟩, 0, []⟩,
  ⟨⟨none, .iaddr 29 3 (.t 26) (.t 27)⟩, 0, []⟩,
  ⟨⟨none, .faddr 30 2 (.t 29)⟩, 0, []⟩,
  ⟨⟨none, .store 1 [(.int .i64 0)] (.t 30) (.t 28)⟩, 0, []⟩]

abbrev i_laws_markPartS_r8 : List RO := [
  ⟨⟨none, .mov 31 (.t 1)⟩, 0, []⟩,
  ⟨⟨none, .bin 32 .add (.t 31) (.c (.one (.d (.int .i64 1))))⟩, 0, []⟩,
  ⟨⟨none, .mov 1 (.t 32)⟩, 0, []⟩]

abbrev i_laws_markPartS_r9 : List RO := [
  ⟨⟨none, .mov 10 (.t 5)⟩, 0, []⟩,
  ⟨⟨none, .bin 11 .add (.t 10) (.c (.one (.d (.int .i64 1))))⟩, 0, []⟩,
  ⟨⟨none, .mov 5 (.t 11)⟩, 0, []⟩]

abbrev i_laws_markPartS_r10 : List RO := [
  ⟨⟨none, .mov 33 (.t 1)⟩, 0, []⟩,
  ⟨⟨none, .mov 4 (.t 33)⟩, 0, []⟩]

def i_laws_markPartS : IC := (.seq (.reg i_laws_markPartS_r0)
  (.seq (.seq (.reg i_laws_markPartS_r1)
  (.block 0 (.loop (.seq (.seq (.reg i_laws_markPartS_r2)
  (.cond (.t 9) .skip (.exit 0)))
  (.seq (.block 1 (.seq (.reg i_laws_markPartS_r3)
  (.seq (.reg i_laws_markPartS_r4)
  (.seq (.reg i_laws_markPartS_r5)
  (.seq (.reg i_laws_markPartS_r6)
  (.seq (.reg i_laws_markPartS_r7)
  (.reg i_laws_markPartS_r8)))))))
  (.reg i_laws_markPartS_r9))))))
  (.seq (.reg i_laws_markPartS_r10)
  .ret)))

theorem i_laws_markPartS_ok : (Try.f173.body.bind fun c => toIC Try.prog 34 c []) = some (i_laws_markPartS, []) := by kernel_rfl

theorem i_laws_markPartS_fnM {ars : List Ar} {rs : List D} (hle : ars.length ≤ 34) (hfr : freshL ⟨fun _ => .top, fun _ => none, fun _ => .top⟩ ((argB 0 ars).2.map (·.1))) (hlt : ((argB 0 ars).2.map (·.1)).all (fun n => Nat.ble n 1999999) = true) (h : AW Try.prog 34 i_laws_markPartS (EndsM ars [.tmp 4] rs) (initM ars)) : Fn Try.prog k_laws_markPartS ars true rs :=
  Fn.introM' (by kernel_rfl) Try.func173 (by kernel_rfl) i_laws_markPartS_ok (by kernel_rfl) hle hfr hlt h.h

abbrev i_laws_markCellS_r0 : List RO := [
  ⟨⟨none, .mov 4 (.c (.one (.d (.int .i64 0))))⟩, 0, []⟩]

abbrev i_laws_markCellS_r1 : List RO := [
  ⟨⟨none, .mov 5 (.c (.one (.d (.int .i64 0))))⟩, 0, []⟩]

abbrev i_laws_markCellS_r2 : List RO := [
  ⟨⟨none, .mov 6 (.t 5)⟩, 0, []⟩,
  ⟨⟨none, .mov 7 (.t 0)⟩, 0, []⟩,
  ⟨⟨none, .len 8 false (.t 7)⟩, 0, []⟩,
  ⟨⟨none, .bin 9 .lss (.t 6) (.t 8)⟩, 0, []⟩]

abbrev i_laws_markCellS_r3 : List RO := [
  ⟨⟨none, .mov 12 (.t 0)⟩, 0, []⟩,
  ⟨⟨none, .mov 13 (.t 5)⟩, 0, []⟩,
  ⟨⟨none, .mov 14 (.t 1)⟩, 0, []⟩,
  ⟨⟨none, .iaddr 15 2 (.t 12) (.t 13)⟩, 0, []⟩,
  ⟨⟨none, .faddr 16 0 (.t 15)⟩, 0, []⟩,
  ⟨⟨none, .store 1 [(.int .i64 0)] (.t 16) (.t 14)⟩, 0, []⟩]

abbrev i_laws_markCellS_r4 : List RO := [
  ⟨⟨none, .mov 17 (.t 1)⟩, 0, []⟩,
  ⟨⟨none, .bin 18 .add (.t 17) (.c (.one (.d (.int .i64 1))))⟩, 0, []⟩,
  ⟨⟨none, .mov 1 (.t 18)⟩, 0, []⟩]

abbrev i_laws_markCellS_r5 : List RO := [
  ⟨⟨none, .mov 19 (.t 0)⟩, 0, []⟩,
  ⟨⟨none, .mov 20 (.t 5)⟩, 0, []⟩,
  ⟨⟨none, .mov 21 (.t 1)⟩, 0, []⟩,
  ⟨⟨none, .iaddr 22 2 (.t 19) (.t 20)⟩, 0, []⟩,
  ⟨⟨none, .faddr 23 1 (.t 22)⟩, 0, []⟩,
  ⟨⟨none, .store 1 [(.int .i64 0)] (.t 23) (.t 21)⟩, 0, []⟩]

abbrev i_laws_markCellS_r6 : List RO := [
  ⟨⟨none, .mov 24 (.t 1)⟩, 0, []⟩,
  ⟨⟨none, .bin 25 .add (.t 24) (.c (.one (.d (.int .i64 1))))⟩, 0, []⟩,
  ⟨⟨none, .mov 1 (.t 25)⟩, 0, []⟩]

abbrev i_laws_markCellS_r7 : List RO := [
  ⟨⟨none, .mov 10 (.t 5)⟩, 0, []⟩,
  ⟨⟨none, .bin 11 .add (.t 10) (.c (.one (.d (.int .i64 1))))⟩, 0, []⟩,
  ⟨⟨none, .mov 5 (.t 11)⟩, 0, []⟩]

abbrev i_laws_markCellS_r8 : List RO := [
  ⟨⟨none, .mov 26 (.t 1)⟩, 0, []⟩,
  ⟨⟨none, .mov 4 (.t 26)⟩, 0, []⟩]

def i_laws_markCellS : IC := (.seq (.reg i_laws_markCellS_r0)
  (.seq (.seq (.reg i_laws_markCellS_r1)
  (.block 0 (.loop (.seq (.seq (.reg i_laws_markCellS_r2)
  (.cond (.t 9) .skip (.exit 0)))
  (.seq (.block 1 (.seq (.reg i_laws_markCellS_r3)
  (.seq (.reg i_laws_markCellS_r4)
  (.seq (.reg i_laws_markCellS_r5)
  (.reg i_laws_markCellS_r6)))))
  (.reg i_laws_markCellS_r7))))))
  (.seq (.reg i_laws_markCellS_r8)
  .ret)))

theorem i_laws_markCellS_ok : (Try.f248.body.bind fun c => toIC Try.prog 27 c []) = some (i_laws_markCellS, []) := by kernel_rfl

theorem i_laws_markCellS_fnM {ars : List Ar} {rs : List D} (hle : ars.length ≤ 27) (hfr : freshL ⟨fun _ => .top, fun _ => none, fun _ => .top⟩ ((argB 0 ars).2.map (·.1))) (hlt : ((argB 0 ars).2.map (·.1)).all (fun n => Nat.ble n 1999999) = true) (h : AW Try.prog 27 i_laws_markCellS (EndsM ars [.tmp 4] rs) (initM ars)) : Fn Try.prog k_laws_markCellS ars true rs :=
  Fn.introM' (by kernel_rfl) Try.func248 (by kernel_rfl) i_laws_markCellS_ok (by kernel_rfl) hle hfr hlt h.h

abbrev i_laws_markMove_r0 : List RO := [
  ⟨⟨none, .box 2 (.t 0)⟩, 0, []⟩,
  ⟨⟨none, .mov 4 (.c (.one (.d (.int .i64 0))))⟩, 0, []⟩]

abbrev i_laws_markMove_r1 : List RO := [
  ⟨⟨none, .faddr 5 6 (.t 2)⟩, 0, []⟩,
  ⟨⟨none, .load 6 none (.t 5)⟩, 0, []⟩,
  ⟨⟨none, .mov 7 (.t 1)⟩, 0, []⟩,
  ⟨⟨none, .callv 8 (.c (.one (.fn k_laws_markCellS []))) [(.t 6), (.t 7)]⟩, 0, []⟩,
  ⟨⟨none, .mov 1 (.t 8)⟩, 0, []⟩]

abbrev i_laws_markMove_r2 : List RO := [
  ⟨⟨none, .mov 9 (.t 1)⟩, 0, []⟩,
  ⟨⟨none, .mov 4 (.t 9)⟩, 0, []⟩]

def i_laws_markMove : IC := (.seq (.reg i_laws_markMove_r0)
  (.seq (.reg i_laws_markMove_r1)
  (.seq (.reg i_laws_markMove_r2)
  .ret)))

theorem i_laws_markMove_ok : (Try.f174.body.bind fun c => toIC Try.prog 10 c []) = some (i_laws_markMove, []) := by kernel_rfl

theorem i_laws_markMove_fnM {ars : List Ar} {rs : List D} (hle : ars.length ≤ 10) (hfr : freshL ⟨fun _ => .top, fun _ => none, fun _ => .top⟩ ((argB 0 ars).2.map (·.1))) (hlt : ((argB 0 ars).2.map (·.1)).all (fun n => Nat.ble n 1999999) = true) (h : AW Try.prog 10 i_laws_markMove (EndsM ars [.tmp 4] rs) (initM ars)) : Fn Try.prog k_laws_markMove ars true rs :=
  Fn.introM' (by kernel_rfl) Try.func174 (by kernel_rfl) i_laws_markMove_ok (by kernel_rfl) hle hfr hlt h.h

abbrev i_laws_markAtlas_r0 : List RO := [
  ⟨⟨none, .box 2 (.t 0)⟩, 0, []⟩,
  ⟨⟨none, .mov 4 (.c (.one (.d (.int .i64 0))))⟩, 0, []⟩]

abbrev i_laws_markAtlas_r1 : List RO := [
  ⟨⟨none, .faddr 5 1 (.t 2)⟩, 0, []⟩,
  ⟨⟨none, .load 6 none (.t 5)⟩, 0, []⟩,
  ⟨⟨none, .mov 7 (.t 1)⟩, 0, []⟩,
  ⟨⟨none, .callv 8 (.c (.one (.fn k_laws_markPartS []))) [(.t 6), (.t 7)]⟩, 0, []⟩,
  ⟨⟨none, .mov 1 (.t 8)⟩, 0, []⟩]

abbrev i_laws_markAtlas_r2 : List RO := [
  ⟨⟨none, .faddr 9 2 (.t 2)⟩, 0, []⟩,
  ⟨⟨none, .load 10 (some 7) (.t 9)⟩, 0, []⟩,
  ⟨⟨none, .mov 11 (.t 1)⟩, 0, []⟩,
  ⟨⟨none, .callv 12 (.c (.one (.fn k_laws_markMove []))) [(.t 10), (.t 11)]⟩, 0, []⟩,
  ⟨⟨none, .mov 1 (.t 12)⟩, 0, []⟩]

abbrev i_laws_markAtlas_r3 : List RO := [
  ⟨⟨none, .mov 13 (.t 1)⟩, 0, []⟩,
  ⟨⟨none, .mov 4 (.t 13)⟩, 0, []⟩]

def i_laws_markAtlas : IC := (.seq (.reg i_laws_markAtlas_r0)
  (.seq (.reg i_laws_markAtlas_r1)
  (.seq (.reg i_laws_markAtlas_r2)
  (.seq (.reg i_laws_markAtlas_r3)
  .ret))))

theorem i_laws_markAtlas_ok : (Try.f63.body.bind fun c => toIC Try.prog 14 c []) = some (i_laws_markAtlas, []) := by kernel_rfl

theorem i_laws_markAtlas_fnM {ars : List Ar} {rs : List D} (hle : ars.length ≤ 14) (hfr : freshL ⟨fun _ => .top, fun _ => none, fun _ => .top⟩ ((argB 0 ars).2.map (·.1))) (hlt : ((argB 0 ars).2.map (·.1)).all (fun n => Nat.ble n 1999999) = true) (h : AW Try.prog 14 i_laws_markAtlas (EndsM ars [.tmp 4] rs) (initM ars)) : Fn Try.prog k_laws_markAtlas ars true rs :=
  Fn.introM' (by kernel_rfl) Try.func63 (by kernel_rfl) i_laws_markAtlas_ok (by kernel_rfl) hle hfr hlt h.h

abbrev i_laws_heldPartS_r0 : List RO := [
  ⟨⟨none, .mov 4 (.c (.one (.d (.int .i64 0))))⟩, 0, []⟩]

abbrev i_laws_heldPartS_r1 : List RO := [
  ⟨⟨none, .mov 5 (.c (.one (.d (.int .i64 0))))⟩, 0, []⟩]

abbrev i_laws_heldPartS_r2 : List RO := [
  ⟨⟨none, .mov 6 (.t 5)⟩, 0, []⟩,
  ⟨⟨none, .mov 7 (.t 0)⟩, 0, []⟩,
  ⟨⟨none, .len 8 false (.t 7)⟩, 0, []⟩,
  ⟨⟨none, .bin 9 .lss (.t 6) (.t 8)⟩, 0, []⟩]

abbrev i_laws_heldPartS_r3 : List RO := [
  ⟨⟨none, .mov 12 (.t 0)⟩, 0, []⟩,
  ⟨⟨none, .mov 13 (.t 5)⟩, 0, []⟩,
  ⟨⟨none, .iaddr 14 3 (.t 12) (.t 13)⟩, 0, []⟩,
  ⟨⟨none, .faddr 15 0 (.t 14)⟩, 0, []⟩,
  ⟨⟨none, .load 16 none (.t 15)⟩, 0, []⟩,
  ⟨⟨none, .mov 17 (.t 1)⟩, 0, []⟩,
  ⟨⟨none, .bin 18 .neq (.t 16) (.t 17)⟩, 0, []⟩]

abbrev i_laws_heldPartS_r4 : List RO := [
  ⟨⟨none, .mov 4 (.c (.one (.d (.int .i64 (-1)))))⟩, 0, []⟩]

abbrev i_laws_heldPartS_r5 : List RO := [
  ⟨⟨none, .mov 19 (.t 1)⟩, 0, []⟩,
  ⟨⟨none, .bin 20 .add (.t 19) (.c (.one (.d (.int .i64 1))))⟩, 0, []⟩,
  ⟨⟨none, .mov 1 (.t 20)⟩, 0, []⟩]

abbrev i_laws_heldPartS_r6 : List RO := [
  ⟨⟨none, .mov 21 (.t 0)⟩, 0, []⟩,
  ⟨⟨none, .mov 22 (.t 5)⟩, 0, []⟩,
  ⟨⟨none, .iaddr 23 3 (.t 21) (.t 22)⟩, 0, []⟩,
  ⟨⟨none, .faddr 24 1 (.t 23)⟩, 0, []⟩,
  ⟨⟨none, .load 25 none (.t 24)⟩, 0, []⟩,
  ⟨⟨none, .mov 26 (.t 1)⟩, 0, []⟩,
  ⟨⟨none, .bin 27 .neq (.t 25) (.t 26)⟩, 0, []⟩]

abbrev i_laws_heldPartS_r7 : List RO := [
  ⟨⟨none, .mov 4 (.c (.one (.d (.int .i64 (-1)))))⟩, 0, []⟩]

abbrev i_laws_heldPartS_r8 : List RO := [
  ⟨⟨none, .mov 28 (.t 1)⟩, 0, []⟩,
  ⟨⟨none, .bin 29 .add (.t 28) (.c (.one (.d (.int .i64 1))))⟩, 0, []⟩,
  ⟨⟨none, .mov 1 (.t 29)⟩, 0, []⟩]

abbrev i_laws_heldPartS_r9 : List RO := [
  ⟨⟨none, .mov 30 (.t 0)⟩, 0, []⟩,
  ⟨⟨none, .mov 31 (.t 5)⟩, 0, []⟩,
  ⟨⟨none, .iaddr 32 3 (.t 30) (.t 31)⟩, 0, []⟩,
  ⟨⟨none, .faddr 33 2 (.t 32)⟩, 0, []⟩,
  ⟨⟨none, .load 34 none (.t 33)⟩, 0, []⟩,
  ⟨⟨none, .mov 35 (.t 1)⟩, 0, []⟩,
  ⟨⟨none, .bin 36 .neq (.t 34) (.t 35)⟩, 0, []⟩]

abbrev i_laws_heldPartS_r10 : List RO := [
  ⟨⟨none, .mov 4 (.c (.one (.d (.int .i64 (-1)))))⟩, 0, []⟩]

abbrev i_laws_heldPartS_r11 : List RO := [
  ⟨⟨none, .mov 37 (.t 1)⟩, 0, []⟩,
  ⟨⟨none, .bin 38 .add (.t 37) (.c (.one (.d (.int .i64 1))))⟩, 0, []⟩,
  ⟨⟨none, .mov 1 (.t 38)⟩, 0, []⟩]

abbrev i_laws_heldPartS_r12 : List RO := [
  ⟨⟨none, .mov 10 (.t 5)⟩, 0, []⟩,
  ⟨⟨none, .bin 11 .add (.t 10) (.c (.one (.d (.int .i64 1))))⟩, 0, []⟩,
  ⟨⟨none, .mov 5 (.t 11)⟩, 0, []⟩]

abbrev i_laws_heldPartS_r13 : List RO := [
  ⟨⟨none, .mov 39 (.t 1)⟩, 0, []⟩,
  ⟨⟨none, .mov 4 (.t 39)⟩, 0, []⟩]

def i_laws_heldPartS : IC := (.seq (.reg i_laws_heldPartS_r0)
  (.seq (.seq (.reg i_laws_heldPartS_r1)
  (.block 0 (.loop (.seq (.seq (.reg i_laws_heldPartS_r2)
  (.cond (.t 9) .skip (.exit 0)))
  (.seq (.block 1 (.seq (.seq (.reg i_laws_heldPartS_r3)
  (.cond (.t 18) (.seq (.reg i_laws_heldPartS_r4)
  .ret) .skip))
  (.seq (.reg i_laws_heldPartS_r5)
  (.seq (.seq (.reg i_laws_heldPartS_r6)
  (.cond (.t 27) (.seq (.reg i_laws_heldPartS_r7)
  .ret) .skip))
  (.seq (.reg i_laws_heldPartS_r8)
  (.seq (.seq (.reg i_laws_heldPartS_r9)
  (.cond (.t 36) (.seq (.reg i_laws_heldPartS_r10)
  .ret) .skip))
  (.reg i_laws_heldPartS_r11)))))))
  (.reg i_laws_heldPartS_r12))))))
  (.seq (.reg i_laws_heldPartS_r13)
  .ret)))

theorem i_laws_heldPartS_ok : (Try.f175.body.bind fun c => toIC Try.prog 40 c []) = some (i_laws_heldPartS, []) := by kernel_rfl

theorem i_laws_heldPartS_fn {ds rs : List D} (hle : ds.length ≤ 40) (h : AW Try.prog 40 i_laws_heldPartS (Ends [.tmp 4] rs) (init ds)) : Fn Try.prog k_laws_heldPartS (lent ds) true rs :=
  Fn.intro' (by kernel_rfl) Try.func175 (by kernel_rfl) i_laws_heldPartS_ok (by kernel_rfl) hle h.h

abbrev i_laws_heldCellS_r0 : List RO := [
  ⟨⟨none, .mov 4 (.c (.one (.d (.int .i64 0))))⟩, 0, []⟩]

abbrev i_laws_heldCellS_r1 : List RO := [
  ⟨⟨none, .mov 5 (.c (.one (.d (.int .i64 0))))⟩, 0, []⟩]

abbrev i_laws_heldCellS_r2 : List RO := [
  ⟨⟨none, .mov 6 (.t 5)⟩, 0, []⟩,
  ⟨⟨none, .mov 7 (.t 0)⟩, 0, []⟩,
  ⟨⟨none, .len 8 false (.t 7)⟩, 0, []⟩,
  ⟨⟨none, .bin 9 .lss (.t 6) (.t 8)⟩, 0, []⟩]

abbrev i_laws_heldCellS_r3 : List RO := [
  ⟨⟨none, .mov 12 (.t 0)⟩, 0, []⟩,
  ⟨⟨none, .mov 13 (.t 5)⟩, 0, []⟩,
  ⟨⟨none, .iaddr 14 2 (.t 12) (.t 13)⟩, 0, []⟩,
  ⟨⟨none, .faddr 15 0 (.t 14)⟩, 0, []⟩,
  ⟨⟨none, .load 16 none (.t 15)⟩, 0, []⟩,
  ⟨⟨none, .mov 17 (.t 1)⟩, 0, []⟩,
  ⟨⟨none, .bin 18 .neq (.t 16) (.t 17)⟩, 0, []⟩]

abbrev i_laws_heldCellS_r4 : List RO := [
  ⟨⟨none, .mov 4 (.c (.one (.d (.int .i64 (-1)))))⟩, 0, []⟩]

abbrev i_laws_heldCellS_r5 : List RO := [
  ⟨⟨none, .mov 19 (.t 1)⟩, 0, []⟩,
  ⟨⟨none, .bin 20 .add (.t 19) (.c (.one (.d (.int .i64 1))))⟩, 0, []⟩,
  ⟨⟨none, .mov 1 (.t 20)⟩, 0, []⟩]

abbrev i_laws_heldCellS_r6 : List RO := [
  ⟨⟨none, .mov 21 (.t 0)⟩, 0, []⟩,
  ⟨⟨none, .mov 22 (.t 5)⟩, 0, []⟩,
  ⟨⟨none, .iaddr 23 2 (.t 21) (.t 22)⟩, 0, []⟩,
  ⟨⟨none, .faddr 24 1 (.t 23)⟩, 0, []⟩,
  ⟨⟨none, .load 25 none (.t 24)⟩, 0, []⟩,
  ⟨⟨none, .mov 26 (.t 1)⟩, 0, []⟩,
  ⟨⟨none, .bin 27 .neq (.t 25) (.t 26)⟩, 0, []⟩]

abbrev i_laws_heldCellS_r7 : List RO := [
  ⟨⟨none, .mov 4 (.c (.one (.d (.int .i64 (-1)))))⟩, 0, []⟩]

abbrev i_laws_heldCellS_r8 : List RO := [
  ⟨⟨none, .mov 28 (.t 1)⟩, 0, []⟩,
  ⟨⟨none, .bin 29 .add (.t 28) (.c (.one (.d (.int .i64 1))))⟩, 0, []⟩,
  ⟨⟨none, .mov 1 (.t 29)⟩, 0, []⟩]

abbrev i_laws_heldCellS_r9 : List RO := [
  ⟨⟨none, .mov 10 (.t 5)⟩, 0, []⟩,
  ⟨⟨none, .bin 11 .add (.t 10) (.c (.one (.d (.int .i64 1))))⟩, 0, []⟩,
  ⟨⟨none, .mov 5 (.t 11)⟩, 0, []⟩]

abbrev i_laws_heldCellS_r10 : List RO := [
  ⟨⟨none, .mov 30 (.t 1)⟩, 0, []⟩,
  ⟨⟨none, .mov 4 (.t 30)⟩, 0, []⟩]

def i_laws_heldCellS : IC := (.seq (.reg i_laws_heldCellS_r0)
  (.seq (.seq (.reg i_laws_heldCellS_r1)
  (.block 0 (.loop (.seq (.seq (.reg i_laws_heldCellS_r2)
  (.cond (.t 9) .skip (.exit 0)))
  (.seq (.block 1 (.seq (.seq (.reg i_laws_heldCellS_r3)
  (.cond (.t 18) (.seq (.reg i_laws_heldCellS_r4)
  .ret) .skip))
  (.seq (.reg i_laws_heldCellS_r5)
  (.seq (.seq (.reg i_laws_heldCellS_r6)
  (.cond (.t 27) (.seq (.reg i_laws_heldCellS_r7)
  .ret) .skip))
  (.reg i_laws_heldCellS_r8)))))
  (.reg i_laws_heldCellS_r9))))))
  (.seq (.reg i_laws_heldCellS_r10)
  .ret)))

theorem i_laws_heldCellS_ok : (Try.f249.body.bind fun c => toIC Try.prog 31 c []) = some (i_laws_heldCellS, []) := by kernel_rfl

theorem i_laws_heldCellS_fn {ds rs : List D} (hle : ds.length ≤ 31) (h : AW Try.prog 31 i_laws_heldCellS (Ends [.tmp 4] rs) (init ds)) : Fn Try.prog k_laws_heldCellS (lent ds) true rs :=
  Fn.intro' (by kernel_rfl) Try.func249 (by kernel_rfl) i_laws_heldCellS_ok (by kernel_rfl) hle h.h

abbrev i_laws_heldMove_r0 : List RO := [
  ⟨⟨none, .box 2 (.t 0)⟩, 0, []⟩,
  ⟨⟨none, .mov 4 (.c (.one (.d (.int .i64 0))))⟩, 0, []⟩]

abbrev i_laws_heldMove_r1 : List RO := [
  ⟨⟨none, .faddr 5 6 (.t 2)⟩, 0, []⟩,
  ⟨⟨none, .load 6 none (.t 5)⟩, 0, []⟩,
  ⟨⟨none, .mov 7 (.t 1)⟩, 0, []⟩,
  ⟨⟨none, .callv 8 (.c (.one (.fn k_laws_heldCellS []))) [(.t 6), (.t 7)]⟩, 0, []⟩,
  ⟨⟨none, .mov 1 (.t 8)⟩, 0, []⟩]

abbrev i_laws_heldMove_r2 : List RO := [
  ⟨⟨none, .mov 9 (.t 1)⟩, 0, []⟩,
  ⟨⟨none, .bin 10 .lss (.t 9) (.c (.one (.d (.int .i64 0))))⟩, 0, []⟩]

abbrev i_laws_heldMove_r3 : List RO := [
  ⟨⟨none, .mov 4 (.c (.one (.d (.int .i64 (-1)))))⟩, 0, []⟩]

abbrev i_laws_heldMove_r4 : List RO := [
  ⟨⟨none, .mov 11 (.t 1)⟩, 0, []⟩,
  ⟨⟨none, .mov 4 (.t 11)⟩, 0, []⟩]

def i_laws_heldMove : IC := (.seq (.reg i_laws_heldMove_r0)
  (.seq (.reg i_laws_heldMove_r1)
  (.seq (.seq (.reg i_laws_heldMove_r2)
  (.cond (.t 10) (.seq (.reg i_laws_heldMove_r3)
  .ret) .skip))
  (.seq (.reg i_laws_heldMove_r4)
  .ret))))

theorem i_laws_heldMove_ok : (Try.f176.body.bind fun c => toIC Try.prog 12 c []) = some (i_laws_heldMove, []) := by kernel_rfl

theorem i_laws_heldMove_fn {ds rs : List D} (hle : ds.length ≤ 12) (h : AW Try.prog 12 i_laws_heldMove (Ends [.tmp 4] rs) (init ds)) : Fn Try.prog k_laws_heldMove (lent ds) true rs :=
  Fn.intro' (by kernel_rfl) Try.func176 (by kernel_rfl) i_laws_heldMove_ok (by kernel_rfl) hle h.h

abbrev i_laws_heldAtlas_r0 : List RO := [
  ⟨⟨none, .box 2 (.t 0)⟩, 0, []⟩,
  ⟨⟨none, .mov 4 (.c (.one (.d (.int .i64 0))))⟩, 0, []⟩]

abbrev i_laws_heldAtlas_r1 : List RO := [
  ⟨⟨none, .faddr 5 1 (.t 2)⟩, 0, []⟩,
  ⟨⟨none, .load 6 none (.t 5)⟩, 0, []⟩,
  ⟨⟨none, .mov 7 (.t 1)⟩, 0, []⟩,
  ⟨⟨none, .callv 8 (.c (.one (.fn k_laws_heldPartS []))) [(.t 6), (.t 7)]⟩, 0, []⟩,
  ⟨⟨none, .mov 1 (.t 8)⟩, 0, []⟩]

abbrev i_laws_heldAtlas_r2 : List RO := [
  ⟨⟨none, .mov 9 (.t 1)⟩, 0, []⟩,
  ⟨⟨none, .bin 10 .lss (.t 9) (.c (.one (.d (.int .i64 0))))⟩, 0, []⟩]

abbrev i_laws_heldAtlas_r3 : List RO := [
  ⟨⟨none, .mov 4 (.c (.one (.d (.int .i64 (-1)))))⟩, 0, []⟩]

abbrev i_laws_heldAtlas_r4 : List RO := [
  ⟨⟨none, .faddr 11 2 (.t 2)⟩, 0, []⟩,
  ⟨⟨none, .load 12 (some 7) (.t 11)⟩, 0, []⟩,
  ⟨⟨none, .mov 13 (.t 1)⟩, 0, []⟩,
  ⟨⟨none, .callv 14 (.c (.one (.fn k_laws_heldMove []))) [(.t 12), (.t 13)]⟩, 0, []⟩,
  ⟨⟨none, .mov 1 (.t 14)⟩, 0, []⟩]

abbrev i_laws_heldAtlas_r5 : List RO := [
  ⟨⟨none, .mov 15 (.t 1)⟩, 0, []⟩,
  ⟨⟨none, .bin 16 .lss (.t 15) (.c (.one (.d (.int .i64 0))))⟩, 0, []⟩]

abbrev i_laws_heldAtlas_r6 : List RO := [
  ⟨⟨none, .mov 4 (.c (.one (.d (.int .i64 (-1)))))⟩, 0, []⟩]

abbrev i_laws_heldAtlas_r7 : List RO := [
  ⟨⟨none, .mov 17 (.t 1)⟩, 0, []⟩,
  ⟨⟨none, .mov 4 (.t 17)⟩, 0, []⟩]

def i_laws_heldAtlas : IC := (.seq (.reg i_laws_heldAtlas_r0)
  (.seq (.reg i_laws_heldAtlas_r1)
  (.seq (.seq (.reg i_laws_heldAtlas_r2)
  (.cond (.t 10) (.seq (.reg i_laws_heldAtlas_r3)
  .ret) .skip))
  (.seq (.reg i_laws_heldAtlas_r4)
  (.seq (.seq (.reg i_laws_heldAtlas_r5)
  (.cond (.t 16) (.seq (.reg i_laws_heldAtlas_r6)
  .ret) .skip))
  (.seq (.reg i_laws_heldAtlas_r7)
  .ret))))))

theorem i_laws_heldAtlas_ok : (Try.f64.body.bind fun c => toIC Try.prog 18 c []) = some (i_laws_heldAtlas, []) := by kernel_rfl

theorem i_laws_heldAtlas_fn {ds rs : List D} (hle : ds.length ≤ 18) (h : AW Try.prog 18 i_laws_heldAtlas (Ends [.tmp 4] rs) (init ds)) : Fn Try.prog k_laws_heldAtlas (lent ds) true rs :=
  Fn.intro' (by kernel_rfl) Try.func64 (by kernel_rfl) i_laws_heldAtlas_ok (by kernel_rfl) hle h.h

abbrev i_laws_FnExactAtlasSplit_r0 : List RO := [
  ⟨⟨none, .box 2 (.t 0)⟩, 0, []⟩,
  ⟨⟨none, .mov 4 (.c (.one (.d (.bool false))))⟩, 0, []⟩]

abbrev i_laws_FnExactAtlasSplit_r1 : List RO := [
  ⟨⟨none, .mov 5 (.c (.one (.d (.int .i64 1048576))))⟩, 0, []⟩]

abbrev i_laws_FnExactAtlasSplit_r2 : List RO := [
  ⟨⟨none, .load 16 (some 9) (.t 2)⟩, 0, []⟩,
  ⟨⟨none, .mov 17 (.t 5)⟩, 0, []⟩,
  ⟨⟨none, .callv 18 (.c (.one (.fn k_laws_szAtlas []))) [(.t 16), (.t 17)]⟩, 0, []⟩,
  ⟨⟨none, .mov 5 (.t 18)⟩, 0, []⟩]

abbrev i_laws_FnExactAtlasSplit_r3 : List RO := [
  ⟨⟨none, .mov 19 (.t 5)⟩, 0, []⟩,
  ⟨⟨none, .bin 20 .lss (.t 19) (.c (.one (.d (.int .i64 0))))⟩, 0, []⟩]

abbrev i_laws_FnExactAtlasSplit_r4 : List RO := [
  ⟨⟨none, .mov 4 (.c (.one (.d (.bool true))))⟩, 0, []⟩]

abbrev i_laws_FnExactAtlasSplit_r5 : List RO := [
  ⟨⟨none, .load 22 (some 9) (.t 2)⟩, 0, []⟩,
  ⟨⟨none, .callv 23 (.c (.one (.fn k_laws_toAtlas []))) [(.t 22)]⟩, 0, []⟩,
  ⟨⟨none, .mov 24 (.t 1)⟩, 0, []⟩,
  ⟨⟨none, .callv 25 (.c (.one (.fn k_spec_AtlasSplit []))) [(.t 23), (.t 24)]⟩, 0, []⟩,
  ⟨⟨none, .mov 21 (.t 25)⟩, 0, []⟩,
  ⟨⟨none, .ext 26 (.t 21) 0⟩, 0, []⟩,
  ⟨⟨none, .ext 27 (.t 21) 1⟩, 0, []⟩,
  ⟨⟨none, .var 6 [(.d (.int .i64 0)), .zs, (.d (.int .i64 0)), (.d (.int .i64 0)), (.d (.int .i64 0)), (.d (.int .i64 0)), (.d (.int .i64 0)), (.d (.int .i64 0)), .zs]⟩, 0, []⟩,
  ⟨⟨none, .store 9 [(.int .i64 0), (.sl 3 []), (.int .i64 0), (.int .i64 0), (.int .i64 0), (.int .i64 0), (.int .i64 0), (.int .i64 0), (.sl 2 [])] (.t 6) (.t 26)⟩, 0, []⟩,
  ⟨⟨none, .mov 7 (.t 27)⟩, 0, []⟩]

abbrev i_laws_FnExactAtlasSplit_r6 : List RO := [
  ⟨⟨none, .load 28 (some 9) (.t 2)⟩, 0, []⟩,
  ⟨⟨none, .callv 29 (.c (.one (.fn k_laws_toAtlas []))) [(.t 28)]⟩, 0, []⟩,
  ⟨⟨none, .var 8 [(.d (.int .i64 0)), .zs, (.d (.int .i64 0)), (.d (.int .i64 0)), (.d (.int .i64 0)), (.d (.int .i64 0)), (.d (.int .i64 0)), (.d (.int .i64 0)), .zs]⟩, 0, []⟩,
  ⟨⟨none, .store 9 [(.int .i64 0), (.sl 3 []), (.int .i64 0), (.int .i64 0), (.int .i64 0), (.int .i64 0), (.int .i64 0), (.int .i64 0), (.sl 2 [])] (.t 8) (.t 29)⟩, 0, []⟩]

abbrev i_laws_FnExactAtlasSplit_r7 : List RO := [
  ⟨⟨none, .load 31 (some 9) (.t 8)⟩, 0, []⟩,
  ⟨⟨none, .mov 32 (.t 1)⟩, 0, []⟩,
  ⟨⟨none, .callv 33 (.c (.one (.fn k_impl_AtlasSplit []))) [(.t 31), (.t 32)]⟩, 0, []⟩,
  ⟨⟨none, .mov 30 (.t 33)⟩, 0, []⟩,
  ⟨⟨none, .ext 34 (.t 30) 0⟩, 0, []⟩,
  ⟨⟨none, .ext 35 (.t 30) 1⟩, 0, []⟩,
  ⟨⟨none, .var 9 [(.d (.int .i64 0)), .zs, (.d (.int .i64 0)), (.d (.int .i64 0)), (.d (.int .i64 0)), (.d (.int .i64 0)), (.d (.int .i64 0)), (.d (.int .i64 0)), .zs]⟩, 0, []⟩,
  ⟨⟨none, .store 9 [(.int .i64 0), (.sl 3 []), (.int .i64 0), (.int .i64 0), (.int .i64 0), (.int .i64 0), (.int .i64 0), (.int .i64 0), (.sl 2 [])] (.t 9) (.t 34)⟩, 0, []⟩,
  ⟨⟨none, .mov 10 (.t 35)⟩, 0, []⟩]

abbrev i_laws_FnExactAtlasSplit_r8 : List RO := [
  ⟨⟨none, .load 36 (some 9) (.t 9)⟩, 0, []⟩,
  ⟨⟨none, .load 37 (some 9) (.t 6)⟩, 0, []⟩,
  ⟨⟨none, .callv 38 (.c (.one (.fn k_laws_eqAtlas []))) [(.t 36), (.t 37)]⟩, 0, []⟩,
  ⟨⟨none, .inv 39 (.t 38)⟩, 0, []⟩,
  ⟨⟨none, .mov 40 (.t 39)⟩, 0, []⟩,
  ⟨⟨some (40, false), .mov 41 (.t 10)⟩, 0, []⟩,
  ⟨⟨some (40, false), .mov 42 (.t 7)⟩, 0, []⟩,
  ⟨⟨some (40, false), .bin 43 .neq (.t 41) (.t 42)⟩, 0, []⟩,
  ⟨⟨none, .pick 44 (.t 40) (.c (.one (.d (.bool true)))) (.t 43)⟩, 0, []⟩]

abbrev i_laws_FnExactAtlasSplit_r9 : List RO := [
  ⟨⟨none, .mov 4 (.c (.one (.d (.bool false))))⟩, 0, []⟩]

abbrev i_laws_FnExactAtlasSplit_r10 : List RO := [
  ⟨⟨none, .load 45 (some 9) (.t 8)⟩, 0, [47]⟩,
  ⟨⟨none, .load 46 (some 9) (.t 2)⟩, 0, []⟩,
  ⟨⟨none, .callv 47 (.c (.one (.fn k_laws_toAtlas []))) [(.t 46)]⟩, 2, []⟩,
  ⟨⟨none, .callv 48 (.c (.one (.fn k_laws_eqAtlas []))) [(.t 45), (.t 47)]⟩, 7, []⟩,
  ⟨⟨none, .inv 49 (.t 48)⟩, 15, []⟩]

abbrev i_laws_FnExactAtlasSplit_r11 : List RO := [
  ⟨⟨none, .mov 4 (.c (.one (.d (.bool false))))⟩, 0, []⟩]

abbrev i_laws_FnExactAtlasSplit_r12 : List RO := [
  ⟨⟨none, .mov 11 (.c (.one (.d (.int .i64 1))))⟩, 0, []⟩]

abbrev i_laws_FnExactAtlasSplit_r13 : List RO := [
  ⟨⟨none, .load 50 (some 9) (.t 8)⟩, 0, []⟩,
  ⟨⟨none, .mov 51 (.t 11)⟩, 0, []⟩,
  ⟨⟨none, .callv 52 (.c (.one (.fn k_laws_markAtlas []))) [(.t 50), (.t 51)]⟩, 0, []⟩,
  ⟨⟨none, .mov 11 (.t 52)⟩, 0, []⟩]

abbrev i_laws_FnExactAtlasSplit_r14 : List RO := [
  ⟨⟨none, .mov 53 (.t 11)⟩, 0, []⟩,
  ⟨⟨none, .bin 54 .lss (.t 53) (.c (.one (.d (.int .i64 0))))⟩, 0, []⟩,
  ⟨⟨none, .mov 55 (.t 54)⟩, 0, []⟩,
  ⟨⟨some (55, false), .load 56 (some 9) (.t 9)⟩, 0, []⟩,
  ⟨⟨some (55, false), .load 57 (some 9) (.t 6)⟩, 0, []⟩,
  ⟨⟨some (55, false), .callv 58 (.c (.one (.fn k_laws_eqAtlas []))) [(.t 56), (.t 57)]⟩, 0, []⟩,
  ⟨⟨some (55, false), .inv 59 (.t 58)⟩, 0, []⟩,
  ⟨⟨none, .pick 60 (.t 55) (.c (.one (.d (.bool true)))) (.t 59)⟩, 0, []⟩,
  ⟨⟨none, .mov 61 (.t 60)⟩, 0, []⟩,
  ⟨⟨some (61, false), .mov 62 (.t 10)⟩, 0, []⟩,
  ⟨⟨some (61, false), .mov 63 (.t 7)⟩, 0, []⟩,
  ⟨⟨some (61, false), .bin 64 .neq (.t 62) (.t 63)⟩, 0, []⟩,
  ⟨⟨none, .pick 65 (.t 61) (.c (.one (.d (.bool true)))) (.t 64)⟩, 0, []⟩]

abbrev i_laws_FnExactAtlasSplit_r15 : List RO := [
  ⟨⟨none, .mov 4 (.c (.one (.d (.bool false))))⟩, 0, []⟩]

abbrev i_laws_FnExactAtlasSplit_r16 : List RO := [
  ⟨⟨none, .mov 12 (.c (.one (.d (.int .i64 1))))⟩, 0, []⟩]

abbrev i_laws_FnExactAtlasSplit_r17 : List RO := [
  ⟨⟨none, .load 66 (some 9) (.t 9)⟩, 0, []⟩,
  ⟨⟨none, .mov 67 (.t 12)⟩, 0, []⟩,
  ⟨⟨none, .callv 68 (.c (.one (.fn k_laws_markAtlas []))) [(.t 66), (.t 67)]⟩, 0, []⟩,
  ⟨⟨none, .mov 12 (.t 68)⟩, 0, []⟩]

abbrev i_laws_FnExactAtlasSplit_r18 : List RO := [
  ⟨⟨none, .mov 13 (.c (.one (.d (.int .i64 1))))⟩, 0, []⟩]

abbrev i_laws_FnExactAtlasSplit_r19 : List RO := [
  ⟨⟨none, .load 69 (some 9) (.t 9)⟩, 0, []⟩,
  ⟨⟨none, .mov 70 (.t 13)⟩, 0, []⟩,
  ⟨⟨none, .callv 71 (.c (.one (.fn k_laws_heldAtlas []))) [(.t 69), (.t 70)]⟩, 0, []⟩,
  ⟨⟨none, .mov 13 (.t 71)⟩, 0, []⟩]

abbrev i_laws_FnExactAtlasSplit_r20 : List RO := [
  ⟨⟨none, .mov 72 (.t 13)⟩, 0, []⟩,
  ⟨⟨none, .bin 73 .lss (.t 72) (.c (.one (.d (.int .i64 0))))⟩, 0, []⟩]

abbrev i_laws_FnExactAtlasSplit_r21 : List RO := [
  ⟨⟨none, .mov 4 (.c (.one (.d (.bool false))))⟩, 0, []⟩]

abbrev i_laws_FnExactAtlasSplit_r22 : List RO := [
  ⟨⟨none, .mov 74 (.t 13)⟩, 0, []⟩,
  ⟨⟨none, .mov 75 (.t 12)⟩, 0, []⟩,
  ⟨⟨none, .bin 76 .neq (.t 74) (.t 75)⟩, 0, []⟩]

abbrev i_laws_FnExactAtlasSplit_r23 : List RO := [
  ⟨⟨none, .mov 4 (.c (.one (.d (.bool false))))⟩, 0, []⟩]

abbrev i_laws_FnExactAtlasSplit_r24 : List RO := [
  ⟨⟨none, .load 78 (some 9) (.t 2)⟩, 0, []⟩,
  ⟨⟨none, .callv 79 (.c (.one (.fn k_laws_toAtlas []))) [(.t 78)]⟩, 0, []⟩,
  ⟨⟨none, .mov 80 (.t 1)⟩, 0, []⟩,
  ⟨⟨none, .callv 81 (.c (.one (.fn k_impl_AtlasSplit []))) [(.t 79), (.t 80)]⟩, 0, []⟩,
  ⟨⟨none, .mov 77 (.t 81)⟩, 0, []⟩,
  ⟨⟨none, .ext 82 (.t 77) 0⟩, 0, []⟩,
  ⟨⟨none, .ext 83 (.t 77) 1⟩, 0, []⟩,
  ⟨⟨none, .var 14 [(.d (.int .i64 0)), .zs, (.d (.int .i64 0)), (.d (.int .i64 0)), (.d (.int .i64 0)), (.d (.int .i64 0)), (.d (.int .i64 0)), (.d (.int .i64 0)), .zs]⟩, 0, []⟩,
  ⟨⟨none, .store 9 [(.int .i64 0), (.sl 3 []), (.int .i64 0), (.int .i64 0), (.int .i64 0), (.int .i64 0), (.int .i64 0), (.int .i64 0), (.sl 2 [])] (.t 14) (.t 82)⟩, 0, []⟩,
  ⟨⟨none, .mov 15 (.t 83)⟩, 0, []⟩]

abbrev i_laws_FnExactAtlasSplit_r25 : List RO := [
  ⟨⟨none, .load 84 (some 9) (.t 14)⟩, 0, []⟩,
  ⟨⟨none, .load 85 (some 9) (.t 6)⟩, 0, []⟩,
  ⟨⟨none, .callv 86 (.c (.one (.fn k_laws_eqAtlas []))) [(.t 84), (.t 85)]⟩, 0, []⟩,
  ⟨⟨none, .inv 87 (.t 86)⟩, 0, []⟩,
  ⟨⟨none, .mov 88 (.t 87)⟩, 0, []⟩,
  ⟨⟨some (88, false), .mov 89 (.t 15)⟩, 0, []⟩,
  ⟨⟨some (88, false), .mov 90 (.t 7)⟩, 0, []⟩,
  ⟨⟨some (88, false), .bin 91 .neq (.t 89) (.t 90)⟩, 0, []⟩,
  ⟨⟨none, .pick 92 (.t 88) (.c (.one (.d (.bool true)))) (.t 91)⟩, 0, []⟩]

abbrev i_laws_FnExactAtlasSplit_r26 : List RO := [
  ⟨⟨none, .mov 4 (.c (.one (.d (.bool false))))⟩, 0, []⟩]

abbrev i_laws_FnExactAtlasSplit_r27 : List RO := [
  ⟨⟨none, .mov 13 (.c (.one (.d (.int .i64 1))))⟩, 0, []⟩]

abbrev i_laws_FnExactAtlasSplit_r28 : List RO := [
  ⟨⟨none, .load 93 (some 9) (.t 9)⟩, 0, []⟩,
  ⟨⟨none, .mov 94 (.t 13)⟩, 0, []⟩,
  ⟨⟨none, .callv 95 (.c (.one (.fn k_laws_heldAtlas []))) [(.t 93), (.t 94)]⟩, 0, []⟩,
  ⟨⟨none, .mov 13 (.t 95)⟩, 0, []⟩]

abbrev i_laws_FnExactAtlasSplit_r29 : List RO := [
  ⟨⟨none, .mov 96 (.t 13)⟩, 0, []⟩,
  ⟨⟨none, .bin 97 .lss (.t 96) (.c (.one (.d (.int .i64 0))))⟩, 0, []⟩]

abbrev i_laws_FnExactAtlasSplit_r30 : List RO := [
  ⟨⟨none, .mov 4 (.c (.one (.d (.bool false))))⟩, 0, []⟩]

abbrev i_laws_FnExactAtlasSplit_r31 : List RO := [
  ⟨⟨none, .mov 98 (.t 13)⟩, 0, []⟩,
  ⟨⟨none, .mov 99 (.t 12)⟩, 0, []⟩,
  ⟨⟨none, .bin 100 .neq (.t 98) (.t 99)⟩, 0, []⟩]

abbrev i_laws_FnExactAtlasSplit_r32 : List RO := [
  ⟨⟨none, .mov 4 (.c (.one (.d (.bool false))))⟩, 0, []⟩]

abbrev i_laws_FnExactAtlasSplit_r33 : List RO := [
  ⟨⟨none, .mov 4 (.c (.one (.d (.bool true))))⟩, 0, []⟩]

def i_laws_FnExactAtlasSplit : IC := (.seq (.reg i_laws_FnExactAtlasSplit_r0)
  (.seq (.reg i_laws_FnExactAtlasSplit_r1)
  (.seq (.reg i_laws_FnExactAtlasSplit_r2)
  (.seq (.seq (.reg i_laws_FnExactAtlasSplit_r3)
  (.cond (.t 20) (.seq (.reg i_laws_FnExactAtlasSplit_r4)
  .ret) .skip))
  (.seq (.reg i_laws_FnExactAtlasSplit_r5)
  (.seq (.reg i_laws_FnExactAtlasSplit_r6)
  (.seq (.reg i_laws_FnExactAtlasSplit_r7)
  (.seq (.seq (.reg i_laws_FnExactAtlasSplit_r8)
  (.cond (.t 44) (.seq (.reg i_laws_FnExactAtlasSplit_r9)
  .ret) .skip))
  (.seq (.seq (.regd i_laws_FnExactAtlasSplit_r10)
  (.cond (.t 49) (.seq (.reg i_laws_FnExactAtlasSplit_r11)
  .ret) .skip))
  (.seq (.reg i_laws_FnExactAtlasSplit_r12)
  (.seq (.reg i_laws_FnExactAtlasSplit_r13)
  (.seq (.seq (.reg i_laws_FnExactAtlasSplit_r14)
  (.cond (.t 65) (.seq (.reg i_laws_FnExactAtlasSplit_r15)
  .ret) .skip))
  (.seq (.reg i_laws_FnExactAtlasSplit_r16)
  (.seq (.reg i_laws_FnExactAtlasSplit_r17)
  (.seq (.reg i_laws_FnExactAtlasSplit_r18)
  (.seq (.reg i_laws_FnExactAtlasSplit_r19)
  (.seq (.seq (.reg i_laws_FnExactAtlasSplit_r20)
  (.cond (.t 73) (.seq (.reg i_laws_FnExactAtlasSplit_r21)
  .ret) .skip))
  (.seq (.seq (.reg i_laws_FnExactAtlasSplit_r22)
  (.cond (.t 76) (.seq (.reg i_laws_FnExactAtlasSplit_r23)
  .ret) .skip))
  (.seq (.reg i_laws_FnExactAtlasSplit_r24)
  (.seq (.seq (.reg i_laws_FnExactAtlasSplit_r25)
  (.cond (.t 92) (.seq (.reg i_laws_FnExactAtlasSplit_r26)
  .ret) .skip))
  (.seq (.reg i_laws_FnExactAtlasSplit_r27)
  (.seq (.reg i_laws_FnExactAtlasSplit_r28)
  (.seq (.seq (.reg i_laws_FnExactAtlasSplit_r29)
  (.cond (.t 97) (.seq (.reg i_laws_FnExactAtlasSplit_r30)
  .ret) .skip))
  (.seq (.seq (.reg i_laws_FnExactAtlasSplit_r31)
  (.cond (.t 100) (.seq (.reg i_laws_FnExactAtlasSplit_r32)
  .ret) .skip))
  (.seq (.reg i_laws_FnExactAtlasSplit_r33)
  .ret)))))))))))))))))))))))))

theorem i_laws_FnExactAtlasSplit_ok : (Try.f8.body.bind fun c => toIC Try.prog 101 c [[(0, [47]), (0, []), (2, []), (7, []), (15, [])]]) = some (i_laws_FnExactAtlasSplit, []) := by kernel_rfl

theorem i_laws_FnExactAtlasSplit_fn {ds rs : List D} (hle : ds.length ≤ 101) (h : AW Try.prog 101 i_laws_FnExactAtlasSplit (Ends [.tmp 4] rs) (init ds)) : Fn Try.prog k_laws_FnExactAtlasSplit (lent ds) true rs :=
  Fn.intro' (by kernel_rfl) Try.func8 (by kernel_rfl) i_laws_FnExactAtlasSplit_ok (by kernel_rfl) hle h.h

end Go.AW
