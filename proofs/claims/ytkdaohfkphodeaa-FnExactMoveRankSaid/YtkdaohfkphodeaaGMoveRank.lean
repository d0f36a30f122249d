/- The compact code of functions of the program, and that it is the program's: made by a program of the prover's own (tool/GenIC.lean). Conditions: none. -/
import Derived.Test.YtkdaohfkphodeaaY
import Derived.Test.YtkdaohfkphodeaaRows
import Derived.KernelRfl
set_option linter.unusedVariables false
set_option maxRecDepth 100000
namespace Go.AW
open Go.Proofs

abbrev k_gosem_cut_init : Nat := 2
abbrev k_laws_FnExactStoreOk : Nat := 3
abbrev k_laws_FnExactDeedOk : Nat := 4
abbrev k_laws_FnExactMoveRank : Nat := 5
abbrev k_laws_FnExactStoreGet : Nat := 6
abbrev k_laws_FnExactLocksOk : Nat := 7
abbrev k_laws_FnExactStoreCut : Nat := 8
abbrev k_laws_FnExactStoreScan : Nat := 9
abbrev k_laws_FnExactLocksHold : Nat := 10
abbrev k_laws_FnExactStoreNew : Nat := 11
abbrev k_laws_FnExactLocksDrop : Nat := 12
abbrev k_laws_FnExactLocksOf : Nat := 13
abbrev k_laws_FnExactStoreApply : Nat := 14
abbrev k_laws_szCellS : Nat := 15
abbrev k_spec_StoreOk : Nat := 16
abbrev k_laws_toCellS : Nat := 17
abbrev k_impl_StoreOk : Nat := 18
abbrev k_laws_eqCellS : Nat := 19
abbrev k_spec_DeedOk : Nat := 20
abbrev k_laws_toDeed : Nat := 21
abbrev k_impl_DeedOk : Nat := 22
abbrev k_laws_szMove : Nat := 23
abbrev k_spec_MoveRank : Nat := 24
abbrev k_laws_toMove : Nat := 25
abbrev k_impl_MoveRank : Nat := 26
abbrev k_laws_eqMove : Nat := 27
abbrev k_spec_StoreGet : Nat := 28
abbrev k_impl_StoreGet : Nat := 29
abbrev k_laws_szLockS : Nat := 30
abbrev k_spec_LocksOk : Nat := 31
abbrev k_laws_toLockS : Nat := 32
abbrev k_impl_LocksOk : Nat := 33
abbrev k_laws_eqLockS : Nat := 34
abbrev k_spec_StoreCut : Nat := 35
abbrev k_laws_toRange : Nat := 36
abbrev k_impl_StoreCut : Nat := 37
abbrev k_laws_markCellS : Nat := 38
abbrev k_laws_heldCellS : Nat := 39
abbrev k_spec_StoreScan : Nat := 40
abbrev k_impl_StoreScan : Nat := 41
abbrev k_spec_LocksHold : Nat := 42
abbrev k_impl_LocksHold : Nat := 43
abbrev k_laws_szWriteS : Nat := 44
abbrev k_spec_StoreNew : Nat := 45
abbrev k_laws_toWriteS : Nat := 46
abbrev k_impl_StoreNew : Nat := 47
abbrev k_laws_eqWriteS : Nat := 48
abbrev k_spec_LocksDrop : Nat := 49
abbrev k_impl_LocksDrop : Nat := 50
abbrev k_laws_markLockS : Nat := 51
abbrev k_laws_heldLockS : Nat := 52
abbrev k_spec_LocksOf : Nat := 53
abbrev k_impl_LocksOf : Nat := 54
abbrev k_spec_StoreApply : Nat := 55
abbrev k_impl_StoreApply : Nat := 56
abbrev k_laws_markWriteS : Nat := 57
abbrev k_spec_l10Key : Nat := 58
abbrev k_spec_l1Whole : Nat := 59
abbrev k_laws_toCell : Nat := 60
abbrev k_impl_isKey : Nat := 61
abbrev k_impl_isWhole : Nat := 62
abbrev k_laws_eqCell : Nat := 63
abbrev k_spec_l1In : Nat := 64
abbrev k_spec_l16RangeOk : Nat := 65
abbrev k_spec_l12Tx : Nat := 66
abbrev k_spec_l15Group : Nat := 67
abbrev k_impl_from : Nat := 68
abbrev k_impl_RangeOk : Nat := 69
abbrev k_impl_isAnswer : Nat := 70
abbrev k_impl_isTx : Nat := 71
abbrev k_impl_isGroup : Nat := 72
abbrev k_spec_l1Min : Nat := 73
abbrev k_spec_l11Get : Nat := 74
abbrev k_impl_valueOf : Nat := 75
abbrev k_spec_RangeOk : Nat := 76
abbrev k_spec_l12Range : Nat := 77
abbrev k_spec_l12Mode : Nat := 78
abbrev k_spec_l12Clash : Nat := 79
abbrev k_laws_toLock : Nat := 80
abbrev k__impl_Lock_keys : Nat := 81
abbrev k_impl_isMode : Nat := 82
abbrev k_slices_ContainsFunc___impl_Lock_impl_Lock_ : Nat := 83
abbrev k_impl_LocksOk_1 : Nat := 84
abbrev k_impl_clash : Nat := 85
abbrev k_laws_eqLock : Nat := 86
abbrev k_spec_l11Scan : Nat := 87
abbrev k_impl_within : Nat := 88
abbrev k_spec_l12Holds : Nat := 89
abbrev k_impl_LocksHold_1 : Nat := 90
abbrev k_spec_WritesOk : Nat := 91
abbrev k_laws_toWrite : Nat := 92
abbrev k_impl_WritesOk : Nat := 93
abbrev k_laws_eqWrite : Nat := 94
abbrev k_spec_l12Keep : Nat := 95
abbrev k_slices_DeleteFunc___impl_Lock_impl_Lock_ : Nat := 96
abbrev k_slices_Clone___impl_Lock_impl_Lock_ : Nat := 97
abbrev k_impl_LocksDrop_1 : Nat := 98
abbrev k_impl_LocksOf_1 : Nat := 99
abbrev k_spec_l2Cells : Nat := 100
abbrev k_impl_written : Nat := 101
abbrev k_slices_Clone___impl_Cell_impl_Cell_ : Nat := 102
abbrev k_impl_cellFor : Nat := 103
abbrev k_spec_RangeMeet : Nat := 104
abbrev k_slices_IndexFunc___impl_Lock_impl_Lock_ : Nat := 105
abbrev k_impl_meets : Nat := 106
abbrev k_slices_DeleteFunc___impl_Cell_impl_Cell_ : Nat := 107
abbrev k_impl_within_1 : Nat := 108
abbrev k__impl_Range_has : Nat := 109
abbrev k_spec_RangeIn : Nat := 110
abbrev k_impl_put : Nat := 111
abbrev k_slices_BinarySearchFunc___impl_Cell_impl_Cell_int_ : Nat := 112
abbrev k_impl_cellFor_1 : Nat := 113
abbrev k_spec_l1Max : Nat := 114
abbrev k_slices_IndexFunc___impl_Cell_impl_Cell_ : Nat := 115
abbrev k_slices_Delete___impl_Cell_impl_Cell_ : Nat := 116
abbrev k_slices_Insert___impl_Cell_impl_Cell_ : Nat := 117
abbrev k_slices_rotateRight_impl_Cell_ : Nat := 119
abbrev k_slices_rotateLeft_impl_Cell_ : Nat := 120
abbrev k_slices_Reverse___impl_Cell_impl_Cell_ : Nat := 121
abbrev i_laws_szCellS_r0 : List RO := [
  ⟨⟨none, .mov 4 (.c (.one (.d (.int .i64 0))))⟩, 0, []⟩]

abbrev i_laws_szCellS_r1 : List RO := [
  ⟨⟨none, .mov 5 (.t 1)⟩, 0, []⟩,
  ⟨⟨none, .mov 6 (.t 0)⟩, 0, []⟩,
  ⟨⟨none, .len 7 false (.t 6)⟩, 0, []⟩,
  ⟨⟨none, .bin 8 .sub (.t 5) (.t 7)⟩, 0, []⟩,
  ⟨⟨none, .mov 1 (.t 8)⟩, 0, []⟩]

abbrev i_laws_szCellS_r2 : List RO := [
  ⟨⟨none, .mov 9 (.t 1)⟩, 0, []⟩,
  ⟨⟨none, .bin 10 .lss (.t 9) (.c (.one (.d (.int .i64 0))))⟩, 0, []⟩]

abbrev i_laws_szCellS_r3 : List RO := [
  ⟨⟨none, .mov 4 (.c (.one (.d (.int .i64 (-1)))))⟩, 0, []⟩]

abbrev i_laws_szCellS_r4 : List RO := [
  ⟨⟨none, .mov 11 (.t 1)⟩, 0, []⟩,
  ⟨⟨none, .mov 4 (.t 11)⟩, 0, []⟩]

def i_laws_szCellS : IC := (.seq (.reg i_laws_szCellS_r0)
  (.seq (.reg i_laws_szCellS_r1)
  (.seq (.seq (.reg i_laws_szCellS_r2)
  (.cond (.t 10) (.seq (.reg i_laws_szCellS_r3)
  .ret) .skip))
  (.seq (.reg i_laws_szCellS_r4)
  .ret))))

theorem i_laws_szCellS_ok : (Try.f15.body.bind fun c => toIC Try.prog 12 c []) = some (i_laws_szCellS, []) := by kernel_rfl

theorem i_laws_szCellS_fn {ds rs : List D} (hle : ds.length ≤ 12) (h : AW Try.prog 12 i_laws_szCellS (Ends [.tmp 4] rs) (init ds)) : Fn Try.prog k_laws_szCellS (lent ds) true rs :=
  Fn.intro' (by kernel_rfl) Try.func15 (by kernel_rfl) i_laws_szCellS_ok (by kernel_rfl) hle h.h

abbrev i_laws_szMove_r0 : List RO := [
  ⟨⟨none, .box 2 (.t 0)⟩, 0, []⟩,
  ⟨⟨none, .mov 4 (.c (.one (.d (.int .i64 0))))⟩, 0, []⟩]

abbrev i_laws_szMove_r1 : List RO := [
  ⟨⟨none, .faddr 5 6 (.t 2)⟩, 0, []⟩,
  ⟨⟨none, .load 6 none (.t 5)⟩, 0, []⟩,
  ⟨⟨none, .mov 7 (.t 1)⟩, 0, []⟩,
  ⟨⟨none, .callv 8 (.c (.one (.fn k_laws_szCellS []))) [(.t 6), (.t 7)]⟩, 0, []⟩,
  ⟨⟨none, .mov 1 (.t 8)⟩, 0, []⟩]

abbrev i_laws_szMove_r2 : List RO := [
  ⟨⟨none, .mov 9 (.t 1)⟩, 0, []⟩,
  ⟨⟨none, .bin 10 .lss (.t 9) (.c (.one (.d (.int .i64 0))))⟩, 0, []⟩]

abbrev i_laws_szMove_r3 : List RO := [
  ⟨⟨none, .mov 4 (.c (.one (.d (.int .i64 (-1)))))⟩, 0, []⟩]

abbrev i_laws_szMove_r4 : List RO := [
  ⟨⟨none, .mov 11 (.t 1)⟩, 0, []⟩,
  ⟨⟨none, .mov 4 (.t 11)⟩, 0, []⟩]

def i_laws_szMove : IC := (.seq (.reg i_laws_szMove_r0)
  (.seq (.reg i_laws_szMove_r1)
  (.seq (.seq (.reg i_laws_szMove_r2)
  (.cond (.t 10) (.seq (.reg i_laws_szMove_r3)
  .ret) .skip))
  (.seq (.reg i_laws_szMove_r4)
  .ret))))

theorem i_laws_szMove_ok : (Try.f23.body.bind fun c => toIC Try.prog 12 c []) = some (i_laws_szMove, []) := by kernel_rfl

theorem i_laws_szMove_fn {ds rs : List D} (hle : ds.length ≤ 12) (h : AW Try.prog 12 i_laws_szMove (Ends [.tmp 4] rs) (init ds)) : Fn Try.prog k_laws_szMove (lent ds) true rs :=
  Fn.intro' (by kernel_rfl) Try.func23 (by kernel_rfl) i_laws_szMove_ok (by kernel_rfl) hle h.h

abbrev i_laws_toCell_r0 : List RO := [
  ⟨⟨none, .box 1 (.t 0)⟩, 0, []⟩,
  ⟨⟨none, .var 2 [(.d (.int .i64 0)), (.d (.int .i64 0))]⟩, 0, []⟩]

abbrev i_laws_toCell_r1 : List RO := [
  ⟨⟨none, .var 3 [(.d (.int .i64 0)), (.d (.int .i64 0))]⟩, 0, []⟩]

abbrev i_laws_toCell_r2 : List RO := [
  ⟨⟨none, .faddr 4 0 (.t 1)⟩, 0, []⟩,
  ⟨⟨none, .load 5 none (.t 4)⟩, 0, []⟩,
  ⟨⟨none, .faddr 6 0 (.t 3)⟩, 0, []⟩,
  ⟨⟨none, .store 1 (.t 6) (.t 5)⟩, 0, []⟩]

abbrev i_laws_toCell_r3 : List RO := [
  ⟨⟨none, .faddr 7 1 (.t 1)⟩, 0, []⟩,
  ⟨⟨none, .load 8 none (.t 7)⟩, 0, []⟩,
  ⟨⟨none, .faddr 9 1 (.t 3)⟩, 0, []⟩,
  ⟨⟨none, .store 1 (.t 9) (.t 8)⟩, 0, []⟩]

abbrev i_laws_toCell_r4 : List RO := [
  ⟨⟨none, .load 10 (some 2) (.t 3)⟩, 0, []⟩,
  ⟨⟨none, .store 2 (.t 2) (.t 10)⟩, 0, []⟩]

def i_laws_toCell : IC := (.seq (.reg i_laws_toCell_r0)
  (.seq (.reg i_laws_toCell_r1)
  (.seq (.reg i_laws_toCell_r2)
  (.seq (.reg i_laws_toCell_r3)
  (.seq (.reg i_laws_toCell_r4)
  .ret)))))

theorem i_laws_toCell_ok : (Try.f60.body.bind fun c => toIC Try.prog 11 c []) = some (i_laws_toCell, []) := by kernel_rfl

theorem i_laws_toCell_fn {ds rs : List D} (hle : ds.length ≤ 11) (h : AW Try.prog 11 i_laws_toCell (Ends [.cell 2 (some 2)] rs) (init ds)) : Fn Try.prog k_laws_toCell (lent ds) true rs :=
  Fn.intro' (by kernel_rfl) Try.func60 (by kernel_rfl) i_laws_toCell_ok (by kernel_rfl) hle h.h

abbrev i_laws_toCellS_r0 : List RO := [
  ⟨⟨none, .mov 2 (.c (.one .zs))⟩, 0, []⟩]

abbrev i_laws_toCellS_r1 : List RO := [
  ⟨⟨none, .mov 5 (.t 0)⟩, 0, []⟩,
  ⟨⟨none, .len 6 false (.t 5)⟩, 0, []⟩,
  ⟨⟨none, .mksl 7 2 16 [(.int .i64 0), (.int .i64 0)] (.t 6) (.t 6)⟩, 0, []⟩,
  ⟨⟨none, .mov 3 (.t 7)⟩, 0, []⟩]

abbrev i_laws_toCellS_r2 : List RO := [
  ⟨⟨none, .mov 4 (.c (.one (.d (.int .i64 0))))⟩, 0, []⟩]

abbrev i_laws_toCellS_r3 : List RO := [
  ⟨⟨none, .mov 8 (.t 4)⟩, 0, []⟩,
  ⟨⟨none, .mov 9 (.t 0)⟩, 0, []⟩,
  ⟨⟨none, .len 10 false (.t 9)⟩, 0, []⟩,
  ⟨⟨none, .bin 11 .lss (.t 8) (.t 10)⟩, 0, []⟩]

abbrev i_laws_toCellS_r4 : List RO := [
  ⟨⟨none, .mov 14 (.t 3)⟩, 0, []⟩,
  ⟨⟨none, .mov 15 (.t 4)⟩, 0, []⟩,
  ⟨⟨none, .mov 16 (.t 0)⟩, 0, []⟩,
  ⟨⟨none, .mov 17 (.t 4)⟩, 0, []⟩,
  ⟨⟨none, .iaddr 18 2 (.t 16) (.t 17)⟩, 0, []⟩,
  ⟨⟨none, .load 19 (some 2) (.t 18)⟩, 0, []⟩,
  ⟨⟨none, .callv 20 (.c (.one (.fn k_laws_toCell []))) [(.t 19)]⟩, 0, []⟩,
  ⟨⟨none, .iaddr 21 2 (.t 14) (.t 15)⟩, 0, []⟩,
  ⟨⟨none, .store 2 (.t 21) (.t 20)⟩, 0, []⟩]

abbrev i_laws_toCellS_r5 : List RO := [
  ⟨⟨none, .mov 12 (.t 4)⟩, 0, []⟩,
  ⟨⟨none, .bin 13 .add (.t 12) (.c (.one (.d (.int .i64 1))))⟩, 0, []⟩,
  ⟨⟨none, .mov 4 (.t 13)⟩, 0, []⟩]

abbrev i_laws_toCellS_r6 : List RO := [
  ⟨⟨none, .mov 22 (.t 3)⟩, 0, []⟩,
  ⟨⟨none, .mov 2 (.t 22)⟩, 0, []⟩]

def i_laws_toCellS : IC := (.seq (.reg i_laws_toCellS_r0)
  (.seq (.reg i_laws_toCellS_r1)
  (.seq (.seq (.reg i_laws_toCellS_r2)
  (.block 0 (.loop (.seq (.seq (.reg i_laws_toCellS_r3)
  (.cond (.t 11) .skip (.exit 0)))
  (.seq (.block 1 (.reg i_laws_toCellS_r4))
  (.reg i_laws_toCellS_r5))))))
  (.seq (.reg i_laws_toCellS_r6)
  .ret))))

theorem i_laws_toCellS_ok : (Try.f17.body.bind fun c => toIC Try.prog 23 c []) = some (i_laws_toCellS, []) := by kernel_rfl

theorem i_laws_toCellS_fn {ds rs : List D} (hle : ds.length ≤ 23) (h : AW Try.prog 23 i_laws_toCellS (Ends [.tmp 2] rs) (init ds)) : Fn Try.prog k_laws_toCellS (lent ds) true rs :=
  Fn.intro' (by kernel_rfl) Try.func17 (by kernel_rfl) i_laws_toCellS_ok (by kernel_rfl) hle h.h

abbrev i_laws_toMove_r0 : List RO := [
  ⟨⟨none, .box 1 (.t 0)⟩, 0, []⟩,
  ⟨⟨none, .var 2 [(.d (.int .i64 0)), (.d (.int .i64 0)), (.d (.int .i64 0)), (.d (.int .i64 0)), (.d (.int .i64 0)), (.d (.int .i64 0)), .zs]⟩, 0, []⟩]

abbrev i_laws_toMove_r1 : List RO := [
  ⟨⟨none, .var 3 [(.d (.int .i64 0)), (.d (.int .i64 0)), (.d (.int .i64 0)), (.d (.int .i64 0)), (.d (.int .i64 0)), (.d (.int .i64 0)), .zs]⟩, 0, []⟩]

abbrev i_laws_toMove_r2 : List RO := [
  ⟨⟨none, .faddr 4 0 (.t 1)⟩, 0, []⟩,
  ⟨⟨none, .load 5 none (.t 4)⟩, 0, []⟩,
  ⟨⟨none, .faddr 6 0 (.t 3)⟩, 0, []⟩,
  ⟨⟨none, .store 1 (.t 6) (.t 5)⟩, 0, []⟩]

abbrev i_laws_toMove_r3 : List RO := [
  ⟨⟨none, .faddr 7 1 (.t 1)⟩, 0, []⟩,
  ⟨⟨none, .load 8 none (.t 7)⟩, 0, []⟩,
  ⟨⟨none, .faddr 9 1 (.t 3)⟩, 0, []⟩,
  ⟨⟨none, .store 1 (.t 9) (.t 8)⟩, 0, []⟩]

abbrev i_laws_toMove_r4 : List RO := [
  ⟨⟨none, .faddr 10 2 (.t 1)⟩, 0, []⟩,
  ⟨⟨none, .load 11 none (.t 10)⟩, 0, []⟩,
  ⟨⟨none, .faddr 12 2 (.t 3)⟩, 0, []⟩,
  ⟨⟨none, .store 1 (.t 12) (.t 11)⟩, 0, []⟩]

abbrev i_laws_toMove_r5 : List RO := [
  ⟨⟨none, .faddr 13 3 (.t 1)⟩, 0, []⟩,
  ⟨⟨none, .load 14 none (.t 13)⟩, 0, []⟩,
  ⟨⟨none, .faddr 15 3 (.t 3)⟩, 0, []⟩,
  ⟨⟨none, .store 1 (.t 15) (.t 14)⟩, 0, []⟩]

abbrev i_laws_toMove_r6 : List RO := [
  ⟨⟨none, .faddr 16 4 (.t 1)⟩, 0, []⟩,
  ⟨⟨none, .load 17 none (.t 16)⟩, 0, []⟩,
  ⟨⟨none, .faddr 18 4 (.t 3)⟩, 0, []⟩,
  ⟨⟨none, .store 1 (.t 18) (.t 17)⟩, 0, []⟩]

abbrev i_laws_toMove_r7 : List RO := [
  ⟨⟨none, .faddr 19 5 (.t 1)⟩, 0, []⟩,
  ⟨⟨none, .load 20 none (.t 19)⟩, 0, []⟩,
  ⟨⟨none, .faddr 21 5 (.t 3)⟩, 0, []⟩,
  ⟨⟨none, .store 1 (.t 21) (.t 20)⟩, 0, []⟩]

abbrev i_laws_toMove_r8 : List RO := [
  ⟨⟨none, .faddr 22 6 (.t 1)⟩, 0, []⟩,
  ⟨⟨none, .load 23 none (.t 22)⟩, 0, []⟩,
  ⟨⟨none, .callv 24 (.c (.one (.fn k_laws_toCellS []))) [(.t 23)]⟩, 0, []⟩,
  ⟨⟨none, .faddr 25 6 (.t 3)⟩, 0, []⟩,
  ⟨⟨none, .store 1 (.t 25) (.t 24)⟩, 0, []⟩]

abbrev i_laws_toMove_r9 : List RO := [
  ⟨⟨none, .load 26 (some 7) (.t 3)⟩, 0, []⟩,
  ⟨⟨none, .store 7 (.t 2) (.t 26)⟩, 0, []⟩]

def i_laws_toMove : IC := (.seq (.reg i_laws_toMove_r0)
  (.seq (.reg i_laws_toMove_r1)
  (.seq (.reg i_laws_toMove_r2)
  (.seq (.reg i_laws_toMove_r3)
  (.seq (.reg i_laws_toMove_r4)
  (.seq (.reg i_laws_toMove_r5)
  (.seq (.reg i_laws_toMove_r6)
  (.seq (.reg i_laws_toMove_r7)
  (.seq (.reg i_laws_toMove_r8)
  (.seq (.reg i_laws_toMove_r9)
  .ret))))))))))

theorem i_laws_toMove_ok : (Try.f25.body.bind fun c => toIC Try.prog 27 c []) = some (i_laws_toMove, []) := by kernel_rfl

theorem i_laws_toMove_fn {ds rs : List D} (hle : ds.length ≤ 27) (h : AW Try.prog 27 i_laws_toMove (Ends [.cell 2 (some 7)] rs) (init ds)) : Fn Try.prog k_laws_toMove (lent ds) true rs :=
  Fn.intro' (by kernel_rfl) Try.func25 (by kernel_rfl) i_laws_toMove_ok (by kernel_rfl) hle h.h

abbrev i_spec_l1In_r0 : List RO := [
  ⟨⟨none, .mov 6 (.c (.one (.d (.bool false))))⟩, 0, []⟩]

abbrev i_spec_l1In_r1 : List RO := [
  ⟨⟨none, .mov 7 (.t 0)⟩, 0, []⟩,
  ⟨⟨none, .mov 8 (.t 1)⟩, 0, []⟩,
  ⟨⟨none, .bin 9 .geq (.t 7) (.t 8)⟩, 0, []⟩,
  ⟨⟨none, .mov 10 (.t 9)⟩, 0, []⟩,
  ⟨⟨some (10, true), .mov 11 (.t 0)⟩, 0, []⟩,
  ⟨⟨some (10, true), .mov 12 (.t 2)⟩, 0, []⟩,
  ⟨⟨some (10, true), .bin 13 .leq (.t 11) (.t 12)⟩, 0, []⟩,
  ⟨⟨none, .pick 14 (.t 10) (.t 13) (.c (.one (.d (.bool false))))⟩, 0, []⟩,
  ⟨⟨none, .mov 6 (.t 14)⟩, 0, []⟩]

def i_spec_l1In : IC := (.seq (.reg i_spec_l1In_r0)
  (.seq (.reg i_spec_l1In_r1)
  .ret))

theorem i_spec_l1In_ok : (Try.f64.body.bind fun c => toIC Try.prog 15 c []) = some (i_spec_l1In, []) := by kernel_rfl

theorem i_spec_l1In_fn {ds rs : List D} (hle : ds.length ≤ 15) (h : AW Try.prog 15 i_spec_l1In (Ends [.tmp 6] rs) (init ds)) : Fn Try.prog k_spec_l1In (lent ds) true rs :=
  Fn.intro' (by kernel_rfl) Try.func64 (by kernel_rfl) i_spec_l1In_ok (by kernel_rfl) hle h.h

abbrev i_spec_l1Min_r0 : List RO := [
  ⟨⟨none, .mov 4 (.c (.one (.d (.int .i64 0))))⟩, 0, []⟩]

abbrev i_spec_l1Min_r1 : List RO := [
  ⟨⟨none, .mov 5 (.t 0)⟩, 0, []⟩,
  ⟨⟨none, .mov 6 (.t 1)⟩, 0, []⟩,
  ⟨⟨none, .bin 7 .lss (.t 5) (.t 6)⟩, 0, []⟩]

abbrev i_spec_l1Min_r2 : List RO := [
  ⟨⟨none, .mov 8 (.t 0)⟩, 0, []⟩,
  ⟨⟨none, .mov 4 (.t 8)⟩, 0, []⟩]

abbrev i_spec_l1Min_r3 : List RO := [
  ⟨⟨none, .mov 9 (.t 1)⟩, 0, []⟩,
  ⟨⟨none, .mov 4 (.t 9)⟩, 0, []⟩]

def i_spec_l1Min : IC := (.seq (.reg i_spec_l1Min_r0)
  (.seq (.seq (.reg i_spec_l1Min_r1)
  (.cond (.t 7) (.seq (.reg i_spec_l1Min_r2)
  .ret) .skip))
  (.seq (.reg i_spec_l1Min_r3)
  .ret)))

theorem i_spec_l1Min_ok : (Try.f73.body.bind fun c => toIC Try.prog 10 c []) = some (i_spec_l1Min, []) := by kernel_rfl

theorem i_spec_l1Min_fn {ds rs : List D} (hle : ds.length ≤ 10) (h : AW Try.prog 10 i_spec_l1Min (Ends [.tmp 4] rs) (init ds)) : Fn Try.prog k_spec_l1Min (lent ds) true rs :=
  Fn.intro' (by kernel_rfl) Try.func73 (by kernel_rfl) i_spec_l1Min_ok (by kernel_rfl) hle h.h

abbrev i_spec_MoveRank_r0 : List RO := [
  ⟨⟨none, .box 1 (.t 0)⟩, 0, []⟩,
  ⟨⟨none, .mov 2 (.c (.one (.d (.int .i64 0))))⟩, 0, []⟩]

abbrev i_spec_MoveRank_r1 : List RO := [
  ⟨⟨none, .faddr 3 0 (.t 1)⟩, 0, []⟩,
  ⟨⟨none, .load 4 none (.t 3)⟩, 0, []⟩,
  ⟨⟨none, .callv 5 (.c (.one (.fn k_spec_l1In []))) [(.t 4), (.c (.one (.d (.int .i64 1)))), (.c (.one (.d (.int .i64 300000))))]⟩, 0, []⟩,
  ⟨⟨none, .inv 6 (.t 5)⟩, 0, []⟩,
  ⟨⟨none, .mov 7 (.t 6)⟩, 0, []⟩,
  ⟨⟨some (7, false), .faddr 8 1 (.t 1)⟩, 0, []⟩,
  ⟨⟨some (7, false), .load 9 none (.t 8)⟩, 0, []⟩,
  ⟨⟨some (7, false), .callv 10 (.c (.one (.fn k_spec_l1In []))) [(.t 9), (.c (.one (.d (.int .i64 1)))), (.c (.one (.d (.int .i64 4))))]⟩, 0, []⟩,
  ⟨⟨some (7, false), .inv 11 (.t 10)⟩, 0, []⟩,
  ⟨⟨none, .pick 12 (.t 7) (.c (.one (.d (.bool true)))) (.t 11)⟩, 0, []⟩]

abbrev i_spec_MoveRank_r2 : List RO := [
  ⟨⟨none, .mov 2 (.c (.one (.d (.int .i64 0))))⟩, 0, []⟩]

abbrev i_spec_MoveRank_r3 : List RO := [
  ⟨⟨none, .faddr 13 0 (.t 1)⟩, 0, []⟩,
  ⟨⟨none, .load 14 none (.t 13)⟩, 1, [19]⟩,
  ⟨⟨none, .bin 15 .sub (.t 14) (.c (.one (.d (.int .i64 1))))⟩, 3, []⟩,
  ⟨⟨none, .bin 16 .mul (.c (.one (.d (.int .i64 3)))) (.t 15)⟩, 7, []⟩,
  ⟨⟨none, .faddr 17 1 (.t 1)⟩, 0, []⟩,
  ⟨⟨none, .load 18 none (.t 17)⟩, 16, []⟩,
  ⟨⟨none, .callv 19 (.c (.one (.fn k_spec_l1Min []))) [(.t 18), (.c (.one (.d (.int .i64 3))))]⟩, 48, []⟩,
  ⟨⟨none, .bin 20 .add (.t 16) (.t 19)⟩, 127, []⟩,
  ⟨⟨none, .mov 2 (.t 20)⟩, 255, []⟩]

def i_spec_MoveRank : IC := (.seq (.reg i_spec_MoveRank_r0)
  (.seq (.seq (.reg i_spec_MoveRank_r1)
  (.cond (.t 12) (.seq (.reg i_spec_MoveRank_r2)
  .ret) .skip))
  (.seq (.regd i_spec_MoveRank_r3)
  .ret)))

theorem i_spec_MoveRank_ok : (Try.f24.body.bind fun c => toIC Try.prog 21 c [[(0, []), (1, [19]), (3, []), (7, []), (0, []), (16, []), (48, []), (127, []), (255, [])]]) = some (i_spec_MoveRank, []) := by kernel_rfl

theorem i_spec_MoveRank_fn {ds rs : List D} (hle : ds.length ≤ 21) (h : AW Try.prog 21 i_spec_MoveRank (Ends [.tmp 2] rs) (init ds)) : Fn Try.prog k_spec_MoveRank (lent ds) true rs :=
  Fn.intro' (by kernel_rfl) Try.func24 (by kernel_rfl) i_spec_MoveRank_ok (by kernel_rfl) hle h.h

abbrev i_impl_from_r0 : List RO := [
  ⟨⟨none, .mov 6 (.c (.one (.d (.bool false))))⟩, 0, []⟩]

abbrev i_impl_from_r1 : List RO := [
  ⟨⟨none, .mov 7 (.t 0)⟩, 0, []⟩,
  ⟨⟨none, .mov 8 (.t 1)⟩, 0, []⟩,
  ⟨⟨none, .bin 9 .geq (.t 7) (.t 8)⟩, 0, []⟩,
  ⟨⟨none, .mov 10 (.t 9)⟩, 0, []⟩,
  ⟨⟨some (10, true), .mov 11 (.t 0)⟩, 0, []⟩,
  ⟨⟨some (10, true), .mov 12 (.t 2)⟩, 0, []⟩,
  ⟨⟨some (10, true), .bin 13 .leq (.t 11) (.t 12)⟩, 0, []⟩,
  ⟨⟨none, .pick 14 (.t 10) (.t 13) (.c (.one (.d (.bool false))))⟩, 0, []⟩,
  ⟨⟨none, .mov 6 (.t 14)⟩, 0, []⟩]

def i_impl_from : IC := (.seq (.reg i_impl_from_r0)
  (.seq (.reg i_impl_from_r1)
  .ret))

theorem i_impl_from_ok : (Try.f68.body.bind fun c => toIC Try.prog 15 c []) = some (i_impl_from, []) := by kernel_rfl

theorem i_impl_from_fn {ds rs : List D} (hle : ds.length ≤ 15) (h : AW Try.prog 15 i_impl_from (Ends [.tmp 6] rs) (init ds)) : Fn Try.prog k_impl_from (lent ds) true rs :=
  Fn.intro' (by kernel_rfl) Try.func68 (by kernel_rfl) i_impl_from_ok (by kernel_rfl) hle h.h

abbrev i_impl_MoveRank_r0 : List RO := [
  ⟨⟨none, .box 1 (.t 0)⟩, 0, []⟩,
  ⟨⟨none, .mov 2 (.c (.one (.d (.int .i64 0))))⟩, 0, []⟩]

abbrev i_impl_MoveRank_r1 : List RO := [
  ⟨⟨none, .faddr 3 0 (.t 1)⟩, 0, []⟩,
  ⟨⟨none, .load 4 none (.t 3)⟩, 0, []⟩,
  ⟨⟨none, .callv 5 (.c (.one (.fn k_impl_from []))) [(.t 4), (.c (.one (.d (.int .i64 1)))), (.c (.one (.d (.int .i64 300000))))]⟩, 0, []⟩,
  ⟨⟨none, .inv 6 (.t 5)⟩, 0, []⟩,
  ⟨⟨none, .mov 7 (.t 6)⟩, 0, []⟩,
  ⟨⟨some (7, false), .faddr 8 1 (.t 1)⟩, 0, []⟩,
  ⟨⟨some (7, false), .load 9 none (.t 8)⟩, 0, []⟩,
  ⟨⟨some (7, false), .callv 10 (.c (.one (.fn k_impl_from []))) [(.t 9), (.c (.one (.d (.int .i64 1)))), (.c (.one (.d (.int .i64 4))))]⟩, 0, []⟩,
  ⟨⟨some (7, false), .inv 11 (.t 10)⟩, 0, []⟩,
  ⟨⟨none, .pick 12 (.t 7) (.c (.one (.d (.bool true)))) (.t 11)⟩, 0, []⟩]

abbrev i_impl_MoveRank_r2 : List RO := [
  ⟨⟨none, .mov 2 (.c (.one (.d (.int .i64 0))))⟩, 0, []⟩]

abbrev i_impl_MoveRank_r3 : List RO := [
  ⟨⟨none, .faddr 13 0 (.t 1)⟩, 0, []⟩,
  ⟨⟨none, .load 14 none (.t 13)⟩, 0, []⟩,
  ⟨⟨none, .bin 15 .sub (.t 14) (.c (.one (.d (.int .i64 1))))⟩, 0, []⟩,
  ⟨⟨none, .bin 16 .mul (.c (.one (.d (.int .i64 3)))) (.t 15)⟩, 0, []⟩,
  ⟨⟨none, .faddr 17 1 (.t 1)⟩, 0, []⟩,
  ⟨⟨none, .load 18 none (.t 17)⟩, 0, []⟩,
  ⟨⟨none, .mm 19 false (.t 18) (.c (.one (.d (.int .i64 3))))⟩, 0, []⟩,
  ⟨⟨none, .bin 20 .add (.t 16) (.t 19)⟩, 0, []⟩,
  ⟨⟨none, .mov 2 (.t 20)⟩, 0, []⟩]

def i_impl_MoveRank : IC := (.seq (.reg i_impl_MoveRank_r0)
  (.seq (.seq (.reg i_impl_MoveRank_r1)
  (.cond (.t 12) (.seq (.reg i_impl_MoveRank_r2)
  .ret) .skip))
  (.seq (.reg i_impl_MoveRank_r3)
  .ret)))

theorem i_impl_MoveRank_ok : (Try.f26.body.bind fun c => toIC Try.prog 21 c []) = some (i_impl_MoveRank, []) := by kernel_rfl

theorem i_impl_MoveRank_fn {ds rs : List D} (hle : ds.length ≤ 21) (h : AW Try.prog 21 i_impl_MoveRank (Ends [.tmp 2] rs) (init ds)) : Fn Try.prog k_impl_MoveRank (lent ds) true rs :=
  Fn.intro' (by kernel_rfl) Try.func26 (by kernel_rfl) i_impl_MoveRank_ok (by kernel_rfl) hle h.h

abbrev i_laws_eqCell_r0 : List RO := [
  ⟨⟨none, .box 2 (.t 0)⟩, 0, []⟩,
  ⟨⟨none, .box 3 (.t 1)⟩, 0, []⟩,
  ⟨⟨none, .mov 4 (.c (.one (.d (.bool false))))⟩, 0, []⟩]

abbrev i_laws_eqCell_r1 : List RO := [
  ⟨⟨none, .faddr 5 0 (.t 2)⟩, 0, []⟩,
  ⟨⟨none, .load 6 none (.t 5)⟩, 0, []⟩,
  ⟨⟨none, .faddr 7 0 (.t 3)⟩, 0, []⟩,
  ⟨⟨none, .load 8 none (.t 7)⟩, 0, []⟩,
  ⟨⟨none, .bin 9 .neq (.t 6) (.t 8)⟩, 0, []⟩]

abbrev i_laws_eqCell_r2 : List RO := [
  ⟨⟨none, .mov 4 (.c (.one (.d (.bool false))))⟩, 0, []⟩]

abbrev i_laws_eqCell_r3 : List RO := [
  ⟨⟨none, .faddr 10 1 (.t 2)⟩, 0, []⟩,
  ⟨⟨none, .load 11 none (.t 10)⟩, 0, []⟩,
  ⟨⟨none, .faddr 12 1 (.t 3)⟩, 0, []⟩,
  ⟨⟨none, .load 13 none (.t 12)⟩, 0, []⟩,
  ⟨⟨none, .bin 14 .neq (.t 11) (.t 13)⟩, 0, []⟩]

abbrev i_laws_eqCell_r4 : List RO := [
  ⟨⟨none, .mov 4 (.c (.one (.d (.bool false))))⟩, 0, []⟩]

abbrev i_laws_eqCell_r5 : List RO := [
  ⟨⟨none, .mov 4 (.c (.one (.d (.bool true))))⟩, 0, []⟩]

def i_laws_eqCell : IC := (.seq (.reg i_laws_eqCell_r0)
  (.seq (.seq (.reg i_laws_eqCell_r1)
  (.cond (.t 9) (.seq (.reg i_laws_eqCell_r2)
  .ret) .skip))
  (.seq (.seq (.reg i_laws_eqCell_r3)
  (.cond (.t 14) (.seq (.reg i_laws_eqCell_r4)
  .ret) .skip))
  (.seq (.reg i_laws_eqCell_r5)
  .ret))))

theorem i_laws_eqCell_ok : (Try.f63.body.bind fun c => toIC Try.prog 15 c []) = some (i_laws_eqCell, []) := by kernel_rfl

theorem i_laws_eqCell_fn {ds rs : List D} (hle : ds.length ≤ 15) (h : AW Try.prog 15 i_laws_eqCell (Ends [.tmp 4] rs) (init ds)) : Fn Try.prog k_laws_eqCell (lent ds) true rs :=
  Fn.intro' (by kernel_rfl) Try.func63 (by kernel_rfl) i_laws_eqCell_ok (by kernel_rfl) hle h.h

abbrev i_laws_eqCellS_r0 : List RO := [
  ⟨⟨none, .mov 4 (.c (.one (.d (.bool false))))⟩, 0, []⟩]

abbrev i_laws_eqCellS_r1 : List RO := [
  ⟨⟨none, .mov 6 (.t 0)⟩, 0, []⟩,
  ⟨⟨none, .len 7 false (.t 6)⟩, 0, []⟩,
  ⟨⟨none, .mov 8 (.t 1)⟩, 0, []⟩,
  ⟨⟨none, .len 9 false (.t 8)⟩, 0, []⟩,
  ⟨⟨none, .bin 10 .neq (.t 7) (.t 9)⟩, 0, []⟩]

abbrev i_laws_eqCellS_r2 : List RO := [
  ⟨⟨none, .mov 4 (.c (.one (.d (.bool false))))⟩, 0, []⟩]

abbrev i_laws_eqCellS_r3 : List RO := [
  ⟨⟨none, .mov 5 (.c (.one (.d (.int .i64 0))))⟩, 0, []⟩]

abbrev i_laws_eqCellS_r4 : List RO := [
  ⟨⟨none, .mov 11 (.t 5)⟩, 0, []⟩,
  ⟨⟨none, .mov 12 (.t 0)⟩, 0, []⟩,
  ⟨⟨none, .len 13 false (.t 12)⟩, 0, []⟩,
  ⟨⟨none, .bin 14 .lss (.t 11) (.t 13)⟩, 0, []⟩]

abbrev i_laws_eqCellS_r5 : List RO := [
  ⟨⟨none, .mov 17 (.t 0)⟩, 0, []⟩,
  ⟨⟨none, .mov 18 (.t 5)⟩, 0, []⟩,
  ⟨⟨none, .iaddr 19 2 (.t 17) (.t 18)⟩, 3, []⟩,
  ⟨⟨none, .load 20 (some 2) (.t 19)⟩, 7, []⟩,
  ⟨⟨none, .mov 21 (.t 1)⟩, 0, []⟩,
  ⟨⟨none, .mov 22 (.t 5)⟩, 0, []⟩,
  ⟨⟨none, .iaddr 23 2 (.t 21) (.t 22)⟩, 48, []⟩,
  ⟨⟨none, .load 24 (some 2) (.t 23)⟩, 112, []⟩,
  ⟨⟨none, .callv 25 (.c (.one (.fn k_laws_eqCell []))) [(.t 20), (.t 24)]⟩, 255, []⟩,
  ⟨⟨none, .inv 26 (.t 25)⟩, 511, []⟩]

abbrev i_laws_eqCellS_r6 : List RO := [
  ⟨⟨none, .mov 4 (.c (.one (.d (.bool false))))⟩, 0, []⟩]

abbrev i_laws_eqCellS_r7 : List RO := [
  ⟨⟨none, .mov 15 (.t 5)⟩, 0, []⟩,
  ⟨⟨none, .bin 16 .add (.t 15) (.c (.one (.d (.int .i64 1))))⟩, 0, []⟩,
  ⟨⟨none, .mov 5 (.t 16)⟩, 0, []⟩]

abbrev i_laws_eqCellS_r8 : List RO := [
  ⟨⟨none, .mov 4 (.c (.one (.d (.bool true))))⟩, 0, []⟩]

def i_laws_eqCellS : IC := (.seq (.reg i_laws_eqCellS_r0)
  (.seq (.seq (.reg i_laws_eqCellS_r1)
  (.cond (.t 10) (.seq (.reg i_laws_eqCellS_r2)
  .ret) .skip))
  (.seq (.seq (.reg i_laws_eqCellS_r3)
  (.block 0 (.loop (.seq (.seq (.reg i_laws_eqCellS_r4)
  (.cond (.t 14) .skip (.exit 0)))
  (.seq (.block 1 (.seq (.regd i_laws_eqCellS_r5)
  (.cond (.t 26) (.seq (.reg i_laws_eqCellS_r6)
  .ret) .skip)))
  (.reg i_laws_eqCellS_r7))))))
  (.seq (.reg i_laws_eqCellS_r8)
  .ret))))

theorem i_laws_eqCellS_ok : (Try.f19.body.bind fun c => toIC Try.prog 27 c [[(0, []), (0, []), (3, []), (7, []), (0, []), (0, []), (48, []), (112, []), (255, []), (511, [])]]) = some (i_laws_eqCellS, []) := by kernel_rfl

theorem i_laws_eqCellS_fn {ds rs : List D} (hle : ds.length ≤ 27) (h : AW Try.prog 27 i_laws_eqCellS (Ends [.tmp 4] rs) (init ds)) : Fn Try.prog k_laws_eqCellS (lent ds) true rs :=
  Fn.intro' (by kernel_rfl) Try.func19 (by kernel_rfl) i_laws_eqCellS_ok (by kernel_rfl) hle h.h

abbrev i_laws_eqMove_r0 : List RO := [
  ⟨⟨none, .box 2 (.t 0)⟩, 0, []⟩,
  ⟨⟨none, .box 3 (.t 1)⟩, 0, []⟩,
  ⟨⟨none, .mov 4 (.c (.one (.d (.bool false))))⟩, 0, []⟩]

abbrev i_laws_eqMove_r1 : List RO := [
  ⟨⟨none, .faddr 5 0 (.t 2)⟩, 0, []⟩,
  ⟨⟨none, .load 6 none (.t 5)⟩, 0, []⟩,
  ⟨⟨none, .faddr 7 0 (.t 3)⟩, 0, []⟩,
  ⟨⟨none, .load 8 none (.t 7)⟩, 0, []⟩,
  ⟨⟨none, .bin 9 .neq (.t 6) (.t 8)⟩, 0, []⟩]

abbrev i_laws_eqMove_r2 : List RO := [
  ⟨⟨none, .mov 4 (.c (.one (.d (.bool false))))⟩, 0, []⟩]

abbrev i_laws_eqMove_r3 : List RO := [
  ⟨⟨none, .faddr 10 1 (.t 2)⟩, 0, []⟩,
  ⟨⟨none, .load 11 none (.t 10)⟩, 0, []⟩,
  ⟨⟨none, .faddr 12 1 (.t 3)⟩, 0, []⟩,
  ⟨⟨none, .load 13 none (.t 12)⟩, 0, []⟩,
  ⟨⟨none, .bin 14 .neq (.t 11) (.t 13)⟩, 0, []⟩]

abbrev i_laws_eqMove_r4 : List RO := [
  ⟨⟨none, .mov 4 (.c (.one (.d (.bool false))))⟩, 0, []⟩]

abbrev i_laws_eqMove_r5 : List RO := [
  ⟨⟨none, .faddr 15 2 (.t 2)⟩, 0, []⟩,
  ⟨⟨none, .load 16 none (.t 15)⟩, 0, []⟩,
  ⟨⟨none, .faddr 17 2 (.t 3)⟩, 0, []⟩,
  ⟨⟨none, .load 18 none (.t 17)⟩, 0, []⟩,
  ⟨⟨none, .bin 19 .neq (.t 16) (.t 18)⟩, 0, []⟩]

abbrev i_laws_eqMove_r6 : List RO := [
  ⟨⟨none, .mov 4 (.c (.one (.d (.bool false))))⟩, 0, []⟩]

abbrev i_laws_eqMove_r7 : List RO := [
  ⟨⟨none, .faddr 20 3 (.t 2)⟩, 0, []⟩,
  ⟨⟨none, .load 21 none (.t 20)⟩, 0, []⟩,
  ⟨⟨none, .faddr 22 3 (.t 3)⟩, 0, []⟩,
  ⟨⟨none, .load 23 none (.t 22)⟩, 0, []⟩,
  ⟨⟨none, .bin 24 .neq (.t 21) (.t 23)⟩, 0, []⟩]

abbrev i_laws_eqMove_r8 : List RO := [
  ⟨⟨none, .mov 4 (.c (.one (.d (.bool false))))⟩, 0, []⟩]

abbrev i_laws_eqMove_r9 : List RO := [
  ⟨⟨none, .faddr 25 4 (.t 2)⟩, 0, []⟩,
  ⟨⟨none, .load 26 none (.t 25)⟩, 0, []⟩,
  ⟨⟨none, .faddr 27 4 (.t 3)⟩, 0, []⟩,
  ⟨⟨none, .load 28 none (.t 27)⟩, 0, []⟩,
  ⟨⟨none, .bin 29 .neq (.t 26) (.t 28)⟩, 0, []⟩]

abbrev i_laws_eqMove_r10 : List RO := [
  ⟨⟨none, .mov 4 (.c (.one (.d (.bool false))))⟩, 0, []⟩]

abbrev i_laws_eqMove_r11 : List RO := [
  ⟨⟨none, .faddr 30 5 (.t 2)⟩, 0, []⟩,
  ⟨⟨none, .load 31 none (.t 30)⟩, 0, []⟩,
  ⟨⟨none, .faddr 32 5 (.t 3)⟩, 0, []⟩,
  ⟨⟨none, .load 33 none (.t 32)⟩, 0, []⟩,
  ⟨⟨none, .bin 34 .neq (.t 31) (.t 33)⟩, 0, []⟩]

abbrev i_laws_eqMove_r12 : List RO := [
  ⟨⟨none, .mov 4 (.c (.one (.d (.bool false))))⟩, 0, []⟩]

abbrev i_laws_eqMove_r13 : List RO := [
  ⟨⟨none, .faddr 35 6 (.t 2)⟩, 0, []⟩,
  ⟨⟨none, .load 36 none (.t 35)⟩, 0, []⟩,
  ⟨⟨none, .faddr 37 6 (.t 3)⟩, 0, []⟩,
  ⟨⟨none, .load 38 none (.t 37)⟩, 0, []⟩,
  ⟨⟨none, .callv 39 (.c (.one (.fn k_laws_eqCellS []))) [(.t 36), (.t 38)]⟩, 0, []⟩,
  ⟨⟨none, .inv 40 (.t 39)⟩, 0, []⟩]

abbrev i_laws_eqMove_r14 : List RO := [
  ⟨⟨none, .mov 4 (.c (.one (.d (.bool false))))⟩, 0, []⟩]

abbrev i_laws_eqMove_r15 : List RO := [
  ⟨⟨none, .mov 4 (.c (.one (.d (.bool true))))⟩, 0, []⟩]

def i_laws_eqMove : IC := (.seq (.reg i_laws_eqMove_r0)
  (.seq (.seq (.reg i_laws_eqMove_r1)
  (.cond (.t 9) (.seq (.reg i_laws_eqMove_r2)
  .ret) .skip))
  (.seq (.seq (.reg i_laws_eqMove_r3)
  (.cond (.t 14) (.seq (.reg i_laws_eqMove_r4)
  .ret) .skip))
  (.seq (.seq (.reg i_laws_eqMove_r5)
  (.cond (.t 19) (.seq (.reg i_laws_eqMove_r6)
  .ret) .skip))
  (.seq (.seq (.reg i_laws_eqMove_r7)
  (.cond (.t 24) (.seq (.reg i_laws_eqMove_r8)
  .ret) .skip))
  (.seq (.seq (.reg i_laws_eqMove_r9)
  (.cond (.t 29) (.seq (.reg i_laws_eqMove_r10)
  .ret) .skip))
  (.seq (.seq (.reg i_laws_eqMove_r11)
  (.cond (.t 34) (.seq (.reg i_laws_eqMove_r12)
  .ret) .skip))
  (.seq (.seq (.reg i_laws_eqMove_r13)
  (.cond (.t 40) (.seq (.reg i_laws_eqMove_r14)
  .ret) .skip))
  (.seq (.reg i_laws_eqMove_r15)
  .ret)))))))))

theorem i_laws_eqMove_ok : (Try.f27.body.bind fun c => toIC Try.prog 41 c []) = some (i_laws_eqMove, []) := by kernel_rfl

theorem i_laws_eqMove_fn {ds rs : List D} (hle : ds.length ≤ 41) (h : AW Try.prog 41 i_laws_eqMove (Ends [.tmp 4] rs) (init ds)) : Fn Try.prog k_laws_eqMove (lent ds) true rs :=
  Fn.intro' (by kernel_rfl) Try.func27 (by kernel_rfl) i_laws_eqMove_ok (by kernel_rfl) hle h.h

abbrev i_laws_FnExactMoveRank_r0 : List RO := [
  ⟨⟨none, .box 1 (.t 0)⟩, 0, []⟩,
  ⟨⟨none, .mov 2 (.c (.one (.d (.bool false))))⟩, 0, []⟩]

abbrev i_laws_FnExactMoveRank_r1 : List RO := [
  ⟨⟨none, .mov 3 (.c (.one (.d (.int .i64 1048576))))⟩, 0, []⟩]

abbrev i_laws_FnExactMoveRank_r2 : List RO := [
  ⟨⟨none, .load 7 (some 7) (.t 1)⟩, 0, []⟩,
  ⟨⟨none, .mov 8 (.t 3)⟩, 0, []⟩,
  ⟨⟨none, .callv 9 (.c (.one (.fn k_laws_szMove []))) [(.t 7), (.t 8)]⟩, 0, []⟩,
  ⟨⟨none, .mov 3 (.t 9)⟩, 0, []⟩]

abbrev i_laws_FnExactMoveRank_r3 : List RO := [
  ⟨⟨none, .mov 10 (.t 3)⟩, 0, []⟩,
  ⟨⟨none, .bin 11 .lss (.t 10) (.c (.one (.d (.int .i64 0))))⟩, 0, []⟩]

abbrev i_laws_FnExactMoveRank_r4 : List RO := [
  ⟨⟨none, .mov 2 (.c (.one (.d (.bool true))))⟩, 0, []⟩]

abbrev i_laws_FnExactMoveRank_r5 : List RO := [
  ⟨⟨none, .load 12 (some 7) (.t 1)⟩, 0, []⟩,
  ⟨⟨none, .callv 13 (.c (.one (.fn k_laws_toMove []))) [(.t 12)]⟩, 0, []⟩,
  ⟨⟨none, .callv 14 (.c (.one (.fn k_spec_MoveRank []))) [(.t 13)]⟩, 0, []⟩,
  ⟨⟨none, .mov 4 (.t 14)⟩, 0, []⟩]

abbrev i_laws_FnExactMoveRank_r6 : List RO := [
  ⟨⟨none, .load 15 (some 7) (.t 1)⟩, 0, []⟩,
  ⟨⟨none, .callv 16 (.c (.one (.fn k_laws_toMove []))) [(.t 15)]⟩, 0, []⟩,
  ⟨⟨none, .var 5 [(.d (.int .i64 0)), (.d (.int .i64 0)), (.d (.int .i64 0)), (.d (.int .i64 0)), (.d (.int .i64 0)), (.d (.int .i64 0)), .zs]⟩, 0, []⟩,
  ⟨⟨none, .store 7 (.t 5) (.t 16)⟩, 0, []⟩]

abbrev i_laws_FnExactMoveRank_r7 : List RO := [
  ⟨⟨none, .load 17 (some 7) (.t 5)⟩, 0, []⟩,
  ⟨⟨none, .callv 18 (.c (.one (.fn k_impl_MoveRank []))) [(.t 17)]⟩, 0, []⟩,
  ⟨⟨none, .mov 6 (.t 18)⟩, 0, []⟩]

abbrev i_laws_FnExactMoveRank_r8 : List RO := [
  ⟨⟨none, .mov 19 (.t 6)⟩, 0, []⟩,
  ⟨⟨none, .mov 20 (.t 4)⟩, 0, []⟩,
  ⟨⟨none, .bin 21 .neq (.t 19) (.t 20)⟩, 0, []⟩]

abbrev i_laws_FnExactMoveRank_r9 : List RO := [
  ⟨⟨none, .mov 2 (.c (.one (.d (.bool false))))⟩, 0, []⟩]

abbrev i_laws_FnExactMoveRank_r10 : List RO := [
  ⟨⟨none, .load 22 (some 7) (.t 5)⟩, 0, [24]⟩,
  ⟨⟨none, .load 23 (some 7) (.t 1)⟩, 0, []⟩,
  ⟨⟨none, .callv 24 (.c (.one (.fn k_laws_toMove []))) [(.t 23)]⟩, 2, []⟩,
  ⟨⟨none, .callv 25 (.c (.one (.fn k_laws_eqMove []))) [(.t 22), (.t 24)]⟩, 7, []⟩,
  ⟨⟨none, .inv 26 (.t 25)⟩, 15, []⟩]

abbrev i_laws_FnExactMoveRank_r11 : List RO := [
  ⟨⟨none, .mov 2 (.c (.one (.d (.bool false))))⟩, 0, []⟩]

abbrev i_laws_FnExactMoveRank_r12 : List RO := [
  ⟨⟨none, .mov 2 (.c (.one (.d (.bool true))))⟩, 0, []⟩]

def i_laws_FnExactMoveRank : IC := (.seq (.reg i_laws_FnExactMoveRank_r0)
  (.seq (.reg i_laws_FnExactMoveRank_r1)
  (.seq (.reg i_laws_FnExactMoveRank_r2)
  (.seq (.seq (.reg i_laws_FnExactMoveRank_r3)
  (.cond (.t 11) (.seq (.reg i_laws_FnExactMoveRank_r4)
  .ret) .skip))
  (.seq (.reg i_laws_FnExactMoveRank_r5)
  (.seq (.reg i_laws_FnExactMoveRank_r6)
  (.seq (.reg i_laws_FnExactMoveRank_r7)
  (.seq (.seq (.reg i_laws_FnExactMoveRank_r8)
  (.cond (.t 21) (.seq (.reg i_laws_FnExactMoveRank_r9)
  .ret) .skip))
  (.seq (.seq (.regd i_laws_FnExactMoveRank_r10)
  (.cond (.t 26) (.seq (.reg i_laws_FnExactMoveRank_r11)
  .ret) .skip))
  (.seq (.reg i_laws_FnExactMoveRank_r12)
  .ret))))))))))

theorem i_laws_FnExactMoveRank_ok : (Try.f5.body.bind fun c => toIC Try.prog 27 c [[(0, [24]), (0, []), (2, []), (7, []), (15, [])]]) = some (i_laws_FnExactMoveRank, []) := by kernel_rfl

theorem i_laws_FnExactMoveRank_fn {ds rs : List D} (hle : ds.length ≤ 27) (h : AW Try.prog 27 i_laws_FnExactMoveRank (Ends [.tmp 2] rs) (init ds)) : Fn Try.prog k_laws_FnExactMoveRank (lent ds) true rs :=
  Fn.intro' (by kernel_rfl) Try.func5 (by kernel_rfl) i_laws_FnExactMoveRank_ok (by kernel_rfl) hle h.h

end Go.AW
