/- The compact code of functions of the program, and that it is the program's: made by a program of the prover's own (tool/GenIC.lean). Conditions: none. -/
import Derived.Test.YtkdaohfkphodeaaY
import Derived.Test.YtkdaohfkphodeaaRows
import Derived.KernelRfl
set_option linter.unusedVariables false
set_option maxRecDepth 100000
namespace Go.AW
open Go.Proofs

abbrev k_gosem_cut_init : Nat := 2
abbrev k_laws_FnExactStoreOk : Nat := 3
abbrev k_laws_FnExactDeedOk : Nat := 4
abbrev k_laws_FnExactMoveRank : Nat := 5
abbrev k_laws_FnExactStoreGet : Nat := 6
abbrev k_laws_FnExactLocksOk : Nat := 7
abbrev k_laws_FnExactStoreCut : Nat := 8
abbrev k_laws_FnExactStoreScan : Nat := 9
abbrev k_laws_FnExactLocksHold : Nat := 10
abbrev k_laws_FnExactStoreNew : Nat := 11
abbrev k_laws_FnExactLocksDrop : Nat := 12
abbrev k_laws_FnExactLocksOf : Nat := 13
abbrev k_laws_FnExactStoreApply : Nat := 14
abbrev k_laws_szCellS : Nat := 15
abbrev k_spec_StoreOk : Nat := 16
abbrev k_laws_toCellS : Nat := 17
abbrev k_impl_StoreOk : Nat := 18
abbrev k_laws_eqCellS : Nat := 19
abbrev k_spec_DeedOk : Nat := 20
abbrev k_laws_toDeed : Nat := 21
abbrev k_impl_DeedOk : Nat := 22
abbrev k_laws_szMove : Nat := 23
abbrev k_spec_MoveRank : Nat := 24
abbrev k_laws_toMove : Nat := 25
abbrev k_impl_MoveRank : Nat := 26
abbrev k_laws_eqMove : Nat := 27
abbrev k_spec_StoreGet : Nat := 28
abbrev k_impl_StoreGet : Nat := 29
abbrev k_laws_szLockS : Nat := 30
abbrev k_spec_LocksOk : Nat := 31
abbrev k_laws_toLockS : Nat := 32
abbrev k_impl_LocksOk : Nat := 33
abbrev k_laws_eqLockS : Nat := 34
abbrev k_spec_StoreCut : Nat := 35
abbrev k_laws_toRange : Nat := 36
abbrev k_impl_StoreCut : Nat := 37
abbrev k_laws_markCellS : Nat := 38
abbrev k_laws_heldCellS : Nat := 39
abbrev k_spec_StoreScan : Nat := 40
abbrev k_impl_StoreScan : Nat := 41
abbrev k_spec_LocksHold : Nat := 42
abbrev k_impl_LocksHold : Nat := 43
abbrev k_laws_szWriteS : Nat := 44
abbrev k_spec_StoreNew : Nat := 45
abbrev k_laws_toWriteS : Nat := 46
abbrev k_impl_StoreNew : Nat := 47
abbrev k_laws_eqWriteS : Nat := 48
abbrev k_spec_LocksDrop : Nat := 49
abbrev k_impl_LocksDrop : Nat := 50
abbrev k_laws_markLockS : Nat := 51
abbrev k_laws_heldLockS : Nat := 52
abbrev k_spec_LocksOf : Nat := 53
abbrev k_impl_LocksOf : Nat := 54
abbrev k_spec_StoreApply : Nat := 55
abbrev k_impl_StoreApply : Nat := 56
abbrev k_laws_markWriteS : Nat := 57
abbrev k_spec_l10Key : Nat := 58
abbrev k_spec_l1Whole : Nat := 59
abbrev k_laws_toCell : Nat := 60
abbrev k_impl_isKey : Nat := 61
abbrev k_impl_isWhole : Nat := 62
abbrev k_laws_eqCell : Nat := 63
abbrev k_spec_l1In : Nat := 64
abbrev k_spec_l16RangeOk : Nat := 65
abbrev k_spec_l12Tx : Nat := 66
abbrev k_spec_l15Group : Nat := 67
abbrev k_impl_from : Nat := 68
abbrev k_impl_RangeOk : Nat := 69
abbrev k_impl_isAnswer : Nat := 70
abbrev k_impl_isTx : Nat := 71
abbrev k_impl_isGroup : Nat := 72
abbrev k_spec_l1Min : Nat := 73
abbrev k_spec_l11Get : Nat := 74
abbrev k_impl_valueOf : Nat := 75
abbrev k_spec_RangeOk : Nat := 76
abbrev k_spec_l12Range : Nat := 77
abbrev k_spec_l12Mode : Nat := 78
abbrev k_spec_l12Clash : Nat := 79
abbrev k_laws_toLock : Nat := 80
abbrev k__impl_Lock_keys : Nat := 81
abbrev k_impl_isMode : Nat := 82
abbrev k_slices_ContainsFunc___impl_Lock_impl_Lock_ : Nat := 83
abbrev k_impl_LocksOk_1 : Nat := 84
abbrev k_impl_clash : Nat := 85
abbrev k_laws_eqLock : Nat := 86
abbrev k_spec_l11Scan : Nat := 87
abbrev k_impl_within : Nat := 88
abbrev k_spec_l12Holds : Nat := 89
abbrev k_impl_LocksHold_1 : Nat := 90
abbrev k_spec_WritesOk : Nat := 91
abbrev k_laws_toWrite : Nat := 92
abbrev k_impl_WritesOk : Nat := 93
abbrev k_laws_eqWrite : Nat := 94
abbrev k_spec_l12Keep : Nat := 95
abbrev k_slices_DeleteFunc___impl_Lock_impl_Lock_ : Nat := 96
abbrev k_slices_Clone___impl_Lock_impl_Lock_ : Nat := 97
abbrev k_impl_LocksDrop_1 : Nat := 98
abbrev k_impl_LocksOf_1 : Nat := 99
abbrev k_spec_l2Cells : Nat := 100
abbrev k_impl_written : Nat := 101
abbrev k_slices_Clone___impl_Cell_impl_Cell_ : Nat := 102
abbrev k_impl_cellFor : Nat := 103
abbrev k_spec_RangeMeet : Nat := 104
abbrev k_slices_IndexFunc___impl_Lock_impl_Lock_ : Nat := 105
abbrev k_impl_meets : Nat := 106
abbrev k_slices_DeleteFunc___impl_Cell_impl_Cell_ : Nat := 107
abbrev k_impl_within_1 : Nat := 108
abbrev k__impl_Range_has : Nat := 109
abbrev k_spec_RangeIn : Nat := 110
abbrev k_impl_put : Nat := 111
abbrev k_slices_BinarySearchFunc___impl_Cell_impl_Cell_int_ : Nat := 112
abbrev k_impl_cellFor_1 : Nat := 113
abbrev k_spec_l1Max : Nat := 114
abbrev k_slices_IndexFunc___impl_Cell_impl_Cell_ : Nat := 115
abbrev k_slices_Delete___impl_Cell_impl_Cell_ : Nat := 116
abbrev k_slices_Insert___impl_Cell_impl_Cell_ : Nat := 117
abbrev k_slices_rotateRight_impl_Cell_ : Nat := 119
abbrev k_slices_rotateLeft_impl_Cell_ : Nat := 120
abbrev k_slices_Reverse___impl_Cell_impl_Cell_ : Nat := 121
abbrev i_laws_szCellS_r0 : List RO := [
  ⟨⟨none, .mov 4 (.c (.one (.d (.int .i64 0))))⟩, 0, []⟩]

abbrev i_laws_szCellS_r1 : List RO := [
  ⟨⟨none, .mov 5 (.t 1)⟩, 0, []⟩,
  ⟨⟨none, .mov 6 (.t 0)⟩, 0, []⟩,
  ⟨⟨none, .len 7 false (.t 6)⟩, 0, []⟩,
  ⟨⟨none, .bin 8 .sub (.t 5) (.t 7)⟩, 0, []⟩,
  ⟨⟨none, .mov 1 (.t 8)⟩, 0, []⟩]

abbrev i_laws_szCellS_r2 : List RO := [
  ⟨⟨none, .mov 9 (.t 1)⟩, 0, []⟩,
  ⟨⟨none, .bin 10 .lss (.t 9) (.c (.one (.d (.int .i64 0))))⟩, 0, []⟩]

abbrev i_laws_szCellS_r3 : List RO := [
  ⟨⟨none, .mov 4 (.c (.one (.d (.int .i64 (-1)))))⟩, 0, []⟩]

abbrev i_laws_szCellS_r4 : List RO := [
  ⟨⟨none, .mov 11 (.t 1)⟩, 0, []⟩,
  ⟨⟨none, .mov 4 (.t 11)⟩, 0, []⟩]

def i_laws_szCellS : IC := (.seq (.reg i_laws_szCellS_r0)
  (.seq (.reg i_laws_szCellS_r1)
  (.seq (.seq (.reg i_laws_szCellS_r2)
  (.cond (.t 10) (.seq (.reg i_laws_szCellS_r3)
  .ret) .skip))
  (.seq (.reg i_laws_szCellS_r4)
  .ret))))

theorem i_laws_szCellS_ok : (Try.f15.body.bind fun c => toIC Try.prog 12 c []) = some (i_laws_szCellS, []) := by kernel_rfl

theorem i_laws_szCellS_fn {ds rs : List D} (hle : ds.length ≤ 12) (h : AW Try.prog 12 i_laws_szCellS (Ends [.tmp 4] rs) (init ds)) : Fn Try.prog k_laws_szCellS (lent ds) true rs :=
  Fn.intro' (by kernel_rfl) Try.func15 (by kernel_rfl) i_laws_szCellS_ok (by kernel_rfl) hle h.h

abbrev i_laws_szWriteS_r0 : List RO := [
  ⟨⟨none, .mov 4 (.c (.one (.d (.int .i64 0))))⟩, 0, []⟩]

abbrev i_laws_szWriteS_r1 : List RO := [
  ⟨⟨none, .mov 5 (.t 1)⟩, 0, []⟩,
  ⟨⟨none, .mov 6 (.t 0)⟩, 0, []⟩,
  ⟨⟨none, .len 7 false (.t 6)⟩, 0, []⟩,
  ⟨⟨none, .bin 8 .sub (.t 5) (.t 7)⟩, 0, []⟩,
  ⟨⟨none, .mov 1 (.t 8)⟩, 0, []⟩]

abbrev i_laws_szWriteS_r2 : List RO := [
  ⟨⟨none, .mov 9 (.t 1)⟩, 0, []⟩,
  ⟨⟨none, .bin 10 .lss (.t 9) (.c (.one (.d (.int .i64 0))))⟩, 0, []⟩]

abbrev i_laws_szWriteS_r3 : List RO := [
  ⟨⟨none, .mov 4 (.c (.one (.d (.int .i64 (-1)))))⟩, 0, []⟩]

abbrev i_laws_szWriteS_r4 : List RO := [
  ⟨⟨none, .mov 11 (.t 1)⟩, 0, []⟩,
  ⟨⟨none, .mov 4 (.t 11)⟩, 0, []⟩]

def i_laws_szWriteS : IC := (.seq (.reg i_laws_szWriteS_r0)
  (.seq (.reg i_laws_szWriteS_r1)
  (.seq (.seq (.reg i_laws_szWriteS_r2)
  (.cond (.t 10) (.seq (.reg i_laws_szWriteS_r3)
  .ret) .skip))
  (.seq (.reg i_laws_szWriteS_r4)
  .ret))))

theorem i_laws_szWriteS_ok : (Try.f44.body.bind fun c => toIC Try.prog 12 c []) = some (i_laws_szWriteS, []) := by kernel_rfl

theorem i_laws_szWriteS_fn {ds rs : List D} (hle : ds.length ≤ 12) (h : AW Try.prog 12 i_laws_szWriteS (Ends [.tmp 4] rs) (init ds)) : Fn Try.prog k_laws_szWriteS (lent ds) true rs :=
  Fn.intro' (by kernel_rfl) Try.func44 (by kernel_rfl) i_laws_szWriteS_ok (by kernel_rfl) hle h.h

abbrev i_laws_toCell_r0 : List RO := [
  ⟨⟨none, .box 1 (.t 0)⟩, 0, []⟩,
  ⟨⟨none, .var 2 [(.d (.int .i64 0)), (.d (.int .i64 0))]⟩, 0, []⟩]

abbrev i_laws_toCell_r1 : List RO := [
  ⟨⟨none, .var 3 [(.d (.int .i64 0)), (.d (.int .i64 0))]⟩, 0, []⟩]

abbrev i_laws_toCell_r2 : List RO := [
  ⟨⟨none, .faddr 4 0 (.t 1)⟩, 0, []⟩,
  ⟨⟨none, .load 5 none (.t 4)⟩, 0, []⟩,
  ⟨⟨none, .faddr 6 0 (.t 3)⟩, 0, []⟩,
  ⟨⟨none, .store 1 (.t 6) (.t 5)⟩, 0, []⟩]

abbrev i_laws_toCell_r3 : List RO := [
  ⟨⟨none, .faddr 7 1 (.t 1)⟩, 0, []⟩,
  ⟨⟨none, .load 8 none (.t 7)⟩, 0, []⟩,
  ⟨⟨none, .faddr 9 1 (.t 3)⟩, 0, []⟩,
  ⟨⟨none, .store 1 (.t 9) (.t 8)⟩, 0, []⟩]

abbrev i_laws_toCell_r4 : List RO := [
  ⟨⟨none, .load 10 (some 2) (.t 3)⟩, 0, []⟩,
  ⟨⟨none, .store 2 (.t 2) (.t 10)⟩, 0, []⟩]

def i_laws_toCell : IC := (.seq (.reg i_laws_toCell_r0)
  (.seq (.reg i_laws_toCell_r1)
  (.seq (.reg i_laws_toCell_r2)
  (.seq (.reg i_laws_toCell_r3)
  (.seq (.reg i_laws_toCell_r4)
  .ret)))))

theorem i_laws_toCell_ok : (Try.f60.body.bind fun c => toIC Try.prog 11 c []) = some (i_laws_toCell, []) := by kernel_rfl

theorem i_laws_toCell_fn {ds rs : List D} (hle : ds.length ≤ 11) (h : AW Try.prog 11 i_laws_toCell (Ends [.cell 2 (some 2)] rs) (init ds)) : Fn Try.prog k_laws_toCell (lent ds) true rs :=
  Fn.intro' (by kernel_rfl) Try.func60 (by kernel_rfl) i_laws_toCell_ok (by kernel_rfl) hle h.h

abbrev i_laws_toCellS_r0 : List RO := [
  ⟨⟨none, .mov 2 (.c (.one .zs))⟩, 0, []⟩]

abbrev i_laws_toCellS_r1 : List RO := [
  ⟨⟨none, .mov 5 (.t 0)⟩, 0, []⟩,
  ⟨⟨none, .len 6 false (.t 5)⟩, 0, []⟩,
  ⟨⟨none, .mksl 7 2 16 [(.int .i64 0), (.int .i64 0)] (.t 6) (.t 6)⟩, 0, []⟩,
  ⟨⟨none, .mov 3 (.t 7)⟩, 0, []⟩]

abbrev i_laws_toCellS_r2 : List RO := [
  ⟨⟨none, .mov 4 (.c (.one (.d (.int .i64 0))))⟩, 0, []⟩]

abbrev i_laws_toCellS_r3 : List RO := [
  ⟨⟨none, .mov 8 (.t 4)⟩, 0, []⟩,
  ⟨⟨none, .mov 9 (.t 0)⟩, 0, []⟩,
  ⟨⟨none, .len 10 false (.t 9)⟩, 0, []⟩,
  ⟨⟨none, .bin 11 .lss (.t 8) (.t 10)⟩, 0, []⟩]

abbrev i_laws_toCellS_r4 : List RO := [
  ⟨⟨none, .mov 14 (.t 3)⟩, 0, []⟩,
  ⟨⟨none, .mov 15 (.t 4)⟩, 0, []⟩,
  ⟨⟨none, .mov 16 (.t 0)⟩, 0, []⟩,
  ⟨⟨none, .mov 17 (.t 4)⟩, 0, []⟩,
  ⟨⟨none, .iaddr 18 2 (.t 16) (.t 17)⟩, 0, []⟩,
  ⟨⟨none, .load 19 (some 2) (.t 18)⟩, 0, []⟩,
  ⟨⟨none, .callv 20 (.c (.one (.fn k_laws_toCell []))) [(.t 19)]⟩, 0, []⟩,
  ⟨⟨none, .iaddr 21 2 (.t 14) (.t 15)⟩, 0, []⟩,
  ⟨⟨none, .store 2 (.t 21) (.t 20)⟩, 0, []⟩]

abbrev i_laws_toCellS_r5 : List RO := [
  ⟨⟨none, .mov 12 (.t 4)⟩, 0, []⟩,
  ⟨⟨none, .bin 13 .add (.t 12) (.c (.one (.d (.int .i64 1))))⟩, 0, []⟩,
  ⟨⟨none, .mov 4 (.t 13)⟩, 0, []⟩]

abbrev i_laws_toCellS_r6 : List RO := [
  ⟨⟨none, .mov 22 (.t 3)⟩, 0, []⟩,
  ⟨⟨none, .mov 2 (.t 22)⟩, 0, []⟩]

def i_laws_toCellS : IC := (.seq (.reg i_laws_toCellS_r0)
  (.seq (.reg i_laws_toCellS_r1)
  (.seq (.seq (.reg i_laws_toCellS_r2)
  (.block 0 (.loop (.seq (.seq (.reg i_laws_toCellS_r3)
  (.cond (.t 11) .skip (.exit 0)))
  (.seq (.block 1 (.reg i_laws_toCellS_r4))
  (.reg i_laws_toCellS_r5))))))
  (.seq (.reg i_laws_toCellS_r6)
  .ret))))

theorem i_laws_toCellS_ok : (Try.f17.body.bind fun c => toIC Try.prog 23 c []) = some (i_laws_toCellS, []) := by kernel_rfl

theorem i_laws_toCellS_fn {ds rs : List D} (hle : ds.length ≤ 23) (h : AW Try.prog 23 i_laws_toCellS (Ends [.tmp 2] rs) (init ds)) : Fn Try.prog k_laws_toCellS (lent ds) true rs :=
  Fn.intro' (by kernel_rfl) Try.func17 (by kernel_rfl) i_laws_toCellS_ok (by kernel_rfl) hle h.h

abbrev i_laws_toWrite_r0 : List RO := [
  ⟨⟨none, .box 1 (.t 0)⟩, 0, []⟩,
  ⟨⟨none, .var 2 [(.d (.int .i64 0)), (.d (.int .i64 0))]⟩, 0, []⟩]

abbrev i_laws_toWrite_r1 : List RO := [
  ⟨⟨none, .var 3 [(.d (.int .i64 0)), (.d (.int .i64 0))]⟩, 0, []⟩]

abbrev i_laws_toWrite_r2 : List RO := [
  ⟨⟨none, .faddr 4 0 (.t 1)⟩, 0, []⟩,
  ⟨⟨none, .load 5 none (.t 4)⟩, 0, []⟩,
  ⟨⟨none, .faddr 6 0 (.t 3)⟩, 0, []⟩,
  ⟨⟨none, .store 1 (.t 6) (.t 5)⟩, 0, []⟩]

abbrev i_laws_toWrite_r3 : List RO := [
  ⟨⟨none, .faddr 7 1 (.t 1)⟩, 0, []⟩,
  ⟨⟨none, .load 8 none (.t 7)⟩, 0, []⟩,
  ⟨⟨none, .faddr 9 1 (.t 3)⟩, 0, []⟩,
  ⟨⟨none, .store 1 (.t 9) (.t 8)⟩, 0, []⟩]

abbrev i_laws_toWrite_r4 : List RO := [
  ⟨⟨none, .load 10 (some 2) (.t 3)⟩, 0, []⟩,
  ⟨⟨none, .store 2 (.t 2) (.t 10)⟩, 0, []⟩]

def i_laws_toWrite : IC := (.seq (.reg i_laws_toWrite_r0)
  (.seq (.reg i_laws_toWrite_r1)
  (.seq (.reg i_laws_toWrite_r2)
  (.seq (.reg i_laws_toWrite_r3)
  (.seq (.reg i_laws_toWrite_r4)
  .ret)))))

theorem i_laws_toWrite_ok : (Try.f92.body.bind fun c => toIC Try.prog 11 c []) = some (i_laws_toWrite, []) := by kernel_rfl

theorem i_laws_toWrite_fn {ds rs : List D} (hle : ds.length ≤ 11) (h : AW Try.prog 11 i_laws_toWrite (Ends [.cell 2 (some 2)] rs) (init ds)) : Fn Try.prog k_laws_toWrite (lent ds) true rs :=
  Fn.intro' (by kernel_rfl) Try.func92 (by kernel_rfl) i_laws_toWrite_ok (by kernel_rfl) hle h.h

abbrev i_laws_toWriteS_r0 : List RO := [
  ⟨⟨none, .mov 2 (.c (.one .zs))⟩, 0, []⟩]

abbrev i_laws_toWriteS_r1 : List RO := [
  ⟨⟨none, .mov 5 (.t 0)⟩, 0, []⟩,
  ⟨⟨none, .len 6 false (.t 5)⟩, 0, []⟩,
  ⟨⟨none, .mksl 7 2 16 [(.int .i64 0), (.int .i64 0)] (.t 6) (.t 6)⟩, 0, []⟩,
  ⟨⟨none, .mov 3 (.t 7)⟩, 0, []⟩]

abbrev i_laws_toWriteS_r2 : List RO := [
  ⟨⟨none, .mov 4 (.c (.one (.d (.int .i64 0))))⟩, 0, []⟩]

abbrev i_laws_toWriteS_r3 : List RO := [
  ⟨⟨none, .mov 8 (.t 4)⟩, 0, []⟩,
  ⟨⟨none, .mov 9 (.t 0)⟩, 0, []⟩,
  ⟨⟨none, .len 10 false (.t 9)⟩, 0, []⟩,
  ⟨⟨none, .bin 11 .lss (.t 8) (.t 10)⟩, 0, []⟩]

abbrev i_laws_toWriteS_r4 : List RO := [
  ⟨⟨none, .mov 14 (.t 3)⟩, 0, []⟩,
  ⟨⟨none, .mov 15 (.t 4)⟩, 0, []⟩,
  ⟨⟨none, .mov 16 (.t 0)⟩, 0, []⟩,
  ⟨⟨none, .mov 17 (.t 4)⟩, 0, []⟩,
  ⟨⟨none, .iaddr 18 2 (.t 16) (.t 17)⟩, 0, []⟩,
  ⟨⟨none, .load 19 (some 2) (.t 18)⟩, 0, []⟩,
  ⟨⟨none, .callv 20 (.c (.one (.fn k_laws_toWrite []))) [(.t 19)]⟩, 0, []⟩,
  ⟨⟨none, .iaddr 21 2 (.t 14) (.t 15)⟩, 0, []⟩,
  ⟨⟨none, .store 2 (.t 21) (.t 20)⟩, 0, []⟩]

abbrev i_laws_toWriteS_r5 : List RO := [
  ⟨⟨none, .mov 12 (.t 4)⟩, 0, []⟩,
  ⟨⟨none, .bin 13 .add (.t 12) (.c (.one (.d (.int .i64 1))))⟩, 0, []⟩,
  ⟨⟨none, .mov 4 (.t 13)⟩, 0, []⟩]

abbrev i_laws_toWriteS_r6 : List RO := [
  ⟨⟨none, .mov 22 (.t 3)⟩, 0, []⟩,
  ⟨⟨none, .mov 2 (.t 22)⟩, 0, []⟩]

def i_laws_toWriteS : IC := (.seq (.reg i_laws_toWriteS_r0)
  (.seq (.reg i_laws_toWriteS_r1)
  (.seq (.seq (.reg i_laws_toWriteS_r2)
  (.block 0 (.loop (.seq (.seq (.reg i_laws_toWriteS_r3)
  (.cond (.t 11) .skip (.exit 0)))
  (.seq (.block 1 (.reg i_laws_toWriteS_r4))
  (.reg i_laws_toWriteS_r5))))))
  (.seq (.reg i_laws_toWriteS_r6)
  .ret))))

theorem i_laws_toWriteS_ok : (Try.f46.body.bind fun c => toIC Try.prog 23 c []) = some (i_laws_toWriteS, []) := by kernel_rfl

theorem i_laws_toWriteS_fn {ds rs : List D} (hle : ds.length ≤ 23) (h : AW Try.prog 23 i_laws_toWriteS (Ends [.tmp 2] rs) (init ds)) : Fn Try.prog k_laws_toWriteS (lent ds) true rs :=
  Fn.intro' (by kernel_rfl) Try.func46 (by kernel_rfl) i_laws_toWriteS_ok (by kernel_rfl) hle h.h

abbrev i_spec_l1In_r0 : List RO := [
  ⟨⟨none, .mov 6 (.c (.one (.d (.bool false))))⟩, 0, []⟩]

abbrev i_spec_l1In_r1 : List RO := [
  ⟨⟨none, .mov 7 (.t 0)⟩, 0, []⟩,
  ⟨⟨none, .mov 8 (.t 1)⟩, 0, []⟩,
  ⟨⟨none, .bin 9 .geq (.t 7) (.t 8)⟩, 0, []⟩,
  ⟨⟨none, .mov 10 (.t 9)⟩, 0, []⟩,
  ⟨⟨some (10, true), .mov 11 (.t 0)⟩, 0, []⟩,
  ⟨⟨some (10, true), .mov 12 (.t 2)⟩, 0, []⟩,
  ⟨⟨some (10, true), .bin 13 .leq (.t 11) (.t 12)⟩, 0, []⟩,
  ⟨⟨none, .pick 14 (.t 10) (.t 13) (.c (.one (.d (.bool false))))⟩, 0, []⟩,
  ⟨⟨none, .mov 6 (.t 14)⟩, 0, []⟩]

def i_spec_l1In : IC := (.seq (.reg i_spec_l1In_r0)
  (.seq (.reg i_spec_l1In_r1)
  .ret))

theorem i_spec_l1In_ok : (Try.f64.body.bind fun c => toIC Try.prog 15 c []) = some (i_spec_l1In, []) := by kernel_rfl

theorem i_spec_l1In_fn {ds rs : List D} (hle : ds.length ≤ 15) (h : AW Try.prog 15 i_spec_l1In (Ends [.tmp 6] rs) (init ds)) : Fn Try.prog k_spec_l1In (lent ds) true rs :=
  Fn.intro' (by kernel_rfl) Try.func64 (by kernel_rfl) i_spec_l1In_ok (by kernel_rfl) hle h.h

abbrev i_spec_l10Key_r0 : List RO := [
  ⟨⟨none, .mov 2 (.c (.one (.d (.bool false))))⟩, 0, []⟩]

abbrev i_spec_l10Key_r1 : List RO := [
  ⟨⟨none, .mov 3 (.t 0)⟩, 0, []⟩,
  ⟨⟨none, .callv 4 (.c (.one (.fn k_spec_l1In []))) [(.t 3), (.c (.one (.d (.int .i64 0)))), (.c (.one (.d (.int .i64 999))))]⟩, 0, []⟩,
  ⟨⟨none, .mov 2 (.t 4)⟩, 0, []⟩]

def i_spec_l10Key : IC := (.seq (.reg i_spec_l10Key_r0)
  (.seq (.reg i_spec_l10Key_r1)
  .ret))

theorem i_spec_l10Key_ok : (Try.f58.body.bind fun c => toIC Try.prog 5 c []) = some (i_spec_l10Key, []) := by kernel_rfl

theorem i_spec_l10Key_fn {ds rs : List D} (hle : ds.length ≤ 5) (h : AW Try.prog 5 i_spec_l10Key (Ends [.tmp 2] rs) (init ds)) : Fn Try.prog k_spec_l10Key (lent ds) true rs :=
  Fn.intro' (by kernel_rfl) Try.func58 (by kernel_rfl) i_spec_l10Key_ok (by kernel_rfl) hle h.h

abbrev i_spec_l1Whole_r0 : List RO := [
  ⟨⟨none, .mov 2 (.c (.one (.d (.bool false))))⟩, 0, []⟩]

abbrev i_spec_l1Whole_r1 : List RO := [
  ⟨⟨none, .mov 3 (.t 0)⟩, 0, []⟩,
  ⟨⟨none, .callv 4 (.c (.one (.fn k_spec_l1In []))) [(.t 3), (.c (.one (.d (.int .i64 0)))), (.c (.one (.d (.int .i64 1000000000))))]⟩, 0, []⟩,
  ⟨⟨none, .mov 2 (.t 4)⟩, 0, []⟩]

def i_spec_l1Whole : IC := (.seq (.reg i_spec_l1Whole_r0)
  (.seq (.reg i_spec_l1Whole_r1)
  .ret))

theorem i_spec_l1Whole_ok : (Try.f59.body.bind fun c => toIC Try.prog 5 c []) = some (i_spec_l1Whole, []) := by kernel_rfl

theorem i_spec_l1Whole_fn {ds rs : List D} (hle : ds.length ≤ 5) (h : AW Try.prog 5 i_spec_l1Whole (Ends [.tmp 2] rs) (init ds)) : Fn Try.prog k_spec_l1Whole (lent ds) true rs :=
  Fn.intro' (by kernel_rfl) Try.func59 (by kernel_rfl) i_spec_l1Whole_ok (by kernel_rfl) hle h.h

abbrev i_spec_StoreOk_r0 : List RO := [
  ⟨⟨none, .mov 2 (.c (.one (.d (.bool false))))⟩, 0, []⟩]

abbrev i_spec_StoreOk_r1 : List RO := [
  ⟨⟨none, .mov 4 (.t 0)⟩, 0, []⟩,
  ⟨⟨none, .len 5 false (.t 4)⟩, 0, []⟩,
  ⟨⟨none, .bin 6 .gtr (.t 5) (.c (.one (.d (.int .i64 60))))⟩, 0, []⟩]

abbrev i_spec_StoreOk_r2 : List RO := [
  ⟨⟨none, .mov 2 (.c (.one (.d (.bool false))))⟩, 0, []⟩]

abbrev i_spec_StoreOk_r3 : List RO := [
  ⟨⟨none, .mov 3 (.c (.one (.d (.int .i64 0))))⟩, 0, []⟩]

abbrev i_spec_StoreOk_r4 : List RO := [
  ⟨⟨none, .mov 7 (.t 3)⟩, 0, []⟩,
  ⟨⟨none, .mov 8 (.t 0)⟩, 0, []⟩,
  ⟨⟨none, .len 9 false (.t 8)⟩, 0, []⟩,
  ⟨⟨none, .bin 10 .lss (.t 7) (.t 9)⟩, 0, []⟩]

abbrev i_spec_StoreOk_r5 : List RO := [
  ⟨⟨none, .mov 13 (.t 0)⟩, 0, []⟩,
  ⟨⟨none, .mov 14 (.t 3)⟩, 0, []⟩,
  ⟨⟨none, .iaddr 15 2 (.t 13) (.t 14)⟩, 3, []⟩,
  ⟨⟨none, .faddr 16 0 (.t 15)⟩, 7, []⟩,
  ⟨⟨none, .load 17 none (.t 16)⟩, 15, []⟩,
  ⟨⟨none, .callv 18 (.c (.one (.fn k_spec_l10Key []))) [(.t 17)]⟩, 31, []⟩,
  ⟨⟨none, .inv 19 (.t 18)⟩, 63, []⟩,
  ⟨⟨none, .mov 20 (.t 19)⟩, 127, []⟩,
  ⟨⟨some (20, false), .mov 21 (.t 0)⟩, 255, []⟩,
  ⟨⟨some (20, false), .mov 22 (.t 3)⟩, 255, []⟩,
  ⟨⟨some (20, false), .iaddr 23 2 (.t 21) (.t 22)⟩, 1023, []⟩,
  ⟨⟨some (20, false), .faddr 24 1 (.t 23)⟩, 2047, []⟩,
  ⟨⟨some (20, false), .load 25 none (.t 24)⟩, 4095, []⟩,
  ⟨⟨some (20, false), .callv 26 (.c (.one (.fn k_spec_l1Whole []))) [(.t 25)]⟩, 8191, []⟩,
  ⟨⟨some (20, false), .inv 27 (.t 26)⟩, 16383, []⟩,
  ⟨⟨none, .pick 28 (.t 20) (.c (.one (.d (.bool true)))) (.t 27)⟩, 32767, []⟩,
  ⟨⟨none, .mov 29 (.t 28)⟩, 65535, []⟩,
  ⟨⟨some (29, false), .mov 30 (.t 3)⟩, 131071, []⟩,
  ⟨⟨some (29, false), .bin 31 .gtr (.t 30) (.c (.one (.d (.int .i64 0))))⟩, 262143, []⟩,
  ⟨⟨some (29, false), .mov 32 (.t 31)⟩, 524287, []⟩,
  ⟨⟨some (32, true), .mov 33 (.t 0)⟩, 1048575, []⟩,
  ⟨⟨some (32, true), .mov 34 (.t 3)⟩, 1048575, []⟩,
  ⟨⟨some (32, true), .bin 35 .sub (.t 34) (.c (.one (.d (.int .i64 1))))⟩, 3145727, []⟩,
  ⟨⟨some (32, true), .iaddr 36 2 (.t 33) (.t 35)⟩, 8388607, []⟩,
  ⟨⟨some (32, true), .faddr 37 0 (.t 36)⟩, 16777215, []⟩,
  ⟨⟨some (32, true), .load 38 none (.t 37)⟩, 33554431, []⟩,
  ⟨⟨some (32, true), .mov 39 (.t 0)⟩, 1048575, []⟩,
  ⟨⟨some (32, true), .mov 40 (.t 3)⟩, 1048575, []⟩,
  ⟨⟨some (32, true), .iaddr 41 2 (.t 39) (.t 40)⟩, 202375167, []⟩,
  ⟨⟨some (32, true), .faddr 42 0 (.t 41)⟩, 470810623, []⟩,
  ⟨⟨some (32, true), .load 43 none (.t 42)⟩, 1007681535, []⟩,
  ⟨⟨some (32, true), .bin 44 .geq (.t 38) (.t 43)⟩, 2147483647, []⟩,
  ⟨⟨some (29, false), .pick 45 (.t 32) (.t 44) (.c (.one (.d (.bool false))))⟩, 4294967295, []⟩,
  ⟨⟨none, .pick 46 (.t 29) (.c (.one (.d (.bool true)))) (.t 45)⟩, 8589934591, []⟩]

abbrev i_spec_StoreOk_r6 : List RO := [
  ⟨⟨none, .mov 2 (.c (.one (.d (.bool false))))⟩, 0, []⟩]

abbrev i_spec_StoreOk_r7 : List RO := [
  ⟨⟨none, .mov 11 (.t 3)⟩, 0, []⟩,
  ⟨⟨none, .bin 12 .add (.t 11) (.c (.one (.d (.int .i64 1))))⟩, 0, []⟩,
  ⟨⟨none, .mov 3 (.t 12)⟩, 0, []⟩]

abbrev i_spec_StoreOk_r8 : List RO := [
  ⟨⟨none, .mov 2 (.c (.one (.d (.bool true))))⟩, 0, []⟩]

def i_spec_StoreOk : IC := (.seq (.reg i_spec_StoreOk_r0)
  (.seq (.seq (.reg i_spec_StoreOk_r1)
  (.cond (.t 6) (.seq (.reg i_spec_StoreOk_r2)
  .ret) .skip))
  (.seq (.seq (.reg i_spec_StoreOk_r3)
  (.block 0 (.loop (.seq (.seq (.reg i_spec_StoreOk_r4)
  (.cond (.t 10) .skip (.exit 0)))
  (.seq (.block 1 (.seq (.regd i_spec_StoreOk_r5)
  (.cond (.t 46) (.seq (.reg i_spec_StoreOk_r6)
  .ret) .skip)))
  (.reg i_spec_StoreOk_r7))))))
  (.seq (.reg i_spec_StoreOk_r8)
  .ret))))

theorem i_spec_StoreOk_ok : (Try.f16.body.bind fun c => toIC Try.prog 47 c [[(0, []), (0, []), (3, []), (7, []), (15, []), (31, []), (63, []), (127, []), (255, []), (255, []), (1023, []), (2047, []), (4095, []), (8191, []), (16383, []), (32767, []), (65535, []), (131071, []), (262143, []), (524287, []), (1048575, []), (1048575, []), (3145727, []), (8388607, []), (16777215, []), (33554431, []), (1048575, []), (1048575, []), (202375167, []), (470810623, []), (1007681535, []), (2147483647, []), (4294967295, []), (8589934591, [])]]) = some (i_spec_StoreOk, []) := by kernel_rfl

theorem i_spec_StoreOk_fn {ds rs : List D} (hle : ds.length ≤ 47) (h : AW Try.prog 47 i_spec_StoreOk (Ends [.tmp 2] rs) (init ds)) : Fn Try.prog k_spec_StoreOk (lent ds) true rs :=
  Fn.intro' (by kernel_rfl) Try.func16 (by kernel_rfl) i_spec_StoreOk_ok (by kernel_rfl) hle h.h

abbrev i_spec_WritesOk_r0 : List RO := [
  ⟨⟨none, .mov 2 (.c (.one (.d (.bool false))))⟩, 0, []⟩]

abbrev i_spec_WritesOk_r1 : List RO := [
  ⟨⟨none, .mov 4 (.t 0)⟩, 0, []⟩,
  ⟨⟨none, .len 5 false (.t 4)⟩, 0, []⟩,
  ⟨⟨none, .bin 6 .gtr (.t 5) (.c (.one (.d (.int .i64 60))))⟩, 0, []⟩]

abbrev i_spec_WritesOk_r2 : List RO := [
  ⟨⟨none, .mov 2 (.c (.one (.d (.bool false))))⟩, 0, []⟩]

abbrev i_spec_WritesOk_r3 : List RO := [
  ⟨⟨none, .mov 3 (.c (.one (.d (.int .i64 0))))⟩, 0, []⟩]

abbrev i_spec_WritesOk_r4 : List RO := [
  ⟨⟨none, .mov 7 (.t 3)⟩, 0, []⟩,
  ⟨⟨none, .mov 8 (.t 0)⟩, 0, []⟩,
  ⟨⟨none, .len 9 false (.t 8)⟩, 0, []⟩,
  ⟨⟨none, .bin 10 .lss (.t 7) (.t 9)⟩, 0, []⟩]

abbrev i_spec_WritesOk_r5 : List RO := [
  ⟨⟨none, .mov 13 (.t 0)⟩, 0, []⟩,
  ⟨⟨none, .mov 14 (.t 3)⟩, 0, []⟩,
  ⟨⟨none, .iaddr 15 2 (.t 13) (.t 14)⟩, 3, []⟩,
  ⟨⟨none, .faddr 16 0 (.t 15)⟩, 7, []⟩,
  ⟨⟨none, .load 17 none (.t 16)⟩, 15, []⟩,
  ⟨⟨none, .callv 18 (.c (.one (.fn k_spec_l10Key []))) [(.t 17)]⟩, 31, []⟩,
  ⟨⟨none, .inv 19 (.t 18)⟩, 63, []⟩,
  ⟨⟨none, .mov 20 (.t 19)⟩, 127, []⟩,
  ⟨⟨some (20, false), .mov 21 (.t 0)⟩, 255, []⟩,
  ⟨⟨some (20, false), .mov 22 (.t 3)⟩, 255, []⟩,
  ⟨⟨some (20, false), .iaddr 23 2 (.t 21) (.t 22)⟩, 1023, []⟩,
  ⟨⟨some (20, false), .faddr 24 1 (.t 23)⟩, 2047, []⟩,
  ⟨⟨some (20, false), .load 25 none (.t 24)⟩, 4095, []⟩,
  ⟨⟨some (20, false), .callv 26 (.c (.one (.fn k_spec_l1In []))) [(.t 25), (.c (.one (.d (.int .i64 (-1))))), (.c (.one (.d (.int .i64 1000000000))))]⟩, 8191, []⟩,
  ⟨⟨some (20, false), .inv 27 (.t 26)⟩, 16383, []⟩,
  ⟨⟨none, .pick 28 (.t 20) (.c (.one (.d (.bool true)))) (.t 27)⟩, 32767, []⟩,
  ⟨⟨none, .mov 29 (.t 28)⟩, 65535, []⟩,
  ⟨⟨some (29, false), .mov 30 (.t 3)⟩, 131071, []⟩,
  ⟨⟨some (29, false), .bin 31 .gtr (.t 30) (.c (.one (.d (.int .i64 0))))⟩, 262143, []⟩,
  ⟨⟨some (29, false), .mov 32 (.t 31)⟩, 524287, []⟩,
  ⟨⟨some (32, true), .mov 33 (.t 0)⟩, 1048575, []⟩,
  ⟨⟨some (32, true), .mov 34 (.t 3)⟩, 1048575, []⟩,
  ⟨⟨some (32, true), .bin 35 .sub (.t 34) (.c (.one (.d (.int .i64 1))))⟩, 3145727, []⟩,
  ⟨⟨some (32, true), .iaddr 36 2 (.t 33) (.t 35)⟩, 8388607, []⟩,
  ⟨⟨some (32, true), .faddr 37 0 (.t 36)⟩, 16777215, []⟩,
  ⟨⟨some (32, true), .load 38 none (.t 37)⟩, 33554431, []⟩,
  ⟨⟨some (32, true), .mov 39 (.t 0)⟩, 1048575, []⟩,
  ⟨⟨some (32, true), .mov 40 (.t 3)⟩, 1048575, []⟩,
  ⟨⟨some (32, true), .iaddr 41 2 (.t 39) (.t 40)⟩, 202375167, []⟩,
  ⟨⟨some (32, true), .faddr 42 0 (.t 41)⟩, 470810623, []⟩,
  ⟨⟨some (32, true), .load 43 none (.t 42)⟩, 1007681535, []⟩,
  ⟨⟨some (32, true), .bin 44 .geq (.t 38) (.t 43)⟩, 2147483647, []⟩,
  ⟨⟨some (29, false), .pick 45 (.t 32) (.t 44) (.c (.one (.d (.bool false))))⟩, 4294967295, []⟩,
  ⟨⟨none, .pick 46 (.t 29) (.c (.one (.d (.bool true)))) (.t 45)⟩, 8589934591, []⟩]

abbrev i_spec_WritesOk_r6 : List RO := [
  ⟨⟨none, .mov 2 (.c (.one (.d (.bool false))))⟩, 0, []⟩]

abbrev i_spec_WritesOk_r7 : List RO := [
  ⟨⟨none, .mov 11 (.t 3)⟩, 0, []⟩,
  ⟨⟨none, .bin 12 .add (.t 11) (.c (.one (.d (.int .i64 1))))⟩, 0, []⟩,
  ⟨⟨none, .mov 3 (.t 12)⟩, 0, []⟩]

abbrev i_spec_WritesOk_r8 : List RO := [
  ⟨⟨none, .mov 2 (.c (.one (.d (.bool true))))⟩, 0, []⟩]

def i_spec_WritesOk : IC := (.seq (.reg i_spec_WritesOk_r0)
  (.seq (.seq (.reg i_spec_WritesOk_r1)
  (.cond (.t 6) (.seq (.reg i_spec_WritesOk_r2)
  .ret) .skip))
  (.seq (.seq (.reg i_spec_WritesOk_r3)
  (.block 0 (.loop (.seq (.seq (.reg i_spec_WritesOk_r4)
  (.cond (.t 10) .skip (.exit 0)))
  (.seq (.block 1 (.seq (.regd i_spec_WritesOk_r5)
  (.cond (.t 46) (.seq (.reg i_spec_WritesOk_r6)
  .ret) .skip)))
  (.reg i_spec_WritesOk_r7))))))
  (.seq (.reg i_spec_WritesOk_r8)
  .ret))))

theorem i_spec_WritesOk_ok : (Try.f91.body.bind fun c => toIC Try.prog 47 c [[(0, []), (0, []), (3, []), (7, []), (15, []), (31, []), (63, []), (127, []), (255, []), (255, []), (1023, []), (2047, []), (4095, []), (8191, []), (16383, []), (32767, []), (65535, []), (131071, []), (262143, []), (524287, []), (1048575, []), (1048575, []), (3145727, []), (8388607, []), (16777215, []), (33554431, []), (1048575, []), (1048575, []), (202375167, []), (470810623, []), (1007681535, []), (2147483647, []), (4294967295, []), (8589934591, [])]]) = some (i_spec_WritesOk, []) := by kernel_rfl

theorem i_spec_WritesOk_fn {ds rs : List D} (hle : ds.length ≤ 47) (h : AW Try.prog 47 i_spec_WritesOk (Ends [.tmp 2] rs) (init ds)) : Fn Try.prog k_spec_WritesOk (lent ds) true rs :=
  Fn.intro' (by kernel_rfl) Try.func91 (by kernel_rfl) i_spec_WritesOk_ok (by kernel_rfl) hle h.h

abbrev i_spec_l11Get_r0 : List RO := [
  ⟨⟨none, .mov 4 (.c (.one (.d (.int .i64 0))))⟩, 0, []⟩]

abbrev i_spec_l11Get_r1 : List RO := [
  ⟨⟨none, .mov 5 (.c (.one (.d (.int .i64 0))))⟩, 0, []⟩]

abbrev i_spec_l11Get_r2 : List RO := [
  ⟨⟨none, .mov 6 (.t 5)⟩, 0, []⟩,
  ⟨⟨none, .mov 7 (.t 0)⟩, 0, []⟩,
  ⟨⟨none, .len 8 false (.t 7)⟩, 0, []⟩,
  ⟨⟨none, .bin 9 .lss (.t 6) (.t 8)⟩, 0, []⟩]

abbrev i_spec_l11Get_r3 : List RO := [
  ⟨⟨none, .mov 12 (.t 0)⟩, 0, []⟩,
  ⟨⟨none, .mov 13 (.t 5)⟩, 0, []⟩,
  ⟨⟨none, .iaddr 14 2 (.t 12) (.t 13)⟩, 0, []⟩,
  ⟨⟨none, .faddr 15 0 (.t 14)⟩, 0, []⟩,
  ⟨⟨none, .load 16 none (.t 15)⟩, 0, []⟩,
  ⟨⟨none, .mov 17 (.t 1)⟩, 0, []⟩,
  ⟨⟨none, .bin 18 .eql (.t 16) (.t 17)⟩, 0, []⟩]

abbrev i_spec_l11Get_r4 : List RO := [
  ⟨⟨none, .mov 19 (.t 0)⟩, 0, []⟩,
  ⟨⟨none, .mov 20 (.t 5)⟩, 0, []⟩,
  ⟨⟨none, .iaddr 21 2 (.t 19) (.t 20)⟩, 0, []⟩,
  ⟨⟨none, .faddr 22 1 (.t 21)⟩, 0, []⟩,
  ⟨⟨none, .load 23 none (.t 22)⟩, 0, []⟩,
  ⟨⟨none, .mov 4 (.t 23)⟩, 0, []⟩]

abbrev i_spec_l11Get_r5 : List RO := [
  ⟨⟨none, .mov 10 (.t 5)⟩, 0, []⟩,
  ⟨⟨none, .bin 11 .add (.t 10) (.c (.one (.d (.int .i64 1))))⟩, 0, []⟩,
  ⟨⟨none, .mov 5 (.t 11)⟩, 0, []⟩]

abbrev i_spec_l11Get_r6 : List RO := [
  ⟨⟨none, .mov 4 (.c (.one (.d (.int .i64 (-1)))))⟩, 0, []⟩]

def i_spec_l11Get : IC := (.seq (.reg i_spec_l11Get_r0)
  (.seq (.seq (.reg i_spec_l11Get_r1)
  (.block 0 (.loop (.seq (.seq (.reg i_spec_l11Get_r2)
  (.cond (.t 9) .skip (.exit 0)))
  (.seq (.block 1 (.seq (.reg i_spec_l11Get_r3)
  (.cond (.t 18) (.seq (.reg i_spec_l11Get_r4)
  .ret) .skip)))
  (.reg i_spec_l11Get_r5))))))
  (.seq (.reg i_spec_l11Get_r6)
  .ret)))

theorem i_spec_l11Get_ok : (Try.f74.body.bind fun c => toIC Try.prog 24 c []) = some (i_spec_l11Get, []) := by kernel_rfl

theorem i_spec_l11Get_fn {ds rs : List D} (hle : ds.length ≤ 24) (h : AW Try.prog 24 i_spec_l11Get (Ends [.tmp 4] rs) (init ds)) : Fn Try.prog k_spec_l11Get (lent ds) true rs :=
  Fn.intro' (by kernel_rfl) Try.func74 (by kernel_rfl) i_spec_l11Get_ok (by kernel_rfl) hle h.h

abbrev i_spec_StoreNew_r0 : List RO := [
  ⟨⟨none, .mov 4 (.c (.one (.d (.int .i64 0))))⟩, 0, []⟩]

abbrev i_spec_StoreNew_r1 : List RO := [
  ⟨⟨none, .mov 7 (.t 0)⟩, 0, []⟩,
  ⟨⟨none, .callv 8 (.c (.one (.fn k_spec_StoreOk []))) [(.t 7)]⟩, 0, []⟩,
  ⟨⟨none, .inv 9 (.t 8)⟩, 0, []⟩,
  ⟨⟨none, .mov 10 (.t 9)⟩, 0, []⟩,
  ⟨⟨some (10, false), .mov 11 (.t 1)⟩, 0, []⟩,
  ⟨⟨some (10, false), .callv 12 (.c (.one (.fn k_spec_WritesOk []))) [(.t 11)]⟩, 0, []⟩,
  ⟨⟨some (10, false), .inv 13 (.t 12)⟩, 0, []⟩,
  ⟨⟨none, .pick 14 (.t 10) (.c (.one (.d (.bool true)))) (.t 13)⟩, 0, []⟩]

abbrev i_spec_StoreNew_r2 : List RO := [
  ⟨⟨none, .mov 4 (.c (.one (.d (.int .i64 (-1)))))⟩, 0, []⟩]

abbrev i_spec_StoreNew_r3 : List RO := [
  ⟨⟨none, .mov 5 (.c (.one (.d (.int .i64 0))))⟩, 0, []⟩]

abbrev i_spec_StoreNew_r4 : List RO := [
  ⟨⟨none, .mov 6 (.c (.one (.d (.int .i64 0))))⟩, 0, []⟩]

abbrev i_spec_StoreNew_r5 : List RO := [
  ⟨⟨none, .mov 15 (.t 6)⟩, 0, []⟩,
  ⟨⟨none, .mov 16 (.t 1)⟩, 0, []⟩,
  ⟨⟨none, .len 17 false (.t 16)⟩, 0, []⟩,
  ⟨⟨none, .bin 18 .lss (.t 15) (.t 17)⟩, 0, []⟩]

abbrev i_spec_StoreNew_r6 : List RO := [
  ⟨⟨none, .mov 21 (.t 1)⟩, 0, []⟩,
  ⟨⟨none, .mov 22 (.t 6)⟩, 0, []⟩,
  ⟨⟨none, .iaddr 23 2 (.t 21) (.t 22)⟩, 0, []⟩,
  ⟨⟨none, .faddr 24 1 (.t 23)⟩, 0, []⟩,
  ⟨⟨none, .load 25 none (.t 24)⟩, 0, []⟩,
  ⟨⟨none, .bin 26 .geq (.t 25) (.c (.one (.d (.int .i64 0))))⟩, 0, []⟩,
  ⟨⟨none, .mov 27 (.t 26)⟩, 0, []⟩,
  ⟨⟨some (27, true), .mov 28 (.t 0)⟩, 0, []⟩,
  ⟨⟨some (27, true), .mov 29 (.t 1)⟩, 0, []⟩,
  ⟨⟨some (27, true), .mov 30 (.t 6)⟩, 0, []⟩,
  ⟨⟨some (27, true), .iaddr 31 2 (.t 29) (.t 30)⟩, 0, []⟩,
  ⟨⟨some (27, true), .faddr 32 0 (.t 31)⟩, 0, []⟩,
  ⟨⟨some (27, true), .load 33 none (.t 32)⟩, 0, []⟩,
  ⟨⟨some (27, true), .callv 34 (.c (.one (.fn k_spec_l11Get []))) [(.t 28), (.t 33)]⟩, 0, []⟩,
  ⟨⟨some (27, true), .bin 35 .lss (.t 34) (.c (.one (.d (.int .i64 0))))⟩, 0, []⟩,
  ⟨⟨none, .pick 36 (.t 27) (.t 35) (.c (.one (.d (.bool false))))⟩, 0, []⟩]

abbrev i_spec_StoreNew_r7 : List RO := [
  ⟨⟨none, .mov 37 (.t 5)⟩, 0, []⟩,
  ⟨⟨none, .bin 38 .add (.t 37) (.c (.one (.d (.int .i64 1))))⟩, 0, []⟩,
  ⟨⟨none, .mov 5 (.t 38)⟩, 0, []⟩]

abbrev i_spec_StoreNew_r8 : List RO := [
  ⟨⟨none, .mov 19 (.t 6)⟩, 0, []⟩,
  ⟨⟨none, .bin 20 .add (.t 19) (.c (.one (.d (.int .i64 1))))⟩, 0, []⟩,
  ⟨⟨none, .mov 6 (.t 20)⟩, 0, []⟩]

abbrev i_spec_StoreNew_r9 : List RO := [
  ⟨⟨none, .mov 39 (.t 5)⟩, 0, []⟩,
  ⟨⟨none, .mov 4 (.t 39)⟩, 0, []⟩]

def i_spec_StoreNew : IC := (.seq (.reg i_spec_StoreNew_r0)
  (.seq (.seq (.reg i_spec_StoreNew_r1)
  (.cond (.t 14) (.seq (.reg i_spec_StoreNew_r2)
  .ret) .skip))
  (.seq (.reg i_spec_StoreNew_r3)
  (.seq (.seq (.reg i_spec_StoreNew_r4)
  (.block 0 (.loop (.seq (.seq (.reg i_spec_StoreNew_r5)
  (.cond (.t 18) .skip (.exit 0)))
  (.seq (.block 1 (.seq (.reg i_spec_StoreNew_r6)
  (.cond (.t 36) (.reg i_spec_StoreNew_r7) .skip)))
  (.reg i_spec_StoreNew_r8))))))
  (.seq (.reg i_spec_StoreNew_r9)
  .ret)))))

theorem i_spec_StoreNew_ok : (Try.f45.body.bind fun c => toIC Try.prog 40 c []) = some (i_spec_StoreNew, []) := by kernel_rfl

theorem i_spec_StoreNew_fn {ds rs : List D} (hle : ds.length ≤ 40) (h : AW Try.prog 40 i_spec_StoreNew (Ends [.tmp 4] rs) (init ds)) : Fn Try.prog k_spec_StoreNew (lent ds) true rs :=
  Fn.intro' (by kernel_rfl) Try.func45 (by kernel_rfl) i_spec_StoreNew_ok (by kernel_rfl) hle h.h

abbrev i_impl_from_r0 : List RO := [
  ⟨⟨none, .mov 6 (.c (.one (.d (.bool false))))⟩, 0, []⟩]

abbrev i_impl_from_r1 : List RO := [
  ⟨⟨none, .mov 7 (.t 0)⟩, 0, []⟩,
  ⟨⟨none, .mov 8 (.t 1)⟩, 0, []⟩,
  ⟨⟨none, .bin 9 .geq (.t 7) (.t 8)⟩, 0, []⟩,
  ⟨⟨none, .mov 10 (.t 9)⟩, 0, []⟩,
  ⟨⟨some (10, true), .mov 11 (.t 0)⟩, 0, []⟩,
  ⟨⟨some (10, true), .mov 12 (.t 2)⟩, 0, []⟩,
  ⟨⟨some (10, true), .bin 13 .leq (.t 11) (.t 12)⟩, 0, []⟩,
  ⟨⟨none, .pick 14 (.t 10) (.t 13) (.c (.one (.d (.bool false))))⟩, 0, []⟩,
  ⟨⟨none, .mov 6 (.t 14)⟩, 0, []⟩]

def i_impl_from : IC := (.seq (.reg i_impl_from_r0)
  (.seq (.reg i_impl_from_r1)
  .ret))

theorem i_impl_from_ok : (Try.f68.body.bind fun c => toIC Try.prog 15 c []) = some (i_impl_from, []) := by kernel_rfl

theorem i_impl_from_fn {ds rs : List D} (hle : ds.length ≤ 15) (h : AW Try.prog 15 i_impl_from (Ends [.tmp 6] rs) (init ds)) : Fn Try.prog k_impl_from (lent ds) true rs :=
  Fn.intro' (by kernel_rfl) Try.func68 (by kernel_rfl) i_impl_from_ok (by kernel_rfl) hle h.h

abbrev i_impl_isKey_r0 : List RO := [
  ⟨⟨none, .mov 2 (.c (.one (.d (.bool false))))⟩, 0, []⟩]

abbrev i_impl_isKey_r1 : List RO := [
  ⟨⟨none, .mov 3 (.t 0)⟩, 0, []⟩,
  ⟨⟨none, .callv 4 (.c (.one (.fn k_impl_from []))) [(.t 3), (.c (.one (.d (.int .i64 0)))), (.c (.one (.d (.int .i64 999))))]⟩, 0, []⟩,
  ⟨⟨none, .mov 2 (.t 4)⟩, 0, []⟩]

def i_impl_isKey : IC := (.seq (.reg i_impl_isKey_r0)
  (.seq (.reg i_impl_isKey_r1)
  .ret))

theorem i_impl_isKey_ok : (Try.f61.body.bind fun c => toIC Try.prog 5 c []) = some (i_impl_isKey, []) := by kernel_rfl

theorem i_impl_isKey_fn {ds rs : List D} (hle : ds.length ≤ 5) (h : AW Try.prog 5 i_impl_isKey (Ends [.tmp 2] rs) (init ds)) : Fn Try.prog k_impl_isKey (lent ds) true rs :=
  Fn.intro' (by kernel_rfl) Try.func61 (by kernel_rfl) i_impl_isKey_ok (by kernel_rfl) hle h.h

abbrev i_impl_isWhole_r0 : List RO := [
  ⟨⟨none, .mov 2 (.c (.one (.d (.bool false))))⟩, 0, []⟩]

abbrev i_impl_isWhole_r1 : List RO := [
  ⟨⟨none, .mov 3 (.t 0)⟩, 0, []⟩,
  ⟨⟨none, .callv 4 (.c (.one (.fn k_impl_from []))) [(.t 3), (.c (.one (.d (.int .i64 0)))), (.c (.one (.d (.int .i64 1000000000))))]⟩, 0, []⟩,
  ⟨⟨none, .mov 2 (.t 4)⟩, 0, []⟩]

def i_impl_isWhole : IC := (.seq (.reg i_impl_isWhole_r0)
  (.seq (.reg i_impl_isWhole_r1)
  .ret))

theorem i_impl_isWhole_ok : (Try.f62.body.bind fun c => toIC Try.prog 5 c []) = some (i_impl_isWhole, []) := by kernel_rfl

theorem i_impl_isWhole_fn {ds rs : List D} (hle : ds.length ≤ 5) (h : AW Try.prog 5 i_impl_isWhole (Ends [.tmp 2] rs) (init ds)) : Fn Try.prog k_impl_isWhole (lent ds) true rs :=
  Fn.intro' (by kernel_rfl) Try.func62 (by kernel_rfl) i_impl_isWhole_ok (by kernel_rfl) hle h.h

abbrev i_impl_StoreOk_r0 : List RO := [
  ⟨⟨none, .mov 2 (.c (.one (.d (.bool false))))⟩, 0, []⟩]

abbrev i_impl_StoreOk_r1 : List RO := [
  ⟨⟨none, .mov 5 (.t 0)⟩, 0, []⟩,
  ⟨⟨none, .len 6 false (.t 5)⟩, 0, []⟩,
  ⟨⟨none, .mov 7 (.c (.one (.d (.int .i64 0))))⟩, 0, []⟩]

abbrev i_impl_StoreOk_r2 : List RO := [
  ⟨⟨none, .bin 8 .lss (.t 7) (.t 6)⟩, 0, []⟩]

abbrev i_impl_StoreOk_r3 : List RO := [
  ⟨⟨none, .mov 9 (.t 7)⟩, 0, []⟩,
  ⟨⟨none, .iaddr 10 2 (.t 5) (.t 7)⟩, 0, []⟩,
  ⟨⟨none, .load 11 (some 2) (.t 10)⟩, 0, []⟩,
  ⟨⟨none, .var 4 [(.d (.int .i64 0)), (.d (.int .i64 0))]⟩, 0, []⟩,
  ⟨⟨none, .mov 3 (.t 9)⟩, 0, []⟩,
  ⟨⟨none, .store 2 (.t 4) (.t 11)⟩, 0, []⟩]

abbrev i_impl_StoreOk_r4 : List RO := [
  ⟨⟨none, .faddr 12 0 (.t 4)⟩, 0, []⟩,
  ⟨⟨none, .load 13 none (.t 12)⟩, 1, []⟩,
  ⟨⟨none, .callv 14 (.c (.one (.fn k_impl_isKey []))) [(.t 13)]⟩, 3, []⟩,
  ⟨⟨none, .inv 15 (.t 14)⟩, 7, []⟩,
  ⟨⟨none, .mov 16 (.t 15)⟩, 15, []⟩,
  ⟨⟨some (16, false), .faddr 17 1 (.t 4)⟩, 31, []⟩,
  ⟨⟨some (16, false), .load 18 none (.t 17)⟩, 63, []⟩,
  ⟨⟨some (16, false), .callv 19 (.c (.one (.fn k_impl_isWhole []))) [(.t 18)]⟩, 127, []⟩,
  ⟨⟨some (16, false), .inv 20 (.t 19)⟩, 255, []⟩,
  ⟨⟨none, .pick 21 (.t 16) (.c (.one (.d (.bool true)))) (.t 20)⟩, 511, []⟩,
  ⟨⟨none, .mov 22 (.t 21)⟩, 1023, []⟩,
  ⟨⟨some (22, false), .mov 23 (.t 3)⟩, 2047, []⟩,
  ⟨⟨some (22, false), .bin 24 .gtr (.t 23) (.c (.one (.d (.int .i64 0))))⟩, 4095, []⟩,
  ⟨⟨some (22, false), .mov 25 (.t 24)⟩, 8191, []⟩,
  ⟨⟨some (25, true), .mov 26 (.t 0)⟩, 16383, []⟩,
  ⟨⟨some (25, true), .mov 27 (.t 3)⟩, 16383, []⟩,
  ⟨⟨some (25, true), .bin 28 .sub (.t 27) (.c (.one (.d (.int .i64 1))))⟩, 49151, []⟩,
  ⟨⟨some (25, true), .iaddr 29 2 (.t 26) (.t 28)⟩, 131071, []⟩,
  ⟨⟨some (25, true), .faddr 30 0 (.t 29)⟩, 262143, []⟩,
  ⟨⟨some (25, true), .load 31 none (.t 30)⟩, 524287, []⟩,
  ⟨⟨some (25, true), .faddr 32 0 (.t 4)⟩, 16383, []⟩,
  ⟨⟨some (25, true), .load 33 none (.t 32)⟩, 1064959, []⟩,
  ⟨⟨some (25, true), .bin 34 .geq (.t 31) (.t 33)⟩, 4194303, []⟩,
  ⟨⟨some (22, false), .pick 35 (.t 25) (.t 34) (.c (.one (.d (.bool false))))⟩, 8388607, []⟩,
  ⟨⟨none, .pick 36 (.t 22) (.c (.one (.d (.bool true)))) (.t 35)⟩, 16777215, []⟩]

abbrev i_impl_StoreOk_r5 : List RO := [
  ⟨⟨none, .mov 2 (.c (.one (.d (.bool false))))⟩, 0, []⟩]

abbrev i_impl_StoreOk_r6 : List RO := [
  ⟨⟨none, .bin 37 .add (.t 7) (.c (.one (.d (.int .i64 1))))⟩, 0, []⟩,
  ⟨⟨none, .mov 7 (.t 37)⟩, 0, []⟩]

abbrev i_impl_StoreOk_r7 : List RO := [
  ⟨⟨none, .mov 38 (.t 0)⟩, 0, []⟩,
  ⟨⟨none, .len 39 false (.t 38)⟩, 0, []⟩,
  ⟨⟨none, .bin 40 .leq (.t 39) (.c (.one (.d (.int .i64 60))))⟩, 0, []⟩,
  ⟨⟨none, .mov 2 (.t 40)⟩, 0, []⟩]

def i_impl_StoreOk : IC := (.seq (.reg i_impl_StoreOk_r0)
  (.seq (.seq (.reg i_impl_StoreOk_r1)
  (.block 0 (.loop (.seq (.reg i_impl_StoreOk_r2)
  (.seq (.cond (.t 8) .skip (.exit 0))
  (.seq (.block 1 (.seq (.reg i_impl_StoreOk_r3)
  (.seq (.regd i_impl_StoreOk_r4)
  (.cond (.t 36) (.seq (.reg i_impl_StoreOk_r5)
  .ret) .skip))))
  (.reg i_impl_StoreOk_r6)))))))
  (.seq (.reg i_impl_StoreOk_r7)
  .ret)))

theorem i_impl_StoreOk_ok : (Try.f18.body.bind fun c => toIC Try.prog 41 c [[(0, []), (1, []), (3, []), (7, []), (15, []), (31, []), (63, []), (127, []), (255, []), (511, []), (1023, []), (2047, []), (4095, []), (8191, []), (16383, []), (16383, []), (49151, []), (131071, []), (262143, []), (524287, []), (16383, []), (1064959, []), (4194303, []), (8388607, []), (16777215, [])]]) = some (i_impl_StoreOk, []) := by kernel_rfl

theorem i_impl_StoreOk_fn {ds rs : List D} (hle : ds.length ≤ 41) (h : AW Try.prog 41 i_impl_StoreOk (Ends [.tmp 2] rs) (init ds)) : Fn Try.prog k_impl_StoreOk (lent ds) true rs :=
  Fn.intro' (by kernel_rfl) Try.func18 (by kernel_rfl) i_impl_StoreOk_ok (by kernel_rfl) hle h.h

abbrev i_impl_isAnswer_r0 : List RO := [
  ⟨⟨none, .mov 2 (.c (.one (.d (.bool false))))⟩, 0, []⟩]

abbrev i_impl_isAnswer_r1 : List RO := [
  ⟨⟨none, .mov 3 (.t 0)⟩, 0, []⟩,
  ⟨⟨none, .callv 4 (.c (.one (.fn k_impl_from []))) [(.t 3), (.c (.one (.d (.int .i64 (-1))))), (.c (.one (.d (.int .i64 1000000000))))]⟩, 0, []⟩,
  ⟨⟨none, .mov 2 (.t 4)⟩, 0, []⟩]

def i_impl_isAnswer : IC := (.seq (.reg i_impl_isAnswer_r0)
  (.seq (.reg i_impl_isAnswer_r1)
  .ret))

theorem i_impl_isAnswer_ok : (Try.f70.body.bind fun c => toIC Try.prog 5 c []) = some (i_impl_isAnswer, []) := by kernel_rfl

theorem i_impl_isAnswer_fn {ds rs : List D} (hle : ds.length ≤ 5) (h : AW Try.prog 5 i_impl_isAnswer (Ends [.tmp 2] rs) (init ds)) : Fn Try.prog k_impl_isAnswer (lent ds) true rs :=
  Fn.intro' (by kernel_rfl) Try.func70 (by kernel_rfl) i_impl_isAnswer_ok (by kernel_rfl) hle h.h

abbrev i_impl_WritesOk_r0 : List RO := [
  ⟨⟨none, .mov 2 (.c (.one (.d (.bool false))))⟩, 0, []⟩]

abbrev i_impl_WritesOk_r1 : List RO := [
  ⟨⟨none, .mov 5 (.t 0)⟩, 0, []⟩,
  ⟨⟨none, .len 6 false (.t 5)⟩, 0, []⟩,
  ⟨⟨none, .mov 7 (.c (.one (.d (.int .i64 0))))⟩, 0, []⟩]

abbrev i_impl_WritesOk_r2 : List RO := [
  ⟨⟨none, .bin 8 .lss (.t 7) (.t 6)⟩, 0, []⟩]

abbrev i_impl_WritesOk_r3 : List RO := [
  ⟨⟨none, .mov 9 (.t 7)⟩, 0, []⟩,
  ⟨⟨none, .iaddr 10 2 (.t 5) (.t 7)⟩, 0, []⟩,
  ⟨⟨none, .load 11 (some 2) (.t 10)⟩, 0, []⟩,
  ⟨⟨none, .var 4 [(.d (.int .i64 0)), (.d (.int .i64 0))]⟩, 0, []⟩,
  ⟨⟨none, .mov 3 (.t 9)⟩, 0, []⟩,
  ⟨⟨none, .store 2 (.t 4) (.t 11)⟩, 0, []⟩]

abbrev i_impl_WritesOk_r4 : List RO := [
  ⟨⟨none, .faddr 12 0 (.t 4)⟩, 0, []⟩,
  ⟨⟨none, .load 13 none (.t 12)⟩, 1, []⟩,
  ⟨⟨none, .callv 14 (.c (.one (.fn k_impl_isKey []))) [(.t 13)]⟩, 3, []⟩,
  ⟨⟨none, .inv 15 (.t 14)⟩, 7, []⟩,
  ⟨⟨none, .mov 16 (.t 15)⟩, 15, []⟩,
  ⟨⟨some (16, false), .faddr 17 1 (.t 4)⟩, 31, []⟩,
  ⟨⟨some (16, false), .load 18 none (.t 17)⟩, 63, []⟩,
  ⟨⟨some (16, false), .callv 19 (.c (.one (.fn k_impl_isAnswer []))) [(.t 18)]⟩, 127, []⟩,
  ⟨⟨some (16, false), .inv 20 (.t 19)⟩, 255, []⟩,
  ⟨⟨none, .pick 21 (.t 16) (.c (.one (.d (.bool true)))) (.t 20)⟩, 511, []⟩,
  ⟨⟨none, .mov 22 (.t 21)⟩, 1023, []⟩,
  ⟨⟨some (22, false), .mov 23 (.t 3)⟩, 2047, []⟩,
  ⟨⟨some (22, false), .bin 24 .gtr (.t 23) (.c (.one (.d (.int .i64 0))))⟩, 4095, []⟩,
  ⟨⟨some (22, false), .mov 25 (.t 24)⟩, 8191, []⟩,
  ⟨⟨some (25, true), .mov 26 (.t 0)⟩, 16383, []⟩,
  ⟨⟨some (25, true), .mov 27 (.t 3)⟩, 16383, []⟩,
  ⟨⟨some (25, true), .bin 28 .sub (.t 27) (.c (.one (.d (.int .i64 1))))⟩, 49151, []⟩,
  ⟨⟨some (25, true), .iaddr 29 2 (.t 26) (.t 28)⟩, 131071, []⟩,
  ⟨⟨some (25, true), .faddr 30 0 (.t 29)⟩, 262143, []⟩,
  ⟨⟨some (25, true), .load 31 none (.t 30)⟩, 524287, []⟩,
  ⟨⟨some (25, true), .faddr 32 0 (.t 4)⟩, 16383, []⟩,
  ⟨⟨some (25, true), .load 33 none (.t 32)⟩, 1064959, []⟩,
  ⟨⟨some (25, true), .bin 34 .geq (.t 31) (.t 33)⟩, 4194303, []⟩,
  ⟨⟨some (22, false), .pick 35 (.t 25) (.t 34) (.c (.one (.d (.bool false))))⟩, 8388607, []⟩,
  ⟨⟨none, .pick 36 (.t 22) (.c (.one (.d (.bool true)))) (.t 35)⟩, 16777215, []⟩]

abbrev i_impl_WritesOk_r5 : List RO := [
  ⟨⟨none, .mov 2 (.c (.one (.d (.bool false))))⟩, 0, []⟩]

abbrev i_impl_WritesOk_r6 : List RO := [
  ⟨⟨none, .bin 37 .add (.t 7) (.c (.one (.d (.int .i64 1))))⟩, 0, []⟩,
  ⟨⟨none, .mov 7 (.t 37)⟩, 0, []⟩]

abbrev i_impl_WritesOk_r7 : List RO := [
  ⟨⟨none, .mov 38 (.t 0)⟩, 0, []⟩,
  ⟨⟨none, .len 39 false (.t 38)⟩, 0, []⟩,
  ⟨⟨none, .bin 40 .leq (.t 39) (.c (.one (.d (.int .i64 60))))⟩, 0, []⟩,
  ⟨⟨none, .mov 2 (.t 40)⟩, 0, []⟩]

def i_impl_WritesOk : IC := (.seq (.reg i_impl_WritesOk_r0)
  (.seq (.seq (.reg i_impl_WritesOk_r1)
  (.block 0 (.loop (.seq (.reg i_impl_WritesOk_r2)
  (.seq (.cond (.t 8) .skip (.exit 0))
  (.seq (.block 1 (.seq (.reg i_impl_WritesOk_r3)
  (.seq (.regd i_impl_WritesOk_r4)
  (.cond (.t 36) (.seq (.reg i_impl_WritesOk_r5)
  .ret) .skip))))
  (.reg i_impl_WritesOk_r6)))))))
  (.seq (.reg i_impl_WritesOk_r7)
  .ret)))

theorem i_impl_WritesOk_ok : (Try.f93.body.bind fun c => toIC Try.prog 41 c [[(0, []), (1, []), (3, []), (7, []), (15, []), (31, []), (63, []), (127, []), (255, []), (511, []), (1023, []), (2047, []), (4095, []), (8191, []), (16383, []), (16383, []), (49151, []), (131071, []), (262143, []), (524287, []), (16383, []), (1064959, []), (4194303, []), (8388607, []), (16777215, [])]]) = some (i_impl_WritesOk, []) := by kernel_rfl

theorem i_impl_WritesOk_fn {ds rs : List D} (hle : ds.length ≤ 41) (h : AW Try.prog 41 i_impl_WritesOk (Ends [.tmp 2] rs) (init ds)) : Fn Try.prog k_impl_WritesOk (lent ds) true rs :=
  Fn.intro' (by kernel_rfl) Try.func93 (by kernel_rfl) i_impl_WritesOk_ok (by kernel_rfl) hle h.h

abbrev i_impl_cellFor_1_r0 : List RO := [
  ⟨⟨none, .box 2 (.t 0)⟩, 0, []⟩,
  ⟨⟨none, .mov 4 (.c (.one (.d (.int .i64 0))))⟩, 0, []⟩]

abbrev i_impl_cellFor_1_r1 : List RO := [
  ⟨⟨none, .faddr 5 0 (.t 2)⟩, 0, []⟩,
  ⟨⟨none, .load 6 none (.t 5)⟩, 0, []⟩,
  ⟨⟨none, .mov 7 (.t 1)⟩, 0, []⟩,
  ⟨⟨none, .bin 8 .sub (.t 6) (.t 7)⟩, 0, []⟩,
  ⟨⟨none, .mov 4 (.t 8)⟩, 0, []⟩]

def i_impl_cellFor_1 : IC := (.seq (.reg i_impl_cellFor_1_r0)
  (.seq (.reg i_impl_cellFor_1_r1)
  .ret))

theorem i_impl_cellFor_1_ok : (Try.f113.body.bind fun c => toIC Try.prog 9 c []) = some (i_impl_cellFor_1, []) := by kernel_rfl

theorem i_impl_cellFor_1_fn {ds rs : List D} (hle : ds.length ≤ 9) (h : AW Try.prog 9 i_impl_cellFor_1 (Ends [.tmp 4] rs) (init ds)) : Fn Try.prog k_impl_cellFor_1 (lent ds) true rs :=
  Fn.intro' (by kernel_rfl) Try.func113 (by kernel_rfl) i_impl_cellFor_1_ok (by kernel_rfl) hle h.h

abbrev i_slices_BinarySearchFunc___impl_Cell_impl_Cell_int__r0 : List RO := [
  ⟨⟨none, .mov 6 (.c (.one (.d (.int .i64 0))))⟩, 0, []⟩,
  ⟨⟨none, .mov 7 (.c (.one (.d (.bool false))))⟩, 0, []⟩]

abbrev i_slices_BinarySearchFunc___impl_Cell_impl_Cell_int__r1 : List RO := [
  ⟨⟨none, .mov 12 (.t 0)⟩, 0, []⟩,
  ⟨⟨none, .len 13 false (.t 12)⟩, 0, []⟩,
  ⟨⟨none, .mov 8 (.t 13)⟩, 0, []⟩]

abbrev i_slices_BinarySearchFunc___impl_Cell_impl_Cell_int__r2 : List RO := [
  ⟨⟨none, .mov 14 (.t 8)⟩, 0, []⟩,
  ⟨⟨none, .mov 9 (.c (.one (.d (.int .i64 0))))⟩, 0, []⟩,
  ⟨⟨none, .mov 10 (.t 14)⟩, 0, []⟩]

abbrev i_slices_BinarySearchFunc___impl_Cell_impl_Cell_int__r3 : List RO := [
  ⟨⟨none, .mov 15 (.t 9)⟩, 0, []⟩,
  ⟨⟨none, .mov 16 (.t 10)⟩, 0, []⟩,
  ⟨⟨none, .bin 17 .lss (.t 15) (.t 16)⟩, 0, []⟩]

abbrev i_slices_BinarySearchFunc___impl_Cell_impl_Cell_int__r4 : List RO := [
  ⟨⟨none, .mov 18 (.t 9)⟩, 0, []⟩,
  ⟨⟨none, .mov 19 (.t 10)⟩, 0, []⟩,
  ⟨⟨none, .bin 20 .add (.t 18) (.t 19)⟩, 0, []⟩,
  ⟨⟨none, .conv 21 .u64 (.t 20)⟩, 0, []⟩,
  ⟨⟨none, .bin 22 .shr (.t 21) (.c (.one (.d (.int .u64 1))))⟩, 0, []⟩,
  ⟨⟨none, .conv 23 .i64 (.t 22)⟩, 0, []⟩,
  ⟨⟨none, .mov 11 (.t 23)⟩, 0, []⟩]

abbrev i_slices_BinarySearchFunc___impl_Cell_impl_Cell_int__r5 : List RO := [
  ⟨⟨none, .mov 24 (.t 2)⟩, 0, []⟩,
  ⟨⟨none, .mov 25 (.t 0)⟩, 0, []⟩,
  ⟨⟨none, .mov 26 (.t 11)⟩, 0, []⟩,
  ⟨⟨none, .iaddr 27 2 (.t 25) (.t 26)⟩, 0, []⟩,
  ⟨⟨none, .load 28 (some 2) (.t 27)⟩, 0, []⟩,
  ⟨⟨none, .mov 29 (.t 1)⟩, 0, []⟩,
  ⟨⟨none, .callv 30 (.t 24) [(.t 28), (.t 29)]⟩, 0, []⟩,
  ⟨⟨none, .bin 31 .lss (.t 30) (.c (.one (.d (.int .i64 0))))⟩, 0, []⟩]

abbrev i_slices_BinarySearchFunc___impl_Cell_impl_Cell_int__r6 : List RO := [
  ⟨⟨none, .mov 32 (.t 11)⟩, 0, []⟩,
  ⟨⟨none, .bin 33 .add (.t 32) (.c (.one (.d (.int .i64 1))))⟩, 0, []⟩,
  ⟨⟨none, .mov 9 (.t 33)⟩, 0, []⟩]

abbrev i_slices_BinarySearchFunc___impl_Cell_impl_Cell_int__r7 : List RO := [
  ⟨⟨none, .mov 34 (.t 11)⟩, 0, []⟩,
  ⟨⟨none, .mov 10 (.t 34)⟩, 0, []⟩]

abbrev i_slices_BinarySearchFunc___impl_Cell_impl_Cell_int__r8 : List RO := [
  ⟨⟨none, .mov 35 (.t 9)⟩, 0, []⟩,
  ⟨⟨none, .mov 36 (.t 9)⟩, 0, []⟩,
  ⟨⟨none, .mov 37 (.t 8)⟩, 0, []⟩,
  ⟨⟨none, .bin 38 .lss (.t 36) (.t 37)⟩, 0, []⟩,
  ⟨⟨none, .mov 39 (.t 38)⟩, 0, []⟩,
  ⟨⟨some (39, true), .mov 40 (.t 2)⟩, 0, []⟩,
  ⟨⟨some (39, true), .mov 41 (.t 0)⟩, 0, []⟩,
  ⟨⟨some (39, true), .mov 42 (.t 9)⟩, 0, []⟩,
  ⟨⟨some (39, true), .iaddr 43 2 (.t 41) (.t 42)⟩, 0, []⟩,
  ⟨⟨some (39, true), .load 44 (some 2) (.t 43)⟩, 0, []⟩,
  ⟨⟨some (39, true), .mov 45 (.t 1)⟩, 0, []⟩,
  ⟨⟨some (39, true), .callv 46 (.t 40) [(.t 44), (.t 45)]⟩, 0, []⟩,
  ⟨⟨some (39, true), .bin 47 .eql (.t 46) (.c (.one (.d (.int .i64 0))))⟩, 0, []⟩,
  ⟨⟨none, .pick 48 (.t 39) (.t 47) (.c (.one (.d (.bool false))))⟩, 0, []⟩,
  ⟨⟨none, .mov 6 (.t 35)⟩, 0, []⟩,
  ⟨⟨none, .mov 7 (.t 48)⟩, 0, []⟩]

def i_slices_BinarySearchFunc___impl_Cell_impl_Cell_int_ : IC := (.seq (.reg i_slices_BinarySearchFunc___impl_Cell_impl_Cell_int__r0)
  (.seq (.reg i_slices_BinarySearchFunc___impl_Cell_impl_Cell_int__r1)
  (.seq (.reg i_slices_BinarySearchFunc___impl_Cell_impl_Cell_int__r2)
  (.seq (.block 0 (.loop (.seq (.seq (.reg i_slices_BinarySearchFunc___impl_Cell_impl_Cell_int__r3)
  (.cond (.t 17) .skip (.exit 0)))
  (.block 1 (.seq (.reg i_slices_BinarySearchFunc___impl_Cell_impl_Cell_int__r4)
  (.seq (.reg i_slices_BinarySearchFunc___impl_Cell_impl_Cell_int__r5)
  (.cond (.t 31) (.reg i_slices_BinarySearchFunc___impl_Cell_impl_Cell_int__r6) (.reg i_slices_BinarySearchFunc___impl_Cell_impl_Cell_int__r7))))))))
  (.seq (.reg i_slices_BinarySearchFunc___impl_Cell_impl_Cell_int__r8)
  .ret)))))

theorem i_slices_BinarySearchFunc___impl_Cell_impl_Cell_int__ok : (Try.f112.body.bind fun c => toIC Try.prog 49 c []) = some (i_slices_BinarySearchFunc___impl_Cell_impl_Cell_int_, []) := by kernel_rfl

theorem i_slices_BinarySearchFunc___impl_Cell_impl_Cell_int__fn {ds rs : List D} (hle : ds.length ≤ 49) (h : AW Try.prog 49 i_slices_BinarySearchFunc___impl_Cell_impl_Cell_int_ (Ends [.tmp 6, .tmp 7] rs) (init ds)) : Fn Try.prog k_slices_BinarySearchFunc___impl_Cell_impl_Cell_int_ (lent ds) true rs :=
  Fn.intro' (by kernel_rfl) Try.func112 (by kernel_rfl) i_slices_BinarySearchFunc___impl_Cell_impl_Cell_int__ok (by kernel_rfl) hle h.h

abbrev i_impl_cellFor_r0 : List RO := [
  ⟨⟨none, .mov 4 (.c (.one (.d (.int .i64 0))))⟩, 0, []⟩,
  ⟨⟨none, .mov 5 (.c (.one (.d (.bool false))))⟩, 0, []⟩]

abbrev i_impl_cellFor_r1 : List RO := [
  ⟨⟨none, .mov 6 (.t 0)⟩, 0, []⟩,
  ⟨⟨none, .mov 7 (.t 1)⟩, 0, []⟩,
  ⟨⟨none, .callv 8 (.c (.one (.fn k_slices_BinarySearchFunc___impl_Cell_impl_Cell_int_ []))) [(.t 6), (.t 7), (.c (.one (.fn k_impl_cellFor_1 [])))]⟩, 0, []⟩,
  ⟨⟨none, .ext 9 (.t 8) 0⟩, 0, []⟩,
  ⟨⟨none, .ext 10 (.t 8) 1⟩, 0, []⟩,
  ⟨⟨none, .mov 4 (.t 9)⟩, 0, []⟩,
  ⟨⟨none, .mov 5 (.t 10)⟩, 0, []⟩]

def i_impl_cellFor : IC := (.seq (.reg i_impl_cellFor_r0)
  (.seq (.reg i_impl_cellFor_r1)
  .ret))

theorem i_impl_cellFor_ok : (Try.f103.body.bind fun c => toIC Try.prog 11 c []) = some (i_impl_cellFor, []) := by kernel_rfl

theorem i_impl_cellFor_fn {ds rs : List D} (hle : ds.length ≤ 11) (h : AW Try.prog 11 i_impl_cellFor (Ends [.tmp 4, .tmp 5] rs) (init ds)) : Fn Try.prog k_impl_cellFor (lent ds) true rs :=
  Fn.intro' (by kernel_rfl) Try.func103 (by kernel_rfl) i_impl_cellFor_ok (by kernel_rfl) hle h.h

abbrev i_impl_valueOf_r0 : List RO := [
  ⟨⟨none, .mov 4 (.c (.one (.d (.int .i64 0))))⟩, 0, []⟩]

abbrev i_impl_valueOf_r1 : List RO := [
  ⟨⟨none, .mov 8 (.t 0)⟩, 0, []⟩,
  ⟨⟨none, .mov 9 (.t 1)⟩, 0, []⟩,
  ⟨⟨none, .callv 10 (.c (.one (.fn k_impl_cellFor []))) [(.t 8), (.t 9)]⟩, 0, []⟩,
  ⟨⟨none, .mov 7 (.t 10)⟩, 0, []⟩,
  ⟨⟨none, .ext 11 (.t 7) 0⟩, 0, []⟩,
  ⟨⟨none, .ext 12 (.t 7) 1⟩, 0, []⟩,
  ⟨⟨none, .mov 5 (.t 11)⟩, 0, []⟩,
  ⟨⟨none, .mov 6 (.t 12)⟩, 0, []⟩]

abbrev i_impl_valueOf_r2 : List RO := [
  ⟨⟨none, .mov 13 (.t 6)⟩, 0, []⟩,
  ⟨⟨none, .inv 14 (.t 13)⟩, 0, []⟩]

abbrev i_impl_valueOf_r3 : List RO := [
  ⟨⟨none, .mov 4 (.c (.one (.d (.int .i64 (-1)))))⟩, 0, []⟩]

abbrev i_impl_valueOf_r4 : List RO := [
  ⟨⟨none, .mov 15 (.t 0)⟩, 0, []⟩,
  ⟨⟨none, .mov 16 (.t 5)⟩, 0, []⟩,
  ⟨⟨none, .iaddr 17 2 (.t 15) (.t 16)⟩, 0, []⟩,
  ⟨⟨none, .faddr 18 1 (.t 17)⟩, 0, []⟩,
  ⟨⟨none, .load 19 none (.t 18)⟩, 0, []⟩,
  ⟨⟨none, .mov 4 (.t 19)⟩, 0, []⟩]

def i_impl_valueOf : IC := (.seq (.reg i_impl_valueOf_r0)
  (.seq (.reg i_impl_valueOf_r1)
  (.seq (.seq (.reg i_impl_valueOf_r2)
  (.cond (.t 14) (.seq (.reg i_impl_valueOf_r3)
  .ret) .skip))
  (.seq (.reg i_impl_valueOf_r4)
  .ret))))

theorem i_impl_valueOf_ok : (Try.f75.body.bind fun c => toIC Try.prog 20 c []) = some (i_impl_valueOf, []) := by kernel_rfl

theorem i_impl_valueOf_fn {ds rs : List D} (hle : ds.length ≤ 20) (h : AW Try.prog 20 i_impl_valueOf (Ends [.tmp 4] rs) (init ds)) : Fn Try.prog k_impl_valueOf (lent ds) true rs :=
  Fn.intro' (by kernel_rfl) Try.func75 (by kernel_rfl) i_impl_valueOf_ok (by kernel_rfl) hle h.h

abbrev i_impl_StoreNew_r0 : List RO := [
  ⟨⟨none, .mov 4 (.c (.one (.d (.int .i64 0))))⟩, 0, []⟩]

abbrev i_impl_StoreNew_r1 : List RO := [
  ⟨⟨none, .mov 8 (.t 0)⟩, 0, []⟩,
  ⟨⟨none, .callv 9 (.c (.one (.fn k_impl_StoreOk []))) [(.t 8)]⟩, 0, []⟩,
  ⟨⟨none, .inv 10 (.t 9)⟩, 0, []⟩,
  ⟨⟨none, .mov 11 (.t 10)⟩, 0, []⟩,
  ⟨⟨some (11, false), .mov 12 (.t 1)⟩, 0, []⟩,
  ⟨⟨some (11, false), .callv 13 (.c (.one (.fn k_impl_WritesOk []))) [(.t 12)]⟩, 0, []⟩,
  ⟨⟨some (11, false), .inv 14 (.t 13)⟩, 0, []⟩,
  ⟨⟨none, .pick 15 (.t 11) (.c (.one (.d (.bool true)))) (.t 14)⟩, 0, []⟩]

abbrev i_impl_StoreNew_r2 : List RO := [
  ⟨⟨none, .mov 4 (.c (.one (.d (.int .i64 (-1)))))⟩, 0, []⟩]

abbrev i_impl_StoreNew_r3 : List RO := [
  ⟨⟨none, .mov 5 (.c (.one (.d (.int .i64 0))))⟩, 0, []⟩]

abbrev i_impl_StoreNew_r4 : List RO := [
  ⟨⟨none, .mov 16 (.t 1)⟩, 0, []⟩,
  ⟨⟨none, .len 17 false (.t 16)⟩, 0, []⟩,
  ⟨⟨none, .mov 18 (.c (.one (.d (.int .i64 0))))⟩, 0, []⟩]

abbrev i_impl_StoreNew_r5 : List RO := [
  ⟨⟨none, .bin 19 .lss (.t 18) (.t 17)⟩, 0, []⟩]

abbrev i_impl_StoreNew_r6 : List RO := [
  ⟨⟨none, .iaddr 20 2 (.t 16) (.t 18)⟩, 0, []⟩,
  ⟨⟨none, .load 21 (some 2) (.t 20)⟩, 0, []⟩,
  ⟨⟨none, .var 7 [(.d (.int .i64 0)), (.d (.int .i64 0))]⟩, 0, []⟩,
  ⟨⟨none, .store 2 (.t 7) (.t 21)⟩, 0, []⟩]

abbrev i_impl_StoreNew_r7 : List RO := [
  ⟨⟨none, .faddr 22 1 (.t 7)⟩, 0, []⟩,
  ⟨⟨none, .load 23 none (.t 22)⟩, 0, []⟩,
  ⟨⟨none, .bin 24 .neq (.t 23) (.c (.one (.d (.int .i64 (-1)))))⟩, 0, []⟩,
  ⟨⟨none, .mov 25 (.t 24)⟩, 0, []⟩,
  ⟨⟨some (25, true), .mov 26 (.t 0)⟩, 0, []⟩,
  ⟨⟨some (25, true), .faddr 27 0 (.t 7)⟩, 0, []⟩,
  ⟨⟨some (25, true), .load 28 none (.t 27)⟩, 0, []⟩,
  ⟨⟨some (25, true), .callv 29 (.c (.one (.fn k_impl_valueOf []))) [(.t 26), (.t 28)]⟩, 0, []⟩,
  ⟨⟨some (25, true), .bin 30 .lss (.t 29) (.c (.one (.d (.int .i64 0))))⟩, 0, []⟩,
  ⟨⟨none, .pick 31 (.t 25) (.t 30) (.c (.one (.d (.bool false))))⟩, 0, []⟩]

abbrev i_impl_StoreNew_r8 : List RO := [
  ⟨⟨none, .mov 32 (.t 5)⟩, 0, []⟩,
  ⟨⟨none, .bin 33 .add (.t 32) (.c (.one (.d (.int .i64 1))))⟩, 0, []⟩,
  ⟨⟨none, .mov 5 (.t 33)⟩, 0, []⟩]

abbrev i_impl_StoreNew_r9 : List RO := [
  ⟨⟨none, .bin 34 .add (.t 18) (.c (.one (.d (.int .i64 1))))⟩, 0, []⟩,
  ⟨⟨none, .mov 18 (.t 34)⟩, 0, []⟩]

abbrev i_impl_StoreNew_r10 : List RO := [
  ⟨⟨none, .mov 35 (.t 5)⟩, 0, []⟩,
  ⟨⟨none, .mov 4 (.t 35)⟩, 0, []⟩]

def i_impl_StoreNew : IC := (.seq (.reg i_impl_StoreNew_r0)
  (.seq (.seq (.reg i_impl_StoreNew_r1)
  (.cond (.t 15) (.seq (.reg i_impl_StoreNew_r2)
  .ret) .skip))
  (.seq (.reg i_impl_StoreNew_r3)
  (.seq (.seq (.reg i_impl_StoreNew_r4)
  (.block 0 (.loop (.seq (.reg i_impl_StoreNew_r5)
  (.seq (.cond (.t 19) .skip (.exit 0))
  (.seq (.block 1 (.seq (.reg i_impl_StoreNew_r6)
  (.seq (.reg i_impl_StoreNew_r7)
  (.cond (.t 31) (.reg i_impl_StoreNew_r8) .skip))))
  (.reg i_impl_StoreNew_r9)))))))
  (.seq (.reg i_impl_StoreNew_r10)
  .ret)))))

theorem i_impl_StoreNew_ok : (Try.f47.body.bind fun c => toIC Try.prog 36 c []) = some (i_impl_StoreNew, []) := by kernel_rfl

theorem i_impl_StoreNew_fn {ds rs : List D} (hle : ds.length ≤ 36) (h : AW Try.prog 36 i_impl_StoreNew (Ends [.tmp 4] rs) (init ds)) : Fn Try.prog k_impl_StoreNew (lent ds) true rs :=
  Fn.intro' (by kernel_rfl) Try.func47 (by kernel_rfl) i_impl_StoreNew_ok (by kernel_rfl) hle h.h

abbrev i_laws_eqCell_r0 : List RO := [
  ⟨⟨none, .box 2 (.t 0)⟩, 0, []⟩,
  ⟨⟨none, .box 3 (.t 1)⟩, 0, []⟩,
  ⟨⟨none, .mov 4 (.c (.one (.d (.bool false))))⟩, 0, []⟩]

abbrev i_laws_eqCell_r1 : List RO := [
  ⟨⟨none, .faddr 5 0 (.t 2)⟩, 0, []⟩,
  ⟨⟨none, .load 6 none (.t 5)⟩, 0, []⟩,
  ⟨⟨none, .faddr 7 0 (.t 3)⟩, 0, []⟩,
  ⟨⟨none, .load 8 none (.t 7)⟩, 0, []⟩,
  ⟨⟨none, .bin 9 .neq (.t 6) (.t 8)⟩, 0, []⟩]

abbrev i_laws_eqCell_r2 : List RO := [
  ⟨⟨none, .mov 4 (.c (.one (.d (.bool false))))⟩, 0, []⟩]

abbrev i_laws_eqCell_r3 : List RO := [
  ⟨⟨none, .faddr 10 1 (.t 2)⟩, 0, []⟩,
  ⟨⟨none, .load 11 none (.t 10)⟩, 0, []⟩,
  ⟨⟨none, .faddr 12 1 (.t 3)⟩, 0, []⟩,
  ⟨⟨none, .load 13 none (.t 12)⟩, 0, []⟩,
  ⟨⟨none, .bin 14 .neq (.t 11) (.t 13)⟩, 0, []⟩]

abbrev i_laws_eqCell_r4 : List RO := [
  ⟨⟨none, .mov 4 (.c (.one (.d (.bool false))))⟩, 0, []⟩]

abbrev i_laws_eqCell_r5 : List RO := [
  ⟨⟨none, .mov 4 (.c (.one (.d (.bool true))))⟩, 0, []⟩]

def i_laws_eqCell : IC := (.seq (.reg i_laws_eqCell_r0)
  (.seq (.seq (.reg i_laws_eqCell_r1)
  (.cond (.t 9) (.seq (.reg i_laws_eqCell_r2)
  .ret) .skip))
  (.seq (.seq (.reg i_laws_eqCell_r3)
  (.cond (.t 14) (.seq (.reg i_laws_eqCell_r4)
  .ret) .skip))
  (.seq (.reg i_laws_eqCell_r5)
  .ret))))

theorem i_laws_eqCell_ok : (Try.f63.body.bind fun c => toIC Try.prog 15 c []) = some (i_laws_eqCell, []) := by kernel_rfl

theorem i_laws_eqCell_fn {ds rs : List D} (hle : ds.length ≤ 15) (h : AW Try.prog 15 i_laws_eqCell (Ends [.tmp 4] rs) (init ds)) : Fn Try.prog k_laws_eqCell (lent ds) true rs :=
  Fn.intro' (by kernel_rfl) Try.func63 (by kernel_rfl) i_laws_eqCell_ok (by kernel_rfl) hle h.h

abbrev i_laws_eqCellS_r0 : List RO := [
  ⟨⟨none, .mov 4 (.c (.one (.d (.bool false))))⟩, 0, []⟩]

abbrev i_laws_eqCellS_r1 : List RO := [
  ⟨⟨none, .mov 6 (.t 0)⟩, 0, []⟩,
  ⟨⟨none, .len 7 false (.t 6)⟩, 0, []⟩,
  ⟨⟨none, .mov 8 (.t 1)⟩, 0, []⟩,
  ⟨⟨none, .len 9 false (.t 8)⟩, 0, []⟩,
  ⟨⟨none, .bin 10 .neq (.t 7) (.t 9)⟩, 0, []⟩]

abbrev i_laws_eqCellS_r2 : List RO := [
  ⟨⟨none, .mov 4 (.c (.one (.d (.bool false))))⟩, 0, []⟩]

abbrev i_laws_eqCellS_r3 : List RO := [
  ⟨⟨none, .mov 5 (.c (.one (.d (.int .i64 0))))⟩, 0, []⟩]

abbrev i_laws_eqCellS_r4 : List RO := [
  ⟨⟨none, .mov 11 (.t 5)⟩, 0, []⟩,
  ⟨⟨none, .mov 12 (.t 0)⟩, 0, []⟩,
  ⟨⟨none, .len 13 false (.t 12)⟩, 0, []⟩,
  ⟨⟨none, .bin 14 .lss (.t 11) (.t 13)⟩, 0, []⟩]

abbrev i_laws_eqCellS_r5 : List RO := [
  ⟨⟨none, .mov 17 (.t 0)⟩, 0, []⟩,
  ⟨⟨none, .mov 18 (.t 5)⟩, 0, []⟩,
  ⟨⟨none, .iaddr 19 2 (.t 17) (.t 18)⟩, 3, []⟩,
  ⟨⟨none, .load 20 (some 2) (.t 19)⟩, 7, []⟩,
  ⟨⟨none, .mov 21 (.t 1)⟩, 0, []⟩,
  ⟨⟨none, .mov 22 (.t 5)⟩, 0, []⟩,
  ⟨⟨none, .iaddr 23 2 (.t 21) (.t 22)⟩, 48, []⟩,
  ⟨⟨none, .load 24 (some 2) (.t 23)⟩, 112, []⟩,
  ⟨⟨none, .callv 25 (.c (.one (.fn k_laws_eqCell []))) [(.t 20), (.t 24)]⟩, 255, []⟩,
  ⟨⟨none, .inv 26 (.t 25)⟩, 511, []⟩]

abbrev i_laws_eqCellS_r6 : List RO := [
  ⟨⟨none, .mov 4 (.c (.one (.d (.bool false))))⟩, 0, []⟩]

abbrev i_laws_eqCellS_r7 : List RO := [
  ⟨⟨none, .mov 15 (.t 5)⟩, 0, []⟩,
  ⟨⟨none, .bin 16 .add (.t 15) (.c (.one (.d (.int .i64 1))))⟩, 0, []⟩,
  ⟨⟨none, .mov 5 (.t 16)⟩, 0, []⟩]

abbrev i_laws_eqCellS_r8 : List RO := [
  ⟨⟨none, .mov 4 (.c (.one (.d (.bool true))))⟩, 0, []⟩]

def i_laws_eqCellS : IC := (.seq (.reg i_laws_eqCellS_r0)
  (.seq (.seq (.reg i_laws_eqCellS_r1)
  (.cond (.t 10) (.seq (.reg i_laws_eqCellS_r2)
  .ret) .skip))
  (.seq (.seq (.reg i_laws_eqCellS_r3)
  (.block 0 (.loop (.seq (.seq (.reg i_laws_eqCellS_r4)
  (.cond (.t 14) .skip (.exit 0)))
  (.seq (.block 1 (.seq (.regd i_laws_eqCellS_r5)
  (.cond (.t 26) (.seq (.reg i_laws_eqCellS_r6)
  .ret) .skip)))
  (.reg i_laws_eqCellS_r7))))))
  (.seq (.reg i_laws_eqCellS_r8)
  .ret))))

theorem i_laws_eqCellS_ok : (Try.f19.body.bind fun c => toIC Try.prog 27 c [[(0, []), (0, []), (3, []), (7, []), (0, []), (0, []), (48, []), (112, []), (255, []), (511, [])]]) = some (i_laws_eqCellS, []) := by kernel_rfl

theorem i_laws_eqCellS_fn {ds rs : List D} (hle : ds.length ≤ 27) (h : AW Try.prog 27 i_laws_eqCellS (Ends [.tmp 4] rs) (init ds)) : Fn Try.prog k_laws_eqCellS (lent ds) true rs :=
  Fn.intro' (by kernel_rfl) Try.func19 (by kernel_rfl) i_laws_eqCellS_ok (by kernel_rfl) hle h.h

abbrev i_laws_eqWrite_r0 : List RO := [
  ⟨⟨none, .box 2 (.t 0)⟩, 0, []⟩,
  ⟨⟨none, .box 3 (.t 1)⟩, 0, []⟩,
  ⟨⟨none, .mov 4 (.c (.one (.d (.bool false))))⟩, 0, []⟩]

abbrev i_laws_eqWrite_r1 : List RO := [
  ⟨⟨none, .faddr 5 0 (.t 2)⟩, 0, []⟩,
  ⟨⟨none, .load 6 none (.t 5)⟩, 0, []⟩,
  ⟨⟨none, .faddr 7 0 (.t 3)⟩, 0, []⟩,
  ⟨⟨none, .load 8 none (.t 7)⟩, 0, []⟩,
  ⟨⟨none, .bin 9 .neq (.t 6) (.t 8)⟩, 0, []⟩]

abbrev i_laws_eqWrite_r2 : List RO := [
  ⟨⟨none, .mov 4 (.c (.one (.d (.bool false))))⟩, 0, []⟩]

abbrev i_laws_eqWrite_r3 : List RO := [
  ⟨⟨none, .faddr 10 1 (.t 2)⟩, 0, []⟩,
  ⟨⟨none, .load 11 none (.t 10)⟩, 0, []⟩,
  ⟨⟨none, .faddr 12 1 (.t 3)⟩, 0, []⟩,
  ⟨⟨none, .load 13 none (.t 12)⟩, 0, []⟩,
  ⟨⟨none, .bin 14 .neq (.t 11) (.t 13)⟩, 0, []⟩]

abbrev i_laws_eqWrite_r4 : List RO := [
  ⟨⟨none, .mov 4 (.c (.one (.d (.bool false))))⟩, 0, []⟩]

abbrev i_laws_eqWrite_r5 : List RO := [
  ⟨⟨none, .mov 4 (.c (.one (.d (.bool true))))⟩, 0, []⟩]

def i_laws_eqWrite : IC := (.seq (.reg i_laws_eqWrite_r0)
  (.seq (.seq (.reg i_laws_eqWrite_r1)
  (.cond (.t 9) (.seq (.reg i_laws_eqWrite_r2)
  .ret) .skip))
  (.seq (.seq (.reg i_laws_eqWrite_r3)
  (.cond (.t 14) (.seq (.reg i_laws_eqWrite_r4)
  .ret) .skip))
  (.seq (.reg i_laws_eqWrite_r5)
  .ret))))

theorem i_laws_eqWrite_ok : (Try.f94.body.bind fun c => toIC Try.prog 15 c []) = some (i_laws_eqWrite, []) := by kernel_rfl

theorem i_laws_eqWrite_fn {ds rs : List D} (hle : ds.length ≤ 15) (h : AW Try.prog 15 i_laws_eqWrite (Ends [.tmp 4] rs) (init ds)) : Fn Try.prog k_laws_eqWrite (lent ds) true rs :=
  Fn.intro' (by kernel_rfl) Try.func94 (by kernel_rfl) i_laws_eqWrite_ok (by kernel_rfl) hle h.h

abbrev i_laws_eqWriteS_r0 : List RO := [
  ⟨⟨none, .mov 4 (.c (.one (.d (.bool false))))⟩, 0, []⟩]

abbrev i_laws_eqWriteS_r1 : List RO := [
  ⟨⟨none, .mov 6 (.t 0)⟩, 0, []⟩,
  ⟨⟨none, .len 7 false (.t 6)⟩, 0, []⟩,
  ⟨⟨none, .mov 8 (.t 1)⟩, 0, []⟩,
  ⟨⟨none, .len 9 false (.t 8)⟩, 0, []⟩,
  ⟨⟨none, .bin 10 .neq (.t 7) (.t 9)⟩, 0, []⟩]

abbrev i_laws_eqWriteS_r2 : List RO := [
  ⟨⟨none, .mov 4 (.c (.one (.d (.bool false))))⟩, 0, []⟩]

abbrev i_laws_eqWriteS_r3 : List RO := [
  ⟨⟨none, .mov 5 (.c (.one (.d (.int .i64 0))))⟩, 0, []⟩]

abbrev i_laws_eqWriteS_r4 : List RO := [
  ⟨⟨none, .mov 11 (.t 5)⟩, 0, []⟩,
  ⟨⟨none, .mov 12 (.t 0)⟩, 0, []⟩,
  ⟨⟨none, .len 13 false (.t 12)⟩, 0, []⟩,
  ⟨⟨none, .bin 14 .lss (.t 11) (.t 13)⟩, 0, []⟩]

abbrev i_laws_eqWriteS_r5 : List RO := [
  ⟨⟨none, .mov 17 (.t 0)⟩, 0, []⟩,
  ⟨⟨none, .mov 18 (.t 5)⟩, 0, []⟩,
  ⟨⟨none, .iaddr 19 2 (.t 17) (.t 18)⟩, 3, []⟩,
  ⟨⟨none, .load 20 (some 2) (.t 19)⟩, 7, []⟩,
  ⟨⟨none, .mov 21 (.t 1)⟩, 0, []⟩,
  ⟨⟨none, .mov 22 (.t 5)⟩, 0, []⟩,
  ⟨⟨none, .iaddr 23 2 (.t 21) (.t 22)⟩, 48, []⟩,
  ⟨⟨none, .load 24 (some 2) (.t 23)⟩, 112, []⟩,
  ⟨⟨none, .callv 25 (.c (.one (.fn k_laws_eqWrite []))) [(.t 20), (.t 24)]⟩, 255, []⟩,
  ⟨⟨none, .inv 26 (.t 25)⟩, 511, []⟩]

abbrev i_laws_eqWriteS_r6 : List RO := [
  ⟨⟨none, .mov 4 (.c (.one (.d (.bool false))))⟩, 0, []⟩]

abbrev i_laws_eqWriteS_r7 : List RO := [
  ⟨⟨none, .mov 15 (.t 5)⟩, 0, []⟩,
  ⟨⟨none, .bin 16 .add (.t 15) (.c (.one (.d (.int .i64 1))))⟩, 0, []⟩,
  ⟨⟨none, .mov 5 (.t 16)⟩, 0, []⟩]

abbrev i_laws_eqWriteS_r8 : List RO := [
  ⟨⟨none, .mov 4 (.c (.one (.d (.bool true))))⟩, 0, []⟩]

def i_laws_eqWriteS : IC := (.seq (.reg i_laws_eqWriteS_r0)
  (.seq (.seq (.reg i_laws_eqWriteS_r1)
  (.cond (.t 10) (.seq (.reg i_laws_eqWriteS_r2)
  .ret) .skip))
  (.seq (.seq (.reg i_laws_eqWriteS_r3)
  (.block 0 (.loop (.seq (.seq (.reg i_laws_eqWriteS_r4)
  (.cond (.t 14) .skip (.exit 0)))
  (.seq (.block 1 (.seq (.regd i_laws_eqWriteS_r5)
  (.cond (.t 26) (.seq (.reg i_laws_eqWriteS_r6)
  .ret) .skip)))
  (.reg i_laws_eqWriteS_r7))))))
  (.seq (.reg i_laws_eqWriteS_r8)
  .ret))))

theorem i_laws_eqWriteS_ok : (Try.f48.body.bind fun c => toIC Try.prog 27 c [[(0, []), (0, []), (3, []), (7, []), (0, []), (0, []), (48, []), (112, []), (255, []), (511, [])]]) = some (i_laws_eqWriteS, []) := by kernel_rfl

theorem i_laws_eqWriteS_fn {ds rs : List D} (hle : ds.length ≤ 27) (h : AW Try.prog 27 i_laws_eqWriteS (Ends [.tmp 4] rs) (init ds)) : Fn Try.prog k_laws_eqWriteS (lent ds) true rs :=
  Fn.intro' (by kernel_rfl) Try.func48 (by kernel_rfl) i_laws_eqWriteS_ok (by kernel_rfl) hle h.h

abbrev i_laws_FnExactStoreNew_r0 : List RO := [
  ⟨⟨none, .mov 4 (.c (.one (.d (.bool false))))⟩, 0, []⟩]

abbrev i_laws_FnExactStoreNew_r1 : List RO := [
  ⟨⟨none, .mov 5 (.c (.one (.d (.int .i64 1048576))))⟩, 0, []⟩]

abbrev i_laws_FnExactStoreNew_r2 : List RO := [
  ⟨⟨none, .mov 10 (.t 0)⟩, 0, []⟩,
  ⟨⟨none, .mov 11 (.t 5)⟩, 0, []⟩,
  ⟨⟨none, .callv 12 (.c (.one (.fn k_laws_szCellS []))) [(.t 10), (.t 11)]⟩, 0, []⟩,
  ⟨⟨none, .mov 5 (.t 12)⟩, 0, []⟩]

abbrev i_laws_FnExactStoreNew_r3 : List RO := [
  ⟨⟨none, .mov 13 (.t 5)⟩, 0, []⟩,
  ⟨⟨none, .bin 14 .lss (.t 13) (.c (.one (.d (.int .i64 0))))⟩, 0, []⟩]

abbrev i_laws_FnExactStoreNew_r4 : List RO := [
  ⟨⟨none, .mov 4 (.c (.one (.d (.bool true))))⟩, 0, []⟩]

abbrev i_laws_FnExactStoreNew_r5 : List RO := [
  ⟨⟨none, .mov 15 (.t 1)⟩, 0, []⟩,
  ⟨⟨none, .mov 16 (.t 5)⟩, 0, []⟩,
  ⟨⟨none, .callv 17 (.c (.one (.fn k_laws_szWriteS []))) [(.t 15), (.t 16)]⟩, 0, []⟩,
  ⟨⟨none, .mov 5 (.t 17)⟩, 0, []⟩]

abbrev i_laws_FnExactStoreNew_r6 : List RO := [
  ⟨⟨none, .mov 18 (.t 5)⟩, 0, []⟩,
  ⟨⟨none, .bin 19 .lss (.t 18) (.c (.one (.d (.int .i64 0))))⟩, 0, []⟩]

abbrev i_laws_FnExactStoreNew_r7 : List RO := [
  ⟨⟨none, .mov 4 (.c (.one (.d (.bool true))))⟩, 0, []⟩]

abbrev i_laws_FnExactStoreNew_r8 : List RO := [
  ⟨⟨none, .mov 20 (.t 0)⟩, 0, []⟩,
  ⟨⟨none, .callv 21 (.c (.one (.fn k_laws_toCellS []))) [(.t 20)]⟩, 0, []⟩,
  ⟨⟨none, .mov 22 (.t 1)⟩, 0, []⟩,
  ⟨⟨none, .callv 23 (.c (.one (.fn k_laws_toWriteS []))) [(.t 22)]⟩, 0, []⟩,
  ⟨⟨none, .callv 24 (.c (.one (.fn k_spec_StoreNew []))) [(.t 21), (.t 23)]⟩, 0, []⟩,
  ⟨⟨none, .mov 6 (.t 24)⟩, 0, []⟩]

abbrev i_laws_FnExactStoreNew_r9 : List RO := [
  ⟨⟨none, .mov 25 (.t 0)⟩, 0, []⟩,
  ⟨⟨none, .callv 26 (.c (.one (.fn k_laws_toCellS []))) [(.t 25)]⟩, 0, []⟩,
  ⟨⟨none, .mov 7 (.t 26)⟩, 0, []⟩]

abbrev i_laws_FnExactStoreNew_r10 : List RO := [
  ⟨⟨none, .mov 27 (.t 1)⟩, 0, []⟩,
  ⟨⟨none, .callv 28 (.c (.one (.fn k_laws_toWriteS []))) [(.t 27)]⟩, 0, []⟩,
  ⟨⟨none, .mov 8 (.t 28)⟩, 0, []⟩]

abbrev i_laws_FnExactStoreNew_r11 : List RO := [
  ⟨⟨none, .mov 29 (.t 7)⟩, 0, []⟩,
  ⟨⟨none, .mov 30 (.t 8)⟩, 0, []⟩,
  ⟨⟨none, .callv 31 (.c (.one (.fn k_impl_StoreNew []))) [(.t 29), (.t 30)]⟩, 0, []⟩,
  ⟨⟨none, .mov 9 (.t 31)⟩, 0, []⟩]

abbrev i_laws_FnExactStoreNew_r12 : List RO := [
  ⟨⟨none, .mov 32 (.t 9)⟩, 0, []⟩,
  ⟨⟨none, .mov 33 (.t 6)⟩, 0, []⟩,
  ⟨⟨none, .bin 34 .neq (.t 32) (.t 33)⟩, 0, []⟩]

abbrev i_laws_FnExactStoreNew_r13 : List RO := [
  ⟨⟨none, .mov 4 (.c (.one (.d (.bool false))))⟩, 0, []⟩]

abbrev i_laws_FnExactStoreNew_r14 : List RO := [
  ⟨⟨none, .mov 35 (.t 7)⟩, 0, []⟩,
  ⟨⟨none, .mov 36 (.t 0)⟩, 0, []⟩,
  ⟨⟨none, .callv 37 (.c (.one (.fn k_laws_toCellS []))) [(.t 36)]⟩, 0, []⟩,
  ⟨⟨none, .callv 38 (.c (.one (.fn k_laws_eqCellS []))) [(.t 35), (.t 37)]⟩, 0, []⟩,
  ⟨⟨none, .inv 39 (.t 38)⟩, 0, []⟩]

abbrev i_laws_FnExactStoreNew_r15 : List RO := [
  ⟨⟨none, .mov 4 (.c (.one (.d (.bool false))))⟩, 0, []⟩]

abbrev i_laws_FnExactStoreNew_r16 : List RO := [
  ⟨⟨none, .mov 40 (.t 8)⟩, 0, []⟩,
  ⟨⟨none, .mov 41 (.t 1)⟩, 0, []⟩,
  ⟨⟨none, .callv 42 (.c (.one (.fn k_laws_toWriteS []))) [(.t 41)]⟩, 0, []⟩,
  ⟨⟨none, .callv 43 (.c (.one (.fn k_laws_eqWriteS []))) [(.t 40), (.t 42)]⟩, 0, []⟩,
  ⟨⟨none, .inv 44 (.t 43)⟩, 0, []⟩]

abbrev i_laws_FnExactStoreNew_r17 : List RO := [
  ⟨⟨none, .mov 4 (.c (.one (.d (.bool false))))⟩, 0, []⟩]

abbrev i_laws_FnExactStoreNew_r18 : List RO := [
  ⟨⟨none, .mov 4 (.c (.one (.d (.bool true))))⟩, 0, []⟩]

def i_laws_FnExactStoreNew : IC := (.seq (.reg i_laws_FnExactStoreNew_r0)
  (.seq (.reg i_laws_FnExactStoreNew_r1)
  (.seq (.reg i_laws_FnExactStoreNew_r2)
  (.seq (.seq (.reg i_laws_FnExactStoreNew_r3)
  (.cond (.t 14) (.seq (.reg i_laws_FnExactStoreNew_r4)
  .ret) .skip))
  (.seq (.reg i_laws_FnExactStoreNew_r5)
  (.seq (.seq (.reg i_laws_FnExactStoreNew_r6)
  (.cond (.t 19) (.seq (.reg i_laws_FnExactStoreNew_r7)
  .ret) .skip))
  (.seq (.reg i_laws_FnExactStoreNew_r8)
  (.seq (.reg i_laws_FnExactStoreNew_r9)
  (.seq (.reg i_laws_FnExactStoreNew_r10)
  (.seq (.reg i_laws_FnExactStoreNew_r11)
  (.seq (.seq (.reg i_laws_FnExactStoreNew_r12)
  (.cond (.t 34) (.seq (.reg i_laws_FnExactStoreNew_r13)
  .ret) .skip))
  (.seq (.seq (.reg i_laws_FnExactStoreNew_r14)
  (.cond (.t 39) (.seq (.reg i_laws_FnExactStoreNew_r15)
  .ret) .skip))
  (.seq (.seq (.reg i_laws_FnExactStoreNew_r16)
  (.cond (.t 44) (.seq (.reg i_laws_FnExactStoreNew_r17)
  .ret) .skip))
  (.seq (.reg i_laws_FnExactStoreNew_r18)
  .ret))))))))))))))

theorem i_laws_FnExactStoreNew_ok : (Try.f11.body.bind fun c => toIC Try.prog 45 c []) = some (i_laws_FnExactStoreNew, []) := by kernel_rfl

theorem i_laws_FnExactStoreNew_fn {ds rs : List D} (hle : ds.length ≤ 45) (h : AW Try.prog 45 i_laws_FnExactStoreNew (Ends [.tmp 4] rs) (init ds)) : Fn Try.prog k_laws_FnExactStoreNew (lent ds) true rs :=
  Fn.intro' (by kernel_rfl) Try.func11 (by kernel_rfl) i_laws_FnExactStoreNew_ok (by kernel_rfl) hle h.h

end Go.AW
