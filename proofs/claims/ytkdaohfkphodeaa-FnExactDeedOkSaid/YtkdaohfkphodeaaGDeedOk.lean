/- The compact code of functions of the program, and that it is the program's: made by a program of the prover's own (tool/GenIC.lean). Conditions: none. -/
import Derived.Test.YtkdaohfkphodeaaY
import Derived.Test.YtkdaohfkphodeaaRows
import Derived.KernelRfl
set_option linter.unusedVariables false
set_option maxRecDepth 100000
namespace Go.AW
open Go.Proofs

abbrev k_gosem_cut_init : Nat := 2
abbrev k_laws_FnExactStoreOk : Nat := 3
abbrev k_laws_FnExactDeedOk : Nat := 4
abbrev k_laws_FnExactMoveRank : Nat := 5
abbrev k_laws_FnExactStoreGet : Nat := 6
abbrev k_laws_FnExactLocksOk : Nat := 7
abbrev k_laws_FnExactStoreCut : Nat := 8
abbrev k_laws_FnExactStoreScan : Nat := 9
abbrev k_laws_FnExactLocksHold : Nat := 10
abbrev k_laws_FnExactStoreNew : Nat := 11
abbrev k_laws_FnExactLocksDrop : Nat := 12
abbrev k_laws_FnExactLocksOf : Nat := 13
abbrev k_laws_FnExactStoreApply : Nat := 14
abbrev k_laws_szCellS : Nat := 15
abbrev k_spec_StoreOk : Nat := 16
abbrev k_laws_toCellS : Nat := 17
abbrev k_impl_StoreOk : Nat := 18
abbrev k_laws_eqCellS : Nat := 19
abbrev k_spec_DeedOk : Nat := 20
abbrev k_laws_toDeed : Nat := 21
abbrev k_impl_DeedOk : Nat := 22
abbrev k_laws_szMove : Nat := 23
abbrev k_spec_MoveRank : Nat := 24
abbrev k_laws_toMove : Nat := 25
abbrev k_impl_MoveRank : Nat := 26
abbrev k_laws_eqMove : Nat := 27
abbrev k_spec_StoreGet : Nat := 28
abbrev k_impl_StoreGet : Nat := 29
abbrev k_laws_szLockS : Nat := 30
abbrev k_spec_LocksOk : Nat := 31
abbrev k_laws_toLockS : Nat := 32
abbrev k_impl_LocksOk : Nat := 33
abbrev k_laws_eqLockS : Nat := 34
abbrev k_spec_StoreCut : Nat := 35
abbrev k_laws_toRange : Nat := 36
abbrev k_impl_StoreCut : Nat := 37
abbrev k_laws_markCellS : Nat := 38
abbrev k_laws_heldCellS : Nat := 39
abbrev k_spec_StoreScan : Nat := 40
abbrev k_impl_StoreScan : Nat := 41
abbrev k_spec_LocksHold : Nat := 42
abbrev k_impl_LocksHold : Nat := 43
abbrev k_laws_szWriteS : Nat := 44
abbrev k_spec_StoreNew : Nat := 45
abbrev k_laws_toWriteS : Nat := 46
abbrev k_impl_StoreNew : Nat := 47
abbrev k_laws_eqWriteS : Nat := 48
abbrev k_spec_LocksDrop : Nat := 49
abbrev k_impl_LocksDrop : Nat := 50
abbrev k_laws_markLockS : Nat := 51
abbrev k_laws_heldLockS : Nat := 52
abbrev k_spec_LocksOf : Nat := 53
abbrev k_impl_LocksOf : Nat := 54
abbrev k_spec_StoreApply : Nat := 55
abbrev k_impl_StoreApply : Nat := 56
abbrev k_laws_markWriteS : Nat := 57
abbrev k_spec_l10Key : Nat := 58
abbrev k_spec_l1Whole : Nat := 59
abbrev k_laws_toCell : Nat := 60
abbrev k_impl_isKey : Nat := 61
abbrev k_impl_isWhole : Nat := 62
abbrev k_laws_eqCell : Nat := 63
abbrev k_spec_l1In : Nat := 64
abbrev k_spec_l16RangeOk : Nat := 65
abbrev k_spec_l12Tx : Nat := 66
abbrev k_spec_l15Group : Nat := 67
abbrev k_impl_from : Nat := 68
abbrev k_impl_RangeOk : Nat := 69
abbrev k_impl_isAnswer : Nat := 70
abbrev k_impl_isTx : Nat := 71
abbrev k_impl_isGroup : Nat := 72
abbrev k_spec_l1Min : Nat := 73
abbrev k_spec_l11Get : Nat := 74
abbrev k_impl_valueOf : Nat := 75
abbrev k_spec_RangeOk : Nat := 76
abbrev k_spec_l12Range : Nat := 77
abbrev k_spec_l12Mode : Nat := 78
abbrev k_spec_l12Clash : Nat := 79
abbrev k_laws_toLock : Nat := 80
abbrev k__impl_Lock_keys : Nat := 81
abbrev k_impl_isMode : Nat := 82
abbrev k_slices_ContainsFunc___impl_Lock_impl_Lock_ : Nat := 83
abbrev k_impl_LocksOk_1 : Nat := 84
abbrev k_impl_clash : Nat := 85
abbrev k_laws_eqLock : Nat := 86
abbrev k_spec_l11Scan : Nat := 87
abbrev k_impl_within : Nat := 88
abbrev k_spec_l12Holds : Nat := 89
abbrev k_impl_LocksHold_1 : Nat := 90
abbrev k_spec_WritesOk : Nat := 91
abbrev k_laws_toWrite : Nat := 92
abbrev k_impl_WritesOk : Nat := 93
abbrev k_laws_eqWrite : Nat := 94
abbrev k_spec_l12Keep : Nat := 95
abbrev k_slices_DeleteFunc___impl_Lock_impl_Lock_ : Nat := 96
abbrev k_slices_Clone___impl_Lock_impl_Lock_ : Nat := 97
abbrev k_impl_LocksDrop_1 : Nat := 98
abbrev k_impl_LocksOf_1 : Nat := 99
abbrev k_spec_l2Cells : Nat := 100
abbrev k_impl_written : Nat := 101
abbrev k_slices_Clone___impl_Cell_impl_Cell_ : Nat := 102
abbrev k_impl_cellFor : Nat := 103
abbrev k_spec_RangeMeet : Nat := 104
abbrev k_slices_IndexFunc___impl_Lock_impl_Lock_ : Nat := 105
abbrev k_impl_meets : Nat := 106
abbrev k_slices_DeleteFunc___impl_Cell_impl_Cell_ : Nat := 107
abbrev k_impl_within_1 : Nat := 108
abbrev k__impl_Range_has : Nat := 109
abbrev k_spec_RangeIn : Nat := 110
abbrev k_impl_put : Nat := 111
abbrev k_slices_BinarySearchFunc___impl_Cell_impl_Cell_int_ : Nat := 112
abbrev k_impl_cellFor_1 : Nat := 113
abbrev k_spec_l1Max : Nat := 114
abbrev k_slices_IndexFunc___impl_Cell_impl_Cell_ : Nat := 115
abbrev k_slices_Delete___impl_Cell_impl_Cell_ : Nat := 116
abbrev k_slices_Insert___impl_Cell_impl_Cell_ : Nat := 117
abbrev k_slices_rotateRight_impl_Cell_ : Nat := 119
abbrev k_slices_rotateLeft_impl_Cell_ : Nat := 120
abbrev k_slices_Reverse___impl_Cell_impl_Cell_ : Nat := 121
abbrev i_laws_toDeed_r0 : List RO := [
  ⟨⟨none, .box 1 (.t 0)⟩, 0, []⟩,
  ⟨⟨none, .var 2 [(.d (.int .i64 0)), (.d (.int .i64 0)), (.d (.int .i64 0)), (.d (.int .i64 0)), (.d (.int .i64 0)), (.d (.int .i64 0)), (.d (.int .i64 0))]⟩, 0, []⟩]

abbrev i_laws_toDeed_r1 : List RO := [
  ⟨⟨none, .var 3 [(.d (.int .i64 0)), (.d (.int .i64 0)), (.d (.int .i64 0)), (.d (.int .i64 0)), (.d (.int .i64 0)), (.d (.int .i64 0)), (.d (.int .i64 0))]⟩, 0, []⟩]

abbrev i_laws_toDeed_r2 : List RO := [
  ⟨⟨none, .faddr 4 0 (.t 1)⟩, 0, []⟩,
  ⟨⟨none, .load 5 none (.t 4)⟩, 0, []⟩,
  ⟨⟨none, .faddr 6 0 (.t 3)⟩, 0, []⟩,
  ⟨⟨none, .store 1 [(.int .i64 0)] (.t 6) (.t 5)⟩, 0, []⟩]

abbrev i_laws_toDeed_r3 : List RO := [
  ⟨⟨none, .faddr 7 1 (.t 1)⟩, 0, []⟩,
  ⟨⟨none, .load 8 none (.t 7)⟩, 0, []⟩,
  ⟨⟨none, .faddr 9 1 (.t 3)⟩, 0, []⟩,
  ⟨⟨none, .store 1 [(.int .i64 0)] (.t 9) (.t 8)⟩, 0, []⟩]

abbrev i_laws_toDeed_r4 : List RO := [
  ⟨⟨none, .faddr 10 2 (.t 1)⟩, 0, []⟩,
  ⟨⟨none, .load 11 none (.t 10)⟩, 0, []⟩,
  ⟨⟨none, .faddr 12 2 (.t 3)⟩, 0, []⟩,
  ⟨⟨none, .store 1 [(.int .i64 0)] (.t 12) (.t 11)⟩, 0, []⟩]

abbrev i_laws_toDeed_r5 : List RO := [
  ⟨⟨none, .faddr 13 3 (.t 1)⟩, 0, []⟩,
  ⟨⟨none, .load 14 none (.t 13)⟩, 0, []⟩,
  ⟨⟨none, .faddr 15 3 (.t 3)⟩, 0, []⟩,
  ⟨⟨none, .store 1 [(.int .i64 0)] (.t 15) (.t 14)⟩, 0, []⟩]

abbrev i_laws_toDeed_r6 : List RO := [
  ⟨⟨none, .faddr 16 4 (.t 1)⟩, 0, []⟩,
  ⟨⟨none, .load 17 none (.t 16)⟩, 0, []⟩,
  ⟨⟨none, .faddr 18 4 (.t 3)⟩, 0, []⟩,
  ⟨⟨none, .store 1 [(.int .i64 0)] (.t 18) (.t 17)⟩, 0, []⟩]

abbrev i_laws_toDeed_r7 : List RO := [
  ⟨⟨none, .faddr 19 5 (.t 1)⟩, 0, []⟩,
  ⟨⟨none, .load 20 none (.t 19)⟩, 0, []⟩,
  ⟨⟨none, .faddr 21 5 (.t 3)⟩, 0, []⟩,
  ⟨⟨none, .store 1 [(.int .i64 0)] (.t 21) (.t 20)⟩, 0, []⟩]

abbrev i_laws_toDeed_r8 : List RO := [
  ⟨⟨none, .faddr 22 6 (.t 1)⟩, 0, []⟩,
  ⟨⟨none, .load 23 none (.t 22)⟩, 0, []⟩,
  ⟨⟨none, .faddr 24 6 (.t 3)⟩, 0, []⟩,
  ⟨⟨none, .store 1 [(.int .i64 0)] (.t 24) (.t 23)⟩, 0, []⟩]

abbrev i_laws_toDeed_r9 : List RO := [
  ⟨⟨none, .load 25 (some 7) (.t 3)⟩, 0, []⟩,
  ⟨⟨none, .store 7 [(.int .i64 0), (.int .i64 0), (.int .i64 0), (.int .i64 0), (.int .i64 0), (.int .i64 0), (.int .i64 0)] (.t 2) (.t 25)⟩, 0, []⟩]

def i_laws_toDeed : IC := (.seq (.reg i_laws_toDeed_r0)
  (.seq (.reg i_laws_toDeed_r1)
  (.seq (.reg i_laws_toDeed_r2)
  (.seq (.reg i_laws_toDeed_r3)
  (.seq (.reg i_laws_toDeed_r4)
  (.seq (.reg i_laws_toDeed_r5)
  (.seq (.reg i_laws_toDeed_r6)
  (.seq (.reg i_laws_toDeed_r7)
  (.seq (.reg i_laws_toDeed_r8)
  (.seq (.reg i_laws_toDeed_r9)
  .ret))))))))))

theorem i_laws_toDeed_ok : (Try.f21.body.bind fun c => toIC Try.prog 26 c []) = some (i_laws_toDeed, []) := by kernel_rfl

theorem i_laws_toDeed_fn {ds rs : List D} (hle : ds.length ≤ 26) (h : AW Try.prog 26 i_laws_toDeed (Ends [.cell 2 (some 7)] rs) (init ds)) : Fn Try.prog k_laws_toDeed (lent ds) true rs :=
  Fn.intro' (by kernel_rfl) Try.func21 (by kernel_rfl) i_laws_toDeed_ok (by kernel_rfl) hle h.h

theorem i_laws_toDeed_fnB {ds rs : List D} (hle : ds.length ≤ 26) (h : AW Try.prog 26 i_laws_toDeed (EndsB [.cell 2 (some 7)] rs) (init ds)) : Fn Try.prog k_laws_toDeed (lent ds) false rs :=
  Fn.introB' (by kernel_rfl) Try.func21 (by kernel_rfl) i_laws_toDeed_ok (by kernel_rfl) hle h.h

abbrev i_spec_l1In_r0 : List RO := [
  ⟨⟨none, .mov 6 (.c (.one (.d (.bool false))))⟩, 0, []⟩]

abbrev i_spec_l1In_r1 : List RO := [
  ⟨⟨none, .mov 7 (.t 0)⟩, 0, []⟩,
  ⟨⟨none, .mov 8 (.t 1)⟩, 0, []⟩,
  ⟨⟨none, .bin 9 .geq (.t 7) (.t 8)⟩, 0, []⟩,
  ⟨⟨none, .mov 10 (.t 9)⟩, 0, []⟩,
  ⟨⟨some (10, true), .mov 11 (.t 0)⟩, 0, []⟩,
  ⟨⟨some (10, true), .mov 12 (.t 2)⟩, 0, []⟩,
  ⟨⟨some (10, true), .bin 13 .leq (.t 11) (.t 12)⟩, 0, []⟩,
  ⟨⟨none, .pick 14 (.t 10) (.t 13) (.c (.one (.d (.bool false))))⟩, 0, []⟩,
  ⟨⟨none, .mov 6 (.t 14)⟩, 0, []⟩]

def i_spec_l1In : IC := (.seq (.reg i_spec_l1In_r0)
  (.seq (.reg i_spec_l1In_r1)
  .ret))

theorem i_spec_l1In_ok : (Try.f64.body.bind fun c => toIC Try.prog 15 c []) = some (i_spec_l1In, []) := by kernel_rfl

theorem i_spec_l1In_fn {ds rs : List D} (hle : ds.length ≤ 15) (h : AW Try.prog 15 i_spec_l1In (Ends [.tmp 6] rs) (init ds)) : Fn Try.prog k_spec_l1In (lent ds) true rs :=
  Fn.intro' (by kernel_rfl) Try.func64 (by kernel_rfl) i_spec_l1In_ok (by kernel_rfl) hle h.h

theorem i_spec_l1In_fnB {ds rs : List D} (hle : ds.length ≤ 15) (h : AW Try.prog 15 i_spec_l1In (EndsB [.tmp 6] rs) (init ds)) : Fn Try.prog k_spec_l1In (lent ds) false rs :=
  Fn.introB' (by kernel_rfl) Try.func64 (by kernel_rfl) i_spec_l1In_ok (by kernel_rfl) hle h.h

abbrev i_spec_RangeOk_r0 : List RO := [
  ⟨⟨none, .box 1 (.t 0)⟩, 0, []⟩,
  ⟨⟨none, .mov 2 (.c (.one (.d (.bool false))))⟩, 0, []⟩]

abbrev i_spec_RangeOk_r1 : List RO := [
  ⟨⟨none, .faddr 3 0 (.t 1)⟩, 0, []⟩,
  ⟨⟨none, .load 4 none (.t 3)⟩, 0, []⟩,
  ⟨⟨none, .bin 5 .geq (.t 4) (.c (.one (.d (.int .i64 0))))⟩, 0, []⟩,
  ⟨⟨none, .mov 6 (.t 5)⟩, 0, []⟩,
  ⟨⟨some (6, true), .faddr 7 0 (.t 1)⟩, 0, []⟩,
  ⟨⟨some (6, true), .load 8 none (.t 7)⟩, 0, []⟩,
  ⟨⟨some (6, true), .faddr 9 1 (.t 1)⟩, 0, []⟩,
  ⟨⟨some (6, true), .load 10 none (.t 9)⟩, 0, []⟩,
  ⟨⟨some (6, true), .bin 11 .lss (.t 8) (.t 10)⟩, 0, []⟩,
  ⟨⟨none, .pick 12 (.t 6) (.t 11) (.c (.one (.d (.bool false))))⟩, 0, []⟩,
  ⟨⟨none, .mov 13 (.t 12)⟩, 0, []⟩,
  ⟨⟨some (13, true), .faddr 14 1 (.t 1)⟩, 0, []⟩,
  ⟨⟨some (13, true), .load 15 none (.t 14)⟩, 0, []⟩,
  ⟨⟨some (13, true), .bin 16 .leq (.t 15) (.c (.one (.d (.int .i64 1000))))⟩, 0, []⟩,
  ⟨⟨none, .pick 17 (.t 13) (.t 16) (.c (.one (.d (.bool false))))⟩, 0, []⟩,
  ⟨⟨none, .mov 2 (.t 17)⟩, 0, []⟩]

def i_spec_RangeOk : IC := (.seq (.reg i_spec_RangeOk_r0)
  (.seq (.reg i_spec_RangeOk_r1)
  .ret))

theorem i_spec_RangeOk_ok : (Try.f76.body.bind fun c => toIC Try.prog 18 c []) = some (i_spec_RangeOk, []) := by kernel_rfl

theorem i_spec_RangeOk_fn {ds rs : List D} (hle : ds.length ≤ 18) (h : AW Try.prog 18 i_spec_RangeOk (Ends [.tmp 2] rs) (init ds)) : Fn Try.prog k_spec_RangeOk (lent ds) true rs :=
  Fn.intro' (by kernel_rfl) Try.func76 (by kernel_rfl) i_spec_RangeOk_ok (by kernel_rfl) hle h.h

theorem i_spec_RangeOk_fnB {ds rs : List D} (hle : ds.length ≤ 18) (h : AW Try.prog 18 i_spec_RangeOk (EndsB [.tmp 2] rs) (init ds)) : Fn Try.prog k_spec_RangeOk (lent ds) false rs :=
  Fn.introB' (by kernel_rfl) Try.func76 (by kernel_rfl) i_spec_RangeOk_ok (by kernel_rfl) hle h.h

abbrev i_spec_l16RangeOk_r0 : List RO := [
  ⟨⟨none, .mov 4 (.c (.one (.d (.bool false))))⟩, 0, []⟩]

abbrev i_spec_l16RangeOk_r1 : List RO := [
  ⟨⟨none, .mov 5 (.t 0)⟩, 0, []⟩,
  ⟨⟨none, .mov 6 (.t 1)⟩, 0, []⟩,
  ⟨⟨none, .build 7 [(.d (.int .i64 0)), (.d (.int .i64 0))] [(0, 1, (.t 5)), (1, 1, (.t 6))]⟩, 0, []⟩,
  ⟨⟨none, .callv 8 (.c (.one (.fn k_spec_RangeOk []))) [(.t 7)]⟩, 0, []⟩,
  ⟨⟨none, .mov 4 (.t 8)⟩, 0, []⟩]

def i_spec_l16RangeOk : IC := (.seq (.reg i_spec_l16RangeOk_r0)
  (.seq (.reg i_spec_l16RangeOk_r1)
  .ret))

theorem i_spec_l16RangeOk_ok : (Try.f65.body.bind fun c => toIC Try.prog 9 c []) = some (i_spec_l16RangeOk, []) := by kernel_rfl

theorem i_spec_l16RangeOk_fn {ds rs : List D} (hle : ds.length ≤ 9) (h : AW Try.prog 9 i_spec_l16RangeOk (Ends [.tmp 4] rs) (init ds)) : Fn Try.prog k_spec_l16RangeOk (lent ds) true rs :=
  Fn.intro' (by kernel_rfl) Try.func65 (by kernel_rfl) i_spec_l16RangeOk_ok (by kernel_rfl) hle h.h

theorem i_spec_l16RangeOk_fnB {ds rs : List D} (hle : ds.length ≤ 9) (h : AW Try.prog 9 i_spec_l16RangeOk (EndsB [.tmp 4] rs) (init ds)) : Fn Try.prog k_spec_l16RangeOk (lent ds) false rs :=
  Fn.introB' (by kernel_rfl) Try.func65 (by kernel_rfl) i_spec_l16RangeOk_ok (by kernel_rfl) hle h.h

abbrev i_spec_l10Key_r0 : List RO := [
  ⟨⟨none, .mov 2 (.c (.one (.d (.bool false))))⟩, 0, []⟩]

abbrev i_spec_l10Key_r1 : List RO := [
  ⟨⟨none, .mov 3 (.t 0)⟩, 0, []⟩,
  ⟨⟨none, .callv 4 (.c (.one (.fn k_spec_l1In []))) [(.t 3), (.c (.one (.d (.int .i64 0)))), (.c (.one (.d (.int .i64 999))))]⟩, 0, []⟩,
  ⟨⟨none, .mov 2 (.t 4)⟩, 0, []⟩]

def i_spec_l10Key : IC := (.seq (.reg i_spec_l10Key_r0)
  (.seq (.reg i_spec_l10Key_r1)
  .ret))

theorem i_spec_l10Key_ok : (Try.f58.body.bind fun c => toIC Try.prog 5 c []) = some (i_spec_l10Key, []) := by kernel_rfl

theorem i_spec_l10Key_fn {ds rs : List D} (hle : ds.length ≤ 5) (h : AW Try.prog 5 i_spec_l10Key (Ends [.tmp 2] rs) (init ds)) : Fn Try.prog k_spec_l10Key (lent ds) true rs :=
  Fn.intro' (by kernel_rfl) Try.func58 (by kernel_rfl) i_spec_l10Key_ok (by kernel_rfl) hle h.h

theorem i_spec_l10Key_fnB {ds rs : List D} (hle : ds.length ≤ 5) (h : AW Try.prog 5 i_spec_l10Key (EndsB [.tmp 2] rs) (init ds)) : Fn Try.prog k_spec_l10Key (lent ds) false rs :=
  Fn.introB' (by kernel_rfl) Try.func58 (by kernel_rfl) i_spec_l10Key_ok (by kernel_rfl) hle h.h

abbrev i_spec_l12Tx_r0 : List RO := [
  ⟨⟨none, .mov 2 (.c (.one (.d (.bool false))))⟩, 0, []⟩]

abbrev i_spec_l12Tx_r1 : List RO := [
  ⟨⟨none, .mov 3 (.t 0)⟩, 0, []⟩,
  ⟨⟨none, .callv 4 (.c (.one (.fn k_spec_l1In []))) [(.t 3), (.c (.one (.d (.int .i64 1)))), (.c (.one (.d (.int .i64 60))))]⟩, 0, []⟩,
  ⟨⟨none, .mov 2 (.t 4)⟩, 0, []⟩]

def i_spec_l12Tx : IC := (.seq (.reg i_spec_l12Tx_r0)
  (.seq (.reg i_spec_l12Tx_r1)
  .ret))

theorem i_spec_l12Tx_ok : (Try.f66.body.bind fun c => toIC Try.prog 5 c []) = some (i_spec_l12Tx, []) := by kernel_rfl

theorem i_spec_l12Tx_fn {ds rs : List D} (hle : ds.length ≤ 5) (h : AW Try.prog 5 i_spec_l12Tx (Ends [.tmp 2] rs) (init ds)) : Fn Try.prog k_spec_l12Tx (lent ds) true rs :=
  Fn.intro' (by kernel_rfl) Try.func66 (by kernel_rfl) i_spec_l12Tx_ok (by kernel_rfl) hle h.h

theorem i_spec_l12Tx_fnB {ds rs : List D} (hle : ds.length ≤ 5) (h : AW Try.prog 5 i_spec_l12Tx (EndsB [.tmp 2] rs) (init ds)) : Fn Try.prog k_spec_l12Tx (lent ds) false rs :=
  Fn.introB' (by kernel_rfl) Try.func66 (by kernel_rfl) i_spec_l12Tx_ok (by kernel_rfl) hle h.h

abbrev i_spec_l15Group_r0 : List RO := [
  ⟨⟨none, .mov 2 (.c (.one (.d (.bool false))))⟩, 0, []⟩]

abbrev i_spec_l15Group_r1 : List RO := [
  ⟨⟨none, .mov 3 (.t 0)⟩, 0, []⟩,
  ⟨⟨none, .callv 4 (.c (.one (.fn k_spec_l1In []))) [(.t 3), (.c (.one (.d (.int .i64 0)))), (.c (.one (.d (.int .i64 3))))]⟩, 0, []⟩,
  ⟨⟨none, .mov 2 (.t 4)⟩, 0, []⟩]

def i_spec_l15Group : IC := (.seq (.reg i_spec_l15Group_r0)
  (.seq (.reg i_spec_l15Group_r1)
  .ret))

theorem i_spec_l15Group_ok : (Try.f67.body.bind fun c => toIC Try.prog 5 c []) = some (i_spec_l15Group, []) := by kernel_rfl

theorem i_spec_l15Group_fn {ds rs : List D} (hle : ds.length ≤ 5) (h : AW Try.prog 5 i_spec_l15Group (Ends [.tmp 2] rs) (init ds)) : Fn Try.prog k_spec_l15Group (lent ds) true rs :=
  Fn.intro' (by kernel_rfl) Try.func67 (by kernel_rfl) i_spec_l15Group_ok (by kernel_rfl) hle h.h

theorem i_spec_l15Group_fnB {ds rs : List D} (hle : ds.length ≤ 5) (h : AW Try.prog 5 i_spec_l15Group (EndsB [.tmp 2] rs) (init ds)) : Fn Try.prog k_spec_l15Group (lent ds) false rs :=
  Fn.introB' (by kernel_rfl) Try.func67 (by kernel_rfl) i_spec_l15Group_ok (by kernel_rfl) hle h.h

abbrev i_spec_DeedOk_r0 : List RO := [
  ⟨⟨none, .box 1 (.t 0)⟩, 0, []⟩,
  ⟨⟨none, .mov 2 (.c (.one (.d (.bool false))))⟩, 0, []⟩]

abbrev i_spec_DeedOk_r1 : List RO := [
  ⟨⟨none, .faddr 6 1 (.t 1)⟩, 0, []⟩,
  ⟨⟨none, .load 7 none (.t 6)⟩, 0, []⟩,
  ⟨⟨none, .callv 8 (.c (.one (.fn k_spec_l1In []))) [(.t 7), (.c (.one (.d (.int .i64 0)))), (.c (.one (.d (.int .i64 5))))]⟩, 0, []⟩,
  ⟨⟨none, .mov 3 (.t 8)⟩, 0, []⟩]

abbrev i_spec_DeedOk_r2 : List RO := [
  ⟨⟨none, .faddr 9 1 (.t 1)⟩, 0, []⟩,
  ⟨⟨none, .load 10 none (.t 9)⟩, 0, []⟩,
  ⟨⟨none, .callv 11 (.c (.one (.fn k_spec_l1In []))) [(.t 10), (.c (.one (.d (.int .i64 0)))), (.c (.one (.d (.int .i64 59))))]⟩, 0, []⟩,
  ⟨⟨none, .mov 4 (.t 11)⟩, 0, []⟩]

abbrev i_spec_DeedOk_r3 : List RO := [
  ⟨⟨none, .faddr 12 0 (.t 1)⟩, 0, []⟩,
  ⟨⟨none, .load 13 none (.t 12)⟩, 0, []⟩,
  ⟨⟨none, .build 14 [(.d (.int .i64 0)), (.d (.int .i64 0)), (.d (.int .i64 0)), (.d (.int .i64 0)), (.d (.int .i64 0)), (.d (.int .i64 0)), (.d (.int .i64 0))] [(0, 1, (.t 13))]⟩, 0, []⟩,
  ⟨⟨none, .var 5 [(.d (.int .i64 0)), (.d (.int .i64 0)), (.d (.int .i64 0)), (.d (.int .i64 0)), (.d (.int .i64 0)), (.d (.int .i64 0)), (.d (.int .i64 0))]⟩, 0, []⟩,
  ⟨⟨none, .store 7 [(.int .i64 0), (.int .i64 0), (.int .i64 0), (.int .i64 0), (.int .i64 0), (.int .i64 0), (.int .i64 0)] (.t 5) (.t 14)⟩, 0, []⟩]

abbrev i_spec_DeedOk_r4 : List RO := [
  ⟨⟨none, .faddr 15 0 (.t 1)⟩, 0, []⟩,
  ⟨⟨none, .load 16 none (.t 15)⟩, 0, []⟩]

abbrev i_spec_DeedOk_r5 : List RO := [
  ⟨⟨none, .bin 18 .eql (.t 16) (.c (.one (.d (.int .i64 1))))⟩, 0, []⟩,
  ⟨⟨none, .mov 17 (.t 18)⟩, 0, []⟩]

abbrev i_spec_DeedOk_r6 : List RO := [
  ⟨⟨none, .bin 19 .eql (.t 16) (.c (.one (.d (.int .i64 4))))⟩, 0, []⟩,
  ⟨⟨none, .mov 17 (.t 19)⟩, 0, []⟩]

abbrev i_spec_DeedOk_r7 : List RO := [
  ⟨⟨none, .bin 20 .eql (.t 16) (.c (.one (.d (.int .i64 5))))⟩, 0, []⟩,
  ⟨⟨none, .mov 17 (.t 20)⟩, 0, []⟩]

abbrev i_spec_DeedOk_r8 : List RO := [
  ⟨⟨none, .bin 21 .eql (.t 16) (.c (.one (.d (.int .i64 6))))⟩, 0, []⟩,
  ⟨⟨none, .mov 17 (.t 21)⟩, 0, []⟩]

abbrev i_spec_DeedOk_r9 : List RO := [
  ⟨⟨none, .faddr 22 1 (.t 1)⟩, 0, []⟩,
  ⟨⟨none, .load 23 none (.t 22)⟩, 0, []⟩,
  ⟨⟨none, .faddr 24 1 (.t 5)⟩, 0, []⟩,
  ⟨⟨none, .store 1 [(.int .i64 0)] (.t 24) (.t 23)⟩, 0, []⟩]

abbrev i_spec_DeedOk_r10 : List RO := [
  ⟨⟨none, .mov 25 (.t 3)⟩, 0, []⟩,
  ⟨⟨none, .mov 26 (.t 25)⟩, 0, []⟩,
  ⟨⟨some (26, true), .load 27 (some 7) (.t 1)⟩, 0, []⟩,
  ⟨⟨some (26, true), .load 28 (some 7) (.t 5)⟩, 0, []⟩,
  ⟨⟨some (26, true), .seql 29 false 7 (.t 27) (.t 28)⟩, 0, []⟩,
  ⟨⟨none, .pick 30 (.t 26) (.t 29) (.c (.one (.d (.bool false))))⟩, 0, []⟩,
  ⟨⟨none, .mov 2 (.t 30)⟩, 0, []⟩]

abbrev i_spec_DeedOk_r11 : List RO := [
  ⟨⟨none, .bin 32 .eql (.t 16) (.c (.one (.d (.int .i64 2))))⟩, 0, []⟩,
  ⟨⟨none, .mov 31 (.t 32)⟩, 0, []⟩]

abbrev i_spec_DeedOk_r12 : List RO := [
  ⟨⟨none, .faddr 33 1 (.t 1)⟩, 0, []⟩,
  ⟨⟨none, .load 34 none (.t 33)⟩, 0, []⟩,
  ⟨⟨none, .faddr 35 1 (.t 5)⟩, 0, []⟩,
  ⟨⟨none, .store 1 [(.int .i64 0)] (.t 35) (.t 34)⟩, 0, []⟩]

abbrev i_spec_DeedOk_r13 : List RO := [
  ⟨⟨none, .faddr 36 3 (.t 1)⟩, 0, []⟩,
  ⟨⟨none, .load 37 none (.t 36)⟩, 0, []⟩,
  ⟨⟨none, .faddr 38 3 (.t 5)⟩, 0, []⟩,
  ⟨⟨none, .store 1 [(.int .i64 0)] (.t 38) (.t 37)⟩, 0, []⟩]

abbrev i_spec_DeedOk_r14 : List RO := [
  ⟨⟨none, .faddr 39 4 (.t 1)⟩, 0, []⟩,
  ⟨⟨none, .load 40 none (.t 39)⟩, 0, []⟩,
  ⟨⟨none, .faddr 41 4 (.t 5)⟩, 0, []⟩,
  ⟨⟨none, .store 1 [(.int .i64 0)] (.t 41) (.t 40)⟩, 0, []⟩]

abbrev i_spec_DeedOk_r15 : List RO := [
  ⟨⟨none, .mov 42 (.t 3)⟩, 0, []⟩,
  ⟨⟨none, .mov 43 (.t 42)⟩, 0, []⟩,
  ⟨⟨some (43, true), .faddr 44 3 (.t 1)⟩, 0, []⟩,
  ⟨⟨some (43, true), .load 45 none (.t 44)⟩, 0, []⟩,
  ⟨⟨some (43, true), .faddr 46 4 (.t 1)⟩, 0, []⟩,
  ⟨⟨some (43, true), .load 47 none (.t 46)⟩, 0, []⟩,
  ⟨⟨some (43, true), .callv 48 (.c (.one (.fn k_spec_l16RangeOk []))) [(.t 45), (.t 47)]⟩, 0, []⟩,
  ⟨⟨none, .pick 49 (.t 43) (.t 48) (.c (.one (.d (.bool false))))⟩, 0, []⟩,
  ⟨⟨none, .mov 50 (.t 49)⟩, 0, []⟩,
  ⟨⟨some (50, true), .load 51 (some 7) (.t 1)⟩, 0, []⟩,
  ⟨⟨some (50, true), .load 52 (some 7) (.t 5)⟩, 0, []⟩,
  ⟨⟨some (50, true), .seql 53 false 7 (.t 51) (.t 52)⟩, 0, []⟩,
  ⟨⟨none, .pick 54 (.t 50) (.t 53) (.c (.one (.d (.bool false))))⟩, 0, []⟩,
  ⟨⟨none, .mov 2 (.t 54)⟩, 0, []⟩]

abbrev i_spec_DeedOk_r16 : List RO := [
  ⟨⟨none, .bin 56 .eql (.t 16) (.c (.one (.d (.int .i64 3))))⟩, 0, []⟩,
  ⟨⟨none, .mov 55 (.t 56)⟩, 0, []⟩]

abbrev i_spec_DeedOk_r17 : List RO := [
  ⟨⟨none, .faddr 57 1 (.t 1)⟩, 0, []⟩,
  ⟨⟨none, .load 58 none (.t 57)⟩, 0, []⟩,
  ⟨⟨none, .faddr 59 1 (.t 5)⟩, 0, []⟩,
  ⟨⟨none, .store 1 [(.int .i64 0)] (.t 59) (.t 58)⟩, 0, []⟩]

abbrev i_spec_DeedOk_r18 : List RO := [
  ⟨⟨none, .faddr 60 5 (.t 1)⟩, 0, []⟩,
  ⟨⟨none, .load 61 none (.t 60)⟩, 0, []⟩,
  ⟨⟨none, .faddr 62 5 (.t 5)⟩, 0, []⟩,
  ⟨⟨none, .store 1 [(.int .i64 0)] (.t 62) (.t 61)⟩, 0, []⟩]

abbrev i_spec_DeedOk_r19 : List RO := [
  ⟨⟨none, .faddr 63 6 (.t 1)⟩, 0, []⟩,
  ⟨⟨none, .load 64 none (.t 63)⟩, 0, []⟩,
  ⟨⟨none, .faddr 65 6 (.t 5)⟩, 0, []⟩,
  ⟨⟨none, .store 1 [(.int .i64 0)] (.t 65) (.t 64)⟩, 0, []⟩]

abbrev i_spec_DeedOk_r20 : List RO := [
  ⟨⟨none, .mov 66 (.t 3)⟩, 0, []⟩,
  ⟨⟨none, .mov 67 (.t 66)⟩, 0, []⟩,
  ⟨⟨some (67, true), .faddr 68 5 (.t 1)⟩, 0, []⟩,
  ⟨⟨some (67, true), .load 69 none (.t 68)⟩, 0, []⟩,
  ⟨⟨some (67, true), .callv 70 (.c (.one (.fn k_spec_l10Key []))) [(.t 69)]⟩, 0, []⟩,
  ⟨⟨none, .pick 71 (.t 67) (.t 70) (.c (.one (.d (.bool false))))⟩, 0, []⟩,
  ⟨⟨none, .mov 72 (.t 71)⟩, 0, []⟩,
  ⟨⟨some (72, true), .faddr 73 6 (.t 1)⟩, 0, []⟩,
  ⟨⟨some (72, true), .load 74 none (.t 73)⟩, 0, []⟩,
  ⟨⟨some (72, true), .callv 75 (.c (.one (.fn k_spec_l1In []))) [(.t 74), (.c (.one (.d (.int .i64 (-1))))), (.c (.one (.d (.int .i64 1000000000))))]⟩, 0, []⟩,
  ⟨⟨none, .pick 76 (.t 72) (.t 75) (.c (.one (.d (.bool false))))⟩, 0, []⟩,
  ⟨⟨none, .mov 77 (.t 76)⟩, 0, []⟩,
  ⟨⟨some (77, true), .load 78 (some 7) (.t 1)⟩, 0, []⟩,
  ⟨⟨some (77, true), .load 79 (some 7) (.t 5)⟩, 0, []⟩,
  ⟨⟨some (77, true), .seql 80 false 7 (.t 78) (.t 79)⟩, 0, []⟩,
  ⟨⟨none, .pick 81 (.t 77) (.t 80) (.c (.one (.d (.bool false))))⟩, 0, []⟩,
  ⟨⟨none, .mov 2 (.t 81)⟩, 0, []⟩]

abbrev i_spec_DeedOk_r21 : List RO := [
  ⟨⟨none, .bin 83 .eql (.t 16) (.c (.one (.d (.int .i64 7))))⟩, 0, []⟩,
  ⟨⟨none, .mov 82 (.t 83)⟩, 0, []⟩]

abbrev i_spec_DeedOk_r22 : List RO := [
  ⟨⟨none, .bin 84 .eql (.t 16) (.c (.one (.d (.int .i64 8))))⟩, 0, []⟩,
  ⟨⟨none, .mov 82 (.t 84)⟩, 0, []⟩]

abbrev i_spec_DeedOk_r23 : List RO := [
  ⟨⟨none, .bin 85 .eql (.t 16) (.c (.one (.d (.int .i64 9))))⟩, 0, []⟩,
  ⟨⟨none, .mov 82 (.t 85)⟩, 0, []⟩]

abbrev i_spec_DeedOk_r24 : List RO := [
  ⟨⟨none, .faddr 86 1 (.t 1)⟩, 0, []⟩,
  ⟨⟨none, .load 87 none (.t 86)⟩, 0, []⟩,
  ⟨⟨none, .faddr 88 1 (.t 5)⟩, 0, []⟩,
  ⟨⟨none, .store 1 [(.int .i64 0)] (.t 88) (.t 87)⟩, 0, []⟩]

abbrev i_spec_DeedOk_r25 : List RO := [
  ⟨⟨none, .mov 89 (.t 4)⟩, 0, []⟩,
  ⟨⟨none, .mov 90 (.t 89)⟩, 0, []⟩,
  ⟨⟨some (90, true), .load 91 (some 7) (.t 1)⟩, 0, []⟩,
  ⟨⟨some (90, true), .load 92 (some 7) (.t 5)⟩, 0, []⟩,
  ⟨⟨some (90, true), .seql 93 false 7 (.t 91) (.t 92)⟩, 0, []⟩,
  ⟨⟨none, .pick 94 (.t 90) (.t 93) (.c (.one (.d (.bool false))))⟩, 0, []⟩,
  ⟨⟨none, .mov 2 (.t 94)⟩, 0, []⟩]

abbrev i_spec_DeedOk_r26 : List RO := [
  ⟨⟨none, .bin 96 .eql (.t 16) (.c (.one (.d (.int .i64 10))))⟩, 0, []⟩,
  ⟨⟨none, .mov 95 (.t 96)⟩, 0, []⟩]

abbrev i_spec_DeedOk_r27 : List RO := [
  ⟨⟨none, .faddr 97 1 (.t 1)⟩, 0, []⟩,
  ⟨⟨none, .load 98 none (.t 97)⟩, 0, []⟩,
  ⟨⟨none, .faddr 99 1 (.t 5)⟩, 0, []⟩,
  ⟨⟨none, .store 1 [(.int .i64 0)] (.t 99) (.t 98)⟩, 0, []⟩]

abbrev i_spec_DeedOk_r28 : List RO := [
  ⟨⟨none, .faddr 100 2 (.t 1)⟩, 0, []⟩,
  ⟨⟨none, .load 101 none (.t 100)⟩, 0, []⟩,
  ⟨⟨none, .faddr 102 2 (.t 5)⟩, 0, []⟩,
  ⟨⟨none, .store 1 [(.int .i64 0)] (.t 102) (.t 101)⟩, 0, []⟩]

abbrev i_spec_DeedOk_r29 : List RO := [
  ⟨⟨none, .mov 103 (.t 4)⟩, 0, []⟩,
  ⟨⟨none, .mov 104 (.t 103)⟩, 0, []⟩,
  ⟨⟨some (104, true), .faddr 105 2 (.t 1)⟩, 0, []⟩,
  ⟨⟨some (104, true), .load 106 none (.t 105)⟩, 0, []⟩,
  ⟨⟨some (104, true), .callv 107 (.c (.one (.fn k_spec_l1In []))) [(.t 106), (.c (.one (.d (.int .i64 0)))), (.c (.one (.d (.int .i64 59))))]⟩, 0, []⟩,
  ⟨⟨none, .pick 108 (.t 104) (.t 107) (.c (.one (.d (.bool false))))⟩, 0, []⟩,
  ⟨⟨none, .mov 109 (.t 108)⟩, 0, []⟩,
  ⟨⟨some (109, true), .load 110 (some 7) (.t 1)⟩, 0, []⟩,
  ⟨⟨some (109, true), .load 111 (some 7) (.t 5)⟩, 0, []⟩,
  ⟨⟨some (109, true), .seql 112 false 7 (.t 110) (.t 111)⟩, 0, []⟩,
  ⟨⟨none, .pick 113 (.t 109) (.t 112) (.c (.one (.d (.bool false))))⟩, 0, []⟩,
  ⟨⟨none, .mov 2 (.t 113)⟩, 0, []⟩]

abbrev i_spec_DeedOk_r30 : List RO := [
  ⟨⟨none, .bin 115 .eql (.t 16) (.c (.one (.d (.int .i64 11))))⟩, 0, []⟩,
  ⟨⟨none, .mov 114 (.t 115)⟩, 0, []⟩]

abbrev i_spec_DeedOk_r31 : List RO := [
  ⟨⟨none, .bin 116 .eql (.t 16) (.c (.one (.d (.int .i64 12))))⟩, 0, []⟩,
  ⟨⟨none, .mov 114 (.t 116)⟩, 0, []⟩]

abbrev i_spec_DeedOk_r32 : List RO := [
  ⟨⟨none, .faddr 117 1 (.t 1)⟩, 0, []⟩,
  ⟨⟨none, .load 118 none (.t 117)⟩, 0, []⟩,
  ⟨⟨none, .faddr 119 1 (.t 5)⟩, 0, []⟩,
  ⟨⟨none, .store 1 [(.int .i64 0)] (.t 119) (.t 118)⟩, 0, []⟩]

abbrev i_spec_DeedOk_r33 : List RO := [
  ⟨⟨none, .faddr 120 1 (.t 1)⟩, 0, []⟩,
  ⟨⟨none, .load 121 none (.t 120)⟩, 0, []⟩,
  ⟨⟨none, .callv 122 (.c (.one (.fn k_spec_l12Tx []))) [(.t 121)]⟩, 0, []⟩,
  ⟨⟨none, .mov 123 (.t 122)⟩, 0, []⟩,
  ⟨⟨some (123, true), .load 124 (some 7) (.t 1)⟩, 0, []⟩,
  ⟨⟨some (123, true), .load 125 (some 7) (.t 5)⟩, 0, []⟩,
  ⟨⟨some (123, true), .seql 126 false 7 (.t 124) (.t 125)⟩, 0, []⟩,
  ⟨⟨none, .pick 127 (.t 123) (.t 126) (.c (.one (.d (.bool false))))⟩, 0, []⟩,
  ⟨⟨none, .mov 2 (.t 127)⟩, 0, []⟩]

abbrev i_spec_DeedOk_r34 : List RO := [
  ⟨⟨none, .bin 129 .eql (.t 16) (.c (.one (.d (.int .i64 13))))⟩, 0, []⟩,
  ⟨⟨none, .mov 128 (.t 129)⟩, 0, []⟩]

abbrev i_spec_DeedOk_r35 : List RO := [
  ⟨⟨none, .faddr 130 5 (.t 1)⟩, 0, []⟩,
  ⟨⟨none, .load 131 none (.t 130)⟩, 0, []⟩,
  ⟨⟨none, .faddr 132 5 (.t 5)⟩, 0, []⟩,
  ⟨⟨none, .store 1 [(.int .i64 0)] (.t 132) (.t 131)⟩, 0, []⟩]

abbrev i_spec_DeedOk_r36 : List RO := [
  ⟨⟨none, .faddr 133 5 (.t 1)⟩, 0, []⟩,
  ⟨⟨none, .load 134 none (.t 133)⟩, 0, []⟩,
  ⟨⟨none, .callv 135 (.c (.one (.fn k_spec_l10Key []))) [(.t 134)]⟩, 0, []⟩,
  ⟨⟨none, .mov 136 (.t 135)⟩, 0, []⟩,
  ⟨⟨some (136, true), .load 137 (some 7) (.t 1)⟩, 0, []⟩,
  ⟨⟨some (136, true), .load 138 (some 7) (.t 5)⟩, 0, []⟩,
  ⟨⟨some (136, true), .seql 139 false 7 (.t 137) (.t 138)⟩, 0, []⟩,
  ⟨⟨none, .pick 140 (.t 136) (.t 139) (.c (.one (.d (.bool false))))⟩, 0, []⟩,
  ⟨⟨none, .mov 2 (.t 140)⟩, 0, []⟩]

abbrev i_spec_DeedOk_r37 : List RO := [
  ⟨⟨none, .bin 142 .eql (.t 16) (.c (.one (.d (.int .i64 14))))⟩, 0, []⟩,
  ⟨⟨none, .mov 141 (.t 142)⟩, 0, []⟩]

abbrev i_spec_DeedOk_r38 : List RO := [
  ⟨⟨none, .faddr 143 5 (.t 1)⟩, 0, []⟩,
  ⟨⟨none, .load 144 none (.t 143)⟩, 0, []⟩,
  ⟨⟨none, .faddr 145 5 (.t 5)⟩, 0, []⟩,
  ⟨⟨none, .store 1 [(.int .i64 0)] (.t 145) (.t 144)⟩, 0, []⟩]

abbrev i_spec_DeedOk_r39 : List RO := [
  ⟨⟨none, .faddr 146 2 (.t 1)⟩, 0, []⟩,
  ⟨⟨none, .load 147 none (.t 146)⟩, 0, []⟩,
  ⟨⟨none, .faddr 148 2 (.t 5)⟩, 0, []⟩,
  ⟨⟨none, .store 1 [(.int .i64 0)] (.t 148) (.t 147)⟩, 0, []⟩]

abbrev i_spec_DeedOk_r40 : List RO := [
  ⟨⟨none, .faddr 149 5 (.t 1)⟩, 0, []⟩,
  ⟨⟨none, .load 150 none (.t 149)⟩, 0, []⟩,
  ⟨⟨none, .callv 151 (.c (.one (.fn k_spec_l10Key []))) [(.t 150)]⟩, 0, []⟩,
  ⟨⟨none, .mov 152 (.t 151)⟩, 0, []⟩,
  ⟨⟨some (152, true), .faddr 153 2 (.t 1)⟩, 0, []⟩,
  ⟨⟨some (152, true), .load 154 none (.t 153)⟩, 0, []⟩,
  ⟨⟨some (152, true), .callv 155 (.c (.one (.fn k_spec_l15Group []))) [(.t 154)]⟩, 0, []⟩,
  ⟨⟨none, .pick 156 (.t 152) (.t 155) (.c (.one (.d (.bool false))))⟩, 0, []⟩,
  ⟨⟨none, .mov 157 (.t 156)⟩, 0, []⟩,
  ⟨⟨some (157, true), .load 158 (some 7) (.t 1)⟩, 0, []⟩,
  ⟨⟨some (157, true), .load 159 (some 7) (.t 5)⟩, 0, []⟩,
  ⟨⟨some (157, true), .seql 160 false 7 (.t 158) (.t 159)⟩, 0, []⟩,
  ⟨⟨none, .pick 161 (.t 157) (.t 160) (.c (.one (.d (.bool false))))⟩, 0, []⟩,
  ⟨⟨none, .mov 2 (.t 161)⟩, 0, []⟩]

abbrev i_spec_DeedOk_r41 : List RO := [
  ⟨⟨none, .bin 163 .eql (.t 16) (.c (.one (.d (.int .i64 15))))⟩, 0, []⟩,
  ⟨⟨none, .mov 162 (.t 163)⟩, 0, []⟩]

abbrev i_spec_DeedOk_r42 : List RO := [
  ⟨⟨none, .load 164 (some 7) (.t 1)⟩, 0, []⟩,
  ⟨⟨none, .load 165 (some 7) (.t 5)⟩, 0, []⟩,
  ⟨⟨none, .seql 166 false 7 (.t 164) (.t 165)⟩, 0, []⟩,
  ⟨⟨none, .mov 2 (.t 166)⟩, 0, []⟩]

abbrev i_spec_DeedOk_r43 : List RO := [
  ⟨⟨none, .mov 2 (.c (.one (.d (.bool false))))⟩, 0, []⟩]

def i_spec_DeedOk : IC := (.seq (.reg i_spec_DeedOk_r0)
  (.seq (.reg i_spec_DeedOk_r1)
  (.seq (.reg i_spec_DeedOk_r2)
  (.seq (.reg i_spec_DeedOk_r3)
  (.seq (.seq (.reg i_spec_DeedOk_r4)
  (.block 0 (.seq (.seq (.reg i_spec_DeedOk_r5)
  (.cond (.t 17) .skip (.seq (.reg i_spec_DeedOk_r6)
  (.cond (.t 17) .skip (.seq (.reg i_spec_DeedOk_r7)
  (.cond (.t 17) .skip (.reg i_spec_DeedOk_r8)))))))
  (.cond (.t 17) (.seq (.reg i_spec_DeedOk_r9)
  (.seq (.reg i_spec_DeedOk_r10)
  .ret)) (.seq (.reg i_spec_DeedOk_r11)
  (.cond (.t 31) (.seq (.reg i_spec_DeedOk_r12)
  (.seq (.reg i_spec_DeedOk_r13)
  (.seq (.reg i_spec_DeedOk_r14)
  (.seq (.reg i_spec_DeedOk_r15)
  .ret)))) (.seq (.reg i_spec_DeedOk_r16)
  (.cond (.t 55) (.seq (.reg i_spec_DeedOk_r17)
  (.seq (.reg i_spec_DeedOk_r18)
  (.seq (.reg i_spec_DeedOk_r19)
  (.seq (.reg i_spec_DeedOk_r20)
  .ret)))) (.seq (.seq (.reg i_spec_DeedOk_r21)
  (.cond (.t 82) .skip (.seq (.reg i_spec_DeedOk_r22)
  (.cond (.t 82) .skip (.reg i_spec_DeedOk_r23)))))
  (.cond (.t 82) (.seq (.reg i_spec_DeedOk_r24)
  (.seq (.reg i_spec_DeedOk_r25)
  .ret)) (.seq (.reg i_spec_DeedOk_r26)
  (.cond (.t 95) (.seq (.reg i_spec_DeedOk_r27)
  (.seq (.reg i_spec_DeedOk_r28)
  (.seq (.reg i_spec_DeedOk_r29)
  .ret))) (.seq (.seq (.reg i_spec_DeedOk_r30)
  (.cond (.t 114) .skip (.reg i_spec_DeedOk_r31)))
  (.cond (.t 114) (.seq (.reg i_spec_DeedOk_r32)
  (.seq (.reg i_spec_DeedOk_r33)
  .ret)) (.seq (.reg i_spec_DeedOk_r34)
  (.cond (.t 128) (.seq (.reg i_spec_DeedOk_r35)
  (.seq (.reg i_spec_DeedOk_r36)
  .ret)) (.seq (.reg i_spec_DeedOk_r37)
  (.cond (.t 141) (.seq (.reg i_spec_DeedOk_r38)
  (.seq (.reg i_spec_DeedOk_r39)
  (.seq (.reg i_spec_DeedOk_r40)
  .ret))) (.seq (.reg i_spec_DeedOk_r41)
  (.cond (.t 162) (.seq (.reg i_spec_DeedOk_r42)
  .ret) .skip))))))))))))))))))))
  (.seq (.reg i_spec_DeedOk_r43)
  .ret))))))

theorem i_spec_DeedOk_ok : (Try.f20.body.bind fun c => toIC Try.prog 167 c []) = some (i_spec_DeedOk, []) := by kernel_rfl

theorem i_spec_DeedOk_fn {ds rs : List D} (hle : ds.length ≤ 167) (h : AW Try.prog 167 i_spec_DeedOk (Ends [.tmp 2] rs) (init ds)) : Fn Try.prog k_spec_DeedOk (lent ds) true rs :=
  Fn.intro' (by kernel_rfl) Try.func20 (by kernel_rfl) i_spec_DeedOk_ok (by kernel_rfl) hle h.h

theorem i_spec_DeedOk_fnB {ds rs : List D} (hle : ds.length ≤ 167) (h : AW Try.prog 167 i_spec_DeedOk (EndsB [.tmp 2] rs) (init ds)) : Fn Try.prog k_spec_DeedOk (lent ds) false rs :=
  Fn.introB' (by kernel_rfl) Try.func20 (by kernel_rfl) i_spec_DeedOk_ok (by kernel_rfl) hle h.h

abbrev i_impl_from_r0 : List RO := [
  ⟨⟨none, .mov 6 (.c (.one (.d (.bool false))))⟩, 0, []⟩]

abbrev i_impl_from_r1 : List RO := [
  ⟨⟨none, .mov 7 (.t 0)⟩, 0, []⟩,
  ⟨⟨none, .mov 8 (.t 1)⟩, 0, []⟩,
  ⟨⟨none, .bin 9 .geq (.t 7) (.t 8)⟩, 0, []⟩,
  ⟨⟨none, .mov 10 (.t 9)⟩, 0, []⟩,
  ⟨⟨some (10, true), .mov 11 (.t 0)⟩, 0, []⟩,
  ⟨⟨some (10, true), .mov 12 (.t 2)⟩, 0, []⟩,
  ⟨⟨some (10, true), .bin 13 .leq (.t 11) (.t 12)⟩, 0, []⟩,
  ⟨⟨none, .pick 14 (.t 10) (.t 13) (.c (.one (.d (.bool false))))⟩, 0, []⟩,
  ⟨⟨none, .mov 6 (.t 14)⟩, 0, []⟩]

def i_impl_from : IC := (.seq (.reg i_impl_from_r0)
  (.seq (.reg i_impl_from_r1)
  .ret))

theorem i_impl_from_ok : (Try.f68.body.bind fun c => toIC Try.prog 15 c []) = some (i_impl_from, []) := by kernel_rfl

theorem i_impl_from_fn {ds rs : List D} (hle : ds.length ≤ 15) (h : AW Try.prog 15 i_impl_from (Ends [.tmp 6] rs) (init ds)) : Fn Try.prog k_impl_from (lent ds) true rs :=
  Fn.intro' (by kernel_rfl) Try.func68 (by kernel_rfl) i_impl_from_ok (by kernel_rfl) hle h.h

theorem i_impl_from_fnB {ds rs : List D} (hle : ds.length ≤ 15) (h : AW Try.prog 15 i_impl_from (EndsB [.tmp 6] rs) (init ds)) : Fn Try.prog k_impl_from (lent ds) false rs :=
  Fn.introB' (by kernel_rfl) Try.func68 (by kernel_rfl) i_impl_from_ok (by kernel_rfl) hle h.h

abbrev i_impl_RangeOk_r0 : List RO := [
  ⟨⟨none, .box 1 (.t 0)⟩, 0, []⟩,
  ⟨⟨none, .mov 2 (.c (.one (.d (.bool false))))⟩, 0, []⟩]

abbrev i_impl_RangeOk_r1 : List RO := [
  ⟨⟨none, .faddr 3 0 (.t 1)⟩, 0, []⟩,
  ⟨⟨none, .load 4 none (.t 3)⟩, 0, []⟩,
  ⟨⟨none, .bin 5 .geq (.t 4) (.c (.one (.d (.int .i64 0))))⟩, 0, []⟩,
  ⟨⟨none, .mov 6 (.t 5)⟩, 0, []⟩,
  ⟨⟨some (6, true), .faddr 7 0 (.t 1)⟩, 0, []⟩,
  ⟨⟨some (6, true), .load 8 none (.t 7)⟩, 0, []⟩,
  ⟨⟨some (6, true), .faddr 9 1 (.t 1)⟩, 0, []⟩,
  ⟨⟨some (6, true), .load 10 none (.t 9)⟩, 0, []⟩,
  ⟨⟨some (6, true), .bin 11 .lss (.t 8) (.t 10)⟩, 0, []⟩,
  ⟨⟨none, .pick 12 (.t 6) (.t 11) (.c (.one (.d (.bool false))))⟩, 0, []⟩,
  ⟨⟨none, .mov 13 (.t 12)⟩, 0, []⟩,
  ⟨⟨some (13, true), .faddr 14 1 (.t 1)⟩, 0, []⟩,
  ⟨⟨some (13, true), .load 15 none (.t 14)⟩, 0, []⟩,
  ⟨⟨some (13, true), .bin 16 .leq (.t 15) (.c (.one (.d (.int .i64 1000))))⟩, 0, []⟩,
  ⟨⟨none, .pick 17 (.t 13) (.t 16) (.c (.one (.d (.bool false))))⟩, 0, []⟩,
  ⟨⟨none, .mov 2 (.t 17)⟩, 0, []⟩]

def i_impl_RangeOk : IC := (.seq (.reg i_impl_RangeOk_r0)
  (.seq (.reg i_impl_RangeOk_r1)
  .ret))

theorem i_impl_RangeOk_ok : (Try.f69.body.bind fun c => toIC Try.prog 18 c []) = some (i_impl_RangeOk, []) := by kernel_rfl

theorem i_impl_RangeOk_fn {ds rs : List D} (hle : ds.length ≤ 18) (h : AW Try.prog 18 i_impl_RangeOk (Ends [.tmp 2] rs) (init ds)) : Fn Try.prog k_impl_RangeOk (lent ds) true rs :=
  Fn.intro' (by kernel_rfl) Try.func69 (by kernel_rfl) i_impl_RangeOk_ok (by kernel_rfl) hle h.h

theorem i_impl_RangeOk_fnB {ds rs : List D} (hle : ds.length ≤ 18) (h : AW Try.prog 18 i_impl_RangeOk (EndsB [.tmp 2] rs) (init ds)) : Fn Try.prog k_impl_RangeOk (lent ds) false rs :=
  Fn.introB' (by kernel_rfl) Try.func69 (by kernel_rfl) i_impl_RangeOk_ok (by kernel_rfl) hle h.h

abbrev i_impl_isKey_r0 : List RO := [
  ⟨⟨none, .mov 2 (.c (.one (.d (.bool false))))⟩, 0, []⟩]

abbrev i_impl_isKey_r1 : List RO := [
  ⟨⟨none, .mov 3 (.t 0)⟩, 0, []⟩,
  ⟨⟨none, .callv 4 (.c (.one (.fn k_impl_from []))) [(.t 3), (.c (.one (.d (.int .i64 0)))), (.c (.one (.d (.int .i64 999))))]⟩, 0, []⟩,
  ⟨⟨none, .mov 2 (.t 4)⟩, 0, []⟩]

def i_impl_isKey : IC := (.seq (.reg i_impl_isKey_r0)
  (.seq (.reg i_impl_isKey_r1)
  .ret))

theorem i_impl_isKey_ok : (Try.f61.body.bind fun c => toIC Try.prog 5 c []) = some (i_impl_isKey, []) := by kernel_rfl

theorem i_impl_isKey_fn {ds rs : List D} (hle : ds.length ≤ 5) (h : AW Try.prog 5 i_impl_isKey (Ends [.tmp 2] rs) (init ds)) : Fn Try.prog k_impl_isKey (lent ds) true rs :=
  Fn.intro' (by kernel_rfl) Try.func61 (by kernel_rfl) i_impl_isKey_ok (by kernel_rfl) hle h.h

theorem i_impl_isKey_fnB {ds rs : List D} (hle : ds.length ≤ 5) (h : AW Try.prog 5 i_impl_isKey (EndsB [.tmp 2] rs) (init ds)) : Fn Try.prog k_impl_isKey (lent ds) false rs :=
  Fn.introB' (by kernel_rfl) Try.func61 (by kernel_rfl) i_impl_isKey_ok (by kernel_rfl) hle h.h

abbrev i_impl_isAnswer_r0 : List RO := [
  ⟨⟨none, .mov 2 (.c (.one (.d (.bool false))))⟩, 0, []⟩]

abbrev i_impl_isAnswer_r1 : List RO := [
  ⟨⟨none, .mov 3 (.t 0)⟩, 0, []⟩,
  ⟨⟨none, .callv 4 (.c (.one (.fn k_impl_from []))) [(.t 3), (.c (.one (.d (.int .i64 (-1))))), (.c (.one (.d (.int .i64 1000000000))))]⟩, 0, []⟩,
  ⟨⟨none, .mov 2 (.t 4)⟩, 0, []⟩]

def i_impl_isAnswer : IC := (.seq (.reg i_impl_isAnswer_r0)
  (.seq (.reg i_impl_isAnswer_r1)
  .ret))

theorem i_impl_isAnswer_ok : (Try.f70.body.bind fun c => toIC Try.prog 5 c []) = some (i_impl_isAnswer, []) := by kernel_rfl

theorem i_impl_isAnswer_fn {ds rs : List D} (hle : ds.length ≤ 5) (h : AW Try.prog 5 i_impl_isAnswer (Ends [.tmp 2] rs) (init ds)) : Fn Try.prog k_impl_isAnswer (lent ds) true rs :=
  Fn.intro' (by kernel_rfl) Try.func70 (by kernel_rfl) i_impl_isAnswer_ok (by kernel_rfl) hle h.h

theorem i_impl_isAnswer_fnB {ds rs : List D} (hle : ds.length ≤ 5) (h : AW Try.prog 5 i_impl_isAnswer (EndsB [.tmp 2] rs) (init ds)) : Fn Try.prog k_impl_isAnswer (lent ds) false rs :=
  Fn.introB' (by kernel_rfl) Try.func70 (by kernel_rfl) i_impl_isAnswer_ok (by kernel_rfl) hle h.h

abbrev i_impl_isTx_r0 : List RO := [
  ⟨⟨none, .mov 2 (.c (.one (.d (.bool false))))⟩, 0, []⟩]

abbrev i_impl_isTx_r1 : List RO := [
  ⟨⟨none, .mov 3 (.t 0)⟩, 0, []⟩,
  ⟨⟨none, .callv 4 (.c (.one (.fn k_impl_from []))) [(.t 3), (.c (.one (.d (.int .i64 1)))), (.c (.one (.d (.int .i64 60))))]⟩, 0, []⟩,
  ⟨⟨none, .mov 2 (.t 4)⟩, 0, []⟩]

def i_impl_isTx : IC := (.seq (.reg i_impl_isTx_r0)
  (.seq (.reg i_impl_isTx_r1)
  .ret))

theorem i_impl_isTx_ok : (Try.f71.body.bind fun c => toIC Try.prog 5 c []) = some (i_impl_isTx, []) := by kernel_rfl

theorem i_impl_isTx_fn {ds rs : List D} (hle : ds.length ≤ 5) (h : AW Try.prog 5 i_impl_isTx (Ends [.tmp 2] rs) (init ds)) : Fn Try.prog k_impl_isTx (lent ds) true rs :=
  Fn.intro' (by kernel_rfl) Try.func71 (by kernel_rfl) i_impl_isTx_ok (by kernel_rfl) hle h.h

theorem i_impl_isTx_fnB {ds rs : List D} (hle : ds.length ≤ 5) (h : AW Try.prog 5 i_impl_isTx (EndsB [.tmp 2] rs) (init ds)) : Fn Try.prog k_impl_isTx (lent ds) false rs :=
  Fn.introB' (by kernel_rfl) Try.func71 (by kernel_rfl) i_impl_isTx_ok (by kernel_rfl) hle h.h

abbrev i_impl_isGroup_r0 : List RO := [
  ⟨⟨none, .mov 2 (.c (.one (.d (.bool false))))⟩, 0, []⟩]

abbrev i_impl_isGroup_r1 : List RO := [
  ⟨⟨none, .mov 3 (.t 0)⟩, 0, []⟩,
  ⟨⟨none, .callv 4 (.c (.one (.fn k_impl_from []))) [(.t 3), (.c (.one (.d (.int .i64 0)))), (.c (.one (.d (.int .i64 3))))]⟩, 0, []⟩,
  ⟨⟨none, .mov 2 (.t 4)⟩, 0, []⟩]

def i_impl_isGroup : IC := (.seq (.reg i_impl_isGroup_r0)
  (.seq (.reg i_impl_isGroup_r1)
  .ret))

theorem i_impl_isGroup_ok : (Try.f72.body.bind fun c => toIC Try.prog 5 c []) = some (i_impl_isGroup, []) := by kernel_rfl

theorem i_impl_isGroup_fn {ds rs : List D} (hle : ds.length ≤ 5) (h : AW Try.prog 5 i_impl_isGroup (Ends [.tmp 2] rs) (init ds)) : Fn Try.prog k_impl_isGroup (lent ds) true rs :=
  Fn.intro' (by kernel_rfl) Try.func72 (by kernel_rfl) i_impl_isGroup_ok (by kernel_rfl) hle h.h

theorem i_impl_isGroup_fnB {ds rs : List D} (hle : ds.length ≤ 5) (h : AW Try.prog 5 i_impl_isGroup (EndsB [.tmp 2] rs) (init ds)) : Fn Try.prog k_impl_isGroup (lent ds) false rs :=
  Fn.introB' (by kernel_rfl) Try.func72 (by kernel_rfl) i_impl_isGroup_ok (by kernel_rfl) hle h.h

abbrev i_impl_DeedOk_r0 : List RO := [
  ⟨⟨none, .box 1 (.t 0)⟩, 0, []⟩,
  ⟨⟨none, .mov 2 (.c (.one (.d (.bool false))))⟩, 0, []⟩]

abbrev i_impl_DeedOk_r1 : List RO := [
  ⟨⟨none, .load 5 (some 7) (.t 1)⟩, 0, []⟩,
  ⟨⟨none, .var 3 [(.d (.int .i64 0)), (.d (.int .i64 0)), (.d (.int .i64 0)), (.d (.int .i64 0)), (.d (.int .i64 0)), (.d (.int .i64 0)), (.d (.int .i64 0))]⟩, 0, []⟩,
  ⟨⟨none, .store 7 [(.int .i64 0), (.int .i64 0), (.int .i64 0), (.int .i64 0), (.int .i64 0), (.int .i64 0), (.int .i64 0)] (.t 3) (.t 5)⟩, 0, []⟩]

abbrev i_impl_DeedOk_r2 : List RO := [
  ⟨⟨none, .faddr 6 0 (.t 3)⟩, 0, []⟩,
  ⟨⟨none, .store 1 [(.int .i64 0)] (.t 6) (.c (.one (.d (.int .i64 0))))⟩, 0, []⟩]

abbrev i_impl_DeedOk_r3 : List RO := [
  ⟨⟨none, .mov 4 (.c (.one (.d (.bool false))))⟩, 0, []⟩]

abbrev i_impl_DeedOk_r4 : List RO := [
  ⟨⟨none, .faddr 7 0 (.t 1)⟩, 0, []⟩,
  ⟨⟨none, .load 8 none (.t 7)⟩, 0, []⟩]

abbrev i_impl_DeedOk_r5 : List RO := [
  ⟨⟨none, .bin 10 .eql (.t 8) (.c (.one (.d (.int .i64 1))))⟩, 0, []⟩,
  ⟨⟨none, .mov 9 (.t 10)⟩, 0, []⟩]

abbrev i_impl_DeedOk_r6 : List RO := [
  ⟨⟨none, .bin 11 .eql (.t 8) (.c (.one (.d (.int .i64 4))))⟩, 0, []⟩,
  ⟨⟨none, .mov 9 (.t 11)⟩, 0, []⟩]

abbrev i_impl_DeedOk_r7 : List RO := [
  ⟨⟨none, .bin 12 .eql (.t 8) (.c (.one (.d (.int .i64 5))))⟩, 0, []⟩,
  ⟨⟨none, .mov 9 (.t 12)⟩, 0, []⟩]

abbrev i_impl_DeedOk_r8 : List RO := [
  ⟨⟨none, .bin 13 .eql (.t 8) (.c (.one (.d (.int .i64 6))))⟩, 0, []⟩,
  ⟨⟨none, .mov 9 (.t 13)⟩, 0, []⟩]

abbrev i_impl_DeedOk_r9 : List RO := [
  ⟨⟨none, .faddr 14 1 (.t 1)⟩, 0, []⟩,
  ⟨⟨none, .load 15 none (.t 14)⟩, 0, []⟩,
  ⟨⟨none, .callv 16 (.c (.one (.fn k_impl_from []))) [(.t 15), (.c (.one (.d (.int .i64 0)))), (.c (.one (.d (.int .i64 5))))]⟩, 0, []⟩,
  ⟨⟨none, .mov 4 (.t 16)⟩, 0, []⟩]

abbrev i_impl_DeedOk_r10 : List RO := [
  ⟨⟨none, .faddr 17 1 (.t 3)⟩, 0, []⟩,
  ⟨⟨none, .store 1 [(.int .i64 0)] (.t 17) (.c (.one (.d (.int .i64 0))))⟩, 0, []⟩]

abbrev i_impl_DeedOk_r11 : List RO := [
  ⟨⟨none, .bin 19 .eql (.t 8) (.c (.one (.d (.int .i64 2))))⟩, 0, []⟩,
  ⟨⟨none, .mov 18 (.t 19)⟩, 0, []⟩]

abbrev i_impl_DeedOk_r12 : List RO := [
  ⟨⟨none, .faddr 20 1 (.t 1)⟩, 0, []⟩,
  ⟨⟨none, .load 21 none (.t 20)⟩, 0, []⟩,
  ⟨⟨none, .callv 22 (.c (.one (.fn k_impl_from []))) [(.t 21), (.c (.one (.d (.int .i64 0)))), (.c (.one (.d (.int .i64 5))))]⟩, 0, []⟩,
  ⟨⟨none, .mov 23 (.t 22)⟩, 0, []⟩,
  ⟨⟨some (23, true), .faddr 24 3 (.t 1)⟩, 0, []⟩,
  ⟨⟨some (23, true), .load 25 none (.t 24)⟩, 0, []⟩,
  ⟨⟨some (23, true), .faddr 26 4 (.t 1)⟩, 0, []⟩,
  ⟨⟨some (23, true), .load 27 none (.t 26)⟩, 0, []⟩,
  ⟨⟨some (23, true), .build 28 [(.d (.int .i64 0)), (.d (.int .i64 0))] [(0, 1, (.t 25)), (1, 1, (.t 27))]⟩, 0, []⟩,
  ⟨⟨some (23, true), .callv 29 (.c (.one (.fn k_impl_RangeOk []))) [(.t 28)]⟩, 0, []⟩,
  ⟨⟨none, .pick 30 (.t 23) (.t 29) (.c (.one (.d (.bool false))))⟩, 0, []⟩,
  ⟨⟨none, .mov 4 (.t 30)⟩, 0, []⟩]

abbrev i_impl_DeedOk_r13 : List RO := [
  ⟨⟨none, .faddr 31 1 (.t 3)⟩, 0, []⟩,
  ⟨⟨none, .store 1 [(.int .i64 0)] (.t 31) (.c (.one (.d (.int .i64 0))))⟩, 0, []⟩,
  ⟨⟨none, .faddr 32 3 (.t 3)⟩, 0, []⟩,
  ⟨⟨none, .store 1 [(.int .i64 0)] (.t 32) (.c (.one (.d (.int .i64 0))))⟩, 0, []⟩,
  ⟨⟨none, .faddr 33 4 (.t 3)⟩, 0, []⟩,
  ⟨⟨none, .store 1 [(.int .i64 0)] (.t 33) (.c (.one (.d (.int .i64 0))))⟩, 0, []⟩]

abbrev i_impl_DeedOk_r14 : List RO := [
  ⟨⟨none, .bin 35 .eql (.t 8) (.c (.one (.d (.int .i64 3))))⟩, 0, []⟩,
  ⟨⟨none, .mov 34 (.t 35)⟩, 0, []⟩]

abbrev i_impl_DeedOk_r15 : List RO := [
  ⟨⟨none, .faddr 36 1 (.t 1)⟩, 0, []⟩,
  ⟨⟨none, .load 37 none (.t 36)⟩, 0, []⟩,
  ⟨⟨none, .callv 38 (.c (.one (.fn k_impl_from []))) [(.t 37), (.c (.one (.d (.int .i64 0)))), (.c (.one (.d (.int .i64 5))))]⟩, 0, []⟩,
  ⟨⟨none, .mov 39 (.t 38)⟩, 0, []⟩,
  ⟨⟨some (39, true), .faddr 40 5 (.t 1)⟩, 0, []⟩,
  ⟨⟨some (39, true), .load 41 none (.t 40)⟩, 0, []⟩,
  ⟨⟨some (39, true), .callv 42 (.c (.one (.fn k_impl_isKey []))) [(.t 41)]⟩, 0, []⟩,
  ⟨⟨none, .pick 43 (.t 39) (.t 42) (.c (.one (.d (.bool false))))⟩, 0, []⟩,
  ⟨⟨none, .mov 44 (.t 43)⟩, 0, []⟩,
  ⟨⟨some (44, true), .faddr 45 6 (.t 1)⟩, 0, []⟩,
  ⟨⟨some (44, true), .load 46 none (.t 45)⟩, 0, []⟩,
  ⟨⟨some (44, true), .callv 47 (.c (.one (.fn k_impl_isAnswer []))) [(.t 46)]⟩, 0, []⟩,
  ⟨⟨none, .pick 48 (.t 44) (.t 47) (.c (.one (.d (.bool false))))⟩, 0, []⟩,
  ⟨⟨none, .mov 4 (.t 48)⟩, 0, []⟩]

abbrev i_impl_DeedOk_r16 : List RO := [
  ⟨⟨none, .faddr 49 1 (.t 3)⟩, 0, []⟩,
  ⟨⟨none, .store 1 [(.int .i64 0)] (.t 49) (.c (.one (.d (.int .i64 0))))⟩, 0, []⟩,
  ⟨⟨none, .faddr 50 5 (.t 3)⟩, 0, []⟩,
  ⟨⟨none, .store 1 [(.int .i64 0)] (.t 50) (.c (.one (.d (.int .i64 0))))⟩, 0, []⟩,
  ⟨⟨none, .faddr 51 6 (.t 3)⟩, 0, []⟩,
  ⟨⟨none, .store 1 [(.int .i64 0)] (.t 51) (.c (.one (.d (.int .i64 0))))⟩, 0, []⟩]

abbrev i_impl_DeedOk_r17 : List RO := [
  ⟨⟨none, .bin 53 .eql (.t 8) (.c (.one (.d (.int .i64 7))))⟩, 0, []⟩,
  ⟨⟨none, .mov 52 (.t 53)⟩, 0, []⟩]

abbrev i_impl_DeedOk_r18 : List RO := [
  ⟨⟨none, .bin 54 .eql (.t 8) (.c (.one (.d (.int .i64 8))))⟩, 0, []⟩,
  ⟨⟨none, .mov 52 (.t 54)⟩, 0, []⟩]

abbrev i_impl_DeedOk_r19 : List RO := [
  ⟨⟨none, .bin 55 .eql (.t 8) (.c (.one (.d (.int .i64 9))))⟩, 0, []⟩,
  ⟨⟨none, .mov 52 (.t 55)⟩, 0, []⟩]

abbrev i_impl_DeedOk_r20 : List RO := [
  ⟨⟨none, .faddr 56 1 (.t 1)⟩, 0, []⟩,
  ⟨⟨none, .load 57 none (.t 56)⟩, 0, []⟩,
  ⟨⟨none, .callv 58 (.c (.one (.fn k_impl_from []))) [(.t 57), (.c (.one (.d (.int .i64 0)))), (.c (.one (.d (.int .i64 59))))]⟩, 0, []⟩,
  ⟨⟨none, .mov 4 (.t 58)⟩, 0, []⟩]

abbrev i_impl_DeedOk_r21 : List RO := [
  ⟨⟨none, .faddr 59 1 (.t 3)⟩, 0, []⟩,
  ⟨⟨none, .store 1 [(.int .i64 0)] (.t 59) (.c (.one (.d (.int .i64 0))))⟩, 0, []⟩]

abbrev i_impl_DeedOk_r22 : List RO := [
  ⟨⟨none, .bin 61 .eql (.t 8) (.c (.one (.d (.int .i64 10))))⟩, 0, []⟩,
  ⟨⟨none, .mov 60 (.t 61)⟩, 0, []⟩]

abbrev i_impl_DeedOk_r23 : List RO := [
  ⟨⟨none, .faddr 62 1 (.t 1)⟩, 0, []⟩,
  ⟨⟨none, .load 63 none (.t 62)⟩, 0, []⟩,
  ⟨⟨none, .callv 64 (.c (.one (.fn k_impl_from []))) [(.t 63), (.c (.one (.d (.int .i64 0)))), (.c (.one (.d (.int .i64 59))))]⟩, 0, []⟩,
  ⟨⟨none, .mov 65 (.t 64)⟩, 0, []⟩,
  ⟨⟨some (65, true), .faddr 66 2 (.t 1)⟩, 0, []⟩,
  ⟨⟨some (65, true), .load 67 none (.t 66)⟩, 0, []⟩,
  ⟨⟨some (65, true), .callv 68 (.c (.one (.fn k_impl_from []))) [(.t 67), (.c (.one (.d (.int .i64 0)))), (.c (.one (.d (.int .i64 59))))]⟩, 0, []⟩,
  ⟨⟨none, .pick 69 (.t 65) (.t 68) (.c (.one (.d (.bool false))))⟩, 0, []⟩,
  ⟨⟨none, .mov 4 (.t 69)⟩, 0, []⟩]

abbrev i_impl_DeedOk_r24 : List RO := [
  ⟨⟨none, .faddr 70 1 (.t 3)⟩, 0, []⟩,
  ⟨⟨none, .store 1 [(.int .i64 0)] (.t 70) (.c (.one (.d (.int .i64 0))))⟩, 0, []⟩,
  ⟨⟨none, .faddr 71 2 (.t 3)⟩, 0, []⟩,
  ⟨⟨none, .store 1 [(.int .i64 0)] (.t 71) (.c (.one (.d (.int .i64 0))))⟩, 0, []⟩]

abbrev i_impl_DeedOk_r25 : List RO := [
  ⟨⟨none, .bin 73 .eql (.t 8) (.c (.one (.d (.int .i64 11))))⟩, 0, []⟩,
  ⟨⟨none, .mov 72 (.t 73)⟩, 0, []⟩]

abbrev i_impl_DeedOk_r26 : List RO := [
  ⟨⟨none, .bin 74 .eql (.t 8) (.c (.one (.d (.int .i64 12))))⟩, 0, []⟩,
  ⟨⟨none, .mov 72 (.t 74)⟩, 0, []⟩]

abbrev i_impl_DeedOk_r27 : List RO := [
  ⟨⟨none, .faddr 75 1 (.t 1)⟩, 0, []⟩,
  ⟨⟨none, .load 76 none (.t 75)⟩, 0, []⟩,
  ⟨⟨none, .callv 77 (.c (.one (.fn k_impl_isTx []))) [(.t 76)]⟩, 0, []⟩,
  ⟨⟨none, .mov 4 (.t 77)⟩, 0, []⟩]

abbrev i_impl_DeedOk_r28 : List RO := [
  ⟨⟨none, .faddr 78 1 (.t 3)⟩, 0, []⟩,
  ⟨⟨none, .store 1 [(.int .i64 0)] (.t 78) (.c (.one (.d (.int .i64 0))))⟩, 0, []⟩]

abbrev i_impl_DeedOk_r29 : List RO := [
  ⟨⟨none, .bin 80 .eql (.t 8) (.c (.one (.d (.int .i64 13))))⟩, 0, []⟩,
  ⟨⟨none, .mov 79 (.t 80)⟩, 0, []⟩]

abbrev i_impl_DeedOk_r30 : List RO := [
  ⟨⟨none, .faddr 81 5 (.t 1)⟩, 0, []⟩,
  ⟨⟨none, .load 82 none (.t 81)⟩, 0, []⟩,
  ⟨⟨none, .callv 83 (.c (.one (.fn k_impl_isKey []))) [(.t 82)]⟩, 0, []⟩,
  ⟨⟨none, .mov 4 (.t 83)⟩, 0, []⟩]

abbrev i_impl_DeedOk_r31 : List RO := [
  ⟨⟨none, .faddr 84 5 (.t 3)⟩, 0, []⟩,
  ⟨⟨none, .store 1 [(.int .i64 0)] (.t 84) (.c (.one (.d (.int .i64 0))))⟩, 0, []⟩]

abbrev i_impl_DeedOk_r32 : List RO := [
  ⟨⟨none, .bin 86 .eql (.t 8) (.c (.one (.d (.int .i64 14))))⟩, 0, []⟩,
  ⟨⟨none, .mov 85 (.t 86)⟩, 0, []⟩]

abbrev i_impl_DeedOk_r33 : List RO := [
  ⟨⟨none, .faddr 87 5 (.t 1)⟩, 0, []⟩,
  ⟨⟨none, .load 88 none (.t 87)⟩, 0, []⟩,
  ⟨⟨none, .callv 89 (.c (.one (.fn k_impl_isKey []))) [(.t 88)]⟩, 0, []⟩,
  ⟨⟨none, .mov 90 (.t 89)⟩, 0, []⟩,
  ⟨⟨some (90, true), .faddr 91 2 (.t 1)⟩, 0, []⟩,
  ⟨⟨some (90, true), .load 92 none (.t 91)⟩, 0, []⟩,
  ⟨⟨some (90, true), .callv 93 (.c (.one (.fn k_impl_isGroup []))) [(.t 92)]⟩, 0, []⟩,
  ⟨⟨none, .pick 94 (.t 90) (.t 93) (.c (.one (.d (.bool false))))⟩, 0, []⟩,
  ⟨⟨none, .mov 4 (.t 94)⟩, 0, []⟩]

abbrev i_impl_DeedOk_r34 : List RO := [
  ⟨⟨none, .faddr 95 5 (.t 3)⟩, 0, []⟩,
  ⟨⟨none, .store 1 [(.int .i64 0)] (.t 95) (.c (.one (.d (.int .i64 0))))⟩, 0, []⟩,
  ⟨⟨none, .faddr 96 2 (.t 3)⟩, 0, []⟩,
  ⟨⟨none, .store 1 [(.int .i64 0)] (.t 96) (.c (.one (.d (.int .i64 0))))⟩, 0, []⟩]

abbrev i_impl_DeedOk_r35 : List RO := [
  ⟨⟨none, .bin 98 .eql (.t 8) (.c (.one (.d (.int .i64 15))))⟩, 0, []⟩,
  ⟨⟨none, .mov 97 (.t 98)⟩, 0, []⟩]

abbrev i_impl_DeedOk_r36 : List RO := [
  ⟨⟨none, .mov 4 (.c (.one (.d (.bool true))))⟩, 0, []⟩]

abbrev i_impl_DeedOk_r37 : List RO := [
  ⟨⟨none, .mov 99 (.t 4)⟩, 0, []⟩,
  ⟨⟨none, .mov 100 (.t 99)⟩, 0, []⟩,
  ⟨⟨some (100, true), .load 101 (some 7) (.t 3)⟩, 0, []⟩,
  ⟨⟨some (100, true), .build 102 [(.d (.int .i64 0)), (.d (.int .i64 0)), (.d (.int .i64 0)), (.d (.int .i64 0)), (.d (.int .i64 0)), (.d (.int .i64 0)), (.d (.int .i64 0))] []⟩, 0, []⟩,
  ⟨⟨some (100, true), .seql 103 false 7 (.t 101) (.t 102)⟩, 0, []⟩,
  ⟨⟨none, .pick 104 (.t 100) (.t 103) (.c (.one (.d (.bool false))))⟩, 0, []⟩,
  ⟨⟨none, .mov 2 (.t 104)⟩, 0, []⟩]

def i_impl_DeedOk : IC := (.seq (.reg i_impl_DeedOk_r0)
  (.seq (.reg i_impl_DeedOk_r1)
  (.seq (.reg i_impl_DeedOk_r2)
  (.seq (.reg i_impl_DeedOk_r3)
  (.seq (.seq (.reg i_impl_DeedOk_r4)
  (.block 0 (.seq (.seq (.reg i_impl_DeedOk_r5)
  (.cond (.t 9) .skip (.seq (.reg i_impl_DeedOk_r6)
  (.cond (.t 9) .skip (.seq (.reg i_impl_DeedOk_r7)
  (.cond (.t 9) .skip (.reg i_impl_DeedOk_r8)))))))
  (.cond (.t 9) (.seq (.reg i_impl_DeedOk_r9)
  (.reg i_impl_DeedOk_r10)) (.seq (.reg i_impl_DeedOk_r11)
  (.cond (.t 18) (.seq (.reg i_impl_DeedOk_r12)
  (.reg i_impl_DeedOk_r13)) (.seq (.reg i_impl_DeedOk_r14)
  (.cond (.t 34) (.seq (.reg i_impl_DeedOk_r15)
  (.reg i_impl_DeedOk_r16)) (.seq (.seq (.reg i_impl_DeedOk_r17)
  (.cond (.t 52) .skip (.seq (.reg i_impl_DeedOk_r18)
  (.cond (.t 52) .skip (.reg i_impl_DeedOk_r19)))))
  (.cond (.t 52) (.seq (.reg i_impl_DeedOk_r20)
  (.reg i_impl_DeedOk_r21)) (.seq (.reg i_impl_DeedOk_r22)
  (.cond (.t 60) (.seq (.reg i_impl_DeedOk_r23)
  (.reg i_impl_DeedOk_r24)) (.seq (.seq (.reg i_impl_DeedOk_r25)
  (.cond (.t 72) .skip (.reg i_impl_DeedOk_r26)))
  (.cond (.t 72) (.seq (.reg i_impl_DeedOk_r27)
  (.reg i_impl_DeedOk_r28)) (.seq (.reg i_impl_DeedOk_r29)
  (.cond (.t 79) (.seq (.reg i_impl_DeedOk_r30)
  (.reg i_impl_DeedOk_r31)) (.seq (.reg i_impl_DeedOk_r32)
  (.cond (.t 85) (.seq (.reg i_impl_DeedOk_r33)
  (.reg i_impl_DeedOk_r34)) (.seq (.reg i_impl_DeedOk_r35)
  (.cond (.t 97) (.reg i_impl_DeedOk_r36) .skip))))))))))))))))))))
  (.seq (.reg i_impl_DeedOk_r37)
  .ret))))))

theorem i_impl_DeedOk_ok : (Try.f22.body.bind fun c => toIC Try.prog 105 c []) = some (i_impl_DeedOk, []) := by kernel_rfl

theorem i_impl_DeedOk_fn {ds rs : List D} (hle : ds.length ≤ 105) (h : AW Try.prog 105 i_impl_DeedOk (Ends [.tmp 2] rs) (init ds)) : Fn Try.prog k_impl_DeedOk (lent ds) true rs :=
  Fn.intro' (by kernel_rfl) Try.func22 (by kernel_rfl) i_impl_DeedOk_ok (by kernel_rfl) hle h.h

theorem i_impl_DeedOk_fnB {ds rs : List D} (hle : ds.length ≤ 105) (h : AW Try.prog 105 i_impl_DeedOk (EndsB [.tmp 2] rs) (init ds)) : Fn Try.prog k_impl_DeedOk (lent ds) false rs :=
  Fn.introB' (by kernel_rfl) Try.func22 (by kernel_rfl) i_impl_DeedOk_ok (by kernel_rfl) hle h.h

abbrev i_laws_FnExactDeedOk_r0 : List RO := [
  ⟨⟨none, .box 1 (.t 0)⟩, 0, []⟩,
  ⟨⟨none, .mov 2 (.c (.one (.d (.bool false))))⟩, 0, []⟩]

abbrev i_laws_FnExactDeedOk_r1 : List RO := [
  ⟨⟨none, .load 5 (some 7) (.t 1)⟩, 0, []⟩,
  ⟨⟨none, .callv 6 (.c (.one (.fn k_laws_toDeed []))) [(.t 5)]⟩, 0, []⟩,
  ⟨⟨none, .callv 7 (.c (.one (.fn k_spec_DeedOk []))) [(.t 6)]⟩, 0, []⟩,
  ⟨⟨none, .mov 3 (.t 7)⟩, 0, []⟩]

abbrev i_laws_FnExactDeedOk_r2 : List RO := [
  ⟨⟨none, .load 8 (some 7) (.t 1)⟩, 0, []⟩,
  ⟨⟨none, .callv 9 (.c (.one (.fn k_laws_toDeed []))) [(.t 8)]⟩, 0, []⟩,
  ⟨⟨none, .callv 10 (.c (.one (.fn k_impl_DeedOk []))) [(.t 9)]⟩, 0, []⟩,
  ⟨⟨none, .mov 4 (.t 10)⟩, 0, []⟩]

abbrev i_laws_FnExactDeedOk_r3 : List RO := [
  ⟨⟨none, .mov 11 (.t 4)⟩, 0, []⟩,
  ⟨⟨none, .mov 12 (.t 3)⟩, 0, []⟩,
  ⟨⟨none, .beq 13 true (.t 11) (.t 12)⟩, 0, []⟩]

abbrev i_laws_FnExactDeedOk_r4 : List RO := [
  ⟨⟨none, .mov 2 (.c (.one (.d (.bool false))))⟩, 0, []⟩]

abbrev i_laws_FnExactDeedOk_r5 : List RO := [
  ⟨⟨none, .mov 2 (.c (.one (.d (.bool true))))⟩, 0, []⟩]

def i_laws_FnExactDeedOk : IC := (.seq (.reg i_laws_FnExactDeedOk_r0)
  (.seq (.reg i_laws_FnExactDeedOk_r1)
  (.seq (.reg i_laws_FnExactDeedOk_r2)
  (.seq (.seq (.reg i_laws_FnExactDeedOk_r3)
  (.cond (.t 13) (.seq (.reg i_laws_FnExactDeedOk_r4)
  .ret) .skip))
  (.seq (.reg i_laws_FnExactDeedOk_r5)
  .ret)))))

theorem i_laws_FnExactDeedOk_ok : (Try.f4.body.bind fun c => toIC Try.prog 14 c []) = some (i_laws_FnExactDeedOk, []) := by kernel_rfl

theorem i_laws_FnExactDeedOk_fn {ds rs : List D} (hle : ds.length ≤ 14) (h : AW Try.prog 14 i_laws_FnExactDeedOk (Ends [.tmp 2] rs) (init ds)) : Fn Try.prog k_laws_FnExactDeedOk (lent ds) true rs :=
  Fn.intro' (by kernel_rfl) Try.func4 (by kernel_rfl) i_laws_FnExactDeedOk_ok (by kernel_rfl) hle h.h

theorem i_laws_FnExactDeedOk_fnB {ds rs : List D} (hle : ds.length ≤ 14) (h : AW Try.prog 14 i_laws_FnExactDeedOk (EndsB [.tmp 2] rs) (init ds)) : Fn Try.prog k_laws_FnExactDeedOk (lent ds) false rs :=
  Fn.introB' (by kernel_rfl) Try.func4 (by kernel_rfl) i_laws_FnExactDeedOk_ok (by kernel_rfl) hle h.h

end Go.AW
