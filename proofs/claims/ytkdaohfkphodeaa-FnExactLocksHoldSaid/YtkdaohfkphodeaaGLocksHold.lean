/- The compact code of functions of the program, and that it is the program's: made by a program of the prover's own (tool/GenIC.lean). Conditions: none. -/
import Derived.Test.YtkdaohfkphodeaaY
import Derived.Test.YtkdaohfkphodeaaRows
import Derived.KernelRfl
set_option linter.unusedVariables false
set_option maxRecDepth 100000
namespace Go.AW
open Go.Proofs

abbrev k_gosem_cut_init : Nat := 2
abbrev k_laws_FnExactStoreOk : Nat := 3
abbrev k_laws_FnExactDeedOk : Nat := 4
abbrev k_laws_FnExactMoveRank : Nat := 5
abbrev k_laws_FnExactStoreGet : Nat := 6
abbrev k_laws_FnExactLocksOk : Nat := 7
abbrev k_laws_FnExactStoreCut : Nat := 8
abbrev k_laws_FnExactStoreScan : Nat := 9
abbrev k_laws_FnExactLocksHold : Nat := 10
abbrev k_laws_FnExactStoreNew : Nat := 11
abbrev k_laws_FnExactLocksDrop : Nat := 12
abbrev k_laws_FnExactLocksOf : Nat := 13
abbrev k_laws_FnExactStoreApply : Nat := 14
abbrev k_laws_szCellS : Nat := 15
abbrev k_spec_StoreOk : Nat := 16
abbrev k_laws_toCellS : Nat := 17
abbrev k_impl_StoreOk : Nat := 18
abbrev k_laws_eqCellS : Nat := 19
abbrev k_spec_DeedOk : Nat := 20
abbrev k_laws_toDeed : Nat := 21
abbrev k_impl_DeedOk : Nat := 22
abbrev k_laws_szMove : Nat := 23
abbrev k_spec_MoveRank : Nat := 24
abbrev k_laws_toMove : Nat := 25
abbrev k_impl_MoveRank : Nat := 26
abbrev k_laws_eqMove : Nat := 27
abbrev k_spec_StoreGet : Nat := 28
abbrev k_impl_StoreGet : Nat := 29
abbrev k_laws_szLockS : Nat := 30
abbrev k_spec_LocksOk : Nat := 31
abbrev k_laws_toLockS : Nat := 32
abbrev k_impl_LocksOk : Nat := 33
abbrev k_laws_eqLockS : Nat := 34
abbrev k_spec_StoreCut : Nat := 35
abbrev k_laws_toRange : Nat := 36
abbrev k_impl_StoreCut : Nat := 37
abbrev k_laws_markCellS : Nat := 38
abbrev k_laws_heldCellS : Nat := 39
abbrev k_spec_StoreScan : Nat := 40
abbrev k_impl_StoreScan : Nat := 41
abbrev k_spec_LocksHold : Nat := 42
abbrev k_impl_LocksHold : Nat := 43
abbrev k_laws_szWriteS : Nat := 44
abbrev k_spec_StoreNew : Nat := 45
abbrev k_laws_toWriteS : Nat := 46
abbrev k_impl_StoreNew : Nat := 47
abbrev k_laws_eqWriteS : Nat := 48
abbrev k_spec_LocksDrop : Nat := 49
abbrev k_impl_LocksDrop : Nat := 50
abbrev k_laws_markLockS : Nat := 51
abbrev k_laws_heldLockS : Nat := 52
abbrev k_spec_LocksOf : Nat := 53
abbrev k_impl_LocksOf : Nat := 54
abbrev k_spec_StoreApply : Nat := 55
abbrev k_impl_StoreApply : Nat := 56
abbrev k_laws_markWriteS : Nat := 57
abbrev k_spec_l10Key : Nat := 58
abbrev k_spec_l1Whole : Nat := 59
abbrev k_laws_toCell : Nat := 60
abbrev k_impl_isKey : Nat := 61
abbrev k_impl_isWhole : Nat := 62
abbrev k_laws_eqCell : Nat := 63
abbrev k_spec_l1In : Nat := 64
abbrev k_spec_l16RangeOk : Nat := 65
abbrev k_spec_l12Tx : Nat := 66
abbrev k_spec_l15Group : Nat := 67
abbrev k_impl_from : Nat := 68
abbrev k_impl_RangeOk : Nat := 69
abbrev k_impl_isAnswer : Nat := 70
abbrev k_impl_isTx : Nat := 71
abbrev k_impl_isGroup : Nat := 72
abbrev k_spec_l1Min : Nat := 73
abbrev k_spec_l11Get : Nat := 74
abbrev k_impl_valueOf : Nat := 75
abbrev k_spec_RangeOk : Nat := 76
abbrev k_spec_l12Range : Nat := 77
abbrev k_spec_l12Mode : Nat := 78
abbrev k_spec_l12Clash : Nat := 79
abbrev k_laws_toLock : Nat := 80
abbrev k__impl_Lock_keys : Nat := 81
abbrev k_impl_isMode : Nat := 82
abbrev k_slices_ContainsFunc___impl_Lock_impl_Lock_ : Nat := 83
abbrev k_impl_LocksOk_1 : Nat := 84
abbrev k_impl_clash : Nat := 85
abbrev k_laws_eqLock : Nat := 86
abbrev k_spec_l11Scan : Nat := 87
abbrev k_impl_within : Nat := 88
abbrev k_spec_l12Holds : Nat := 89
abbrev k_impl_LocksHold_1 : Nat := 90
abbrev k_spec_WritesOk : Nat := 91
abbrev k_laws_toWrite : Nat := 92
abbrev k_impl_WritesOk : Nat := 93
abbrev k_laws_eqWrite : Nat := 94
abbrev k_spec_l12Keep : Nat := 95
abbrev k_slices_DeleteFunc___impl_Lock_impl_Lock_ : Nat := 96
abbrev k_slices_Clone___impl_Lock_impl_Lock_ : Nat := 97
abbrev k_impl_LocksDrop_1 : Nat := 98
abbrev k_impl_LocksOf_1 : Nat := 99
abbrev k_spec_l2Cells : Nat := 100
abbrev k_impl_written : Nat := 101
abbrev k_slices_Clone___impl_Cell_impl_Cell_ : Nat := 102
abbrev k_impl_cellFor : Nat := 103
abbrev k_spec_RangeMeet : Nat := 104
abbrev k_slices_IndexFunc___impl_Lock_impl_Lock_ : Nat := 105
abbrev k_impl_meets : Nat := 106
abbrev k_slices_DeleteFunc___impl_Cell_impl_Cell_ : Nat := 107
abbrev k_impl_within_1 : Nat := 108
abbrev k__impl_Range_has : Nat := 109
abbrev k_spec_RangeIn : Nat := 110
abbrev k_impl_put : Nat := 111
abbrev k_slices_BinarySearchFunc___impl_Cell_impl_Cell_int_ : Nat := 112
abbrev k_impl_cellFor_1 : Nat := 113
abbrev k_spec_l1Max : Nat := 114
abbrev k_slices_IndexFunc___impl_Cell_impl_Cell_ : Nat := 115
abbrev k_slices_Delete___impl_Cell_impl_Cell_ : Nat := 116
abbrev k_slices_Insert___impl_Cell_impl_Cell_ : Nat := 117
abbrev k_slices_rotateRight_impl_Cell_ : Nat := 119
abbrev k_slices_rotateLeft_impl_Cell_ : Nat := 120
abbrev k_slices_Reverse___impl_Cell_impl_Cell_ : Nat := 121
abbrev i_laws_szLockS_r0 : List RO := [
  ⟨⟨none, .mov 4 (.c (.one (.d (.int .i64 0))))⟩, 0, []⟩]

abbrev i_laws_szLockS_r1 : List RO := [
  ⟨⟨none, .mov 5 (.t 1)⟩, 0, []⟩,
  ⟨⟨none, .mov 6 (.t 0)⟩, 0, []⟩,
  ⟨⟨none, .len 7 false (.t 6)⟩, 0, []⟩,
  ⟨⟨none, .bin 8 .sub (.t 5) (.t 7)⟩, 0, []⟩,
  ⟨⟨none, .mov 1 (.t 8)⟩, 0, []⟩]

abbrev i_laws_szLockS_r2 : List RO := [
  ⟨⟨none, .mov 9 (.t 1)⟩, 0, []⟩,
  ⟨⟨none, .bin 10 .lss (.t 9) (.c (.one (.d (.int .i64 0))))⟩, 0, []⟩]

abbrev i_laws_szLockS_r3 : List RO := [
  ⟨⟨none, .mov 4 (.c (.one (.d (.int .i64 (-1)))))⟩, 0, []⟩]

abbrev i_laws_szLockS_r4 : List RO := [
  ⟨⟨none, .mov 11 (.t 1)⟩, 0, []⟩,
  ⟨⟨none, .mov 4 (.t 11)⟩, 0, []⟩]

def i_laws_szLockS : IC := (.seq (.reg i_laws_szLockS_r0)
  (.seq (.reg i_laws_szLockS_r1)
  (.seq (.seq (.reg i_laws_szLockS_r2)
  (.cond (.t 10) (.seq (.reg i_laws_szLockS_r3)
  .ret) .skip))
  (.seq (.reg i_laws_szLockS_r4)
  .ret))))

theorem i_laws_szLockS_ok : (Try.f30.body.bind fun c => toIC Try.prog 12 c []) = some (i_laws_szLockS, []) := by kernel_rfl

theorem i_laws_szLockS_fn {ds rs : List D} (hle : ds.length ≤ 12) (h : AW Try.prog 12 i_laws_szLockS (Ends [.tmp 4] rs) (init ds)) : Fn Try.prog k_laws_szLockS (lent ds) true rs :=
  Fn.intro' (by kernel_rfl) Try.func30 (by kernel_rfl) i_laws_szLockS_ok (by kernel_rfl) hle h.h

abbrev i_laws_toLock_r0 : List RO := [
  ⟨⟨none, .box 1 (.t 0)⟩, 0, []⟩,
  ⟨⟨none, .var 2 [(.d (.int .i64 0)), (.d (.int .i64 0)), (.d (.int .i64 0)), (.d (.int .i64 0))]⟩, 0, []⟩]

abbrev i_laws_toLock_r1 : List RO := [
  ⟨⟨none, .var 3 [(.d (.int .i64 0)), (.d (.int .i64 0)), (.d (.int .i64 0)), (.d (.int .i64 0))]⟩, 0, []⟩]

abbrev i_laws_toLock_r2 : List RO := [
  ⟨⟨none, .faddr 4 0 (.t 1)⟩, 0, []⟩,
  ⟨⟨none, .load 5 none (.t 4)⟩, 0, []⟩,
  ⟨⟨none, .faddr 6 0 (.t 3)⟩, 0, []⟩,
  ⟨⟨none, .store 1 (.t 6) (.t 5)⟩, 0, []⟩]

abbrev i_laws_toLock_r3 : List RO := [
  ⟨⟨none, .faddr 7 1 (.t 1)⟩, 0, []⟩,
  ⟨⟨none, .load 8 none (.t 7)⟩, 0, []⟩,
  ⟨⟨none, .faddr 9 1 (.t 3)⟩, 0, []⟩,
  ⟨⟨none, .store 1 (.t 9) (.t 8)⟩, 0, []⟩]

abbrev i_laws_toLock_r4 : List RO := [
  ⟨⟨none, .faddr 10 2 (.t 1)⟩, 0, []⟩,
  ⟨⟨none, .load 11 none (.t 10)⟩, 0, []⟩,
  ⟨⟨none, .faddr 12 2 (.t 3)⟩, 0, []⟩,
  ⟨⟨none, .store 1 (.t 12) (.t 11)⟩, 0, []⟩]

abbrev i_laws_toLock_r5 : List RO := [
  ⟨⟨none, .faddr 13 3 (.t 1)⟩, 0, []⟩,
  ⟨⟨none, .load 14 none (.t 13)⟩, 0, []⟩,
  ⟨⟨none, .faddr 15 3 (.t 3)⟩, 0, []⟩,
  ⟨⟨none, .store 1 (.t 15) (.t 14)⟩, 0, []⟩]

abbrev i_laws_toLock_r6 : List RO := [
  ⟨⟨none, .load 16 (some 4) (.t 3)⟩, 0, []⟩,
  ⟨⟨none, .store 4 (.t 2) (.t 16)⟩, 0, []⟩]

def i_laws_toLock : IC := (.seq (.reg i_laws_toLock_r0)
  (.seq (.reg i_laws_toLock_r1)
  (.seq (.reg i_laws_toLock_r2)
  (.seq (.reg i_laws_toLock_r3)
  (.seq (.reg i_laws_toLock_r4)
  (.seq (.reg i_laws_toLock_r5)
  (.seq (.reg i_laws_toLock_r6)
  .ret)))))))

theorem i_laws_toLock_ok : (Try.f80.body.bind fun c => toIC Try.prog 17 c []) = some (i_laws_toLock, []) := by kernel_rfl

theorem i_laws_toLock_fn {ds rs : List D} (hle : ds.length ≤ 17) (h : AW Try.prog 17 i_laws_toLock (Ends [.cell 2 (some 4)] rs) (init ds)) : Fn Try.prog k_laws_toLock (lent ds) true rs :=
  Fn.intro' (by kernel_rfl) Try.func80 (by kernel_rfl) i_laws_toLock_ok (by kernel_rfl) hle h.h

abbrev i_laws_toLockS_r0 : List RO := [
  ⟨⟨none, .mov 2 (.c (.one .zs))⟩, 0, []⟩]

abbrev i_laws_toLockS_r1 : List RO := [
  ⟨⟨none, .mov 5 (.t 0)⟩, 0, []⟩,
  ⟨⟨none, .len 6 false (.t 5)⟩, 0, []⟩,
  ⟨⟨none, .mksl 7 4 32 [(.int .i64 0), (.int .i64 0), (.int .i64 0), (.int .i64 0)] (.t 6) (.t 6)⟩, 0, []⟩,
  ⟨⟨none, .mov 3 (.t 7)⟩, 0, []⟩]

abbrev i_laws_toLockS_r2 : List RO := [
  ⟨⟨none, .mov 4 (.c (.one (.d (.int .i64 0))))⟩, 0, []⟩]

abbrev i_laws_toLockS_r3 : List RO := [
  ⟨⟨none, .mov 8 (.t 4)⟩, 0, []⟩,
  ⟨⟨none, .mov 9 (.t 0)⟩, 0, []⟩,
  ⟨⟨none, .len 10 false (.t 9)⟩, 0, []⟩,
  ⟨⟨none, .bin 11 .lss (.t 8) (.t 10)⟩, 0, []⟩]

abbrev i_laws_toLockS_r4 : List RO := [
  ⟨⟨none, .mov 14 (.t 3)⟩, 0, []⟩,
  ⟨⟨none, .mov 15 (.t 4)⟩, 0, []⟩,
  ⟨⟨none, .mov 16 (.t 0)⟩, 0, []⟩,
  ⟨⟨none, .mov 17 (.t 4)⟩, 0, []⟩,
  ⟨⟨none, .iaddr 18 4 (.t 16) (.t 17)⟩, 0, []⟩,
  ⟨⟨none, .load 19 (some 4) (.t 18)⟩, 0, []⟩,
  ⟨⟨none, .callv 20 (.c (.one (.fn k_laws_toLock []))) [(.t 19)]⟩, 0, []⟩,
  ⟨⟨none, .iaddr 21 4 (.t 14) (.t 15)⟩, 0, []⟩,
  ⟨⟨none, .store 4 (.t 21) (.t 20)⟩, 0, []⟩]

abbrev i_laws_toLockS_r5 : List RO := [
  ⟨⟨none, .mov 12 (.t 4)⟩, 0, []⟩,
  ⟨⟨none, .bin 13 .add (.t 12) (.c (.one (.d (.int .i64 1))))⟩, 0, []⟩,
  ⟨⟨none, .mov 4 (.t 13)⟩, 0, []⟩]

abbrev i_laws_toLockS_r6 : List RO := [
  ⟨⟨none, .mov 22 (.t 3)⟩, 0, []⟩,
  ⟨⟨none, .mov 2 (.t 22)⟩, 0, []⟩]

def i_laws_toLockS : IC := (.seq (.reg i_laws_toLockS_r0)
  (.seq (.reg i_laws_toLockS_r1)
  (.seq (.seq (.reg i_laws_toLockS_r2)
  (.block 0 (.loop (.seq (.seq (.reg i_laws_toLockS_r3)
  (.cond (.t 11) .skip (.exit 0)))
  (.seq (.block 1 (.reg i_laws_toLockS_r4))
  (.reg i_laws_toLockS_r5))))))
  (.seq (.reg i_laws_toLockS_r6)
  .ret))))

theorem i_laws_toLockS_ok : (Try.f32.body.bind fun c => toIC Try.prog 23 c []) = some (i_laws_toLockS, []) := by kernel_rfl

theorem i_laws_toLockS_fn {ds rs : List D} (hle : ds.length ≤ 23) (h : AW Try.prog 23 i_laws_toLockS (Ends [.tmp 2] rs) (init ds)) : Fn Try.prog k_laws_toLockS (lent ds) true rs :=
  Fn.intro' (by kernel_rfl) Try.func32 (by kernel_rfl) i_laws_toLockS_ok (by kernel_rfl) hle h.h

abbrev i_laws_toRange_r0 : List RO := [
  ⟨⟨none, .box 1 (.t 0)⟩, 0, []⟩,
  ⟨⟨none, .var 2 [(.d (.int .i64 0)), (.d (.int .i64 0))]⟩, 0, []⟩]

abbrev i_laws_toRange_r1 : List RO := [
  ⟨⟨none, .var 3 [(.d (.int .i64 0)), (.d (.int .i64 0))]⟩, 0, []⟩]

abbrev i_laws_toRange_r2 : List RO := [
  ⟨⟨none, .faddr 4 0 (.t 1)⟩, 0, []⟩,
  ⟨⟨none, .load 5 none (.t 4)⟩, 0, []⟩,
  ⟨⟨none, .faddr 6 0 (.t 3)⟩, 0, []⟩,
  ⟨⟨none, .store 1 (.t 6) (.t 5)⟩, 0, []⟩]

abbrev i_laws_toRange_r3 : List RO := [
  ⟨⟨none, .faddr 7 1 (.t 1)⟩, 0, []⟩,
  ⟨⟨none, .load 8 none (.t 7)⟩, 0, []⟩,
  ⟨⟨none, .faddr 9 1 (.t 3)⟩, 0, []⟩,
  ⟨⟨none, .store 1 (.t 9) (.t 8)⟩, 0, []⟩]

abbrev i_laws_toRange_r4 : List RO := [
  ⟨⟨none, .load 10 (some 2) (.t 3)⟩, 0, []⟩,
  ⟨⟨none, .store 2 (.t 2) (.t 10)⟩, 0, []⟩]

def i_laws_toRange : IC := (.seq (.reg i_laws_toRange_r0)
  (.seq (.reg i_laws_toRange_r1)
  (.seq (.reg i_laws_toRange_r2)
  (.seq (.reg i_laws_toRange_r3)
  (.seq (.reg i_laws_toRange_r4)
  .ret)))))

theorem i_laws_toRange_ok : (Try.f36.body.bind fun c => toIC Try.prog 11 c []) = some (i_laws_toRange, []) := by kernel_rfl

theorem i_laws_toRange_fn {ds rs : List D} (hle : ds.length ≤ 11) (h : AW Try.prog 11 i_laws_toRange (Ends [.cell 2 (some 2)] rs) (init ds)) : Fn Try.prog k_laws_toRange (lent ds) true rs :=
  Fn.intro' (by kernel_rfl) Try.func36 (by kernel_rfl) i_laws_toRange_ok (by kernel_rfl) hle h.h

abbrev i_spec_l1In_r0 : List RO := [
  ⟨⟨none, .mov 6 (.c (.one (.d (.bool false))))⟩, 0, []⟩]

abbrev i_spec_l1In_r1 : List RO := [
  ⟨⟨none, .mov 7 (.t 0)⟩, 0, []⟩,
  ⟨⟨none, .mov 8 (.t 1)⟩, 0, []⟩,
  ⟨⟨none, .bin 9 .geq (.t 7) (.t 8)⟩, 0, []⟩,
  ⟨⟨none, .mov 10 (.t 9)⟩, 0, []⟩,
  ⟨⟨some (10, true), .mov 11 (.t 0)⟩, 0, []⟩,
  ⟨⟨some (10, true), .mov 12 (.t 2)⟩, 0, []⟩,
  ⟨⟨some (10, true), .bin 13 .leq (.t 11) (.t 12)⟩, 0, []⟩,
  ⟨⟨none, .pick 14 (.t 10) (.t 13) (.c (.one (.d (.bool false))))⟩, 0, []⟩,
  ⟨⟨none, .mov 6 (.t 14)⟩, 0, []⟩]

def i_spec_l1In : IC := (.seq (.reg i_spec_l1In_r0)
  (.seq (.reg i_spec_l1In_r1)
  .ret))

theorem i_spec_l1In_ok : (Try.f64.body.bind fun c => toIC Try.prog 15 c []) = some (i_spec_l1In, []) := by kernel_rfl

theorem i_spec_l1In_fn {ds rs : List D} (hle : ds.length ≤ 15) (h : AW Try.prog 15 i_spec_l1In (Ends [.tmp 6] rs) (init ds)) : Fn Try.prog k_spec_l1In (lent ds) true rs :=
  Fn.intro' (by kernel_rfl) Try.func64 (by kernel_rfl) i_spec_l1In_ok (by kernel_rfl) hle h.h

abbrev i_spec_l12Tx_r0 : List RO := [
  ⟨⟨none, .mov 2 (.c (.one (.d (.bool false))))⟩, 0, []⟩]

abbrev i_spec_l12Tx_r1 : List RO := [
  ⟨⟨none, .mov 3 (.t 0)⟩, 0, []⟩,
  ⟨⟨none, .callv 4 (.c (.one (.fn k_spec_l1In []))) [(.t 3), (.c (.one (.d (.int .i64 1)))), (.c (.one (.d (.int .i64 60))))]⟩, 0, []⟩,
  ⟨⟨none, .mov 2 (.t 4)⟩, 0, []⟩]

def i_spec_l12Tx : IC := (.seq (.reg i_spec_l12Tx_r0)
  (.seq (.reg i_spec_l12Tx_r1)
  .ret))

theorem i_spec_l12Tx_ok : (Try.f66.body.bind fun c => toIC Try.prog 5 c []) = some (i_spec_l12Tx, []) := by kernel_rfl

theorem i_spec_l12Tx_fn {ds rs : List D} (hle : ds.length ≤ 5) (h : AW Try.prog 5 i_spec_l12Tx (Ends [.tmp 2] rs) (init ds)) : Fn Try.prog k_spec_l12Tx (lent ds) true rs :=
  Fn.intro' (by kernel_rfl) Try.func66 (by kernel_rfl) i_spec_l12Tx_ok (by kernel_rfl) hle h.h

abbrev i_spec_l12Range_r0 : List RO := [
  ⟨⟨none, .box 1 (.t 0)⟩, 0, []⟩,
  ⟨⟨none, .var 2 [(.d (.int .i64 0)), (.d (.int .i64 0))]⟩, 0, []⟩]

abbrev i_spec_l12Range_r1 : List RO := [
  ⟨⟨none, .faddr 3 1 (.t 1)⟩, 0, []⟩,
  ⟨⟨none, .load 4 none (.t 3)⟩, 0, []⟩,
  ⟨⟨none, .faddr 5 2 (.t 1)⟩, 0, []⟩,
  ⟨⟨none, .load 6 none (.t 5)⟩, 0, []⟩,
  ⟨⟨none, .build 7 [(.d (.int .i64 0)), (.d (.int .i64 0))] [(0, 1, (.t 4)), (1, 1, (.t 6))]⟩, 0, []⟩,
  ⟨⟨none, .store 2 (.t 2) (.t 7)⟩, 0, []⟩]

def i_spec_l12Range : IC := (.seq (.reg i_spec_l12Range_r0)
  (.seq (.reg i_spec_l12Range_r1)
  .ret))

theorem i_spec_l12Range_ok : (Try.f77.body.bind fun c => toIC Try.prog 8 c []) = some (i_spec_l12Range, []) := by kernel_rfl

theorem i_spec_l12Range_fn {ds rs : List D} (hle : ds.length ≤ 8) (h : AW Try.prog 8 i_spec_l12Range (Ends [.cell 2 (some 2)] rs) (init ds)) : Fn Try.prog k_spec_l12Range (lent ds) true rs :=
  Fn.intro' (by kernel_rfl) Try.func77 (by kernel_rfl) i_spec_l12Range_ok (by kernel_rfl) hle h.h

abbrev i_spec_RangeOk_r0 : List RO := [
  ⟨⟨none, .box 1 (.t 0)⟩, 0, []⟩,
  ⟨⟨none, .mov 2 (.c (.one (.d (.bool false))))⟩, 0, []⟩]

abbrev i_spec_RangeOk_r1 : List RO := [
  ⟨⟨none, .faddr 3 0 (.t 1)⟩, 0, []⟩,
  ⟨⟨none, .load 4 none (.t 3)⟩, 0, []⟩,
  ⟨⟨none, .bin 5 .geq (.t 4) (.c (.one (.d (.int .i64 0))))⟩, 0, []⟩,
  ⟨⟨none, .mov 6 (.t 5)⟩, 0, []⟩,
  ⟨⟨some (6, true), .faddr 7 0 (.t 1)⟩, 0, []⟩,
  ⟨⟨some (6, true), .load 8 none (.t 7)⟩, 0, []⟩,
  ⟨⟨some (6, true), .faddr 9 1 (.t 1)⟩, 0, []⟩,
  ⟨⟨some (6, true), .load 10 none (.t 9)⟩, 0, []⟩,
  ⟨⟨some (6, true), .bin 11 .lss (.t 8) (.t 10)⟩, 0, []⟩,
  ⟨⟨none, .pick 12 (.t 6) (.t 11) (.c (.one (.d (.bool false))))⟩, 0, []⟩,
  ⟨⟨none, .mov 13 (.t 12)⟩, 0, []⟩,
  ⟨⟨some (13, true), .faddr 14 1 (.t 1)⟩, 0, []⟩,
  ⟨⟨some (13, true), .load 15 none (.t 14)⟩, 0, []⟩,
  ⟨⟨some (13, true), .bin 16 .leq (.t 15) (.c (.one (.d (.int .i64 1000))))⟩, 0, []⟩,
  ⟨⟨none, .pick 17 (.t 13) (.t 16) (.c (.one (.d (.bool false))))⟩, 0, []⟩,
  ⟨⟨none, .mov 2 (.t 17)⟩, 0, []⟩]

def i_spec_RangeOk : IC := (.seq (.reg i_spec_RangeOk_r0)
  (.seq (.reg i_spec_RangeOk_r1)
  .ret))

theorem i_spec_RangeOk_ok : (Try.f76.body.bind fun c => toIC Try.prog 18 c []) = some (i_spec_RangeOk, []) := by kernel_rfl

theorem i_spec_RangeOk_fn {ds rs : List D} (hle : ds.length ≤ 18) (h : AW Try.prog 18 i_spec_RangeOk (Ends [.tmp 2] rs) (init ds)) : Fn Try.prog k_spec_RangeOk (lent ds) true rs :=
  Fn.intro' (by kernel_rfl) Try.func76 (by kernel_rfl) i_spec_RangeOk_ok (by kernel_rfl) hle h.h

abbrev i_spec_l12Mode_r0 : List RO := [
  ⟨⟨none, .mov 2 (.c (.one (.d (.bool false))))⟩, 0, []⟩]

abbrev i_spec_l12Mode_r1 : List RO := [
  ⟨⟨none, .mov 3 (.t 0)⟩, 0, []⟩,
  ⟨⟨none, .bin 4 .eql (.t 3) (.c (.one (.d (.int .i64 1))))⟩, 0, []⟩,
  ⟨⟨none, .mov 5 (.t 4)⟩, 0, []⟩,
  ⟨⟨some (5, false), .mov 6 (.t 0)⟩, 0, []⟩,
  ⟨⟨some (5, false), .bin 7 .eql (.t 6) (.c (.one (.d (.int .i64 2))))⟩, 0, []⟩,
  ⟨⟨none, .pick 8 (.t 5) (.c (.one (.d (.bool true)))) (.t 7)⟩, 0, []⟩,
  ⟨⟨none, .mov 2 (.t 8)⟩, 0, []⟩]

def i_spec_l12Mode : IC := (.seq (.reg i_spec_l12Mode_r0)
  (.seq (.reg i_spec_l12Mode_r1)
  .ret))

theorem i_spec_l12Mode_ok : (Try.f78.body.bind fun c => toIC Try.prog 9 c []) = some (i_spec_l12Mode, []) := by kernel_rfl

theorem i_spec_l12Mode_fn {ds rs : List D} (hle : ds.length ≤ 9) (h : AW Try.prog 9 i_spec_l12Mode (Ends [.tmp 2] rs) (init ds)) : Fn Try.prog k_spec_l12Mode (lent ds) true rs :=
  Fn.intro' (by kernel_rfl) Try.func78 (by kernel_rfl) i_spec_l12Mode_ok (by kernel_rfl) hle h.h

abbrev i_spec_l1Max_r0 : List RO := [
  ⟨⟨none, .mov 4 (.c (.one (.d (.int .i64 0))))⟩, 0, []⟩]

abbrev i_spec_l1Max_r1 : List RO := [
  ⟨⟨none, .mov 5 (.t 0)⟩, 0, []⟩,
  ⟨⟨none, .mov 6 (.t 1)⟩, 0, []⟩,
  ⟨⟨none, .bin 7 .gtr (.t 5) (.t 6)⟩, 0, []⟩]

abbrev i_spec_l1Max_r2 : List RO := [
  ⟨⟨none, .mov 8 (.t 0)⟩, 0, []⟩,
  ⟨⟨none, .mov 4 (.t 8)⟩, 0, []⟩]

abbrev i_spec_l1Max_r3 : List RO := [
  ⟨⟨none, .mov 9 (.t 1)⟩, 0, []⟩,
  ⟨⟨none, .mov 4 (.t 9)⟩, 0, []⟩]

def i_spec_l1Max : IC := (.seq (.reg i_spec_l1Max_r0)
  (.seq (.seq (.reg i_spec_l1Max_r1)
  (.cond (.t 7) (.seq (.reg i_spec_l1Max_r2)
  .ret) .skip))
  (.seq (.reg i_spec_l1Max_r3)
  .ret)))

theorem i_spec_l1Max_ok : (Try.f114.body.bind fun c => toIC Try.prog 10 c []) = some (i_spec_l1Max, []) := by kernel_rfl

theorem i_spec_l1Max_fn {ds rs : List D} (hle : ds.length ≤ 10) (h : AW Try.prog 10 i_spec_l1Max (Ends [.tmp 4] rs) (init ds)) : Fn Try.prog k_spec_l1Max (lent ds) true rs :=
  Fn.intro' (by kernel_rfl) Try.func114 (by kernel_rfl) i_spec_l1Max_ok (by kernel_rfl) hle h.h

abbrev i_spec_l1Min_r0 : List RO := [
  ⟨⟨none, .mov 4 (.c (.one (.d (.int .i64 0))))⟩, 0, []⟩]

abbrev i_spec_l1Min_r1 : List RO := [
  ⟨⟨none, .mov 5 (.t 0)⟩, 0, []⟩,
  ⟨⟨none, .mov 6 (.t 1)⟩, 0, []⟩,
  ⟨⟨none, .bin 7 .lss (.t 5) (.t 6)⟩, 0, []⟩]

abbrev i_spec_l1Min_r2 : List RO := [
  ⟨⟨none, .mov 8 (.t 0)⟩, 0, []⟩,
  ⟨⟨none, .mov 4 (.t 8)⟩, 0, []⟩]

abbrev i_spec_l1Min_r3 : List RO := [
  ⟨⟨none, .mov 9 (.t 1)⟩, 0, []⟩,
  ⟨⟨none, .mov 4 (.t 9)⟩, 0, []⟩]

def i_spec_l1Min : IC := (.seq (.reg i_spec_l1Min_r0)
  (.seq (.seq (.reg i_spec_l1Min_r1)
  (.cond (.t 7) (.seq (.reg i_spec_l1Min_r2)
  .ret) .skip))
  (.seq (.reg i_spec_l1Min_r3)
  .ret)))

theorem i_spec_l1Min_ok : (Try.f73.body.bind fun c => toIC Try.prog 10 c []) = some (i_spec_l1Min, []) := by kernel_rfl

theorem i_spec_l1Min_fn {ds rs : List D} (hle : ds.length ≤ 10) (h : AW Try.prog 10 i_spec_l1Min (Ends [.tmp 4] rs) (init ds)) : Fn Try.prog k_spec_l1Min (lent ds) true rs :=
  Fn.intro' (by kernel_rfl) Try.func73 (by kernel_rfl) i_spec_l1Min_ok (by kernel_rfl) hle h.h

abbrev i_spec_RangeMeet_r0 : List RO := [
  ⟨⟨none, .box 2 (.t 0)⟩, 0, []⟩,
  ⟨⟨none, .box 3 (.t 1)⟩, 0, []⟩,
  ⟨⟨none, .var 4 [(.d (.int .i64 0)), (.d (.int .i64 0))]⟩, 0, []⟩,
  ⟨⟨none, .mov 5 (.c (.one (.d (.bool false))))⟩, 0, []⟩]

abbrev i_spec_RangeMeet_r1 : List RO := [
  ⟨⟨none, .faddr 7 0 (.t 2)⟩, 0, []⟩,
  ⟨⟨none, .load 8 none (.t 7)⟩, 1, [6]⟩,
  ⟨⟨none, .faddr 9 0 (.t 3)⟩, 0, []⟩,
  ⟨⟨none, .load 10 none (.t 9)⟩, 4, [6]⟩,
  ⟨⟨none, .callv 11 (.c (.one (.fn k_spec_l1Max []))) [(.t 8), (.t 10)]⟩, 15, [6]⟩,
  ⟨⟨none, .faddr 12 1 (.t 2)⟩, 0, []⟩,
  ⟨⟨none, .load 13 none (.t 12)⟩, 32, [11, 6]⟩,
  ⟨⟨none, .faddr 14 1 (.t 3)⟩, 0, []⟩,
  ⟨⟨none, .load 15 none (.t 14)⟩, 128, [11, 6]⟩,
  ⟨⟨none, .callv 16 (.c (.one (.fn k_spec_l1Min []))) [(.t 13), (.t 15)]⟩, 511, [6]⟩,
  ⟨⟨none, .build 17 [(.d (.int .i64 0)), (.d (.int .i64 0))] [(0, 1, (.t 11)), (1, 1, (.t 16))]⟩, 1023, []⟩,
  ⟨⟨none, .var 6 [(.d (.int .i64 0)), (.d (.int .i64 0))]⟩, 0, [11, 16]⟩,
  ⟨⟨none, .store 2 (.t 6) (.t 17)⟩, 4095, []⟩]

abbrev i_spec_RangeMeet_r2 : List RO := [
  ⟨⟨none, .load 18 (some 2) (.t 2)⟩, 0, []⟩,
  ⟨⟨none, .callv 19 (.c (.one (.fn k_spec_RangeOk []))) [(.t 18)]⟩, 0, []⟩,
  ⟨⟨none, .inv 20 (.t 19)⟩, 0, []⟩,
  ⟨⟨none, .mov 21 (.t 20)⟩, 0, []⟩,
  ⟨⟨some (21, false), .load 22 (some 2) (.t 3)⟩, 0, []⟩,
  ⟨⟨some (21, false), .callv 23 (.c (.one (.fn k_spec_RangeOk []))) [(.t 22)]⟩, 0, []⟩,
  ⟨⟨some (21, false), .inv 24 (.t 23)⟩, 0, []⟩,
  ⟨⟨none, .pick 25 (.t 21) (.c (.one (.d (.bool true)))) (.t 24)⟩, 0, []⟩,
  ⟨⟨none, .mov 26 (.t 25)⟩, 0, []⟩,
  ⟨⟨some (26, false), .load 27 (some 2) (.t 6)⟩, 0, []⟩,
  ⟨⟨some (26, false), .callv 28 (.c (.one (.fn k_spec_RangeOk []))) [(.t 27)]⟩, 0, []⟩,
  ⟨⟨some (26, false), .inv 29 (.t 28)⟩, 0, []⟩,
  ⟨⟨none, .pick 30 (.t 26) (.c (.one (.d (.bool true)))) (.t 29)⟩, 0, []⟩]

abbrev i_spec_RangeMeet_r3 : List RO := [
  ⟨⟨none, .build 31 [(.d (.int .i64 0)), (.d (.int .i64 0))] []⟩, 0, []⟩,
  ⟨⟨none, .store 2 (.t 4) (.t 31)⟩, 0, []⟩,
  ⟨⟨none, .mov 5 (.c (.one (.d (.bool false))))⟩, 0, []⟩]

abbrev i_spec_RangeMeet_r4 : List RO := [
  ⟨⟨none, .load 32 (some 2) (.t 6)⟩, 0, []⟩,
  ⟨⟨none, .store 2 (.t 4) (.t 32)⟩, 0, []⟩,
  ⟨⟨none, .mov 5 (.c (.one (.d (.bool true))))⟩, 0, []⟩]

def i_spec_RangeMeet : IC := (.seq (.reg i_spec_RangeMeet_r0)
  (.seq (.regd i_spec_RangeMeet_r1)
  (.seq (.seq (.reg i_spec_RangeMeet_r2)
  (.cond (.t 30) (.seq (.reg i_spec_RangeMeet_r3)
  .ret) .skip))
  (.seq (.reg i_spec_RangeMeet_r4)
  .ret))))

theorem i_spec_RangeMeet_ok : (Try.f104.body.bind fun c => toIC Try.prog 33 c [[(0, []), (1, [6]), (0, []), (4, [6]), (15, [6]), (0, []), (32, [11, 6]), (0, []), (128, [11, 6]), (511, [6]), (1023, []), (0, [11, 16]), (4095, [])]]) = some (i_spec_RangeMeet, []) := by kernel_rfl

theorem i_spec_RangeMeet_fn {ds rs : List D} (hle : ds.length ≤ 33) (h : AW Try.prog 33 i_spec_RangeMeet (Ends [.cell 4 (some 2), .tmp 5] rs) (init ds)) : Fn Try.prog k_spec_RangeMeet (lent ds) true rs :=
  Fn.intro' (by kernel_rfl) Try.func104 (by kernel_rfl) i_spec_RangeMeet_ok (by kernel_rfl) hle h.h

abbrev i_spec_l12Clash_r0 : List RO := [
  ⟨⟨none, .box 2 (.t 0)⟩, 0, []⟩,
  ⟨⟨none, .box 3 (.t 1)⟩, 0, []⟩,
  ⟨⟨none, .mov 4 (.c (.one (.d (.bool false))))⟩, 0, []⟩]

abbrev i_spec_l12Clash_r1 : List RO := [
  ⟨⟨none, .load 8 (some 4) (.t 2)⟩, 0, [5]⟩,
  ⟨⟨none, .callv 9 (.c (.one (.fn k_spec_l12Range []))) [(.t 8)]⟩, 1, [5]⟩,
  ⟨⟨none, .load 10 (some 4) (.t 3)⟩, 0, [9, 5]⟩,
  ⟨⟨none, .callv 11 (.c (.one (.fn k_spec_l12Range []))) [(.t 10)]⟩, 7, [5]⟩,
  ⟨⟨none, .callv 12 (.c (.one (.fn k_spec_RangeMeet []))) [(.t 9), (.t 11)]⟩, 15, [5]⟩,
  ⟨⟨none, .mov 7 (.t 12)⟩, 31, []⟩,
  ⟨⟨none, .ext 13 (.t 7) 0⟩, 63, []⟩,
  ⟨⟨none, .ext 14 (.t 7) 1⟩, 63, []⟩,
  ⟨⟨none, .var 5 [(.d (.int .i64 0)), (.d (.int .i64 0))]⟩, 0, [9, 11, 12]⟩,
  ⟨⟨none, .store 2 (.t 5) (.t 13)⟩, 383, []⟩,
  ⟨⟨none, .mov 6 (.t 14)⟩, 1023, []⟩]

abbrev i_spec_l12Clash_r2 : List RO := [
  ⟨⟨none, .mov 15 (.t 6)⟩, 0, []⟩,
  ⟨⟨none, .mov 16 (.t 15)⟩, 0, []⟩,
  ⟨⟨some (16, true), .faddr 17 0 (.t 2)⟩, 0, []⟩,
  ⟨⟨some (16, true), .load 18 none (.t 17)⟩, 0, []⟩,
  ⟨⟨some (16, true), .faddr 19 0 (.t 3)⟩, 0, []⟩,
  ⟨⟨some (16, true), .load 20 none (.t 19)⟩, 0, []⟩,
  ⟨⟨some (16, true), .bin 21 .neq (.t 18) (.t 20)⟩, 0, []⟩,
  ⟨⟨none, .pick 22 (.t 16) (.t 21) (.c (.one (.d (.bool false))))⟩, 0, []⟩,
  ⟨⟨none, .mov 23 (.t 22)⟩, 0, []⟩,
  ⟨⟨some (23, true), .faddr 24 3 (.t 2)⟩, 0, []⟩,
  ⟨⟨some (23, true), .load 25 none (.t 24)⟩, 0, []⟩,
  ⟨⟨some (23, true), .bin 26 .eql (.t 25) (.c (.one (.d (.int .i64 2))))⟩, 0, []⟩,
  ⟨⟨some (23, true), .mov 27 (.t 26)⟩, 0, []⟩,
  ⟨⟨some (27, false), .faddr 28 3 (.t 3)⟩, 0, []⟩,
  ⟨⟨some (27, false), .load 29 none (.t 28)⟩, 0, []⟩,
  ⟨⟨some (27, false), .bin 30 .eql (.t 29) (.c (.one (.d (.int .i64 2))))⟩, 0, []⟩,
  ⟨⟨some (23, true), .pick 31 (.t 27) (.c (.one (.d (.bool true)))) (.t 30)⟩, 0, []⟩,
  ⟨⟨none, .pick 32 (.t 23) (.t 31) (.c (.one (.d (.bool false))))⟩, 0, []⟩,
  ⟨⟨none, .mov 4 (.t 32)⟩, 0, []⟩]

def i_spec_l12Clash : IC := (.seq (.reg i_spec_l12Clash_r0)
  (.seq (.regd i_spec_l12Clash_r1)
  (.seq (.reg i_spec_l12Clash_r2)
  .ret)))

theorem i_spec_l12Clash_ok : (Try.f79.body.bind fun c => toIC Try.prog 33 c [[(0, [5]), (1, [5]), (0, [9, 5]), (7, [5]), (15, [5]), (31, []), (63, []), (63, []), (0, [9, 11, 12]), (383, []), (1023, [])]]) = some (i_spec_l12Clash, []) := by kernel_rfl

theorem i_spec_l12Clash_fn {ds rs : List D} (hle : ds.length ≤ 33) (h : AW Try.prog 33 i_spec_l12Clash (Ends [.tmp 4] rs) (init ds)) : Fn Try.prog k_spec_l12Clash (lent ds) true rs :=
  Fn.intro' (by kernel_rfl) Try.func79 (by kernel_rfl) i_spec_l12Clash_ok (by kernel_rfl) hle h.h

abbrev i_spec_LocksOk_r0 : List RO := [
  ⟨⟨none, .mov 2 (.c (.one (.d (.bool false))))⟩, 0, []⟩]

abbrev i_spec_LocksOk_r1 : List RO := [
  ⟨⟨none, .mov 5 (.t 0)⟩, 0, []⟩,
  ⟨⟨none, .len 6 false (.t 5)⟩, 0, []⟩,
  ⟨⟨none, .bin 7 .gtr (.t 6) (.c (.one (.d (.int .i64 40))))⟩, 0, []⟩]

abbrev i_spec_LocksOk_r2 : List RO := [
  ⟨⟨none, .mov 2 (.c (.one (.d (.bool false))))⟩, 0, []⟩]

abbrev i_spec_LocksOk_r3 : List RO := [
  ⟨⟨none, .mov 3 (.c (.one (.d (.int .i64 0))))⟩, 0, []⟩]

abbrev i_spec_LocksOk_r4 : List RO := [
  ⟨⟨none, .mov 8 (.t 3)⟩, 0, []⟩,
  ⟨⟨none, .mov 9 (.t 0)⟩, 0, []⟩,
  ⟨⟨none, .len 10 false (.t 9)⟩, 0, []⟩,
  ⟨⟨none, .bin 11 .lss (.t 8) (.t 10)⟩, 0, []⟩]

abbrev i_spec_LocksOk_r5 : List RO := [
  ⟨⟨none, .mov 14 (.t 0)⟩, 0, []⟩,
  ⟨⟨none, .mov 15 (.t 3)⟩, 0, []⟩,
  ⟨⟨none, .iaddr 16 4 (.t 14) (.t 15)⟩, 0, []⟩,
  ⟨⟨none, .faddr 17 0 (.t 16)⟩, 0, []⟩,
  ⟨⟨none, .load 18 none (.t 17)⟩, 0, []⟩,
  ⟨⟨none, .callv 19 (.c (.one (.fn k_spec_l12Tx []))) [(.t 18)]⟩, 0, []⟩,
  ⟨⟨none, .inv 20 (.t 19)⟩, 0, []⟩,
  ⟨⟨none, .mov 21 (.t 20)⟩, 0, []⟩,
  ⟨⟨some (21, false), .mov 22 (.t 0)⟩, 0, []⟩,
  ⟨⟨some (21, false), .mov 23 (.t 3)⟩, 0, []⟩,
  ⟨⟨some (21, false), .iaddr 24 4 (.t 22) (.t 23)⟩, 0, []⟩,
  ⟨⟨some (21, false), .load 25 (some 4) (.t 24)⟩, 0, []⟩,
  ⟨⟨some (21, false), .callv 26 (.c (.one (.fn k_spec_l12Range []))) [(.t 25)]⟩, 0, []⟩,
  ⟨⟨some (21, false), .callv 27 (.c (.one (.fn k_spec_RangeOk []))) [(.t 26)]⟩, 0, []⟩,
  ⟨⟨some (21, false), .inv 28 (.t 27)⟩, 0, []⟩,
  ⟨⟨none, .pick 29 (.t 21) (.c (.one (.d (.bool true)))) (.t 28)⟩, 0, []⟩,
  ⟨⟨none, .mov 30 (.t 29)⟩, 0, []⟩,
  ⟨⟨some (30, false), .mov 31 (.t 0)⟩, 0, []⟩,
  ⟨⟨some (30, false), .mov 32 (.t 3)⟩, 0, []⟩,
  ⟨⟨some (30, false), .iaddr 33 4 (.t 31) (.t 32)⟩, 0, []⟩,
  ⟨⟨some (30, false), .faddr 34 3 (.t 33)⟩, 0, []⟩,
  ⟨⟨some (30, false), .load 35 none (.t 34)⟩, 0, []⟩,
  ⟨⟨some (30, false), .callv 36 (.c (.one (.fn k_spec_l12Mode []))) [(.t 35)]⟩, 0, []⟩,
  ⟨⟨some (30, false), .inv 37 (.t 36)⟩, 0, []⟩,
  ⟨⟨none, .pick 38 (.t 30) (.c (.one (.d (.bool true)))) (.t 37)⟩, 0, []⟩]

abbrev i_spec_LocksOk_r6 : List RO := [
  ⟨⟨none, .mov 2 (.c (.one (.d (.bool false))))⟩, 0, []⟩]

abbrev i_spec_LocksOk_r7 : List RO := [
  ⟨⟨none, .mov 4 (.c (.one (.d (.int .i64 0))))⟩, 0, []⟩]

abbrev i_spec_LocksOk_r8 : List RO := [
  ⟨⟨none, .mov 39 (.t 4)⟩, 0, []⟩,
  ⟨⟨none, .mov 40 (.t 3)⟩, 0, []⟩,
  ⟨⟨none, .bin 41 .lss (.t 39) (.t 40)⟩, 0, []⟩]

abbrev i_spec_LocksOk_r9 : List RO := [
  ⟨⟨none, .mov 44 (.t 0)⟩, 0, []⟩,
  ⟨⟨none, .mov 45 (.t 3)⟩, 0, []⟩,
  ⟨⟨none, .iaddr 46 4 (.t 44) (.t 45)⟩, 3, []⟩,
  ⟨⟨none, .load 47 (some 4) (.t 46)⟩, 7, []⟩,
  ⟨⟨none, .mov 48 (.t 0)⟩, 0, []⟩,
  ⟨⟨none, .mov 49 (.t 4)⟩, 0, []⟩,
  ⟨⟨none, .iaddr 50 4 (.t 48) (.t 49)⟩, 48, []⟩,
  ⟨⟨none, .load 51 (some 4) (.t 50)⟩, 112, []⟩,
  ⟨⟨none, .callv 52 (.c (.one (.fn k_spec_l12Clash []))) [(.t 47), (.t 51)]⟩, 255, []⟩]

abbrev i_spec_LocksOk_r10 : List RO := [
  ⟨⟨none, .mov 2 (.c (.one (.d (.bool false))))⟩, 0, []⟩]

abbrev i_spec_LocksOk_r11 : List RO := [
  ⟨⟨none, .mov 42 (.t 4)⟩, 0, []⟩,
  ⟨⟨none, .bin 43 .add (.t 42) (.c (.one (.d (.int .i64 1))))⟩, 0, []⟩,
  ⟨⟨none, .mov 4 (.t 43)⟩, 0, []⟩]

abbrev i_spec_LocksOk_r12 : List RO := [
  ⟨⟨none, .mov 12 (.t 3)⟩, 0, []⟩,
  ⟨⟨none, .bin 13 .add (.t 12) (.c (.one (.d (.int .i64 1))))⟩, 0, []⟩,
  ⟨⟨none, .mov 3 (.t 13)⟩, 0, []⟩]

abbrev i_spec_LocksOk_r13 : List RO := [
  ⟨⟨none, .mov 2 (.c (.one (.d (.bool true))))⟩, 0, []⟩]

def i_spec_LocksOk : IC := (.seq (.reg i_spec_LocksOk_r0)
  (.seq (.seq (.reg i_spec_LocksOk_r1)
  (.cond (.t 7) (.seq (.reg i_spec_LocksOk_r2)
  .ret) .skip))
  (.seq (.seq (.reg i_spec_LocksOk_r3)
  (.block 0 (.loop (.seq (.seq (.reg i_spec_LocksOk_r4)
  (.cond (.t 11) .skip (.exit 0)))
  (.seq (.block 1 (.seq (.seq (.reg i_spec_LocksOk_r5)
  (.cond (.t 38) (.seq (.reg i_spec_LocksOk_r6)
  .ret) .skip))
  (.seq (.reg i_spec_LocksOk_r7)
  (.block 2 (.loop (.seq (.seq (.reg i_spec_LocksOk_r8)
  (.cond (.t 41) .skip (.exit 2)))
  (.seq (.block 3 (.seq (.regd i_spec_LocksOk_r9)
  (.cond (.t 52) (.seq (.reg i_spec_LocksOk_r10)
  .ret) .skip)))
  (.reg i_spec_LocksOk_r11))))))))
  (.reg i_spec_LocksOk_r12))))))
  (.seq (.reg i_spec_LocksOk_r13)
  .ret))))

theorem i_spec_LocksOk_ok : (Try.f31.body.bind fun c => toIC Try.prog 53 c [[(0, []), (0, []), (3, []), (7, []), (0, []), (0, []), (48, []), (112, []), (255, [])]]) = some (i_spec_LocksOk, []) := by kernel_rfl

theorem i_spec_LocksOk_fn {ds rs : List D} (hle : ds.length ≤ 53) (h : AW Try.prog 53 i_spec_LocksOk (Ends [.tmp 2] rs) (init ds)) : Fn Try.prog k_spec_LocksOk (lent ds) true rs :=
  Fn.intro' (by kernel_rfl) Try.func31 (by kernel_rfl) i_spec_LocksOk_ok (by kernel_rfl) hle h.h

abbrev i_spec_RangeIn_r0 : List RO := [
  ⟨⟨none, .box 2 (.t 0)⟩, 0, []⟩,
  ⟨⟨none, .box 3 (.t 1)⟩, 0, []⟩,
  ⟨⟨none, .mov 4 (.c (.one (.d (.bool false))))⟩, 0, []⟩]

abbrev i_spec_RangeIn_r1 : List RO := [
  ⟨⟨none, .load 5 (some 2) (.t 2)⟩, 0, []⟩,
  ⟨⟨none, .callv 6 (.c (.one (.fn k_spec_RangeOk []))) [(.t 5)]⟩, 0, []⟩,
  ⟨⟨none, .mov 7 (.t 6)⟩, 0, []⟩,
  ⟨⟨some (7, true), .load 8 (some 2) (.t 3)⟩, 0, []⟩,
  ⟨⟨some (7, true), .callv 9 (.c (.one (.fn k_spec_RangeOk []))) [(.t 8)]⟩, 0, []⟩,
  ⟨⟨none, .pick 10 (.t 7) (.t 9) (.c (.one (.d (.bool false))))⟩, 0, []⟩,
  ⟨⟨none, .mov 11 (.t 10)⟩, 0, []⟩,
  ⟨⟨some (11, true), .faddr 12 0 (.t 2)⟩, 0, []⟩,
  ⟨⟨some (11, true), .load 13 none (.t 12)⟩, 0, []⟩,
  ⟨⟨some (11, true), .faddr 14 0 (.t 3)⟩, 0, []⟩,
  ⟨⟨some (11, true), .load 15 none (.t 14)⟩, 0, []⟩,
  ⟨⟨some (11, true), .bin 16 .geq (.t 13) (.t 15)⟩, 0, []⟩,
  ⟨⟨none, .pick 17 (.t 11) (.t 16) (.c (.one (.d (.bool false))))⟩, 0, []⟩,
  ⟨⟨none, .mov 18 (.t 17)⟩, 0, []⟩,
  ⟨⟨some (18, true), .faddr 19 1 (.t 2)⟩, 0, []⟩,
  ⟨⟨some (18, true), .load 20 none (.t 19)⟩, 0, []⟩,
  ⟨⟨some (18, true), .faddr 21 1 (.t 3)⟩, 0, []⟩,
  ⟨⟨some (18, true), .load 22 none (.t 21)⟩, 0, []⟩,
  ⟨⟨some (18, true), .bin 23 .leq (.t 20) (.t 22)⟩, 0, []⟩,
  ⟨⟨none, .pick 24 (.t 18) (.t 23) (.c (.one (.d (.bool false))))⟩, 0, []⟩,
  ⟨⟨none, .mov 4 (.t 24)⟩, 0, []⟩]

def i_spec_RangeIn : IC := (.seq (.reg i_spec_RangeIn_r0)
  (.seq (.reg i_spec_RangeIn_r1)
  .ret))

theorem i_spec_RangeIn_ok : (Try.f110.body.bind fun c => toIC Try.prog 25 c []) = some (i_spec_RangeIn, []) := by kernel_rfl

theorem i_spec_RangeIn_fn {ds rs : List D} (hle : ds.length ≤ 25) (h : AW Try.prog 25 i_spec_RangeIn (Ends [.tmp 4] rs) (init ds)) : Fn Try.prog k_spec_RangeIn (lent ds) true rs :=
  Fn.intro' (by kernel_rfl) Try.func110 (by kernel_rfl) i_spec_RangeIn_ok (by kernel_rfl) hle h.h

abbrev i_spec_l12Holds_r0 : List RO := [
  ⟨⟨none, .box 6 (.t 2)⟩, 0, []⟩,
  ⟨⟨none, .mov 8 (.c (.one (.d (.bool false))))⟩, 0, []⟩]

abbrev i_spec_l12Holds_r1 : List RO := [
  ⟨⟨none, .mov 9 (.c (.one (.d (.int .i64 0))))⟩, 0, []⟩]

abbrev i_spec_l12Holds_r2 : List RO := [
  ⟨⟨none, .mov 10 (.t 9)⟩, 0, []⟩,
  ⟨⟨none, .mov 11 (.t 0)⟩, 0, []⟩,
  ⟨⟨none, .len 12 false (.t 11)⟩, 0, []⟩,
  ⟨⟨none, .bin 13 .lss (.t 10) (.t 12)⟩, 0, []⟩]

abbrev i_spec_l12Holds_r3 : List RO := [
  ⟨⟨none, .mov 16 (.t 0)⟩, 0, []⟩,
  ⟨⟨none, .mov 17 (.t 9)⟩, 0, []⟩,
  ⟨⟨none, .iaddr 18 4 (.t 16) (.t 17)⟩, 3, []⟩,
  ⟨⟨none, .faddr 19 0 (.t 18)⟩, 7, []⟩,
  ⟨⟨none, .load 20 none (.t 19)⟩, 15, []⟩,
  ⟨⟨none, .mov 21 (.t 1)⟩, 0, []⟩,
  ⟨⟨none, .bin 22 .eql (.t 20) (.t 21)⟩, 63, []⟩,
  ⟨⟨none, .mov 23 (.t 22)⟩, 127, []⟩,
  ⟨⟨some (23, true), .load 24 (some 2) (.t 6)⟩, 255, [29]⟩,
  ⟨⟨some (23, true), .mov 25 (.t 0)⟩, 255, []⟩,
  ⟨⟨some (23, true), .mov 26 (.t 9)⟩, 255, []⟩,
  ⟨⟨some (23, true), .iaddr 27 4 (.t 25) (.t 26)⟩, 1791, []⟩,
  ⟨⟨some (23, true), .load 28 (some 4) (.t 27)⟩, 3839, []⟩,
  ⟨⟨some (23, true), .callv 29 (.c (.one (.fn k_spec_l12Range []))) [(.t 28)]⟩, 7935, []⟩,
  ⟨⟨some (23, true), .callv 30 (.c (.one (.fn k_spec_RangeIn []))) [(.t 24), (.t 29)]⟩, 16383, []⟩,
  ⟨⟨none, .pick 31 (.t 23) (.t 30) (.c (.one (.d (.bool false))))⟩, 32767, []⟩,
  ⟨⟨none, .mov 32 (.t 31)⟩, 65535, []⟩,
  ⟨⟨some (32, true), .mov 33 (.t 0)⟩, 131071, []⟩,
  ⟨⟨some (32, true), .mov 34 (.t 9)⟩, 131071, []⟩,
  ⟨⟨some (32, true), .iaddr 35 4 (.t 33) (.t 34)⟩, 524287, []⟩,
  ⟨⟨some (32, true), .faddr 36 3 (.t 35)⟩, 1048575, []⟩,
  ⟨⟨some (32, true), .load 37 none (.t 36)⟩, 2097151, []⟩,
  ⟨⟨some (32, true), .mov 38 (.t 3)⟩, 131071, []⟩,
  ⟨⟨some (32, true), .bin 39 .geq (.t 37) (.t 38)⟩, 8388607, []⟩,
  ⟨⟨none, .pick 40 (.t 32) (.t 39) (.c (.one (.d (.bool false))))⟩, 16777215, []⟩]

abbrev i_spec_l12Holds_r4 : List RO := [
  ⟨⟨none, .mov 8 (.c (.one (.d (.bool true))))⟩, 0, []⟩]

abbrev i_spec_l12Holds_r5 : List RO := [
  ⟨⟨none, .mov 14 (.t 9)⟩, 0, []⟩,
  ⟨⟨none, .bin 15 .add (.t 14) (.c (.one (.d (.int .i64 1))))⟩, 0, []⟩,
  ⟨⟨none, .mov 9 (.t 15)⟩, 0, []⟩]

abbrev i_spec_l12Holds_r6 : List RO := [
  ⟨⟨none, .mov 8 (.c (.one (.d (.bool false))))⟩, 0, []⟩]

def i_spec_l12Holds : IC := (.seq (.reg i_spec_l12Holds_r0)
  (.seq (.seq (.reg i_spec_l12Holds_r1)
  (.block 0 (.loop (.seq (.seq (.reg i_spec_l12Holds_r2)
  (.cond (.t 13) .skip (.exit 0)))
  (.seq (.block 1 (.seq (.regd i_spec_l12Holds_r3)
  (.cond (.t 40) (.seq (.reg i_spec_l12Holds_r4)
  .ret) .skip)))
  (.reg i_spec_l12Holds_r5))))))
  (.seq (.reg i_spec_l12Holds_r6)
  .ret)))

theorem i_spec_l12Holds_ok : (Try.f89.body.bind fun c => toIC Try.prog 41 c [[(0, []), (0, []), (3, []), (7, []), (15, []), (0, []), (63, []), (127, []), (255, [29]), (255, []), (255, []), (1791, []), (3839, []), (7935, []), (16383, []), (32767, []), (65535, []), (131071, []), (131071, []), (524287, []), (1048575, []), (2097151, []), (131071, []), (8388607, []), (16777215, [])]]) = some (i_spec_l12Holds, []) := by kernel_rfl

theorem i_spec_l12Holds_fn {ds rs : List D} (hle : ds.length ≤ 41) (h : AW Try.prog 41 i_spec_l12Holds (Ends [.tmp 8] rs) (init ds)) : Fn Try.prog k_spec_l12Holds (lent ds) true rs :=
  Fn.intro' (by kernel_rfl) Try.func89 (by kernel_rfl) i_spec_l12Holds_ok (by kernel_rfl) hle h.h

abbrev i_spec_LocksHold_r0 : List RO := [
  ⟨⟨none, .box 6 (.t 2)⟩, 0, []⟩,
  ⟨⟨none, .mov 8 (.c (.one (.d (.bool false))))⟩, 0, []⟩]

abbrev i_spec_LocksHold_r1 : List RO := [
  ⟨⟨none, .mov 9 (.t 0)⟩, 0, []⟩,
  ⟨⟨none, .callv 10 (.c (.one (.fn k_spec_LocksOk []))) [(.t 9)]⟩, 0, []⟩,
  ⟨⟨none, .mov 11 (.t 10)⟩, 0, []⟩,
  ⟨⟨some (11, true), .load 12 (some 2) (.t 6)⟩, 0, []⟩,
  ⟨⟨some (11, true), .callv 13 (.c (.one (.fn k_spec_RangeOk []))) [(.t 12)]⟩, 0, []⟩,
  ⟨⟨none, .pick 14 (.t 11) (.t 13) (.c (.one (.d (.bool false))))⟩, 0, []⟩,
  ⟨⟨none, .mov 15 (.t 14)⟩, 0, []⟩,
  ⟨⟨some (15, true), .mov 16 (.t 3)⟩, 0, []⟩,
  ⟨⟨some (15, true), .callv 17 (.c (.one (.fn k_spec_l12Mode []))) [(.t 16)]⟩, 0, []⟩,
  ⟨⟨none, .pick 18 (.t 15) (.t 17) (.c (.one (.d (.bool false))))⟩, 0, []⟩,
  ⟨⟨none, .mov 19 (.t 18)⟩, 0, []⟩,
  ⟨⟨some (19, true), .mov 20 (.t 0)⟩, 0, []⟩,
  ⟨⟨some (19, true), .mov 21 (.t 1)⟩, 0, []⟩,
  ⟨⟨some (19, true), .load 22 (some 2) (.t 6)⟩, 0, []⟩,
  ⟨⟨some (19, true), .mov 23 (.t 3)⟩, 0, []⟩,
  ⟨⟨some (19, true), .callv 24 (.c (.one (.fn k_spec_l12Holds []))) [(.t 20), (.t 21), (.t 22), (.t 23)]⟩, 0, []⟩,
  ⟨⟨none, .pick 25 (.t 19) (.t 24) (.c (.one (.d (.bool false))))⟩, 0, []⟩,
  ⟨⟨none, .mov 8 (.t 25)⟩, 0, []⟩]

def i_spec_LocksHold : IC := (.seq (.reg i_spec_LocksHold_r0)
  (.seq (.reg i_spec_LocksHold_r1)
  .ret))

theorem i_spec_LocksHold_ok : (Try.f42.body.bind fun c => toIC Try.prog 26 c []) = some (i_spec_LocksHold, []) := by kernel_rfl

theorem i_spec_LocksHold_fn {ds rs : List D} (hle : ds.length ≤ 26) (h : AW Try.prog 26 i_spec_LocksHold (Ends [.tmp 8] rs) (init ds)) : Fn Try.prog k_spec_LocksHold (lent ds) true rs :=
  Fn.intro' (by kernel_rfl) Try.func42 (by kernel_rfl) i_spec_LocksHold_ok (by kernel_rfl) hle h.h

abbrev i_impl_from_r0 : List RO := [
  ⟨⟨none, .mov 6 (.c (.one (.d (.bool false))))⟩, 0, []⟩]

abbrev i_impl_from_r1 : List RO := [
  ⟨⟨none, .mov 7 (.t 0)⟩, 0, []⟩,
  ⟨⟨none, .mov 8 (.t 1)⟩, 0, []⟩,
  ⟨⟨none, .bin 9 .geq (.t 7) (.t 8)⟩, 0, []⟩,
  ⟨⟨none, .mov 10 (.t 9)⟩, 0, []⟩,
  ⟨⟨some (10, true), .mov 11 (.t 0)⟩, 0, []⟩,
  ⟨⟨some (10, true), .mov 12 (.t 2)⟩, 0, []⟩,
  ⟨⟨some (10, true), .bin 13 .leq (.t 11) (.t 12)⟩, 0, []⟩,
  ⟨⟨none, .pick 14 (.t 10) (.t 13) (.c (.one (.d (.bool false))))⟩, 0, []⟩,
  ⟨⟨none, .mov 6 (.t 14)⟩, 0, []⟩]

def i_impl_from : IC := (.seq (.reg i_impl_from_r0)
  (.seq (.reg i_impl_from_r1)
  .ret))

theorem i_impl_from_ok : (Try.f68.body.bind fun c => toIC Try.prog 15 c []) = some (i_impl_from, []) := by kernel_rfl

theorem i_impl_from_fn {ds rs : List D} (hle : ds.length ≤ 15) (h : AW Try.prog 15 i_impl_from (Ends [.tmp 6] rs) (init ds)) : Fn Try.prog k_impl_from (lent ds) true rs :=
  Fn.intro' (by kernel_rfl) Try.func68 (by kernel_rfl) i_impl_from_ok (by kernel_rfl) hle h.h

abbrev i_impl_isTx_r0 : List RO := [
  ⟨⟨none, .mov 2 (.c (.one (.d (.bool false))))⟩, 0, []⟩]

abbrev i_impl_isTx_r1 : List RO := [
  ⟨⟨none, .mov 3 (.t 0)⟩, 0, []⟩,
  ⟨⟨none, .callv 4 (.c (.one (.fn k_impl_from []))) [(.t 3), (.c (.one (.d (.int .i64 1)))), (.c (.one (.d (.int .i64 60))))]⟩, 0, []⟩,
  ⟨⟨none, .mov 2 (.t 4)⟩, 0, []⟩]

def i_impl_isTx : IC := (.seq (.reg i_impl_isTx_r0)
  (.seq (.reg i_impl_isTx_r1)
  .ret))

theorem i_impl_isTx_ok : (Try.f71.body.bind fun c => toIC Try.prog 5 c []) = some (i_impl_isTx, []) := by kernel_rfl

theorem i_impl_isTx_fn {ds rs : List D} (hle : ds.length ≤ 5) (h : AW Try.prog 5 i_impl_isTx (Ends [.tmp 2] rs) (init ds)) : Fn Try.prog k_impl_isTx (lent ds) true rs :=
  Fn.intro' (by kernel_rfl) Try.func71 (by kernel_rfl) i_impl_isTx_ok (by kernel_rfl) hle h.h

abbrev i__impl_Lock_keys_r0 : List RO := [
  ⟨⟨none, .box 1 (.t 0)⟩, 0, []⟩,
  ⟨⟨none, .var 2 [(.d (.int .i64 0)), (.d (.int .i64 0))]⟩, 0, []⟩]

abbrev i__impl_Lock_keys_r1 : List RO := [
  ⟨⟨none, .faddr 3 1 (.t 1)⟩, 0, []⟩,
  ⟨⟨none, .load 4 none (.t 3)⟩, 0, []⟩,
  ⟨⟨none, .faddr 5 2 (.t 1)⟩, 0, []⟩,
  ⟨⟨none, .load 6 none (.t 5)⟩, 0, []⟩,
  ⟨⟨none, .build 7 [(.d (.int .i64 0)), (.d (.int .i64 0))] [(0, 1, (.t 4)), (1, 1, (.t 6))]⟩, 0, []⟩,
  ⟨⟨none, .store 2 (.t 2) (.t 7)⟩, 0, []⟩]

def i__impl_Lock_keys : IC := (.seq (.reg i__impl_Lock_keys_r0)
  (.seq (.reg i__impl_Lock_keys_r1)
  .ret))

theorem i__impl_Lock_keys_ok : (Try.f81.body.bind fun c => toIC Try.prog 8 c []) = some (i__impl_Lock_keys, []) := by kernel_rfl

theorem i__impl_Lock_keys_fn {ds rs : List D} (hle : ds.length ≤ 8) (h : AW Try.prog 8 i__impl_Lock_keys (Ends [.cell 2 (some 2)] rs) (init ds)) : Fn Try.prog k__impl_Lock_keys (lent ds) true rs :=
  Fn.intro' (by kernel_rfl) Try.func81 (by kernel_rfl) i__impl_Lock_keys_ok (by kernel_rfl) hle h.h

abbrev i_impl_RangeOk_r0 : List RO := [
  ⟨⟨none, .box 1 (.t 0)⟩, 0, []⟩,
  ⟨⟨none, .mov 2 (.c (.one (.d (.bool false))))⟩, 0, []⟩]

abbrev i_impl_RangeOk_r1 : List RO := [
  ⟨⟨none, .faddr 3 0 (.t 1)⟩, 0, []⟩,
  ⟨⟨none, .load 4 none (.t 3)⟩, 0, []⟩,
  ⟨⟨none, .bin 5 .geq (.t 4) (.c (.one (.d (.int .i64 0))))⟩, 0, []⟩,
  ⟨⟨none, .mov 6 (.t 5)⟩, 0, []⟩,
  ⟨⟨some (6, true), .faddr 7 0 (.t 1)⟩, 0, []⟩,
  ⟨⟨some (6, true), .load 8 none (.t 7)⟩, 0, []⟩,
  ⟨⟨some (6, true), .faddr 9 1 (.t 1)⟩, 0, []⟩,
  ⟨⟨some (6, true), .load 10 none (.t 9)⟩, 0, []⟩,
  ⟨⟨some (6, true), .bin 11 .lss (.t 8) (.t 10)⟩, 0, []⟩,
  ⟨⟨none, .pick 12 (.t 6) (.t 11) (.c (.one (.d (.bool false))))⟩, 0, []⟩,
  ⟨⟨none, .mov 13 (.t 12)⟩, 0, []⟩,
  ⟨⟨some (13, true), .faddr 14 1 (.t 1)⟩, 0, []⟩,
  ⟨⟨some (13, true), .load 15 none (.t 14)⟩, 0, []⟩,
  ⟨⟨some (13, true), .bin 16 .leq (.t 15) (.c (.one (.d (.int .i64 1000))))⟩, 0, []⟩,
  ⟨⟨none, .pick 17 (.t 13) (.t 16) (.c (.one (.d (.bool false))))⟩, 0, []⟩,
  ⟨⟨none, .mov 2 (.t 17)⟩, 0, []⟩]

def i_impl_RangeOk : IC := (.seq (.reg i_impl_RangeOk_r0)
  (.seq (.reg i_impl_RangeOk_r1)
  .ret))

theorem i_impl_RangeOk_ok : (Try.f69.body.bind fun c => toIC Try.prog 18 c []) = some (i_impl_RangeOk, []) := by kernel_rfl

theorem i_impl_RangeOk_fn {ds rs : List D} (hle : ds.length ≤ 18) (h : AW Try.prog 18 i_impl_RangeOk (Ends [.tmp 2] rs) (init ds)) : Fn Try.prog k_impl_RangeOk (lent ds) true rs :=
  Fn.intro' (by kernel_rfl) Try.func69 (by kernel_rfl) i_impl_RangeOk_ok (by kernel_rfl) hle h.h

abbrev i_impl_isMode_r0 : List RO := [
  ⟨⟨none, .mov 2 (.c (.one (.d (.bool false))))⟩, 0, []⟩]

abbrev i_impl_isMode_r1 : List RO := [
  ⟨⟨none, .mov 3 (.t 0)⟩, 0, []⟩,
  ⟨⟨none, .bin 4 .eql (.t 3) (.c (.one (.d (.int .i64 1))))⟩, 0, []⟩,
  ⟨⟨none, .mov 5 (.t 4)⟩, 0, []⟩,
  ⟨⟨some (5, false), .mov 6 (.t 0)⟩, 0, []⟩,
  ⟨⟨some (5, false), .bin 7 .eql (.t 6) (.c (.one (.d (.int .i64 2))))⟩, 0, []⟩,
  ⟨⟨none, .pick 8 (.t 5) (.c (.one (.d (.bool true)))) (.t 7)⟩, 0, []⟩,
  ⟨⟨none, .mov 2 (.t 8)⟩, 0, []⟩]

def i_impl_isMode : IC := (.seq (.reg i_impl_isMode_r0)
  (.seq (.reg i_impl_isMode_r1)
  .ret))

theorem i_impl_isMode_ok : (Try.f82.body.bind fun c => toIC Try.prog 9 c []) = some (i_impl_isMode, []) := by kernel_rfl

theorem i_impl_isMode_fn {ds rs : List D} (hle : ds.length ≤ 9) (h : AW Try.prog 9 i_impl_isMode (Ends [.tmp 2] rs) (init ds)) : Fn Try.prog k_impl_isMode (lent ds) true rs :=
  Fn.intro' (by kernel_rfl) Try.func82 (by kernel_rfl) i_impl_isMode_ok (by kernel_rfl) hle h.h

abbrev i_impl_meets_r0 : List RO := [
  ⟨⟨none, .box 2 (.t 0)⟩, 0, []⟩,
  ⟨⟨none, .box 3 (.t 1)⟩, 0, []⟩,
  ⟨⟨none, .mov 4 (.c (.one (.d (.bool false))))⟩, 0, []⟩]

abbrev i_impl_meets_r1 : List RO := [
  ⟨⟨none, .faddr 5 0 (.t 2)⟩, 0, []⟩,
  ⟨⟨none, .load 6 none (.t 5)⟩, 0, []⟩,
  ⟨⟨none, .faddr 7 1 (.t 3)⟩, 0, []⟩,
  ⟨⟨none, .load 8 none (.t 7)⟩, 0, []⟩,
  ⟨⟨none, .bin 9 .lss (.t 6) (.t 8)⟩, 0, []⟩,
  ⟨⟨none, .mov 10 (.t 9)⟩, 0, []⟩,
  ⟨⟨some (10, true), .faddr 11 0 (.t 3)⟩, 0, []⟩,
  ⟨⟨some (10, true), .load 12 none (.t 11)⟩, 0, []⟩,
  ⟨⟨some (10, true), .faddr 13 1 (.t 2)⟩, 0, []⟩,
  ⟨⟨some (10, true), .load 14 none (.t 13)⟩, 0, []⟩,
  ⟨⟨some (10, true), .bin 15 .lss (.t 12) (.t 14)⟩, 0, []⟩,
  ⟨⟨none, .pick 16 (.t 10) (.t 15) (.c (.one (.d (.bool false))))⟩, 0, []⟩,
  ⟨⟨none, .mov 4 (.t 16)⟩, 0, []⟩]

def i_impl_meets : IC := (.seq (.reg i_impl_meets_r0)
  (.seq (.reg i_impl_meets_r1)
  .ret))

theorem i_impl_meets_ok : (Try.f106.body.bind fun c => toIC Try.prog 17 c []) = some (i_impl_meets, []) := by kernel_rfl

theorem i_impl_meets_fn {ds rs : List D} (hle : ds.length ≤ 17) (h : AW Try.prog 17 i_impl_meets (Ends [.tmp 4] rs) (init ds)) : Fn Try.prog k_impl_meets (lent ds) true rs :=
  Fn.intro' (by kernel_rfl) Try.func106 (by kernel_rfl) i_impl_meets_ok (by kernel_rfl) hle h.h

abbrev i_impl_clash_r0 : List RO := [
  ⟨⟨none, .box 2 (.t 0)⟩, 0, []⟩,
  ⟨⟨none, .box 3 (.t 1)⟩, 0, []⟩,
  ⟨⟨none, .mov 4 (.c (.one (.d (.bool false))))⟩, 0, []⟩]

abbrev i_impl_clash_r1 : List RO := [
  ⟨⟨none, .faddr 5 0 (.t 2)⟩, 0, []⟩,
  ⟨⟨none, .load 6 none (.t 5)⟩, 1, []⟩,
  ⟨⟨none, .faddr 7 0 (.t 3)⟩, 0, []⟩,
  ⟨⟨none, .load 8 none (.t 7)⟩, 4, []⟩,
  ⟨⟨none, .bin 9 .neq (.t 6) (.t 8)⟩, 15, []⟩,
  ⟨⟨none, .mov 10 (.t 9)⟩, 31, []⟩,
  ⟨⟨some (10, true), .faddr 11 3 (.t 2)⟩, 63, []⟩,
  ⟨⟨some (10, true), .load 12 none (.t 11)⟩, 127, []⟩,
  ⟨⟨some (10, true), .bin 13 .eql (.t 12) (.c (.one (.d (.int .i64 2))))⟩, 255, []⟩,
  ⟨⟨some (10, true), .mov 14 (.t 13)⟩, 511, []⟩,
  ⟨⟨some (14, false), .faddr 15 3 (.t 3)⟩, 1023, []⟩,
  ⟨⟨some (14, false), .load 16 none (.t 15)⟩, 2047, []⟩,
  ⟨⟨some (14, false), .bin 17 .eql (.t 16) (.c (.one (.d (.int .i64 2))))⟩, 4095, []⟩,
  ⟨⟨some (10, true), .pick 18 (.t 14) (.c (.one (.d (.bool true)))) (.t 17)⟩, 8191, []⟩,
  ⟨⟨none, .pick 19 (.t 10) (.t 18) (.c (.one (.d (.bool false))))⟩, 16383, []⟩,
  ⟨⟨none, .mov 20 (.t 19)⟩, 32767, []⟩,
  ⟨⟨some (20, true), .load 21 (some 4) (.t 2)⟩, 65535, []⟩,
  ⟨⟨some (20, true), .callv 22 (.c (.one (.fn k__impl_Lock_keys []))) [(.t 21)]⟩, 131071, []⟩,
  ⟨⟨some (20, true), .load 23 (some 4) (.t 3)⟩, 65535, [22]⟩,
  ⟨⟨some (20, true), .callv 24 (.c (.one (.fn k__impl_Lock_keys []))) [(.t 23)]⟩, 524287, []⟩,
  ⟨⟨some (20, true), .callv 25 (.c (.one (.fn k_impl_meets []))) [(.t 22), (.t 24)]⟩, 1048575, []⟩,
  ⟨⟨none, .pick 26 (.t 20) (.t 25) (.c (.one (.d (.bool false))))⟩, 2097151, []⟩,
  ⟨⟨none, .mov 4 (.t 26)⟩, 4194303, []⟩]

def i_impl_clash : IC := (.seq (.reg i_impl_clash_r0)
  (.seq (.regd i_impl_clash_r1)
  .ret))

theorem i_impl_clash_ok : (Try.f85.body.bind fun c => toIC Try.prog 27 c [[(0, []), (1, []), (0, []), (4, []), (15, []), (31, []), (63, []), (127, []), (255, []), (511, []), (1023, []), (2047, []), (4095, []), (8191, []), (16383, []), (32767, []), (65535, []), (131071, []), (65535, [22]), (524287, []), (1048575, []), (2097151, []), (4194303, [])]]) = some (i_impl_clash, []) := by kernel_rfl

theorem i_impl_clash_fn {ds rs : List D} (hle : ds.length ≤ 27) (h : AW Try.prog 27 i_impl_clash (Ends [.tmp 4] rs) (init ds)) : Fn Try.prog k_impl_clash (lent ds) true rs :=
  Fn.intro' (by kernel_rfl) Try.func85 (by kernel_rfl) i_impl_clash_ok (by kernel_rfl) hle h.h

abbrev i_impl_LocksOk_1_r0 : List RO := [
  ⟨⟨none, .box 2 (.t 0)⟩, 0, []⟩,
  ⟨⟨none, .mov 3 (.c (.one (.d (.bool false))))⟩, 0, []⟩]

abbrev i_impl_LocksOk_1_r1 : List RO := [
  ⟨⟨none, .load 4 (some 4) (.t 1)⟩, 0, []⟩,
  ⟨⟨none, .load 5 (some 4) (.t 2)⟩, 0, []⟩,
  ⟨⟨none, .callv 6 (.c (.one (.fn k_impl_clash []))) [(.t 4), (.t 5)]⟩, 0, []⟩,
  ⟨⟨none, .mov 3 (.t 6)⟩, 0, []⟩]

def i_impl_LocksOk_1 : IC := (.seq (.reg i_impl_LocksOk_1_r0)
  (.seq (.reg i_impl_LocksOk_1_r1)
  .ret))

theorem i_impl_LocksOk_1_ok : (Try.f84.body.bind fun c => toIC Try.prog 7 c []) = some (i_impl_LocksOk_1, []) := by kernel_rfl

theorem i_impl_LocksOk_1_fn {ds rs : List D} (hle : ds.length ≤ 7) (h : AW Try.prog 7 i_impl_LocksOk_1 (Ends [.tmp 3] rs) (init ds)) : Fn Try.prog k_impl_LocksOk_1 (lent ds) true rs :=
  Fn.intro' (by kernel_rfl) Try.func84 (by kernel_rfl) i_impl_LocksOk_1_ok (by kernel_rfl) hle h.h

abbrev i_slices_IndexFunc___impl_Lock_impl_Lock__r0 : List RO := [
  ⟨⟨none, .mov 4 (.c (.one (.d (.int .i64 0))))⟩, 0, []⟩]

abbrev i_slices_IndexFunc___impl_Lock_impl_Lock__r1 : List RO := [
  ⟨⟨none, .mov 6 (.t 0)⟩, 0, []⟩,
  ⟨⟨none, .len 7 false (.t 6)⟩, 0, []⟩,
  ⟨⟨none, .mov 8 (.c (.one (.d (.int .i64 0))))⟩, 0, []⟩]

abbrev i_slices_IndexFunc___impl_Lock_impl_Lock__r2 : List RO := [
  ⟨⟨none, .bin 9 .lss (.t 8) (.t 7)⟩, 0, []⟩]

abbrev i_slices_IndexFunc___impl_Lock_impl_Lock__r3 : List RO := [
  ⟨⟨none, .mov 10 (.t 8)⟩, 0, []⟩,
  ⟨⟨none, .mov 5 (.t 10)⟩, 0, []⟩]

abbrev i_slices_IndexFunc___impl_Lock_impl_Lock__r4 : List RO := [
  ⟨⟨none, .mov 11 (.t 1)⟩, 0, []⟩,
  ⟨⟨none, .mov 12 (.t 0)⟩, 0, []⟩,
  ⟨⟨none, .mov 13 (.t 5)⟩, 0, []⟩,
  ⟨⟨none, .iaddr 14 4 (.t 12) (.t 13)⟩, 0, []⟩,
  ⟨⟨none, .load 15 (some 4) (.t 14)⟩, 0, []⟩,
  ⟨⟨none, .callv 16 (.t 11) [(.t 15)]⟩, 0, []⟩]

abbrev i_slices_IndexFunc___impl_Lock_impl_Lock__r5 : List RO := [
  ⟨⟨none, .mov 17 (.t 5)⟩, 0, []⟩,
  ⟨⟨none, .mov 4 (.t 17)⟩, 0, []⟩]

abbrev i_slices_IndexFunc___impl_Lock_impl_Lock__r6 : List RO := [
  ⟨⟨none, .bin 18 .add (.t 8) (.c (.one (.d (.int .i64 1))))⟩, 0, []⟩,
  ⟨⟨none, .mov 8 (.t 18)⟩, 0, []⟩]

abbrev i_slices_IndexFunc___impl_Lock_impl_Lock__r7 : List RO := [
  ⟨⟨none, .mov 4 (.c (.one (.d (.int .i64 (-1)))))⟩, 0, []⟩]

def i_slices_IndexFunc___impl_Lock_impl_Lock_ : IC := (.seq (.reg i_slices_IndexFunc___impl_Lock_impl_Lock__r0)
  (.seq (.seq (.reg i_slices_IndexFunc___impl_Lock_impl_Lock__r1)
  (.block 0 (.loop (.seq (.reg i_slices_IndexFunc___impl_Lock_impl_Lock__r2)
  (.seq (.cond (.t 9) .skip (.exit 0))
  (.seq (.block 1 (.seq (.reg i_slices_IndexFunc___impl_Lock_impl_Lock__r3)
  (.seq (.reg i_slices_IndexFunc___impl_Lock_impl_Lock__r4)
  (.cond (.t 16) (.seq (.reg i_slices_IndexFunc___impl_Lock_impl_Lock__r5)
  .ret) .skip))))
  (.reg i_slices_IndexFunc___impl_Lock_impl_Lock__r6)))))))
  (.seq (.reg i_slices_IndexFunc___impl_Lock_impl_Lock__r7)
  .ret)))

theorem i_slices_IndexFunc___impl_Lock_impl_Lock__ok : (Try.f105.body.bind fun c => toIC Try.prog 19 c []) = some (i_slices_IndexFunc___impl_Lock_impl_Lock_, []) := by kernel_rfl

theorem i_slices_IndexFunc___impl_Lock_impl_Lock__fn {ds rs : List D} (hle : ds.length ≤ 19) (h : AW Try.prog 19 i_slices_IndexFunc___impl_Lock_impl_Lock_ (Ends [.tmp 4] rs) (init ds)) : Fn Try.prog k_slices_IndexFunc___impl_Lock_impl_Lock_ (lent ds) true rs :=
  Fn.intro' (by kernel_rfl) Try.func105 (by kernel_rfl) i_slices_IndexFunc___impl_Lock_impl_Lock__ok (by kernel_rfl) hle h.h

abbrev i_slices_ContainsFunc___impl_Lock_impl_Lock__r0 : List RO := [
  ⟨⟨none, .mov 4 (.c (.one (.d (.bool false))))⟩, 0, []⟩]

abbrev i_slices_ContainsFunc___impl_Lock_impl_Lock__r1 : List RO := [
  ⟨⟨none, .mov 5 (.t 0)⟩, 0, []⟩,
  ⟨⟨none, .mov 6 (.t 1)⟩, 0, []⟩,
  ⟨⟨none, .callv 7 (.c (.one (.fn k_slices_IndexFunc___impl_Lock_impl_Lock_ []))) [(.t 5), (.t 6)]⟩, 0, []⟩,
  ⟨⟨none, .bin 8 .geq (.t 7) (.c (.one (.d (.int .i64 0))))⟩, 0, []⟩,
  ⟨⟨none, .mov 4 (.t 8)⟩, 0, []⟩]

def i_slices_ContainsFunc___impl_Lock_impl_Lock_ : IC := (.seq (.reg i_slices_ContainsFunc___impl_Lock_impl_Lock__r0)
  (.seq (.reg i_slices_ContainsFunc___impl_Lock_impl_Lock__r1)
  .ret))

theorem i_slices_ContainsFunc___impl_Lock_impl_Lock__ok : (Try.f83.body.bind fun c => toIC Try.prog 9 c []) = some (i_slices_ContainsFunc___impl_Lock_impl_Lock_, []) := by kernel_rfl

theorem i_slices_ContainsFunc___impl_Lock_impl_Lock__fn {ds rs : List D} (hle : ds.length ≤ 9) (h : AW Try.prog 9 i_slices_ContainsFunc___impl_Lock_impl_Lock_ (Ends [.tmp 4] rs) (init ds)) : Fn Try.prog k_slices_ContainsFunc___impl_Lock_impl_Lock_ (lent ds) true rs :=
  Fn.intro' (by kernel_rfl) Try.func83 (by kernel_rfl) i_slices_ContainsFunc___impl_Lock_impl_Lock__ok (by kernel_rfl) hle h.h

abbrev i_impl_LocksOk_r0 : List RO := [
  ⟨⟨none, .mov 2 (.c (.one (.d (.bool false))))⟩, 0, []⟩]

abbrev i_impl_LocksOk_r1 : List RO := [
  ⟨⟨none, .mov 5 (.t 0)⟩, 0, []⟩,
  ⟨⟨none, .len 6 false (.t 5)⟩, 0, []⟩,
  ⟨⟨none, .mov 7 (.c (.one (.d (.int .i64 0))))⟩, 0, []⟩]

abbrev i_impl_LocksOk_r2 : List RO := [
  ⟨⟨none, .bin 8 .lss (.t 7) (.t 6)⟩, 0, []⟩]

abbrev i_impl_LocksOk_r3 : List RO := [
  ⟨⟨none, .mov 9 (.t 7)⟩, 0, []⟩,
  ⟨⟨none, .iaddr 10 4 (.t 5) (.t 7)⟩, 0, []⟩,
  ⟨⟨none, .load 11 (some 4) (.t 10)⟩, 0, []⟩,
  ⟨⟨none, .var 4 [(.d (.int .i64 0)), (.d (.int .i64 0)), (.d (.int .i64 0)), (.d (.int .i64 0))]⟩, 0, []⟩,
  ⟨⟨none, .mov 3 (.t 9)⟩, 0, []⟩,
  ⟨⟨none, .store 4 (.t 4) (.t 11)⟩, 0, []⟩]

abbrev i_impl_LocksOk_r4 : List RO := [
  ⟨⟨none, .faddr 12 0 (.t 4)⟩, 0, []⟩,
  ⟨⟨none, .load 13 none (.t 12)⟩, 0, []⟩,
  ⟨⟨none, .callv 14 (.c (.one (.fn k_impl_isTx []))) [(.t 13)]⟩, 0, []⟩,
  ⟨⟨none, .inv 15 (.t 14)⟩, 0, []⟩,
  ⟨⟨none, .mov 16 (.t 15)⟩, 0, []⟩,
  ⟨⟨some (16, false), .load 17 (some 4) (.t 4)⟩, 0, []⟩,
  ⟨⟨some (16, false), .callv 18 (.c (.one (.fn k__impl_Lock_keys []))) [(.t 17)]⟩, 0, []⟩,
  ⟨⟨some (16, false), .callv 19 (.c (.one (.fn k_impl_RangeOk []))) [(.t 18)]⟩, 0, []⟩,
  ⟨⟨some (16, false), .inv 20 (.t 19)⟩, 0, []⟩,
  ⟨⟨none, .pick 21 (.t 16) (.c (.one (.d (.bool true)))) (.t 20)⟩, 0, []⟩,
  ⟨⟨none, .mov 22 (.t 21)⟩, 0, []⟩,
  ⟨⟨some (22, false), .faddr 23 3 (.t 4)⟩, 0, []⟩,
  ⟨⟨some (22, false), .load 24 none (.t 23)⟩, 0, []⟩,
  ⟨⟨some (22, false), .callv 25 (.c (.one (.fn k_impl_isMode []))) [(.t 24)]⟩, 0, []⟩,
  ⟨⟨some (22, false), .inv 26 (.t 25)⟩, 0, []⟩,
  ⟨⟨none, .pick 27 (.t 22) (.c (.one (.d (.bool true)))) (.t 26)⟩, 0, []⟩,
  ⟨⟨none, .mov 28 (.t 27)⟩, 0, []⟩,
  ⟨⟨some (28, false), .mov 29 (.t 0)⟩, 0, []⟩,
  ⟨⟨some (28, false), .mov 30 (.t 3)⟩, 0, []⟩,
  ⟨⟨some (28, false), .slice 31 4 (.t 29) none (some (.t 30)) none⟩, 0, []⟩,
  ⟨⟨some (28, false), .mkfn 32 k_impl_LocksOk_1 [(.t 4)]⟩, 0, []⟩,
  ⟨⟨some (28, false), .callv 33 (.c (.one (.fn k_slices_ContainsFunc___impl_Lock_impl_Lock_ []))) [(.t 31), (.t 32)]⟩, 0, []⟩,
  ⟨⟨none, .pick 34 (.t 28) (.c (.one (.d (.bool true)))) (.t 33)⟩, 0, []⟩]

abbrev i_impl_LocksOk_r5 : List RO := [
  ⟨⟨none, .mov 2 (.c (.one (.d (.bool false))))⟩, 0, []⟩]

abbrev i_impl_LocksOk_r6 : List RO := [
  ⟨⟨none, .bin 35 .add (.t 7) (.c (.one (.d (.int .i64 1))))⟩, 0, []⟩,
  ⟨⟨none, .mov 7 (.t 35)⟩, 0, []⟩]

abbrev i_impl_LocksOk_r7 : List RO := [
  ⟨⟨none, .mov 36 (.t 0)⟩, 0, []⟩,
  ⟨⟨none, .len 37 false (.t 36)⟩, 0, []⟩,
  ⟨⟨none, .bin 38 .leq (.t 37) (.c (.one (.d (.int .i64 40))))⟩, 0, []⟩,
  ⟨⟨none, .mov 2 (.t 38)⟩, 0, []⟩]

def i_impl_LocksOk : IC := (.seq (.reg i_impl_LocksOk_r0)
  (.seq (.seq (.reg i_impl_LocksOk_r1)
  (.block 0 (.loop (.seq (.reg i_impl_LocksOk_r2)
  (.seq (.cond (.t 8) .skip (.exit 0))
  (.seq (.block 1 (.seq (.reg i_impl_LocksOk_r3)
  (.seq (.reg i_impl_LocksOk_r4)
  (.cond (.t 34) (.seq (.reg i_impl_LocksOk_r5)
  .ret) .skip))))
  (.reg i_impl_LocksOk_r6)))))))
  (.seq (.reg i_impl_LocksOk_r7)
  .ret)))

theorem i_impl_LocksOk_ok : (Try.f33.body.bind fun c => toIC Try.prog 39 c []) = some (i_impl_LocksOk, []) := by kernel_rfl

theorem i_impl_LocksOk_fn {ds rs : List D} (hle : ds.length ≤ 39) (h : AW Try.prog 39 i_impl_LocksOk (Ends [.tmp 2] rs) (init ds)) : Fn Try.prog k_impl_LocksOk (lent ds) true rs :=
  Fn.intro' (by kernel_rfl) Try.func33 (by kernel_rfl) i_impl_LocksOk_ok (by kernel_rfl) hle h.h

abbrev i_impl_LocksHold_1_r0 : List RO := [
  ⟨⟨none, .box 4 (.t 0)⟩, 0, []⟩,
  ⟨⟨none, .mov 5 (.c (.one (.d (.bool false))))⟩, 0, []⟩]

abbrev i_impl_LocksHold_1_r1 : List RO := [
  ⟨⟨none, .faddr 6 0 (.t 4)⟩, 0, []⟩,
  ⟨⟨none, .load 7 none (.t 6)⟩, 0, []⟩,
  ⟨⟨none, .load 8 none (.t 1)⟩, 0, []⟩,
  ⟨⟨none, .bin 9 .eql (.t 7) (.t 8)⟩, 0, []⟩,
  ⟨⟨none, .mov 10 (.t 9)⟩, 0, []⟩,
  ⟨⟨some (10, true), .faddr 11 3 (.t 4)⟩, 0, []⟩,
  ⟨⟨some (10, true), .load 12 none (.t 11)⟩, 0, []⟩,
  ⟨⟨some (10, true), .load 13 none (.t 2)⟩, 0, []⟩,
  ⟨⟨some (10, true), .bin 14 .eql (.t 12) (.t 13)⟩, 0, []⟩,
  ⟨⟨some (10, true), .mov 15 (.t 14)⟩, 0, []⟩,
  ⟨⟨some (15, false), .faddr 16 3 (.t 4)⟩, 0, []⟩,
  ⟨⟨some (15, false), .load 17 none (.t 16)⟩, 0, []⟩,
  ⟨⟨some (15, false), .bin 18 .eql (.t 17) (.c (.one (.d (.int .i64 2))))⟩, 0, []⟩,
  ⟨⟨some (10, true), .pick 19 (.t 15) (.c (.one (.d (.bool true)))) (.t 18)⟩, 0, []⟩,
  ⟨⟨none, .pick 20 (.t 10) (.t 19) (.c (.one (.d (.bool false))))⟩, 0, []⟩,
  ⟨⟨none, .mov 21 (.t 20)⟩, 0, []⟩,
  ⟨⟨some (21, true), .faddr 22 1 (.t 4)⟩, 0, []⟩,
  ⟨⟨some (21, true), .load 23 none (.t 22)⟩, 0, []⟩,
  ⟨⟨some (21, true), .faddr 24 0 (.t 3)⟩, 0, []⟩,
  ⟨⟨some (21, true), .load 25 none (.t 24)⟩, 0, []⟩,
  ⟨⟨some (21, true), .bin 26 .leq (.t 23) (.t 25)⟩, 0, []⟩,
  ⟨⟨none, .pick 27 (.t 21) (.t 26) (.c (.one (.d (.bool false))))⟩, 0, []⟩,
  ⟨⟨none, .mov 28 (.t 27)⟩, 0, []⟩,
  ⟨⟨some (28, true), .faddr 29 1 (.t 3)⟩, 0, []⟩,
  ⟨⟨some (28, true), .load 30 none (.t 29)⟩, 0, []⟩,
  ⟨⟨some (28, true), .faddr 31 2 (.t 4)⟩, 0, []⟩,
  ⟨⟨some (28, true), .load 32 none (.t 31)⟩, 0, []⟩,
  ⟨⟨some (28, true), .bin 33 .leq (.t 30) (.t 32)⟩, 0, []⟩,
  ⟨⟨none, .pick 34 (.t 28) (.t 33) (.c (.one (.d (.bool false))))⟩, 0, []⟩,
  ⟨⟨none, .mov 5 (.t 34)⟩, 0, []⟩]

def i_impl_LocksHold_1 : IC := (.seq (.reg i_impl_LocksHold_1_r0)
  (.seq (.reg i_impl_LocksHold_1_r1)
  .ret))

theorem i_impl_LocksHold_1_ok : (Try.f90.body.bind fun c => toIC Try.prog 35 c []) = some (i_impl_LocksHold_1, []) := by kernel_rfl

theorem i_impl_LocksHold_1_fn {ds rs : List D} (hle : ds.length ≤ 35) (h : AW Try.prog 35 i_impl_LocksHold_1 (Ends [.tmp 5] rs) (init ds)) : Fn Try.prog k_impl_LocksHold_1 (lent ds) true rs :=
  Fn.intro' (by kernel_rfl) Try.func90 (by kernel_rfl) i_impl_LocksHold_1_ok (by kernel_rfl) hle h.h

abbrev i_impl_LocksHold_r0 : List RO := [
  ⟨⟨none, .box 5 (.t 1)⟩, 0, []⟩,
  ⟨⟨none, .box 6 (.t 2)⟩, 0, []⟩,
  ⟨⟨none, .box 7 (.t 3)⟩, 0, []⟩,
  ⟨⟨none, .mov 8 (.c (.one (.d (.bool false))))⟩, 0, []⟩]

abbrev i_impl_LocksHold_r1 : List RO := [
  ⟨⟨none, .mov 9 (.t 0)⟩, 0, []⟩,
  ⟨⟨none, .callv 10 (.c (.one (.fn k_impl_LocksOk []))) [(.t 9)]⟩, 0, []⟩,
  ⟨⟨none, .mov 11 (.t 10)⟩, 0, []⟩,
  ⟨⟨some (11, true), .load 12 (some 2) (.t 6)⟩, 0, []⟩,
  ⟨⟨some (11, true), .callv 13 (.c (.one (.fn k_impl_RangeOk []))) [(.t 12)]⟩, 0, []⟩,
  ⟨⟨none, .pick 14 (.t 11) (.t 13) (.c (.one (.d (.bool false))))⟩, 0, []⟩,
  ⟨⟨none, .mov 15 (.t 14)⟩, 0, []⟩,
  ⟨⟨some (15, true), .load 16 none (.t 7)⟩, 0, []⟩,
  ⟨⟨some (15, true), .callv 17 (.c (.one (.fn k_impl_isMode []))) [(.t 16)]⟩, 0, []⟩,
  ⟨⟨none, .pick 18 (.t 15) (.t 17) (.c (.one (.d (.bool false))))⟩, 0, []⟩,
  ⟨⟨none, .mov 19 (.t 18)⟩, 0, []⟩,
  ⟨⟨some (19, true), .mov 20 (.t 0)⟩, 0, []⟩,
  ⟨⟨some (19, true), .mkfn 21 k_impl_LocksHold_1 [(.t 5), (.t 7), (.t 6)]⟩, 0, []⟩,
  ⟨⟨some (19, true), .callv 22 (.c (.one (.fn k_slices_ContainsFunc___impl_Lock_impl_Lock_ []))) [(.t 20), (.t 21)]⟩, 0, []⟩,
  ⟨⟨none, .pick 23 (.t 19) (.t 22) (.c (.one (.d (.bool false))))⟩, 0, []⟩,
  ⟨⟨none, .mov 8 (.t 23)⟩, 0, []⟩]

def i_impl_LocksHold : IC := (.seq (.reg i_impl_LocksHold_r0)
  (.seq (.reg i_impl_LocksHold_r1)
  .ret))

theorem i_impl_LocksHold_ok : (Try.f43.body.bind fun c => toIC Try.prog 24 c []) = some (i_impl_LocksHold, []) := by kernel_rfl

theorem i_impl_LocksHold_fn {ds rs : List D} (hle : ds.length ≤ 24) (h : AW Try.prog 24 i_impl_LocksHold (Ends [.tmp 8] rs) (init ds)) : Fn Try.prog k_impl_LocksHold (lent ds) true rs :=
  Fn.intro' (by kernel_rfl) Try.func43 (by kernel_rfl) i_impl_LocksHold_ok (by kernel_rfl) hle h.h

abbrev i_laws_eqLock_r0 : List RO := [
  ⟨⟨none, .box 2 (.t 0)⟩, 0, []⟩,
  ⟨⟨none, .box 3 (.t 1)⟩, 0, []⟩,
  ⟨⟨none, .mov 4 (.c (.one (.d (.bool false))))⟩, 0, []⟩]

abbrev i_laws_eqLock_r1 : List RO := [
  ⟨⟨none, .faddr 5 0 (.t 2)⟩, 0, []⟩,
  ⟨⟨none, .load 6 none (.t 5)⟩, 0, []⟩,
  ⟨⟨none, .faddr 7 0 (.t 3)⟩, 0, []⟩,
  ⟨⟨none, .load 8 none (.t 7)⟩, 0, []⟩,
  ⟨⟨none, .bin 9 .neq (.t 6) (.t 8)⟩, 0, []⟩]

abbrev i_laws_eqLock_r2 : List RO := [
  ⟨⟨none, .mov 4 (.c (.one (.d (.bool false))))⟩, 0, []⟩]

abbrev i_laws_eqLock_r3 : List RO := [
  ⟨⟨none, .faddr 10 1 (.t 2)⟩, 0, []⟩,
  ⟨⟨none, .load 11 none (.t 10)⟩, 0, []⟩,
  ⟨⟨none, .faddr 12 1 (.t 3)⟩, 0, []⟩,
  ⟨⟨none, .load 13 none (.t 12)⟩, 0, []⟩,
  ⟨⟨none, .bin 14 .neq (.t 11) (.t 13)⟩, 0, []⟩]

abbrev i_laws_eqLock_r4 : List RO := [
  ⟨⟨none, .mov 4 (.c (.one (.d (.bool false))))⟩, 0, []⟩]

abbrev i_laws_eqLock_r5 : List RO := [
  ⟨⟨none, .faddr 15 2 (.t 2)⟩, 0, []⟩,
  ⟨⟨none, .load 16 none (.t 15)⟩, 0, []⟩,
  ⟨⟨none, .faddr 17 2 (.t 3)⟩, 0, []⟩,
  ⟨⟨none, .load 18 none (.t 17)⟩, 0, []⟩,
  ⟨⟨none, .bin 19 .neq (.t 16) (.t 18)⟩, 0, []⟩]

abbrev i_laws_eqLock_r6 : List RO := [
  ⟨⟨none, .mov 4 (.c (.one (.d (.bool false))))⟩, 0, []⟩]

abbrev i_laws_eqLock_r7 : List RO := [
  ⟨⟨none, .faddr 20 3 (.t 2)⟩, 0, []⟩,
  ⟨⟨none, .load 21 none (.t 20)⟩, 0, []⟩,
  ⟨⟨none, .faddr 22 3 (.t 3)⟩, 0, []⟩,
  ⟨⟨none, .load 23 none (.t 22)⟩, 0, []⟩,
  ⟨⟨none, .bin 24 .neq (.t 21) (.t 23)⟩, 0, []⟩]

abbrev i_laws_eqLock_r8 : List RO := [
  ⟨⟨none, .mov 4 (.c (.one (.d (.bool false))))⟩, 0, []⟩]

abbrev i_laws_eqLock_r9 : List RO := [
  ⟨⟨none, .mov 4 (.c (.one (.d (.bool true))))⟩, 0, []⟩]

def i_laws_eqLock : IC := (.seq (.reg i_laws_eqLock_r0)
  (.seq (.seq (.reg i_laws_eqLock_r1)
  (.cond (.t 9) (.seq (.reg i_laws_eqLock_r2)
  .ret) .skip))
  (.seq (.seq (.reg i_laws_eqLock_r3)
  (.cond (.t 14) (.seq (.reg i_laws_eqLock_r4)
  .ret) .skip))
  (.seq (.seq (.reg i_laws_eqLock_r5)
  (.cond (.t 19) (.seq (.reg i_laws_eqLock_r6)
  .ret) .skip))
  (.seq (.seq (.reg i_laws_eqLock_r7)
  (.cond (.t 24) (.seq (.reg i_laws_eqLock_r8)
  .ret) .skip))
  (.seq (.reg i_laws_eqLock_r9)
  .ret))))))

theorem i_laws_eqLock_ok : (Try.f86.body.bind fun c => toIC Try.prog 25 c []) = some (i_laws_eqLock, []) := by kernel_rfl

theorem i_laws_eqLock_fn {ds rs : List D} (hle : ds.length ≤ 25) (h : AW Try.prog 25 i_laws_eqLock (Ends [.tmp 4] rs) (init ds)) : Fn Try.prog k_laws_eqLock (lent ds) true rs :=
  Fn.intro' (by kernel_rfl) Try.func86 (by kernel_rfl) i_laws_eqLock_ok (by kernel_rfl) hle h.h

abbrev i_laws_eqLockS_r0 : List RO := [
  ⟨⟨none, .mov 4 (.c (.one (.d (.bool false))))⟩, 0, []⟩]

abbrev i_laws_eqLockS_r1 : List RO := [
  ⟨⟨none, .mov 6 (.t 0)⟩, 0, []⟩,
  ⟨⟨none, .len 7 false (.t 6)⟩, 0, []⟩,
  ⟨⟨none, .mov 8 (.t 1)⟩, 0, []⟩,
  ⟨⟨none, .len 9 false (.t 8)⟩, 0, []⟩,
  ⟨⟨none, .bin 10 .neq (.t 7) (.t 9)⟩, 0, []⟩]

abbrev i_laws_eqLockS_r2 : List RO := [
  ⟨⟨none, .mov 4 (.c (.one (.d (.bool false))))⟩, 0, []⟩]

abbrev i_laws_eqLockS_r3 : List RO := [
  ⟨⟨none, .mov 5 (.c (.one (.d (.int .i64 0))))⟩, 0, []⟩]

abbrev i_laws_eqLockS_r4 : List RO := [
  ⟨⟨none, .mov 11 (.t 5)⟩, 0, []⟩,
  ⟨⟨none, .mov 12 (.t 0)⟩, 0, []⟩,
  ⟨⟨none, .len 13 false (.t 12)⟩, 0, []⟩,
  ⟨⟨none, .bin 14 .lss (.t 11) (.t 13)⟩, 0, []⟩]

abbrev i_laws_eqLockS_r5 : List RO := [
  ⟨⟨none, .mov 17 (.t 0)⟩, 0, []⟩,
  ⟨⟨none, .mov 18 (.t 5)⟩, 0, []⟩,
  ⟨⟨none, .iaddr 19 4 (.t 17) (.t 18)⟩, 3, []⟩,
  ⟨⟨none, .load 20 (some 4) (.t 19)⟩, 7, []⟩,
  ⟨⟨none, .mov 21 (.t 1)⟩, 0, []⟩,
  ⟨⟨none, .mov 22 (.t 5)⟩, 0, []⟩,
  ⟨⟨none, .iaddr 23 4 (.t 21) (.t 22)⟩, 48, []⟩,
  ⟨⟨none, .load 24 (some 4) (.t 23)⟩, 112, []⟩,
  ⟨⟨none, .callv 25 (.c (.one (.fn k_laws_eqLock []))) [(.t 20), (.t 24)]⟩, 255, []⟩,
  ⟨⟨none, .inv 26 (.t 25)⟩, 511, []⟩]

abbrev i_laws_eqLockS_r6 : List RO := [
  ⟨⟨none, .mov 4 (.c (.one (.d (.bool false))))⟩, 0, []⟩]

abbrev i_laws_eqLockS_r7 : List RO := [
  ⟨⟨none, .mov 15 (.t 5)⟩, 0, []⟩,
  ⟨⟨none, .bin 16 .add (.t 15) (.c (.one (.d (.int .i64 1))))⟩, 0, []⟩,
  ⟨⟨none, .mov 5 (.t 16)⟩, 0, []⟩]

abbrev i_laws_eqLockS_r8 : List RO := [
  ⟨⟨none, .mov 4 (.c (.one (.d (.bool true))))⟩, 0, []⟩]

def i_laws_eqLockS : IC := (.seq (.reg i_laws_eqLockS_r0)
  (.seq (.seq (.reg i_laws_eqLockS_r1)
  (.cond (.t 10) (.seq (.reg i_laws_eqLockS_r2)
  .ret) .skip))
  (.seq (.seq (.reg i_laws_eqLockS_r3)
  (.block 0 (.loop (.seq (.seq (.reg i_laws_eqLockS_r4)
  (.cond (.t 14) .skip (.exit 0)))
  (.seq (.block 1 (.seq (.regd i_laws_eqLockS_r5)
  (.cond (.t 26) (.seq (.reg i_laws_eqLockS_r6)
  .ret) .skip)))
  (.reg i_laws_eqLockS_r7))))))
  (.seq (.reg i_laws_eqLockS_r8)
  .ret))))

theorem i_laws_eqLockS_ok : (Try.f34.body.bind fun c => toIC Try.prog 27 c [[(0, []), (0, []), (3, []), (7, []), (0, []), (0, []), (48, []), (112, []), (255, []), (511, [])]]) = some (i_laws_eqLockS, []) := by kernel_rfl

theorem i_laws_eqLockS_fn {ds rs : List D} (hle : ds.length ≤ 27) (h : AW Try.prog 27 i_laws_eqLockS (Ends [.tmp 4] rs) (init ds)) : Fn Try.prog k_laws_eqLockS (lent ds) true rs :=
  Fn.intro' (by kernel_rfl) Try.func34 (by kernel_rfl) i_laws_eqLockS_ok (by kernel_rfl) hle h.h

abbrev i_laws_FnExactLocksHold_r0 : List RO := [
  ⟨⟨none, .box 6 (.t 2)⟩, 0, []⟩,
  ⟨⟨none, .mov 8 (.c (.one (.d (.bool false))))⟩, 0, []⟩]

abbrev i_laws_FnExactLocksHold_r1 : List RO := [
  ⟨⟨none, .mov 9 (.c (.one (.d (.int .i64 1048576))))⟩, 0, []⟩]

abbrev i_laws_FnExactLocksHold_r2 : List RO := [
  ⟨⟨none, .mov 13 (.t 0)⟩, 0, []⟩,
  ⟨⟨none, .mov 14 (.t 9)⟩, 0, []⟩,
  ⟨⟨none, .callv 15 (.c (.one (.fn k_laws_szLockS []))) [(.t 13), (.t 14)]⟩, 0, []⟩,
  ⟨⟨none, .mov 9 (.t 15)⟩, 0, []⟩]

abbrev i_laws_FnExactLocksHold_r3 : List RO := [
  ⟨⟨none, .mov 16 (.t 9)⟩, 0, []⟩,
  ⟨⟨none, .bin 17 .lss (.t 16) (.c (.one (.d (.int .i64 0))))⟩, 0, []⟩]

abbrev i_laws_FnExactLocksHold_r4 : List RO := [
  ⟨⟨none, .mov 8 (.c (.one (.d (.bool true))))⟩, 0, []⟩]

abbrev i_laws_FnExactLocksHold_r5 : List RO := [
  ⟨⟨none, .mov 18 (.t 0)⟩, 0, []⟩,
  ⟨⟨none, .callv 19 (.c (.one (.fn k_laws_toLockS []))) [(.t 18)]⟩, 1, []⟩,
  ⟨⟨none, .mov 20 (.t 1)⟩, 0, []⟩,
  ⟨⟨none, .load 21 (some 2) (.t 6)⟩, 0, [19]⟩,
  ⟨⟨none, .callv 22 (.c (.one (.fn k_laws_toRange []))) [(.t 21)]⟩, 11, []⟩,
  ⟨⟨none, .mov 23 (.t 3)⟩, 0, []⟩,
  ⟨⟨none, .callv 24 (.c (.one (.fn k_spec_LocksHold []))) [(.t 19), (.t 20), (.t 22), (.t 23)]⟩, 63, []⟩,
  ⟨⟨none, .mov 10 (.t 24)⟩, 127, []⟩]

abbrev i_laws_FnExactLocksHold_r6 : List RO := [
  ⟨⟨none, .mov 25 (.t 0)⟩, 0, []⟩,
  ⟨⟨none, .callv 26 (.c (.one (.fn k_laws_toLockS []))) [(.t 25)]⟩, 0, []⟩,
  ⟨⟨none, .mov 11 (.t 26)⟩, 0, []⟩]

abbrev i_laws_FnExactLocksHold_r7 : List RO := [
  ⟨⟨none, .mov 27 (.t 11)⟩, 0, []⟩,
  ⟨⟨none, .mov 28 (.t 1)⟩, 0, []⟩,
  ⟨⟨none, .load 29 (some 2) (.t 6)⟩, 0, []⟩,
  ⟨⟨none, .callv 30 (.c (.one (.fn k_laws_toRange []))) [(.t 29)]⟩, 0, []⟩,
  ⟨⟨none, .mov 31 (.t 3)⟩, 0, []⟩,
  ⟨⟨none, .callv 32 (.c (.one (.fn k_impl_LocksHold []))) [(.t 27), (.t 28), (.t 30), (.t 31)]⟩, 0, []⟩,
  ⟨⟨none, .mov 12 (.t 32)⟩, 0, []⟩]

abbrev i_laws_FnExactLocksHold_r8 : List RO := [
  ⟨⟨none, .mov 33 (.t 12)⟩, 0, []⟩,
  ⟨⟨none, .mov 34 (.t 10)⟩, 0, []⟩,
  ⟨⟨none, .beq 35 true (.t 33) (.t 34)⟩, 0, []⟩]

abbrev i_laws_FnExactLocksHold_r9 : List RO := [
  ⟨⟨none, .mov 8 (.c (.one (.d (.bool false))))⟩, 0, []⟩]

abbrev i_laws_FnExactLocksHold_r10 : List RO := [
  ⟨⟨none, .mov 36 (.t 11)⟩, 0, []⟩,
  ⟨⟨none, .mov 37 (.t 0)⟩, 0, []⟩,
  ⟨⟨none, .callv 38 (.c (.one (.fn k_laws_toLockS []))) [(.t 37)]⟩, 0, []⟩,
  ⟨⟨none, .callv 39 (.c (.one (.fn k_laws_eqLockS []))) [(.t 36), (.t 38)]⟩, 0, []⟩,
  ⟨⟨none, .inv 40 (.t 39)⟩, 0, []⟩]

abbrev i_laws_FnExactLocksHold_r11 : List RO := [
  ⟨⟨none, .mov 8 (.c (.one (.d (.bool false))))⟩, 0, []⟩]

abbrev i_laws_FnExactLocksHold_r12 : List RO := [
  ⟨⟨none, .mov 8 (.c (.one (.d (.bool true))))⟩, 0, []⟩]

def i_laws_FnExactLocksHold : IC := (.seq (.reg i_laws_FnExactLocksHold_r0)
  (.seq (.reg i_laws_FnExactLocksHold_r1)
  (.seq (.reg i_laws_FnExactLocksHold_r2)
  (.seq (.seq (.reg i_laws_FnExactLocksHold_r3)
  (.cond (.t 17) (.seq (.reg i_laws_FnExactLocksHold_r4)
  .ret) .skip))
  (.seq (.regd i_laws_FnExactLocksHold_r5)
  (.seq (.reg i_laws_FnExactLocksHold_r6)
  (.seq (.reg i_laws_FnExactLocksHold_r7)
  (.seq (.seq (.reg i_laws_FnExactLocksHold_r8)
  (.cond (.t 35) (.seq (.reg i_laws_FnExactLocksHold_r9)
  .ret) .skip))
  (.seq (.seq (.reg i_laws_FnExactLocksHold_r10)
  (.cond (.t 40) (.seq (.reg i_laws_FnExactLocksHold_r11)
  .ret) .skip))
  (.seq (.reg i_laws_FnExactLocksHold_r12)
  .ret))))))))))

theorem i_laws_FnExactLocksHold_ok : (Try.f10.body.bind fun c => toIC Try.prog 41 c [[(0, []), (1, []), (0, []), (0, [19]), (11, []), (0, []), (63, []), (127, [])]]) = some (i_laws_FnExactLocksHold, []) := by kernel_rfl

theorem i_laws_FnExactLocksHold_fn {ds rs : List D} (hle : ds.length ≤ 41) (h : AW Try.prog 41 i_laws_FnExactLocksHold (Ends [.tmp 8] rs) (init ds)) : Fn Try.prog k_laws_FnExactLocksHold (lent ds) true rs :=
  Fn.intro' (by kernel_rfl) Try.func10 (by kernel_rfl) i_laws_FnExactLocksHold_ok (by kernel_rfl) hle h.h

end Go.AW
