/- The compact code of functions of the program, and that it is the program's: made by a program of the prover's own (tool/GenIC.lean). Conditions: none. -/
import Derived.Test.YtnhleppnhaakgaaYc
import Derived.Test.YtnhleppnhaakgaaRows
import Derived.KernelRfl
set_option linter.unusedVariables false
set_option maxRecDepth 100000
namespace Go.AW
open Go.Proofs

abbrev k_laws_FnExactLockAsk : Nat := 6
abbrev k_laws_szLockS : Nat := 40
abbrev k_spec_LockAsk : Nat := 41
abbrev k_laws_toLockS : Nat := 42
abbrev k_laws_toIntS : Nat := 43
abbrev k_laws_toRange : Nat := 44
abbrev k_impl_LockAsk : Nat := 45
abbrev k_laws_eqLockS : Nat := 46
abbrev k_laws_eqIntS : Nat := 47
abbrev k_laws_markLockS : Nat := 48
abbrev k_laws_markIntS : Nat := 49
abbrev k_laws_heldLockS : Nat := 50
abbrev k_laws_heldIntS : Nat := 51
abbrev k_spec_LocksWaits : Nat := 54
abbrev k_impl_LocksOk : Nat := 66
abbrev k_impl_LocksHold : Nat := 68
abbrev k_spec_RangeOk : Nat := 99
abbrev k_impl_RangeOk : Nat := 107
abbrev k_impl_from : Nat := 128
abbrev k_spec_l1In : Nat := 142
abbrev k_spec_l12Right : Nat := 149
abbrev k_spec_l12Holds : Nat := 150
abbrev k_spec_l12Foes : Nat := 151
abbrev k_spec_l12Keep : Nat := 152
abbrev k_laws_toLock : Nat := 153
abbrev k_impl_isTx : Nat := 154
abbrev k_impl_isMode : Nat := 155
abbrev k_slices_Clone___impl_Lock_impl_Lock_ : Nat := 156
abbrev k_impl_clashing : Nat := 157
abbrev k_slices_DeleteFunc___impl_Lock_impl_Lock_ : Nat := 158
abbrev k_impl_LockAsk_1 : Nat := 159
abbrev k_slices_Contains___int_int_ : Nat := 160
abbrev k_laws_eqLock : Nat := 161
abbrev k_spec_l12Has : Nat := 163
abbrev k__impl_Lock_keys : Nat := 177
abbrev k_slices_ContainsFunc___impl_Lock_impl_Lock_ : Nat := 178
abbrev k_impl_LocksOk_1 : Nat := 179
abbrev k_impl_clash : Nat := 180
abbrev k_impl_LocksHold_1 : Nat := 181
abbrev k_spec_l1Min : Nat := 229
abbrev k_slices_Clone___int_int_ : Nat := 231
abbrev k_spec_LocksOk : Nat := 232
abbrev k_spec_l12Tx : Nat := 233
abbrev k_spec_l12Mode : Nat := 234
abbrev k_spec_RangeIn : Nat := 235
abbrev k_spec_l12Range : Nat := 236
abbrev k_spec_l12Clash : Nat := 237
abbrev k_spec_l12Put : Nat := 238
abbrev k_impl_inserted : Nat := 239
abbrev k_slices_IndexFunc___impl_Lock_impl_Lock_ : Nat := 240
abbrev k_slices_Index___int_int_ : Nat := 241
abbrev k_impl_meets : Nat := 250
abbrev k_spec_RangeMeet : Nat := 266
abbrev k_slices_BinarySearch___int_int_ : Nat := 267
abbrev k_slices_Insert___int_int_ : Nat := 268
abbrev k_spec_l1Max : Nat := 278
abbrev k_cmp_Less_int_ : Nat := 279
abbrev k_slices_isNaN_int_ : Nat := 280
abbrev k_slices_overlaps_int_ : Nat := 281
abbrev k_slices_rotateRight_int_ : Nat := 282
abbrev k_cmp_isNaN_int_ : Nat := 284
abbrev i_laws_szLockS_r0 : List RO := [
  ⟨⟨none, .mov 4 (.c (.one (.d (.int .i64 0))))⟩, 0, []⟩]

abbrev i_laws_szLockS_r1 : List RO := [
  ⟨⟨none, .mov 5 (.t 1)⟩, 0, []⟩,
  ⟨⟨none, .mov 6 (.t 0)⟩, 0, []⟩,
  ⟨⟨none, .len 7 false (.t 6)⟩, 0, []⟩,
  ⟨⟨none, .bin 8 .sub (.t 5) (.t 7)⟩, 0, []⟩,
  ⟨⟨none, .mov 1 (.t 8)⟩, 0, []⟩]

abbrev i_laws_szLockS_r2 : List RO := [
  ⟨⟨none, .mov 9 (.t 1)⟩, 0, []⟩,
  ⟨⟨none, .bin 10 .lss (.t 9) (.c (.one (.d (.int .i64 0))))⟩, 0, []⟩]

abbrev i_laws_szLockS_r3 : List RO := [
  ⟨⟨none, .mov 4 (.c (.one (.d (.int .i64 (-1)))))⟩, 0, []⟩]

abbrev i_laws_szLockS_r4 : List RO := [
  ⟨⟨none, .mov 11 (.t 1)⟩, 0, []⟩,
  ⟨⟨none, .mov 4 (.t 11)⟩, 0, []⟩]

def i_laws_szLockS : IC := (.seq (.reg i_laws_szLockS_r0)
  (.seq (.reg i_laws_szLockS_r1)
  (.seq (.seq (.reg i_laws_szLockS_r2)
  (.cond (.t 10) (.seq (.reg i_laws_szLockS_r3)
  .ret) .skip))
  (.seq (.reg i_laws_szLockS_r4)
  .ret))))

theorem i_laws_szLockS_ok : (Try.f40.body.bind fun c => toIC Try.prog 12 c []) = some (i_laws_szLockS, []) := by kernel_rfl

theorem i_laws_szLockS_fn {ds rs : List D} (hle : ds.length ≤ 12) (h : AW Try.prog 12 i_laws_szLockS (Ends [.tmp 4] rs) (init ds)) : Fn Try.prog k_laws_szLockS (lent ds) true rs :=
  Fn.intro' (by kernel_rfl) Try.func40 (by kernel_rfl) i_laws_szLockS_ok (by kernel_rfl) hle h.h

abbrev i_laws_toLock_r0 : List RO := [
  ⟨⟨none, .box 1 (.t 0)⟩, 0, []⟩,
  ⟨⟨none, .var 2 [(.d (.int .i64 0)), (.d (.int .i64 0)), (.d (.int .i64 0)), (.d (.int .i64 0))]⟩, 0, []⟩]

abbrev i_laws_toLock_r1 : List RO := [
  ⟨⟨none, .var 3 [(.d (.int .i64 0)), (.d (.int .i64 0)), (.d (.int .i64 0)), (.d (.int .i64 0))]⟩, 0, []⟩]

abbrev i_laws_toLock_r2 : List RO := [
  ⟨⟨none, .faddr 4 0 (.t 1)⟩, 0, []⟩,
  ⟨⟨none, .load 5 none (.t 4)⟩, 0, []⟩,
  ⟨⟨none, .faddr 6 0 (.t 3)⟩, 0, []⟩,
  ⟨⟨none, .store 1 [(.int .i64 0)] (.t 6) (.t 5)⟩, 0, []⟩]

abbrev i_laws_toLock_r3 : List RO := [
  ⟨⟨none, .faddr 7 1 (.t 1)⟩, 0, []⟩,
  ⟨⟨none, .load 8 none (.t 7)⟩, 0, []⟩,
  ⟨⟨none, .faddr 9 1 (.t 3)⟩, 0, []⟩,
  ⟨⟨none, .store 1 [(.int .i64 0)] (.t 9) (.t 8)⟩, 0, []⟩]

abbrev i_laws_toLock_r4 : List RO := [
  ⟨⟨none, .faddr 10 2 (.t 1)⟩, 0, []⟩,
  ⟨⟨none, .load 11 none (.t 10)⟩, 0, []⟩,
  ⟨⟨none, .faddr 12 2 (.t 3)⟩, 0, []⟩,
  ⟨⟨none, .store 1 [(.int .i64 0)] (.t 12) (.t 11)⟩, 0, []⟩]

abbrev i_laws_toLock_r5 : List RO := [
  ⟨⟨none, .faddr 13 3 (.t 1)⟩, 0, []⟩,
  ⟨⟨none, .load 14 none (.t 13)⟩, 0, []⟩,
  ⟨⟨none, .faddr 15 3 (.t 3)⟩, 0, []⟩,
  ⟨⟨none, .store 1 [(.int .i64 0)] (.t 15) (.t 14)⟩, 0, []⟩]

abbrev i_laws_toLock_r6 : List RO := [
  ⟨⟨none, .load 16 (some 4) (.t 3)⟩, 0, []⟩,
  ⟨⟨none, .store 4 [(.int .i64 0), (.int .i64 0), (.int .i64 0), (.int .i64 0)] (.t 2) (.t 16)⟩, 0, []⟩]

def i_laws_toLock : IC := (.seq (.reg i_laws_toLock_r0)
  (.seq (.reg i_laws_toLock_r1)
  (.seq (.reg i_laws_toLock_r2)
  (.seq (.reg i_laws_toLock_r3)
  (.seq (.reg i_laws_toLock_r4)
  (.seq (.reg i_laws_toLock_r5)
  (.seq (.reg i_laws_toLock_r6)
  .ret)))))))

theorem i_laws_toLock_ok : (Try.f153.body.bind fun c => toIC Try.prog 17 c []) = some (i_laws_toLock, []) := by kernel_rfl

theorem i_laws_toLock_fn {ds rs : List D} (hle : ds.length ≤ 17) (h : AW Try.prog 17 i_laws_toLock (Ends [.cell 2 (some 4)] rs) (init ds)) : Fn Try.prog k_laws_toLock (lent ds) true rs :=
  Fn.intro' (by kernel_rfl) Try.func153 (by kernel_rfl) i_laws_toLock_ok (by kernel_rfl) hle h.h

abbrev i_laws_toLockS_r0 : List RO := [
  ⟨⟨none, .mov 2 (.c (.one .zs))⟩, 0, []⟩]

abbrev i_laws_toLockS_r1 : List RO := [
  ⟨⟨none, .mov 5 (.t 0)⟩, 0, []⟩,
  ⟨⟨none, .len 6 false (.t 5)⟩, 0, []⟩,
  ⟨⟨none, .mksl 7 4 32 [(.int .i64 0), (.int .i64 0), (.int .i64 0), (.int .i64 0)] (.t 6) (.t 6)⟩, 0, []⟩,
  ⟨⟨none, .mov 3 (.t 7)⟩, 0, []⟩]

abbrev i_laws_toLockS_r2 : List RO := [
  ⟨⟨none, .mov 4 (.c (.one (.d (.int .i64 0))))⟩, 0, []⟩]

abbrev i_laws_toLockS_r3 : List RO := [
  ⟨⟨none, .mov 8 (.t 4)⟩, 0, []⟩,
  ⟨⟨none, .mov 9 (.t 0)⟩, 0, []⟩,
  ⟨⟨none, .len 10 false (.t 9)⟩, 0, []⟩,
  ⟨⟨none, .bin 11 .lss (.t 8) (.t 10)⟩, 0, []⟩]

abbrev i_laws_toLockS_r4 : List RO := [
  ⟨⟨none, .mov 14 (.t 3)⟩, 0, []⟩,
  ⟨⟨none, .mov 15 (.t 4)⟩, 0, []⟩,
  ⟨⟨none, .mov 16 (.t 0)⟩, 0, []⟩,
  ⟨⟨none, .mov 17 (.t 4)⟩, 0, []⟩,
  ⟨⟨none, .iaddr 18 4 (.t 16) (.t 17)⟩, 0, []⟩,
  ⟨⟨none, .load 19 (some 4) (.t 18)⟩, 0, []⟩,
  ⟨⟨none, .callv 20 (.c (.one (.fn k_laws_toLock []))) [(.t 19)]⟩, 0, []⟩,
  ⟨⟨none, .iaddr 21 4 (.t 14) (.t 15)⟩, 0, []⟩,
  ⟨⟨none, .store 4 [(.int .i64 0), (.int .i64 0), (.int .i64 0), (.int .i64 0)] (.t 21) (.t 20)⟩, 0, []⟩]

abbrev i_laws_toLockS_r5 : List RO := [
  ⟨⟨none, .mov 12 (.t 4)⟩, 0, []⟩,
  ⟨⟨none, .bin 13 .add (.t 12) (.c (.one (.d (.int .i64 1))))⟩, 0, []⟩,
  ⟨⟨none, .mov 4 (.t 13)⟩, 0, []⟩]

abbrev i_laws_toLockS_r6 : List RO := [
  ⟨⟨none, .mov 22 (.t 3)⟩, 0, []⟩,
  ⟨⟨none, .mov 2 (.t 22)⟩, 0, []⟩]

def i_laws_toLockS : IC := (.seq (.reg i_laws_toLockS_r0)
  (.seq (.reg i_laws_toLockS_r1)
  (.seq (.seq (.reg i_laws_toLockS_r2)
  (.block 0 (.loop (.seq (.seq (.reg i_laws_toLockS_r3)
  (.cond (.t 11) .skip (.exit 0)))
  (.seq (.block 1 (.reg i_laws_toLockS_r4))
  (.reg i_laws_toLockS_r5))))))
  (.seq (.reg i_laws_toLockS_r6)
  .ret))))

theorem i_laws_toLockS_ok : (Try.f42.body.bind fun c => toIC Try.prog 23 c []) = some (i_laws_toLockS, []) := by kernel_rfl

theorem i_laws_toLockS_fn {ds rs : List D} (hle : ds.length ≤ 23) (h : AW Try.prog 23 i_laws_toLockS (Ends [.tmp 2] rs) (init ds)) : Fn Try.prog k_laws_toLockS (lent ds) true rs :=
  Fn.intro' (by kernel_rfl) Try.func42 (by kernel_rfl) i_laws_toLockS_ok (by kernel_rfl) hle h.h

abbrev i_laws_toIntS_r0 : List RO := [
  ⟨⟨none, .mov 2 (.c (.one .zs))⟩, 0, []⟩]

abbrev i_laws_toIntS_r1 : List RO := [
  ⟨⟨none, .mov 5 (.t 0)⟩, 0, []⟩,
  ⟨⟨none, .len 6 false (.t 5)⟩, 0, []⟩,
  ⟨⟨none, .mksl 7 1 8 [(.int .i64 0)] (.t 6) (.t 6)⟩, 0, []⟩,
  ⟨⟨none, .mov 3 (.t 7)⟩, 0, []⟩]

abbrev i_laws_toIntS_r2 : List RO := [
  ⟨⟨none, .mov 4 (.c (.one (.d (.int .i64 0))))⟩, 0, []⟩]

abbrev i_laws_toIntS_r3 : List RO := [
  ⟨⟨none, .mov 8 (.t 4)⟩, 0, []⟩,
  ⟨⟨none, .mov 9 (.t 0)⟩, 0, []⟩,
  ⟨⟨none, .len 10 false (.t 9)⟩, 0, []⟩,
  ⟨⟨none, .bin 11 .lss (.t 8) (.t 10)⟩, 0, []⟩]

abbrev i_laws_toIntS_r4 : List RO := [
  ⟨⟨none, .mov 14 (.t 3)⟩, 0, []⟩,
  ⟨⟨none, .mov 15 (.t 4)⟩, 0, []⟩,
  ⟨⟨none, .mov 16 (.t 0)⟩, 0, []⟩,
  ⟨⟨none, .mov 17 (.t 4)⟩, 0, []⟩,
  ⟨⟨none, .iaddr 18 1 (.t 16) (.t 17)⟩, 0, []⟩,
  ⟨⟨none, .load 19 none (.t 18)⟩, 0, []⟩,
  ⟨⟨none, .iaddr 20 1 (.t 14) (.t 15)⟩, 0, []⟩,
  ⟨⟨none, .store 1 [(.int .i64 0)] (.t 20) (.t 19)⟩, 0, []⟩]

abbrev i_laws_toIntS_r5 : List RO := [
  ⟨⟨none, .mov 12 (.t 4)⟩, 0, []⟩,
  ⟨⟨none, .bin 13 .add (.t 12) (.c (.one (.d (.int .i64 1))))⟩, 0, []⟩,
  ⟨⟨none, .mov 4 (.t 13)⟩, 0, []⟩]

abbrev i_laws_toIntS_r6 : List RO := [
  ⟨⟨none, .mov 21 (.t 3)⟩, 0, []⟩,
  ⟨⟨none, .mov 2 (.t 21)⟩, 0, []⟩]

def i_laws_toIntS : IC := (.seq (.reg i_laws_toIntS_r0)
  (.seq (.reg i_laws_toIntS_r1)
  (.seq (.seq (.reg i_laws_toIntS_r2)
  (.block 0 (.loop (.seq (.seq (.reg i_laws_toIntS_r3)
  (.cond (.t 11) .skip (.exit 0)))
  (.seq (.block 1 (.reg i_laws_toIntS_r4))
  (.reg i_laws_toIntS_r5))))))
  (.seq (.reg i_laws_toIntS_r6)
  .ret))))

theorem i_laws_toIntS_ok : (Try.f43.body.bind fun c => toIC Try.prog 22 c []) = some (i_laws_toIntS, []) := by kernel_rfl

theorem i_laws_toIntS_fn {ds rs : List D} (hle : ds.length ≤ 22) (h : AW Try.prog 22 i_laws_toIntS (Ends [.tmp 2] rs) (init ds)) : Fn Try.prog k_laws_toIntS (lent ds) true rs :=
  Fn.intro' (by kernel_rfl) Try.func43 (by kernel_rfl) i_laws_toIntS_ok (by kernel_rfl) hle h.h

abbrev i_laws_toRange_r0 : List RO := [
  ⟨⟨none, .box 1 (.t 0)⟩, 0, []⟩,
  ⟨⟨none, .var 2 [(.d (.int .i64 0)), (.d (.int .i64 0))]⟩, 0, []⟩]

abbrev i_laws_toRange_r1 : List RO := [
  ⟨⟨none, .var 3 [(.d (.int .i64 0)), (.d (.int .i64 0))]⟩, 0, []⟩]

abbrev i_laws_toRange_r2 : List RO := [
  ⟨⟨none, .faddr 4 0 (.t 1)⟩, 0, []⟩,
  ⟨⟨none, .load 5 none (.t 4)⟩, 0, []⟩,
  ⟨⟨none, .faddr 6 0 (.t 3)⟩, 0, []⟩,
  ⟨⟨none, .store 1 [(.int .i64 0)] (.t 6) (.t 5)⟩, 0, []⟩]

abbrev i_laws_toRange_r3 : List RO := [
  ⟨⟨none, .faddr 7 1 (.t 1)⟩, 0, []⟩,
  ⟨⟨none, .load 8 none (.t 7)⟩, 0, []⟩,
  ⟨⟨none, .faddr 9 1 (.t 3)⟩, 0, []⟩,
  ⟨⟨none, .store 1 [(.int .i64 0)] (.t 9) (.t 8)⟩, 0, []⟩]

abbrev i_laws_toRange_r4 : List RO := [
  ⟨⟨none, .load 10 (some 2) (.t 3)⟩, 0, []⟩,
  ⟨⟨none, .store 2 [(.int .i64 0), (.int .i64 0)] (.t 2) (.t 10)⟩, 0, []⟩]

def i_laws_toRange : IC := (.seq (.reg i_laws_toRange_r0)
  (.seq (.reg i_laws_toRange_r1)
  (.seq (.reg i_laws_toRange_r2)
  (.seq (.reg i_laws_toRange_r3)
  (.seq (.reg i_laws_toRange_r4)
  .ret)))))

theorem i_laws_toRange_ok : (Try.f44.body.bind fun c => toIC Try.prog 11 c []) = some (i_laws_toRange, []) := by kernel_rfl

theorem i_laws_toRange_fn {ds rs : List D} (hle : ds.length ≤ 11) (h : AW Try.prog 11 i_laws_toRange (Ends [.cell 2 (some 2)] rs) (init ds)) : Fn Try.prog k_laws_toRange (lent ds) true rs :=
  Fn.intro' (by kernel_rfl) Try.func44 (by kernel_rfl) i_laws_toRange_ok (by kernel_rfl) hle h.h

abbrev i_spec_l1In_r0 : List RO := [
  ⟨⟨none, .mov 6 (.c (.one (.d (.bool false))))⟩, 0, []⟩]

abbrev i_spec_l1In_r1 : List RO := [
  ⟨⟨none, .mov 7 (.t 0)⟩, 0, []⟩,
  ⟨⟨none, .mov 8 (.t 1)⟩, 0, []⟩,
  ⟨⟨none, .bin 9 .geq (.t 7) (.t 8)⟩, 0, []⟩,
  ⟨⟨none, .mov 10 (.t 9)⟩, 0, []⟩,
  ⟨⟨some (10, true), .mov 11 (.t 0)⟩, 0, []⟩,
  ⟨⟨some (10, true), .mov 12 (.t 2)⟩, 0, []⟩,
  ⟨⟨some (10, true), .bin 13 .leq (.t 11) (.t 12)⟩, 0, []⟩,
  ⟨⟨none, .pick 14 (.t 10) (.t 13) (.c (.one (.d (.bool false))))⟩, 0, []⟩,
  ⟨⟨none, .mov 6 (.t 14)⟩, 0, []⟩]

def i_spec_l1In : IC := (.seq (.reg i_spec_l1In_r0)
  (.seq (.reg i_spec_l1In_r1)
  .ret))

theorem i_spec_l1In_ok : (Try.f142.body.bind fun c => toIC Try.prog 15 c []) = some (i_spec_l1In, []) := by kernel_rfl

theorem i_spec_l1In_fn {ds rs : List D} (hle : ds.length ≤ 15) (h : AW Try.prog 15 i_spec_l1In (Ends [.tmp 6] rs) (init ds)) : Fn Try.prog k_spec_l1In (lent ds) true rs :=
  Fn.intro' (by kernel_rfl) Try.func142 (by kernel_rfl) i_spec_l1In_ok (by kernel_rfl) hle h.h

abbrev i_spec_l12Tx_r0 : List RO := [
  ⟨⟨none, .mov 2 (.c (.one (.d (.bool false))))⟩, 0, []⟩]

abbrev i_spec_l12Tx_r1 : List RO := [
  ⟨⟨none, .mov 3 (.t 0)⟩, 0, []⟩,
  ⟨⟨none, .callv 4 (.c (.one (.fn k_spec_l1In []))) [(.t 3), (.c (.one (.d (.int .i64 1)))), (.c (.one (.d (.int .i64 60))))]⟩, 0, []⟩,
  ⟨⟨none, .mov 2 (.t 4)⟩, 0, []⟩]

def i_spec_l12Tx : IC := (.seq (.reg i_spec_l12Tx_r0)
  (.seq (.reg i_spec_l12Tx_r1)
  .ret))

theorem i_spec_l12Tx_ok : (Try.f233.body.bind fun c => toIC Try.prog 5 c []) = some (i_spec_l12Tx, []) := by kernel_rfl

theorem i_spec_l12Tx_fn {ds rs : List D} (hle : ds.length ≤ 5) (h : AW Try.prog 5 i_spec_l12Tx (Ends [.tmp 2] rs) (init ds)) : Fn Try.prog k_spec_l12Tx (lent ds) true rs :=
  Fn.intro' (by kernel_rfl) Try.func233 (by kernel_rfl) i_spec_l12Tx_ok (by kernel_rfl) hle h.h

abbrev i_spec_l12Range_r0 : List RO := [
  ⟨⟨none, .box 1 (.t 0)⟩, 0, []⟩,
  ⟨⟨none, .var 2 [(.d (.int .i64 0)), (.d (.int .i64 0))]⟩, 0, []⟩]

abbrev i_spec_l12Range_r1 : List RO := [
  ⟨⟨none, .faddr 3 1 (.t 1)⟩, 0, []⟩,
  ⟨⟨none, .load 4 none (.t 3)⟩, 0, []⟩,
  ⟨⟨none, .faddr 5 2 (.t 1)⟩, 0, []⟩,
  ⟨⟨none, .load 6 none (.t 5)⟩, 0, []⟩,
  ⟨⟨none, .build 7 [(.d (.int .i64 0)), (.d (.int .i64 0))] [(0, 1, (.t 4)), (1, 1, (.t 6))]⟩, 0, []⟩,
  ⟨⟨none, .store 2 [(.int .i64 0), (.int .i64 0)] (.t 2) (.t 7)⟩, 0, []⟩]

def i_spec_l12Range : IC := (.seq (.reg i_spec_l12Range_r0)
  (.seq (.reg i_spec_l12Range_r1)
  .ret))

theorem i_spec_l12Range_ok : (Try.f236.body.bind fun c => toIC Try.prog 8 c []) = some (i_spec_l12Range, []) := by kernel_rfl

theorem i_spec_l12Range_fn {ds rs : List D} (hle : ds.length ≤ 8) (h : AW Try.prog 8 i_spec_l12Range (Ends [.cell 2 (some 2)] rs) (init ds)) : Fn Try.prog k_spec_l12Range (lent ds) true rs :=
  Fn.intro' (by kernel_rfl) Try.func236 (by kernel_rfl) i_spec_l12Range_ok (by kernel_rfl) hle h.h

abbrev i_spec_RangeOk_r0 : List RO := [
  ⟨⟨none, .box 1 (.t 0)⟩, 0, []⟩,
  ⟨⟨none, .mov 2 (.c (.one (.d (.bool false))))⟩, 0, []⟩]

abbrev i_spec_RangeOk_r1 : List RO := [
  ⟨⟨none, .faddr 3 0 (.t 1)⟩, 0, []⟩,
  ⟨⟨none, .load 4 none (.t 3)⟩, 0, []⟩,
  ⟨⟨none, .bin 5 .geq (.t 4) (.c (.one (.d (.int .i64 0))))⟩, 0, []⟩,
  ⟨⟨none, .mov 6 (.t 5)⟩, 0, []⟩,
  ⟨⟨some (6, true), .faddr 7 0 (.t 1)⟩, 0, []⟩,
  ⟨⟨some (6, true), .load 8 none (.t 7)⟩, 0, []⟩,
  ⟨⟨some (6, true), .faddr 9 1 (.t 1)⟩, 0, []⟩,
  ⟨⟨some (6, true), .load 10 none (.t 9)⟩, 0, []⟩,
  ⟨⟨some (6, true), .bin 11 .lss (.t 8) (.t 10)⟩, 0, []⟩,
  ⟨⟨none, .pick 12 (.t 6) (.t 11) (.c (.one (.d (.bool false))))⟩, 0, []⟩,
  ⟨⟨none, .mov 13 (.t 12)⟩, 0, []⟩,
  ⟨⟨some (13, true), .faddr 14 1 (.t 1)⟩, 0, []⟩,
  ⟨⟨some (13, true), .load 15 none (.t 14)⟩, 0, []⟩,
  ⟨⟨some (13, true), .bin 16 .leq (.t 15) (.c (.one (.d (.int .i64 1000))))⟩, 0, []⟩,
  ⟨⟨none, .pick 17 (.t 13) (.t 16) (.c (.one (.d (.bool false))))⟩, 0, []⟩,
  ⟨⟨none, .mov 2 (.t 17)⟩, 0, []⟩]

def i_spec_RangeOk : IC := (.seq (.reg i_spec_RangeOk_r0)
  (.seq (.reg i_spec_RangeOk_r1)
  .ret))

theorem i_spec_RangeOk_ok : (Try.f99.body.bind fun c => toIC Try.prog 18 c []) = some (i_spec_RangeOk, []) := by kernel_rfl

theorem i_spec_RangeOk_fn {ds rs : List D} (hle : ds.length ≤ 18) (h : AW Try.prog 18 i_spec_RangeOk (Ends [.tmp 2] rs) (init ds)) : Fn Try.prog k_spec_RangeOk (lent ds) true rs :=
  Fn.intro' (by kernel_rfl) Try.func99 (by kernel_rfl) i_spec_RangeOk_ok (by kernel_rfl) hle h.h

abbrev i_spec_l12Mode_r0 : List RO := [
  ⟨⟨none, .mov 2 (.c (.one (.d (.bool false))))⟩, 0, []⟩]

abbrev i_spec_l12Mode_r1 : List RO := [
  ⟨⟨none, .mov 3 (.t 0)⟩, 0, []⟩,
  ⟨⟨none, .bin 4 .eql (.t 3) (.c (.one (.d (.int .i64 1))))⟩, 0, []⟩,
  ⟨⟨none, .mov 5 (.t 4)⟩, 0, []⟩,
  ⟨⟨some (5, false), .mov 6 (.t 0)⟩, 0, []⟩,
  ⟨⟨some (5, false), .bin 7 .eql (.t 6) (.c (.one (.d (.int .i64 2))))⟩, 0, []⟩,
  ⟨⟨none, .pick 8 (.t 5) (.c (.one (.d (.bool true)))) (.t 7)⟩, 0, []⟩,
  ⟨⟨none, .mov 2 (.t 8)⟩, 0, []⟩]

def i_spec_l12Mode : IC := (.seq (.reg i_spec_l12Mode_r0)
  (.seq (.reg i_spec_l12Mode_r1)
  .ret))

theorem i_spec_l12Mode_ok : (Try.f234.body.bind fun c => toIC Try.prog 9 c []) = some (i_spec_l12Mode, []) := by kernel_rfl

theorem i_spec_l12Mode_fn {ds rs : List D} (hle : ds.length ≤ 9) (h : AW Try.prog 9 i_spec_l12Mode (Ends [.tmp 2] rs) (init ds)) : Fn Try.prog k_spec_l12Mode (lent ds) true rs :=
  Fn.intro' (by kernel_rfl) Try.func234 (by kernel_rfl) i_spec_l12Mode_ok (by kernel_rfl) hle h.h

abbrev i_spec_l1Max_r0 : List RO := [
  ⟨⟨none, .mov 4 (.c (.one (.d (.int .i64 0))))⟩, 0, []⟩]

abbrev i_spec_l1Max_r1 : List RO := [
  ⟨⟨none, .mov 5 (.t 0)⟩, 0, []⟩,
  ⟨⟨none, .mov 6 (.t 1)⟩, 0, []⟩,
  ⟨⟨none, .bin 7 .gtr (.t 5) (.t 6)⟩, 0, []⟩]

abbrev i_spec_l1Max_r2 : List RO := [
  ⟨⟨none, .mov 8 (.t 0)⟩, 0, []⟩,
  ⟨⟨none, .mov 4 (.t 8)⟩, 0, []⟩]

abbrev i_spec_l1Max_r3 : List RO := [
  ⟨⟨none, .mov 9 (.t 1)⟩, 0, []⟩,
  ⟨⟨none, .mov 4 (.t 9)⟩, 0, []⟩]

def i_spec_l1Max : IC := (.seq (.reg i_spec_l1Max_r0)
  (.seq (.seq (.reg i_spec_l1Max_r1)
  (.cond (.t 7) (.seq (.reg i_spec_l1Max_r2)
  .ret) .skip))
  (.seq (.reg i_spec_l1Max_r3)
  .ret)))

theorem i_spec_l1Max_ok : (Try.f278.body.bind fun c => toIC Try.prog 10 c []) = some (i_spec_l1Max, []) := by kernel_rfl

theorem i_spec_l1Max_fn {ds rs : List D} (hle : ds.length ≤ 10) (h : AW Try.prog 10 i_spec_l1Max (Ends [.tmp 4] rs) (init ds)) : Fn Try.prog k_spec_l1Max (lent ds) true rs :=
  Fn.intro' (by kernel_rfl) Try.func278 (by kernel_rfl) i_spec_l1Max_ok (by kernel_rfl) hle h.h

abbrev i_spec_l1Min_r0 : List RO := [
  ⟨⟨none, .mov 4 (.c (.one (.d (.int .i64 0))))⟩, 0, []⟩]

abbrev i_spec_l1Min_r1 : List RO := [
  ⟨⟨none, .mov 5 (.t 0)⟩, 0, []⟩,
  ⟨⟨none, .mov 6 (.t 1)⟩, 0, []⟩,
  ⟨⟨none, .bin 7 .lss (.t 5) (.t 6)⟩, 0, []⟩]

abbrev i_spec_l1Min_r2 : List RO := [
  ⟨⟨none, .mov 8 (.t 0)⟩, 0, []⟩,
  ⟨⟨none, .mov 4 (.t 8)⟩, 0, []⟩]

abbrev i_spec_l1Min_r3 : List RO := [
  ⟨⟨none, .mov 9 (.t 1)⟩, 0, []⟩,
  ⟨⟨none, .mov 4 (.t 9)⟩, 0, []⟩]

def i_spec_l1Min : IC := (.seq (.reg i_spec_l1Min_r0)
  (.seq (.seq (.reg i_spec_l1Min_r1)
  (.cond (.t 7) (.seq (.reg i_spec_l1Min_r2)
  .ret) .skip))
  (.seq (.reg i_spec_l1Min_r3)
  .ret)))

theorem i_spec_l1Min_ok : (Try.f229.body.bind fun c => toIC Try.prog 10 c []) = some (i_spec_l1Min, []) := by kernel_rfl

theorem i_spec_l1Min_fn {ds rs : List D} (hle : ds.length ≤ 10) (h : AW Try.prog 10 i_spec_l1Min (Ends [.tmp 4] rs) (init ds)) : Fn Try.prog k_spec_l1Min (lent ds) true rs :=
  Fn.intro' (by kernel_rfl) Try.func229 (by kernel_rfl) i_spec_l1Min_ok (by kernel_rfl) hle h.h

abbrev i_spec_RangeMeet_r0 : List RO := [
  ⟨⟨none, .box 2 (.t 0)⟩, 0, []⟩,
  ⟨⟨none, .box 3 (.t 1)⟩, 0, []⟩,
  ⟨⟨none, .var 4 [(.d (.int .i64 0)), (.d (.int .i64 0))]⟩, 0, []⟩,
  ⟨⟨none, .mov 5 (.c (.one (.d (.bool false))))⟩, 0, []⟩]

abbrev i_spec_RangeMeet_r1 : List RO := [
  ⟨⟨none, .faddr 7 0 (.t 2)⟩, 0, []⟩,
  ⟨⟨none, .load 8 none (.t 7)⟩, 1, [6]⟩,
  ⟨⟨none, .faddr 9 0 (.t 3)⟩, 0, []⟩,
  ⟨⟨none, .load 10 none (.t 9)⟩, 4, [6]⟩,
  ⟨⟨none, .callv 11 (.c (.one (.fn k_spec_l1Max []))) [(.t 8), (.t 10)]⟩, 15, [6]⟩,
  ⟨⟨none, .faddr 12 1 (.t 2)⟩, 0, []⟩,
  ⟨⟨none, .load 13 none (.t 12)⟩, 32, [11, 6]⟩,
  ⟨⟨none, .faddr 14 1 (.t 3)⟩, 0, []⟩,
  ⟨⟨none, .load 15 none (.t 14)⟩, 128, [11, 6]⟩,
  ⟨⟨none, .callv 16 (.c (.one (.fn k_spec_l1Min []))) [(.t 13), (.t 15)]⟩, 511, [6]⟩,
  ⟨⟨none, .build 17 [(.d (.int .i64 0)), (.d (.int .i64 0))] [(0, 1, (.t 11)), (1, 1, (.t 16))]⟩, 1023, []⟩,
  ⟨⟨none, .var 6 [(.d (.int .i64 0)), (.d (.int .i64 0))]⟩, 0, [11, 16]⟩,
  ⟨⟨none, .store 2 [(.int .i64 0), (.int .i64 0)] (.t 6) (.t 17)⟩, 4095, []⟩]

abbrev i_spec_RangeMeet_r2 : List RO := [
  ⟨⟨none, .load 18 (some 2) (.t 2)⟩, 0, []⟩,
  ⟨⟨none, .callv 19 (.c (.one (.fn k_spec_RangeOk []))) [(.t 18)]⟩, 0, []⟩,
  ⟨⟨none, .inv 20 (.t 19)⟩, 0, []⟩,
  ⟨⟨none, .mov 21 (.t 20)⟩, 0, []⟩,
  ⟨⟨some (21, false), .load 22 (some 2) (.t 3)⟩, 0, []⟩,
  ⟨⟨some (21, false), .callv 23 (.c (.one (.fn k_spec_RangeOk []))) [(.t 22)]⟩, 0, []⟩,
  ⟨⟨some (21, false), .inv 24 (.t 23)⟩, 0, []⟩,
  ⟨⟨none, .pick 25 (.t 21) (.c (.one (.d (.bool true)))) (.t 24)⟩, 0, []⟩,
  ⟨⟨none, .mov 26 (.t 25)⟩, 0, []⟩,
  ⟨⟨some (26, false), .load 27 (some 2) (.t 6)⟩, 0, []⟩,
  ⟨⟨some (26, false), .callv 28 (.c (.one (.fn k_spec_RangeOk []))) [(.t 27)]⟩, 0, []⟩,
  ⟨⟨some (26, false), .inv 29 (.t 28)⟩, 0, []⟩,
  ⟨⟨none, .pick 30 (.t 26) (.c (.one (.d (.bool true)))) (.t 29)⟩, 0, []⟩]

abbrev i_spec_RangeMeet_r3 : List RO := [
  ⟨⟨none, .build 31 [(.d (.int .i64 0)), (.d (.int .i64 0))] []⟩, 0, []⟩,
  ⟨⟨none, .store 2 [(.int .i64 0), (.int .i64 0)] (.t 4) (.t 31)⟩, 0, []⟩,
  ⟨⟨none, .mov 5 (.c (.one (.d (.bool false))))⟩, 0, []⟩]

abbrev i_spec_RangeMeet_r4 : List RO := [
  ⟨⟨none, .load 32 (some 2) (.t 6)⟩, 0, []⟩,
  ⟨⟨none, .store 2 [(.int .i64 0), (.int .i64 0)] (.t 4) (.t 32)⟩, 0, []⟩,
  ⟨⟨none, .mov 5 (.c (.one (.d (.bool true))))⟩, 0, []⟩]

def i_spec_RangeMeet : IC := (.seq (.reg i_spec_RangeMeet_r0)
  (.seq (.regd i_spec_RangeMeet_r1)
  (.seq (.seq (.reg i_spec_RangeMeet_r2)
  (.cond (.t 30) (.seq (.reg i_spec_RangeMeet_r3)
  .ret) .skip))
  (.seq (.reg i_spec_RangeMeet_r4)
  .ret))))

theorem i_spec_RangeMeet_ok : (Try.f266.body.bind fun c => toIC Try.prog 33 c [[(0, []), (1, [6]), (0, []), (4, [6]), (15, [6]), (0, []), (32, [11, 6]), (0, []), (128, [11, 6]), (511, [6]), (1023, []), (0, [11, 16]), (4095, [])]]) = some (i_spec_RangeMeet, []) := by kernel_rfl

theorem i_spec_RangeMeet_fn {ds rs : List D} (hle : ds.length ≤ 33) (h : AW Try.prog 33 i_spec_RangeMeet (Ends [.cell 4 (some 2), .tmp 5] rs) (init ds)) : Fn Try.prog k_spec_RangeMeet (lent ds) true rs :=
  Fn.intro' (by kernel_rfl) Try.func266 (by kernel_rfl) i_spec_RangeMeet_ok (by kernel_rfl) hle h.h

abbrev i_spec_l12Clash_r0 : List RO := [
  ⟨⟨none, .box 2 (.t 0)⟩, 0, []⟩,
  ⟨⟨none, .box 3 (.t 1)⟩, 0, []⟩,
  ⟨⟨none, .mov 4 (.c (.one (.d (.bool false))))⟩, 0, []⟩]

abbrev i_spec_l12Clash_r1 : List RO := [
  ⟨⟨none, .load 8 (some 4) (.t 2)⟩, 0, [5]⟩,
  ⟨⟨none, .callv 9 (.c (.one (.fn k_spec_l12Range []))) [(.t 8)]⟩, 1, [5]⟩,
  ⟨⟨none, .load 10 (some 4) (.t 3)⟩, 0, [9, 5]⟩,
  ⟨⟨none, .callv 11 (.c (.one (.fn k_spec_l12Range []))) [(.t 10)]⟩, 7, [5]⟩,
  ⟨⟨none, .callv 12 (.c (.one (.fn k_spec_RangeMeet []))) [(.t 9), (.t 11)]⟩, 15, [5]⟩,
  ⟨⟨none, .mov 7 (.t 12)⟩, 31, []⟩,
  ⟨⟨none, .ext 13 (.t 7) 0⟩, 63, []⟩,
  ⟨⟨none, .ext 14 (.t 7) 1⟩, 63, []⟩,
  ⟨⟨none, .var 5 [(.d (.int .i64 0)), (.d (.int .i64 0))]⟩, 0, [9, 11, 12]⟩,
  ⟨⟨none, .store 2 [(.int .i64 0), (.int .i64 0)] (.t 5) (.t 13)⟩, 383, []⟩,
  ⟨⟨none, .mov 6 (.t 14)⟩, 1023, []⟩]

abbrev i_spec_l12Clash_r2 : List RO := [
  ⟨⟨none, .mov 15 (.t 6)⟩, 0, []⟩,
  ⟨⟨none, .mov 16 (.t 15)⟩, 0, []⟩,
  ⟨⟨some (16, true), .faddr 17 0 (.t 2)⟩, 0, []⟩,
  ⟨⟨some (16, true), .load 18 none (.t 17)⟩, 0, []⟩,
  ⟨⟨some (16, true), .faddr 19 0 (.t 3)⟩, 0, []⟩,
  ⟨⟨some (16, true), .load 20 none (.t 19)⟩, 0, []⟩,
  ⟨⟨some (16, true), .bin 21 .neq (.t 18) (.t 20)⟩, 0, []⟩,
  ⟨⟨none, .pick 22 (.t 16) (.t 21) (.c (.one (.d (.bool false))))⟩, 0, []⟩,
  ⟨⟨none, .mov 23 (.t 22)⟩, 0, []⟩,
  ⟨⟨some (23, true), .faddr 24 3 (.t 2)⟩, 0, []⟩,
  ⟨⟨some (23, true), .load 25 none (.t 24)⟩, 0, []⟩,
  ⟨⟨some (23, true), .bin 26 .eql (.t 25) (.c (.one (.d (.int .i64 2))))⟩, 0, []⟩,
  ⟨⟨some (23, true), .mov 27 (.t 26)⟩, 0, []⟩,
  ⟨⟨some (27, false), .faddr 28 3 (.t 3)⟩, 0, []⟩,
  ⟨⟨some (27, false), .load 29 none (.t 28)⟩, 0, []⟩,
  ⟨⟨some (27, false), .bin 30 .eql (.t 29) (.c (.one (.d (.int .i64 2))))⟩, 0, []⟩,
  ⟨⟨some (23, true), .pick 31 (.t 27) (.c (.one (.d (.bool true)))) (.t 30)⟩, 0, []⟩,
  ⟨⟨none, .pick 32 (.t 23) (.t 31) (.c (.one (.d (.bool false))))⟩, 0, []⟩,
  ⟨⟨none, .mov 4 (.t 32)⟩, 0, []⟩]

def i_spec_l12Clash : IC := (.seq (.reg i_spec_l12Clash_r0)
  (.seq (.regd i_spec_l12Clash_r1)
  (.seq (.reg i_spec_l12Clash_r2)
  .ret)))

theorem i_spec_l12Clash_ok : (Try.f237.body.bind fun c => toIC Try.prog 33 c [[(0, [5]), (1, [5]), (0, [9, 5]), (7, [5]), (15, [5]), (31, []), (63, []), (63, []), (0, [9, 11, 12]), (383, []), (1023, [])]]) = some (i_spec_l12Clash, []) := by kernel_rfl

theorem i_spec_l12Clash_fn {ds rs : List D} (hle : ds.length ≤ 33) (h : AW Try.prog 33 i_spec_l12Clash (Ends [.tmp 4] rs) (init ds)) : Fn Try.prog k_spec_l12Clash (lent ds) true rs :=
  Fn.intro' (by kernel_rfl) Try.func237 (by kernel_rfl) i_spec_l12Clash_ok (by kernel_rfl) hle h.h

abbrev i_spec_LocksOk_r0 : List RO := [
  ⟨⟨none, .mov 2 (.c (.one (.d (.bool false))))⟩, 0, []⟩]

abbrev i_spec_LocksOk_r1 : List RO := [
  ⟨⟨none, .mov 5 (.t 0)⟩, 0, []⟩,
  ⟨⟨none, .len 6 false (.t 5)⟩, 0, []⟩,
  ⟨⟨none, .bin 7 .gtr (.t 6) (.c (.one (.d (.int .i64 40))))⟩, 0, []⟩]

abbrev i_spec_LocksOk_r2 : List RO := [
  ⟨⟨none, .mov 2 (.c (.one (.d (.bool false))))⟩, 0, []⟩]

abbrev i_spec_LocksOk_r3 : List RO := [
  ⟨⟨none, .mov 3 (.c (.one (.d (.int .i64 0))))⟩, 0, []⟩]

abbrev i_spec_LocksOk_r4 : List RO := [
  ⟨⟨none, .mov 8 (.t 3)⟩, 0, []⟩,
  ⟨⟨none, .mov 9 (.t 0)⟩, 0, []⟩,
  ⟨⟨none, .len 10 false (.t 9)⟩, 0, []⟩,
  ⟨⟨none, .bin 11 .lss (.t 8) (.t 10)⟩, 0, []⟩]

abbrev i_spec_LocksOk_r5 : List RO := [
  ⟨⟨none, .mov 14 (.t 0)⟩, 0, []⟩,
  ⟨⟨none, .mov 15 (.t 3)⟩, 0, []⟩,
  ⟨⟨none, .iaddr 16 4 (.t 14) (.t 15)⟩, 0, []⟩,
  ⟨⟨none, .faddr 17 0 (.t 16)⟩, 0, []⟩,
  ⟨⟨none, .load 18 none (.t 17)⟩, 0, []⟩,
  ⟨⟨none, .callv 19 (.c (.one (.fn k_spec_l12Tx []))) [(.t 18)]⟩, 0, []⟩,
  ⟨⟨none, .inv 20 (.t 19)⟩, 0, []⟩,
  ⟨⟨none, .mov 21 (.t 20)⟩, 0, []⟩,
  ⟨⟨some (21, false), .mov 22 (.t 0)⟩, 0, []⟩,
  ⟨⟨some (21, false), .mov 23 (.t 3)⟩, 0, []⟩,
  ⟨⟨some (21, false), .iaddr 24 4 (.t 22) (.t 23)⟩, 0, []⟩,
  ⟨⟨some (21, false), .load 25 (some 4) (.t 24)⟩, 0, []⟩,
  ⟨⟨some (21, false), .callv 26 (.c (.one (.fn k_spec_l12Range []))) [(.t 25)]⟩, 0, []⟩,
  ⟨⟨some (21, false), .callv 27 (.c (.one (.fn k_spec_RangeOk []))) [(.t 26)]⟩, 0, []⟩,
  ⟨⟨some (21, false), .inv 28 (.t 27)⟩, 0, []⟩,
  ⟨⟨none, .pick 29 (.t 21) (.c (.one (.d (.bool true)))) (.t 28)⟩, 0, []⟩,
  ⟨⟨none, .mov 30 (.t 29)⟩, 0, []⟩,
  ⟨⟨some (30, false), .mov 31 (.t 0)⟩, 0, []⟩,
  ⟨⟨some (30, false), .mov 32 (.t 3)⟩, 0, []⟩,
  ⟨⟨some (30, false), .iaddr 33 4 (.t 31) (.t 32)⟩, 0, []⟩,
  ⟨⟨some (30, false), .faddr 34 3 (.t 33)⟩, 0, []⟩,
  ⟨⟨some (30, false), .load 35 none (.t 34)⟩, 0, []⟩,
  ⟨⟨some (30, false), .callv 36 (.c (.one (.fn k_spec_l12Mode []))) [(.t 35)]⟩, 0, []⟩,
  ⟨⟨some (30, false), .inv 37 (.t 36)⟩, 0, []⟩,
  ⟨⟨none, .pick 38 (.t 30) (.c (.one (.d (.bool true)))) (.t 37)⟩, 0, []⟩]

abbrev i_spec_LocksOk_r6 : List RO := [
  ⟨⟨none, .mov 2 (.c (.one (.d (.bool false))))⟩, 0, []⟩]

abbrev i_spec_LocksOk_r7 : List RO := [
  ⟨⟨none, .mov 4 (.c (.one (.d (.int .i64 0))))⟩, 0, []⟩]

abbrev i_spec_LocksOk_r8 : List RO := [
  ⟨⟨none, .mov 39 (.t 4)⟩, 0, []⟩,
  ⟨⟨none, .mov 40 (.t 3)⟩, 0, []⟩,
  ⟨⟨none, .bin 41 .lss (.t 39) (.t 40)⟩, 0, []⟩]

abbrev i_spec_LocksOk_r9 : List RO := [
  ⟨⟨none, .mov 44 (.t 0)⟩, 0, []⟩,
  ⟨⟨none, .mov 45 (.t 3)⟩, 0, []⟩,
  ⟨⟨none, .iaddr 46 4 (.t 44) (.t 45)⟩, 3, []⟩,
  ⟨⟨none, .load 47 (some 4) (.t 46)⟩, 7, []⟩,
  ⟨⟨none, .mov 48 (.t 0)⟩, 0, []⟩,
  ⟨⟨none, .mov 49 (.t 4)⟩, 0, []⟩,
  ⟨⟨none, .iaddr 50 4 (.t 48) (.t 49)⟩, 48, []⟩,
  ⟨⟨none, .load 51 (some 4) (.t 50)⟩, 112, []⟩,
  ⟨⟨none, .callv 52 (.c (.one (.fn k_spec_l12Clash []))) [(.t 47), (.t 51)]⟩, 255, []⟩]

abbrev i_spec_LocksOk_r10 : List RO := [
  ⟨⟨none, .mov 2 (.c (.one (.d (.bool false))))⟩, 0, []⟩]

abbrev i_spec_LocksOk_r11 : List RO := [
  ⟨⟨none, .mov 42 (.t 4)⟩, 0, []⟩,
  ⟨⟨none, .bin 43 .add (.t 42) (.c (.one (.d (.int .i64 1))))⟩, 0, []⟩,
  ⟨⟨none, .mov 4 (.t 43)⟩, 0, []⟩]

abbrev i_spec_LocksOk_r12 : List RO := [
  ⟨⟨none, .mov 12 (.t 3)⟩, 0, []⟩,
  ⟨⟨none, .bin 13 .add (.t 12) (.c (.one (.d (.int .i64 1))))⟩, 0, []⟩,
  ⟨⟨none, .mov 3 (.t 13)⟩, 0, []⟩]

abbrev i_spec_LocksOk_r13 : List RO := [
  ⟨⟨none, .mov 2 (.c (.one (.d (.bool true))))⟩, 0, []⟩]

def i_spec_LocksOk : IC := (.seq (.reg i_spec_LocksOk_r0)
  (.seq (.seq (.reg i_spec_LocksOk_r1)
  (.cond (.t 7) (.seq (.reg i_spec_LocksOk_r2)
  .ret) .skip))
  (.seq (.seq (.reg i_spec_LocksOk_r3)
  (.block 0 (.loop (.seq (.seq (.reg i_spec_LocksOk_r4)
  (.cond (.t 11) .skip (.exit 0)))
  (.seq (.block 1 (.seq (.seq (.reg i_spec_LocksOk_r5)
  (.cond (.t 38) (.seq (.reg i_spec_LocksOk_r6)
  .ret) .skip))
  (.seq (.reg i_spec_LocksOk_r7)
  (.block 2 (.loop (.seq (.seq (.reg i_spec_LocksOk_r8)
  (.cond (.t 41) .skip (.exit 2)))
  (.seq (.block 3 (.seq (.regd i_spec_LocksOk_r9)
  (.cond (.t 52) (.seq (.reg i_spec_LocksOk_r10)
  .ret) .skip)))
  (.reg i_spec_LocksOk_r11))))))))
  (.reg i_spec_LocksOk_r12))))))
  (.seq (.reg i_spec_LocksOk_r13)
  .ret))))

theorem i_spec_LocksOk_ok : (Try.f232.body.bind fun c => toIC Try.prog 53 c [[(0, []), (0, []), (3, []), (7, []), (0, []), (0, []), (48, []), (112, []), (255, [])]]) = some (i_spec_LocksOk, []) := by kernel_rfl

theorem i_spec_LocksOk_fn {ds rs : List D} (hle : ds.length ≤ 53) (h : AW Try.prog 53 i_spec_LocksOk (Ends [.tmp 2] rs) (init ds)) : Fn Try.prog k_spec_LocksOk (lent ds) true rs :=
  Fn.intro' (by kernel_rfl) Try.func232 (by kernel_rfl) i_spec_LocksOk_ok (by kernel_rfl) hle h.h

abbrev i_spec_l12Right_r0 : List RO := [
  ⟨⟨none, .box 8 (.t 3)⟩, 0, []⟩,
  ⟨⟨none, .mov 10 (.c (.one (.d (.bool false))))⟩, 0, []⟩]

abbrev i_spec_l12Right_r1 : List RO := [
  ⟨⟨none, .mov 11 (.t 0)⟩, 0, []⟩,
  ⟨⟨none, .callv 12 (.c (.one (.fn k_spec_LocksOk []))) [(.t 11)]⟩, 0, []⟩,
  ⟨⟨none, .mov 13 (.t 12)⟩, 0, []⟩,
  ⟨⟨some (13, true), .mov 14 (.t 1)⟩, 0, []⟩,
  ⟨⟨some (13, true), .len 15 false (.t 14)⟩, 0, []⟩,
  ⟨⟨some (13, true), .bin 16 .leq (.t 15) (.c (.one (.d (.int .i64 60))))⟩, 0, []⟩,
  ⟨⟨none, .pick 17 (.t 13) (.t 16) (.c (.one (.d (.bool false))))⟩, 0, []⟩,
  ⟨⟨none, .mov 18 (.t 17)⟩, 0, []⟩,
  ⟨⟨some (18, true), .mov 19 (.t 2)⟩, 0, []⟩,
  ⟨⟨some (18, true), .callv 20 (.c (.one (.fn k_spec_l12Tx []))) [(.t 19)]⟩, 0, []⟩,
  ⟨⟨none, .pick 21 (.t 18) (.t 20) (.c (.one (.d (.bool false))))⟩, 0, []⟩,
  ⟨⟨none, .mov 22 (.t 21)⟩, 0, []⟩,
  ⟨⟨some (22, true), .load 23 (some 2) (.t 8)⟩, 0, []⟩,
  ⟨⟨some (22, true), .callv 24 (.c (.one (.fn k_spec_RangeOk []))) [(.t 23)]⟩, 0, []⟩,
  ⟨⟨none, .pick 25 (.t 22) (.t 24) (.c (.one (.d (.bool false))))⟩, 0, []⟩,
  ⟨⟨none, .mov 26 (.t 25)⟩, 0, []⟩,
  ⟨⟨some (26, true), .mov 27 (.t 4)⟩, 0, []⟩,
  ⟨⟨some (26, true), .callv 28 (.c (.one (.fn k_spec_l12Mode []))) [(.t 27)]⟩, 0, []⟩,
  ⟨⟨none, .pick 29 (.t 26) (.t 28) (.c (.one (.d (.bool false))))⟩, 0, []⟩,
  ⟨⟨none, .mov 10 (.t 29)⟩, 0, []⟩]

def i_spec_l12Right : IC := (.seq (.reg i_spec_l12Right_r0)
  (.seq (.reg i_spec_l12Right_r1)
  .ret))

theorem i_spec_l12Right_ok : (Try.f149.body.bind fun c => toIC Try.prog 30 c []) = some (i_spec_l12Right, []) := by kernel_rfl

theorem i_spec_l12Right_fn {ds rs : List D} (hle : ds.length ≤ 30) (h : AW Try.prog 30 i_spec_l12Right (Ends [.tmp 10] rs) (init ds)) : Fn Try.prog k_spec_l12Right (lent ds) true rs :=
  Fn.intro' (by kernel_rfl) Try.func149 (by kernel_rfl) i_spec_l12Right_ok (by kernel_rfl) hle h.h

abbrev i_spec_RangeIn_r0 : List RO := [
  ⟨⟨none, .box 2 (.t 0)⟩, 0, []⟩,
  ⟨⟨none, .box 3 (.t 1)⟩, 0, []⟩,
  ⟨⟨none, .mov 4 (.c (.one (.d (.bool false))))⟩, 0, []⟩]

abbrev i_spec_RangeIn_r1 : List RO := [
  ⟨⟨none, .load 5 (some 2) (.t 2)⟩, 0, []⟩,
  ⟨⟨none, .callv 6 (.c (.one (.fn k_spec_RangeOk []))) [(.t 5)]⟩, 0, []⟩,
  ⟨⟨none, .mov 7 (.t 6)⟩, 0, []⟩,
  ⟨⟨some (7, true), .load 8 (some 2) (.t 3)⟩, 0, []⟩,
  ⟨⟨some (7, true), .callv 9 (.c (.one (.fn k_spec_RangeOk []))) [(.t 8)]⟩, 0, []⟩,
  ⟨⟨none, .pick 10 (.t 7) (.t 9) (.c (.one (.d (.bool false))))⟩, 0, []⟩,
  ⟨⟨none, .mov 11 (.t 10)⟩, 0, []⟩,
  ⟨⟨some (11, true), .faddr 12 0 (.t 2)⟩, 0, []⟩,
  ⟨⟨some (11, true), .load 13 none (.t 12)⟩, 0, []⟩,
  ⟨⟨some (11, true), .faddr 14 0 (.t 3)⟩, 0, []⟩,
  ⟨⟨some (11, true), .load 15 none (.t 14)⟩, 0, []⟩,
  ⟨⟨some (11, true), .bin 16 .geq (.t 13) (.t 15)⟩, 0, []⟩,
  ⟨⟨none, .pick 17 (.t 11) (.t 16) (.c (.one (.d (.bool false))))⟩, 0, []⟩,
  ⟨⟨none, .mov 18 (.t 17)⟩, 0, []⟩,
  ⟨⟨some (18, true), .faddr 19 1 (.t 2)⟩, 0, []⟩,
  ⟨⟨some (18, true), .load 20 none (.t 19)⟩, 0, []⟩,
  ⟨⟨some (18, true), .faddr 21 1 (.t 3)⟩, 0, []⟩,
  ⟨⟨some (18, true), .load 22 none (.t 21)⟩, 0, []⟩,
  ⟨⟨some (18, true), .bin 23 .leq (.t 20) (.t 22)⟩, 0, []⟩,
  ⟨⟨none, .pick 24 (.t 18) (.t 23) (.c (.one (.d (.bool false))))⟩, 0, []⟩,
  ⟨⟨none, .mov 4 (.t 24)⟩, 0, []⟩]

def i_spec_RangeIn : IC := (.seq (.reg i_spec_RangeIn_r0)
  (.seq (.reg i_spec_RangeIn_r1)
  .ret))

theorem i_spec_RangeIn_ok : (Try.f235.body.bind fun c => toIC Try.prog 25 c []) = some (i_spec_RangeIn, []) := by kernel_rfl

theorem i_spec_RangeIn_fn {ds rs : List D} (hle : ds.length ≤ 25) (h : AW Try.prog 25 i_spec_RangeIn (Ends [.tmp 4] rs) (init ds)) : Fn Try.prog k_spec_RangeIn (lent ds) true rs :=
  Fn.intro' (by kernel_rfl) Try.func235 (by kernel_rfl) i_spec_RangeIn_ok (by kernel_rfl) hle h.h

abbrev i_spec_l12Holds_r0 : List RO := [
  ⟨⟨none, .box 6 (.t 2)⟩, 0, []⟩,
  ⟨⟨none, .mov 8 (.c (.one (.d (.bool false))))⟩, 0, []⟩]

abbrev i_spec_l12Holds_r1 : List RO := [
  ⟨⟨none, .mov 9 (.c (.one (.d (.int .i64 0))))⟩, 0, []⟩]

abbrev i_spec_l12Holds_r2 : List RO := [
  ⟨⟨none, .mov 10 (.t 9)⟩, 0, []⟩,
  ⟨⟨none, .mov 11 (.t 0)⟩, 0, []⟩,
  ⟨⟨none, .len 12 false (.t 11)⟩, 0, []⟩,
  ⟨⟨none, .bin 13 .lss (.t 10) (.t 12)⟩, 0, []⟩]

abbrev i_spec_l12Holds_r3 : List RO := [
  ⟨⟨none, .mov 16 (.t 0)⟩, 0, []⟩,
  ⟨⟨none, .mov 17 (.t 9)⟩, 0, []⟩,
  ⟨⟨none, .iaddr 18 4 (.t 16) (.t 17)⟩, 3, []⟩,
  ⟨⟨none, .faddr 19 0 (.t 18)⟩, 7, []⟩,
  ⟨⟨none, .load 20 none (.t 19)⟩, 15, []⟩,
  ⟨⟨none, .mov 21 (.t 1)⟩, 0, []⟩,
  ⟨⟨none, .bin 22 .eql (.t 20) (.t 21)⟩, 63, []⟩,
  ⟨⟨none, .mov 23 (.t 22)⟩, 127, []⟩,
  ⟨⟨some (23, true), .load 24 (some 2) (.t 6)⟩, 255, [29]⟩,
  ⟨⟨some (23, true), .mov 25 (.t 0)⟩, 255, []⟩,
  ⟨⟨some (23, true), .mov 26 (.t 9)⟩, 255, []⟩,
  ⟨⟨some (23, true), .iaddr 27 4 (.t 25) (.t 26)⟩, 1791, []⟩,
  ⟨⟨some (23, true), .load 28 (some 4) (.t 27)⟩, 3839, []⟩,
  ⟨⟨some (23, true), .callv 29 (.c (.one (.fn k_spec_l12Range []))) [(.t 28)]⟩, 7935, []⟩,
  ⟨⟨some (23, true), .callv 30 (.c (.one (.fn k_spec_RangeIn []))) [(.t 24), (.t 29)]⟩, 16383, []⟩,
  ⟨⟨none, .pick 31 (.t 23) (.t 30) (.c (.one (.d (.bool false))))⟩, 32767, []⟩,
  ⟨⟨none, .mov 32 (.t 31)⟩, 65535, []⟩,
  ⟨⟨some (32, true), .mov 33 (.t 0)⟩, 131071, []⟩,
  ⟨⟨some (32, true), .mov 34 (.t 9)⟩, 131071, []⟩,
  ⟨⟨some (32, true), .iaddr 35 4 (.t 33) (.t 34)⟩, 524287, []⟩,
  ⟨⟨some (32, true), .faddr 36 3 (.t 35)⟩, 1048575, []⟩,
  ⟨⟨some (32, true), .load 37 none (.t 36)⟩, 2097151, []⟩,
  ⟨⟨some (32, true), .mov 38 (.t 3)⟩, 131071, []⟩,
  ⟨⟨some (32, true), .bin 39 .geq (.t 37) (.t 38)⟩, 8388607, []⟩,
  ⟨⟨none, .pick 40 (.t 32) (.t 39) (.c (.one (.d (.bool false))))⟩, 16777215, []⟩]

abbrev i_spec_l12Holds_r4 : List RO := [
  ⟨⟨none, .mov 8 (.c (.one (.d (.bool true))))⟩, 0, []⟩]

abbrev i_spec_l12Holds_r5 : List RO := [
  ⟨⟨none, .mov 14 (.t 9)⟩, 0, []⟩,
  ⟨⟨none, .bin 15 .add (.t 14) (.c (.one (.d (.int .i64 1))))⟩, 0, []⟩,
  ⟨⟨none, .mov 9 (.t 15)⟩, 0, []⟩]

abbrev i_spec_l12Holds_r6 : List RO := [
  ⟨⟨none, .mov 8 (.c (.one (.d (.bool false))))⟩, 0, []⟩]

def i_spec_l12Holds : IC := (.seq (.reg i_spec_l12Holds_r0)
  (.seq (.seq (.reg i_spec_l12Holds_r1)
  (.block 0 (.loop (.seq (.seq (.reg i_spec_l12Holds_r2)
  (.cond (.t 13) .skip (.exit 0)))
  (.seq (.block 1 (.seq (.regd i_spec_l12Holds_r3)
  (.cond (.t 40) (.seq (.reg i_spec_l12Holds_r4)
  .ret) .skip)))
  (.reg i_spec_l12Holds_r5))))))
  (.seq (.reg i_spec_l12Holds_r6)
  .ret)))

theorem i_spec_l12Holds_ok : (Try.f150.body.bind fun c => toIC Try.prog 41 c [[(0, []), (0, []), (3, []), (7, []), (15, []), (0, []), (63, []), (127, []), (255, [29]), (255, []), (255, []), (1791, []), (3839, []), (7935, []), (16383, []), (32767, []), (65535, []), (131071, []), (131071, []), (524287, []), (1048575, []), (2097151, []), (131071, []), (8388607, []), (16777215, [])]]) = some (i_spec_l12Holds, []) := by kernel_rfl

theorem i_spec_l12Holds_fn {ds rs : List D} (hle : ds.length ≤ 41) (h : AW Try.prog 41 i_spec_l12Holds (Ends [.tmp 8] rs) (init ds)) : Fn Try.prog k_spec_l12Holds (lent ds) true rs :=
  Fn.intro' (by kernel_rfl) Try.func150 (by kernel_rfl) i_spec_l12Holds_ok (by kernel_rfl) hle h.h

abbrev i_spec_l12Put_r0 : List RO := [
  ⟨⟨none, .mov 4 (.c (.one .zs))⟩, 0, []⟩]

abbrev i_spec_l12Put_r1 : List RO := [
  ⟨⟨none, .bslice 8 1 [] []⟩, 0, []⟩,
  ⟨⟨none, .mov 5 (.t 8)⟩, 0, []⟩]

abbrev i_spec_l12Put_r2 : List RO := [
  ⟨⟨none, .mov 6 (.c (.one (.d (.bool false))))⟩, 0, []⟩]

abbrev i_spec_l12Put_r3 : List RO := [
  ⟨⟨none, .mov 7 (.c (.one (.d (.int .i64 0))))⟩, 0, []⟩]

abbrev i_spec_l12Put_r4 : List RO := [
  ⟨⟨none, .mov 9 (.t 7)⟩, 0, []⟩,
  ⟨⟨none, .mov 10 (.t 0)⟩, 0, []⟩,
  ⟨⟨none, .len 11 false (.t 10)⟩, 0, []⟩,
  ⟨⟨none, .bin 12 .lss (.t 9) (.t 11)⟩, 0, []⟩]

abbrev i_spec_l12Put_r5 : List RO := [
  ⟨⟨none, .mov 15 (.t 6)⟩, 0, []⟩,
  ⟨⟨none, .inv 16 (.t 15)⟩, 0, []⟩,
  ⟨⟨none, .mov 17 (.t 16)⟩, 0, []⟩,
  ⟨⟨some (17, true), .mov 18 (.t 0)⟩, 0, []⟩,
  ⟨⟨some (17, true), .mov 19 (.t 7)⟩, 0, []⟩,
  ⟨⟨some (17, true), .iaddr 20 1 (.t 18) (.t 19)⟩, 0, []⟩,
  ⟨⟨some (17, true), .load 21 none (.t 20)⟩, 0, []⟩,
  ⟨⟨some (17, true), .mov 22 (.t 1)⟩, 0, []⟩,
  ⟨⟨some (17, true), .bin 23 .geq (.t 21) (.t 22)⟩, 0, []⟩,
  ⟨⟨none, .pick 24 (.t 17) (.t 23) (.c (.one (.d (.bool false))))⟩, 0, []⟩]

abbrev i_spec_l12Put_r6 : List RO := [
  ⟨⟨none, .mov 25 (.t 5)⟩, 0, []⟩,
  ⟨⟨none, .mov 26 (.t 1)⟩, 0, []⟩,
  ⟨⟨none, .bslice 27 1 [(.d (.int .i64 0))] [(0, 1, (.t 26))]⟩, 0, []⟩,
  ⟨⟨none, .app 28 1 8 [(.int .i64 0)] (.t 25) (.t 27)⟩, 0, []⟩,
  ⟨⟨none, .mov 5 (.t 28)⟩, 0, []⟩]

abbrev i_spec_l12Put_r7 : List RO := [
  ⟨⟨none, .mov 6 (.c (.one (.d (.bool true))))⟩, 0, []⟩]

abbrev i_spec_l12Put_r8 : List RO := [
  ⟨⟨none, .mov 29 (.t 0)⟩, 0, []⟩,
  ⟨⟨none, .mov 30 (.t 7)⟩, 0, []⟩,
  ⟨⟨none, .iaddr 31 1 (.t 29) (.t 30)⟩, 0, []⟩,
  ⟨⟨none, .load 32 none (.t 31)⟩, 0, []⟩,
  ⟨⟨none, .mov 33 (.t 1)⟩, 0, []⟩,
  ⟨⟨none, .bin 34 .neq (.t 32) (.t 33)⟩, 0, []⟩]

abbrev i_spec_l12Put_r9 : List RO := [
  ⟨⟨none, .mov 35 (.t 5)⟩, 0, []⟩,
  ⟨⟨none, .mov 36 (.t 0)⟩, 0, []⟩,
  ⟨⟨none, .mov 37 (.t 7)⟩, 0, []⟩,
  ⟨⟨none, .iaddr 38 1 (.t 36) (.t 37)⟩, 0, []⟩,
  ⟨⟨none, .load 39 none (.t 38)⟩, 0, []⟩,
  ⟨⟨none, .bslice 40 1 [(.d (.int .i64 0))] [(0, 1, (.t 39))]⟩, 0, []⟩,
  ⟨⟨none, .app 41 1 8 [(.int .i64 0)] (.t 35) (.t 40)⟩, 0, []⟩,
  ⟨⟨none, .mov 5 (.t 41)⟩, 0, []⟩]

abbrev i_spec_l12Put_r10 : List RO := [
  ⟨⟨none, .mov 13 (.t 7)⟩, 0, []⟩,
  ⟨⟨none, .bin 14 .add (.t 13) (.c (.one (.d (.int .i64 1))))⟩, 0, []⟩,
  ⟨⟨none, .mov 7 (.t 14)⟩, 0, []⟩]

abbrev i_spec_l12Put_r11 : List RO := [
  ⟨⟨none, .mov 42 (.t 6)⟩, 0, []⟩,
  ⟨⟨none, .inv 43 (.t 42)⟩, 0, []⟩]

abbrev i_spec_l12Put_r12 : List RO := [
  ⟨⟨none, .mov 44 (.t 5)⟩, 0, []⟩,
  ⟨⟨none, .mov 45 (.t 1)⟩, 0, []⟩,
  ⟨⟨none, .bslice 46 1 [(.d (.int .i64 0))] [(0, 1, (.t 45))]⟩, 0, []⟩,
  ⟨⟨none, .app 47 1 8 [(.int .i64 0)] (.t 44) (.t 46)⟩, 0, []⟩,
  ⟨⟨none, .mov 5 (.t 47)⟩, 0, []⟩]

abbrev i_spec_l12Put_r13 : List RO := [
  ⟨⟨none, .mov 48 (.t 5)⟩, 0, []⟩,
  ⟨⟨none, .mov 4 (.t 48)⟩, 0, []⟩]

def i_spec_l12Put : IC := (.seq (.reg i_spec_l12Put_r0)
  (.seq (.reg i_spec_l12Put_r1)
  (.seq (.reg i_spec_l12Put_r2)
  (.seq (.seq (.reg i_spec_l12Put_r3)
  (.block 0 (.loop (.seq (.seq (.reg i_spec_l12Put_r4)
  (.cond (.t 12) .skip (.exit 0)))
  (.seq (.block 1 (.seq (.seq (.reg i_spec_l12Put_r5)
  (.cond (.t 24) (.seq (.reg i_spec_l12Put_r6)
  (.reg i_spec_l12Put_r7)) .skip))
  (.seq (.reg i_spec_l12Put_r8)
  (.cond (.t 34) (.reg i_spec_l12Put_r9) .skip))))
  (.reg i_spec_l12Put_r10))))))
  (.seq (.seq (.reg i_spec_l12Put_r11)
  (.cond (.t 43) (.reg i_spec_l12Put_r12) .skip))
  (.seq (.reg i_spec_l12Put_r13)
  .ret))))))

theorem i_spec_l12Put_ok : (Try.f238.body.bind fun c => toIC Try.prog 49 c []) = some (i_spec_l12Put, []) := by kernel_rfl

theorem i_spec_l12Put_fn {ds rs : List D} (hle : ds.length ≤ 49) (h : AW Try.prog 49 i_spec_l12Put (Ends [.tmp 4] rs) (init ds)) : Fn Try.prog k_spec_l12Put (lent ds) true rs :=
  Fn.intro' (by kernel_rfl) Try.func238 (by kernel_rfl) i_spec_l12Put_ok (by kernel_rfl) hle h.h

abbrev i_spec_l12Foes_r0 : List RO := [
  ⟨⟨none, .box 3 (.t 1)⟩, 0, []⟩,
  ⟨⟨none, .mov 4 (.c (.one .zs))⟩, 0, []⟩]

abbrev i_spec_l12Foes_r1 : List RO := [
  ⟨⟨none, .bslice 7 1 [] []⟩, 0, []⟩,
  ⟨⟨none, .mov 5 (.t 7)⟩, 0, []⟩]

abbrev i_spec_l12Foes_r2 : List RO := [
  ⟨⟨none, .mov 6 (.c (.one (.d (.int .i64 0))))⟩, 0, []⟩]

abbrev i_spec_l12Foes_r3 : List RO := [
  ⟨⟨none, .mov 8 (.t 6)⟩, 0, []⟩,
  ⟨⟨none, .mov 9 (.t 0)⟩, 0, []⟩,
  ⟨⟨none, .len 10 false (.t 9)⟩, 0, []⟩,
  ⟨⟨none, .bin 11 .lss (.t 8) (.t 10)⟩, 0, []⟩]

abbrev i_spec_l12Foes_r4 : List RO := [
  ⟨⟨none, .mov 14 (.t 0)⟩, 0, []⟩,
  ⟨⟨none, .mov 15 (.t 6)⟩, 0, []⟩,
  ⟨⟨none, .iaddr 16 4 (.t 14) (.t 15)⟩, 3, []⟩,
  ⟨⟨none, .load 17 (some 4) (.t 16)⟩, 7, []⟩,
  ⟨⟨none, .load 18 (some 4) (.t 3)⟩, 0, []⟩,
  ⟨⟨none, .callv 19 (.c (.one (.fn k_spec_l12Clash []))) [(.t 17), (.t 18)]⟩, 31, []⟩]

abbrev i_spec_l12Foes_r5 : List RO := [
  ⟨⟨none, .mov 20 (.t 5)⟩, 0, []⟩,
  ⟨⟨none, .mov 21 (.t 0)⟩, 0, []⟩,
  ⟨⟨none, .mov 22 (.t 6)⟩, 0, []⟩,
  ⟨⟨none, .iaddr 23 4 (.t 21) (.t 22)⟩, 0, []⟩,
  ⟨⟨none, .faddr 24 0 (.t 23)⟩, 0, []⟩,
  ⟨⟨none, .load 25 none (.t 24)⟩, 0, []⟩,
  ⟨⟨none, .callv 26 (.c (.one (.fn k_spec_l12Put []))) [(.t 20), (.t 25)]⟩, 0, []⟩,
  ⟨⟨none, .mov 5 (.t 26)⟩, 0, []⟩]

abbrev i_spec_l12Foes_r6 : List RO := [
  ⟨⟨none, .mov 12 (.t 6)⟩, 0, []⟩,
  ⟨⟨none, .bin 13 .add (.t 12) (.c (.one (.d (.int .i64 1))))⟩, 0, []⟩,
  ⟨⟨none, .mov 6 (.t 13)⟩, 0, []⟩]

abbrev i_spec_l12Foes_r7 : List RO := [
  ⟨⟨none, .mov 27 (.t 5)⟩, 0, []⟩,
  ⟨⟨none, .mov 4 (.t 27)⟩, 0, []⟩]

def i_spec_l12Foes : IC := (.seq (.reg i_spec_l12Foes_r0)
  (.seq (.reg i_spec_l12Foes_r1)
  (.seq (.seq (.reg i_spec_l12Foes_r2)
  (.block 0 (.loop (.seq (.seq (.reg i_spec_l12Foes_r3)
  (.cond (.t 11) .skip (.exit 0)))
  (.seq (.block 1 (.seq (.regd i_spec_l12Foes_r4)
  (.cond (.t 19) (.reg i_spec_l12Foes_r5) .skip)))
  (.reg i_spec_l12Foes_r6))))))
  (.seq (.reg i_spec_l12Foes_r7)
  .ret))))

theorem i_spec_l12Foes_ok : (Try.f151.body.bind fun c => toIC Try.prog 28 c [[(0, []), (0, []), (3, []), (7, []), (0, []), (31, [])]]) = some (i_spec_l12Foes, []) := by kernel_rfl

theorem i_spec_l12Foes_fn {ds rs : List D} (hle : ds.length ≤ 28) (h : AW Try.prog 28 i_spec_l12Foes (Ends [.tmp 4] rs) (init ds)) : Fn Try.prog k_spec_l12Foes (lent ds) true rs :=
  Fn.intro' (by kernel_rfl) Try.func151 (by kernel_rfl) i_spec_l12Foes_ok (by kernel_rfl) hle h.h

abbrev i_spec_l12Has_r0 : List RO := [
  ⟨⟨none, .mov 4 (.c (.one (.d (.bool false))))⟩, 0, []⟩]

abbrev i_spec_l12Has_r1 : List RO := [
  ⟨⟨none, .mov 5 (.c (.one (.d (.int .i64 0))))⟩, 0, []⟩]

abbrev i_spec_l12Has_r2 : List RO := [
  ⟨⟨none, .mov 6 (.t 5)⟩, 0, []⟩,
  ⟨⟨none, .mov 7 (.t 0)⟩, 0, []⟩,
  ⟨⟨none, .len 8 false (.t 7)⟩, 0, []⟩,
  ⟨⟨none, .bin 9 .lss (.t 6) (.t 8)⟩, 0, []⟩]

abbrev i_spec_l12Has_r3 : List RO := [
  ⟨⟨none, .mov 12 (.t 0)⟩, 0, []⟩,
  ⟨⟨none, .mov 13 (.t 5)⟩, 0, []⟩,
  ⟨⟨none, .iaddr 14 1 (.t 12) (.t 13)⟩, 0, []⟩,
  ⟨⟨none, .load 15 none (.t 14)⟩, 0, []⟩,
  ⟨⟨none, .mov 16 (.t 1)⟩, 0, []⟩,
  ⟨⟨none, .bin 17 .eql (.t 15) (.t 16)⟩, 0, []⟩]

abbrev i_spec_l12Has_r4 : List RO := [
  ⟨⟨none, .mov 4 (.c (.one (.d (.bool true))))⟩, 0, []⟩]

abbrev i_spec_l12Has_r5 : List RO := [
  ⟨⟨none, .mov 10 (.t 5)⟩, 0, []⟩,
  ⟨⟨none, .bin 11 .add (.t 10) (.c (.one (.d (.int .i64 1))))⟩, 0, []⟩,
  ⟨⟨none, .mov 5 (.t 11)⟩, 0, []⟩]

abbrev i_spec_l12Has_r6 : List RO := [
  ⟨⟨none, .mov 4 (.c (.one (.d (.bool false))))⟩, 0, []⟩]

def i_spec_l12Has : IC := (.seq (.reg i_spec_l12Has_r0)
  (.seq (.seq (.reg i_spec_l12Has_r1)
  (.block 0 (.loop (.seq (.seq (.reg i_spec_l12Has_r2)
  (.cond (.t 9) .skip (.exit 0)))
  (.seq (.block 1 (.seq (.reg i_spec_l12Has_r3)
  (.cond (.t 17) (.seq (.reg i_spec_l12Has_r4)
  .ret) .skip)))
  (.reg i_spec_l12Has_r5))))))
  (.seq (.reg i_spec_l12Has_r6)
  .ret)))

theorem i_spec_l12Has_ok : (Try.f163.body.bind fun c => toIC Try.prog 18 c []) = some (i_spec_l12Has, []) := by kernel_rfl

theorem i_spec_l12Has_fn {ds rs : List D} (hle : ds.length ≤ 18) (h : AW Try.prog 18 i_spec_l12Has (Ends [.tmp 4] rs) (init ds)) : Fn Try.prog k_spec_l12Has (lent ds) true rs :=
  Fn.intro' (by kernel_rfl) Try.func163 (by kernel_rfl) i_spec_l12Has_ok (by kernel_rfl) hle h.h

abbrev i_spec_LocksWaits_r0 : List RO := [
  ⟨⟨none, .box 8 (.t 3)⟩, 0, []⟩,
  ⟨⟨none, .mov 10 (.c (.one .zs))⟩, 0, []⟩]

abbrev i_spec_LocksWaits_r1 : List RO := [
  ⟨⟨none, .bslice 14 1 [] []⟩, 0, []⟩,
  ⟨⟨none, .mov 11 (.t 14)⟩, 0, []⟩]

abbrev i_spec_LocksWaits_r2 : List RO := [
  ⟨⟨none, .mov 15 (.t 0)⟩, 0, []⟩,
  ⟨⟨none, .mov 16 (.t 1)⟩, 0, []⟩,
  ⟨⟨none, .mov 17 (.t 2)⟩, 0, []⟩,
  ⟨⟨none, .load 18 (some 2) (.t 8)⟩, 0, []⟩,
  ⟨⟨none, .mov 19 (.t 4)⟩, 0, []⟩,
  ⟨⟨none, .callv 20 (.c (.one (.fn k_spec_l12Right []))) [(.t 15), (.t 16), (.t 17), (.t 18), (.t 19)]⟩, 0, []⟩,
  ⟨⟨none, .inv 21 (.t 20)⟩, 0, []⟩,
  ⟨⟨none, .mov 22 (.t 21)⟩, 0, []⟩,
  ⟨⟨some (22, false), .mov 23 (.t 0)⟩, 0, []⟩,
  ⟨⟨some (22, false), .mov 24 (.t 2)⟩, 0, []⟩,
  ⟨⟨some (22, false), .load 25 (some 2) (.t 8)⟩, 0, []⟩,
  ⟨⟨some (22, false), .mov 26 (.t 4)⟩, 0, []⟩,
  ⟨⟨some (22, false), .callv 27 (.c (.one (.fn k_spec_l12Holds []))) [(.t 23), (.t 24), (.t 25), (.t 26)]⟩, 0, []⟩,
  ⟨⟨none, .pick 28 (.t 22) (.c (.one (.d (.bool true)))) (.t 27)⟩, 0, []⟩]

abbrev i_spec_LocksWaits_r3 : List RO := [
  ⟨⟨none, .mov 29 (.t 11)⟩, 0, []⟩,
  ⟨⟨none, .mov 10 (.t 29)⟩, 0, []⟩]

abbrev i_spec_LocksWaits_r4 : List RO := [
  ⟨⟨none, .mov 30 (.t 0)⟩, 0, []⟩,
  ⟨⟨none, .mov 31 (.t 2)⟩, 0, []⟩,
  ⟨⟨none, .faddr 32 0 (.t 8)⟩, 0, []⟩,
  ⟨⟨none, .load 33 none (.t 32)⟩, 0, []⟩,
  ⟨⟨none, .faddr 34 1 (.t 8)⟩, 0, []⟩,
  ⟨⟨none, .load 35 none (.t 34)⟩, 0, []⟩,
  ⟨⟨none, .mov 36 (.t 4)⟩, 0, []⟩,
  ⟨⟨none, .build 37 [(.d (.int .i64 0)), (.d (.int .i64 0)), (.d (.int .i64 0)), (.d (.int .i64 0))] [(0, 1, (.t 31)), (1, 1, (.t 33)), (2, 1, (.t 35)), (3, 1, (.t 36))]⟩, 0, []⟩,
  ⟨⟨none, .callv 38 (.c (.one (.fn k_spec_l12Foes []))) [(.t 30), (.t 37)]⟩, 0, []⟩,
  ⟨⟨none, .mov 12 (.t 38)⟩, 0, []⟩]

abbrev i_spec_LocksWaits_r5 : List RO := [
  ⟨⟨none, .mov 13 (.c (.one (.d (.int .i64 0))))⟩, 0, []⟩]

abbrev i_spec_LocksWaits_r6 : List RO := [
  ⟨⟨none, .mov 39 (.t 13)⟩, 0, []⟩,
  ⟨⟨none, .mov 40 (.t 12)⟩, 0, []⟩,
  ⟨⟨none, .len 41 false (.t 40)⟩, 0, []⟩,
  ⟨⟨none, .bin 42 .lss (.t 39) (.t 41)⟩, 0, []⟩]

abbrev i_spec_LocksWaits_r7 : List RO := [
  ⟨⟨none, .mov 45 (.t 12)⟩, 0, []⟩,
  ⟨⟨none, .mov 46 (.t 13)⟩, 0, []⟩,
  ⟨⟨none, .iaddr 47 1 (.t 45) (.t 46)⟩, 0, []⟩,
  ⟨⟨none, .load 48 none (.t 47)⟩, 0, []⟩,
  ⟨⟨none, .mov 49 (.t 2)⟩, 0, []⟩,
  ⟨⟨none, .bin 50 .lss (.t 48) (.t 49)⟩, 0, []⟩,
  ⟨⟨none, .mov 51 (.t 50)⟩, 0, []⟩,
  ⟨⟨some (51, false), .mov 52 (.t 1)⟩, 0, []⟩,
  ⟨⟨some (51, false), .mov 53 (.t 12)⟩, 0, []⟩,
  ⟨⟨some (51, false), .mov 54 (.t 13)⟩, 0, []⟩,
  ⟨⟨some (51, false), .iaddr 55 1 (.t 53) (.t 54)⟩, 0, []⟩,
  ⟨⟨some (51, false), .load 56 none (.t 55)⟩, 0, []⟩,
  ⟨⟨some (51, false), .callv 57 (.c (.one (.fn k_spec_l12Has []))) [(.t 52), (.t 56)]⟩, 0, []⟩,
  ⟨⟨none, .pick 58 (.t 51) (.c (.one (.d (.bool true)))) (.t 57)⟩, 0, []⟩]

abbrev i_spec_LocksWaits_r8 : List RO := [
  ⟨⟨none, .mov 59 (.t 11)⟩, 0, []⟩,
  ⟨⟨none, .mov 60 (.t 12)⟩, 0, []⟩,
  ⟨⟨none, .mov 61 (.t 13)⟩, 0, []⟩,
  ⟨⟨none, .iaddr 62 1 (.t 60) (.t 61)⟩, 0, []⟩,
  ⟨⟨none, .load 63 none (.t 62)⟩, 0, []⟩,
  ⟨⟨none, .bslice 64 1 [(.d (.int .i64 0))] [(0, 1, (.t 63))]⟩, 0, []⟩,
  ⟨⟨none, .app 65 1 8 [(.int .i64 0)] (.t 59) (.t 64)⟩, 0, []⟩,
  ⟨⟨none, .mov 11 (.t 65)⟩, 0, []⟩]

abbrev i_spec_LocksWaits_r9 : List RO := [
  ⟨⟨none, .mov 43 (.t 13)⟩, 0, []⟩,
  ⟨⟨none, .bin 44 .add (.t 43) (.c (.one (.d (.int .i64 1))))⟩, 0, []⟩,
  ⟨⟨none, .mov 13 (.t 44)⟩, 0, []⟩]

abbrev i_spec_LocksWaits_r10 : List RO := [
  ⟨⟨none, .mov 66 (.t 11)⟩, 0, []⟩,
  ⟨⟨none, .mov 10 (.t 66)⟩, 0, []⟩]

def i_spec_LocksWaits : IC := (.seq (.reg i_spec_LocksWaits_r0)
  (.seq (.reg i_spec_LocksWaits_r1)
  (.seq (.seq (.reg i_spec_LocksWaits_r2)
  (.cond (.t 28) (.seq (.reg i_spec_LocksWaits_r3)
  .ret) .skip))
  (.seq (.reg i_spec_LocksWaits_r4)
  (.seq (.seq (.reg i_spec_LocksWaits_r5)
  (.block 0 (.loop (.seq (.seq (.reg i_spec_LocksWaits_r6)
  (.cond (.t 42) .skip (.exit 0)))
  (.seq (.block 1 (.seq (.reg i_spec_LocksWaits_r7)
  (.cond (.t 58) (.reg i_spec_LocksWaits_r8) .skip)))
  (.reg i_spec_LocksWaits_r9))))))
  (.seq (.reg i_spec_LocksWaits_r10)
  .ret))))))

theorem i_spec_LocksWaits_ok : (Try.f54.body.bind fun c => toIC Try.prog 67 c []) = some (i_spec_LocksWaits, []) := by kernel_rfl

theorem i_spec_LocksWaits_fn {ds rs : List D} (hle : ds.length ≤ 67) (h : AW Try.prog 67 i_spec_LocksWaits (Ends [.tmp 10] rs) (init ds)) : Fn Try.prog k_spec_LocksWaits (lent ds) true rs :=
  Fn.intro' (by kernel_rfl) Try.func54 (by kernel_rfl) i_spec_LocksWaits_ok (by kernel_rfl) hle h.h

abbrev i_spec_l12Keep_r0 : List RO := [
  ⟨⟨none, .mov 6 (.c (.one .zs))⟩, 0, []⟩]

abbrev i_spec_l12Keep_r1 : List RO := [
  ⟨⟨none, .bslice 9 4 [] []⟩, 0, []⟩,
  ⟨⟨none, .mov 7 (.t 9)⟩, 0, []⟩]

abbrev i_spec_l12Keep_r2 : List RO := [
  ⟨⟨none, .mov 8 (.c (.one (.d (.int .i64 0))))⟩, 0, []⟩]

abbrev i_spec_l12Keep_r3 : List RO := [
  ⟨⟨none, .mov 10 (.t 8)⟩, 0, []⟩,
  ⟨⟨none, .mov 11 (.t 0)⟩, 0, []⟩,
  ⟨⟨none, .len 12 false (.t 11)⟩, 0, []⟩,
  ⟨⟨none, .bin 13 .lss (.t 10) (.t 12)⟩, 0, []⟩]

abbrev i_spec_l12Keep_r4 : List RO := [
  ⟨⟨none, .mov 16 (.t 0)⟩, 0, []⟩,
  ⟨⟨none, .mov 17 (.t 8)⟩, 0, []⟩,
  ⟨⟨none, .iaddr 18 4 (.t 16) (.t 17)⟩, 0, []⟩,
  ⟨⟨none, .faddr 19 0 (.t 18)⟩, 0, []⟩,
  ⟨⟨none, .load 20 none (.t 19)⟩, 0, []⟩,
  ⟨⟨none, .mov 21 (.t 1)⟩, 0, []⟩,
  ⟨⟨none, .bin 22 .eql (.t 20) (.t 21)⟩, 0, []⟩,
  ⟨⟨none, .mov 23 (.t 2)⟩, 0, []⟩,
  ⟨⟨none, .beq 24 false (.t 22) (.t 23)⟩, 0, []⟩]

abbrev i_spec_l12Keep_r5 : List RO := [
  ⟨⟨none, .mov 25 (.t 7)⟩, 0, []⟩,
  ⟨⟨none, .mov 26 (.t 0)⟩, 0, []⟩,
  ⟨⟨none, .mov 27 (.t 8)⟩, 0, []⟩,
  ⟨⟨none, .iaddr 28 4 (.t 26) (.t 27)⟩, 0, []⟩,
  ⟨⟨none, .load 29 (some 4) (.t 28)⟩, 0, []⟩,
  ⟨⟨none, .bslice 30 4 [(.d (.int .i64 0)), (.d (.int .i64 0)), (.d (.int .i64 0)), (.d (.int .i64 0))] [(0, 4, (.t 29))]⟩, 0, []⟩,
  ⟨⟨none, .app 31 4 32 [(.int .i64 0), (.int .i64 0), (.int .i64 0), (.int .i64 0)] (.t 25) (.t 30)⟩, 0, []⟩,
  ⟨⟨none, .mov 7 (.t 31)⟩, 0, []⟩]

abbrev i_spec_l12Keep_r6 : List RO := [
  ⟨⟨none, .mov 14 (.t 8)⟩, 0, []⟩,
  ⟨⟨none, .bin 15 .add (.t 14) (.c (.one (.d (.int .i64 1))))⟩, 0, []⟩,
  ⟨⟨none, .mov 8 (.t 15)⟩, 0, []⟩]

abbrev i_spec_l12Keep_r7 : List RO := [
  ⟨⟨none, .mov 32 (.t 7)⟩, 0, []⟩,
  ⟨⟨none, .mov 6 (.t 32)⟩, 0, []⟩]

def i_spec_l12Keep : IC := (.seq (.reg i_spec_l12Keep_r0)
  (.seq (.reg i_spec_l12Keep_r1)
  (.seq (.seq (.reg i_spec_l12Keep_r2)
  (.block 0 (.loop (.seq (.seq (.reg i_spec_l12Keep_r3)
  (.cond (.t 13) .skip (.exit 0)))
  (.seq (.block 1 (.seq (.reg i_spec_l12Keep_r4)
  (.cond (.t 24) (.reg i_spec_l12Keep_r5) .skip)))
  (.reg i_spec_l12Keep_r6))))))
  (.seq (.reg i_spec_l12Keep_r7)
  .ret))))

theorem i_spec_l12Keep_ok : (Try.f152.body.bind fun c => toIC Try.prog 33 c []) = some (i_spec_l12Keep, []) := by kernel_rfl

theorem i_spec_l12Keep_fn {ds rs : List D} (hle : ds.length ≤ 33) (h : AW Try.prog 33 i_spec_l12Keep (Ends [.tmp 6] rs) (init ds)) : Fn Try.prog k_spec_l12Keep (lent ds) true rs :=
  Fn.intro' (by kernel_rfl) Try.func152 (by kernel_rfl) i_spec_l12Keep_ok (by kernel_rfl) hle h.h

abbrev i_spec_LockAsk_r0 : List RO := [
  ⟨⟨none, .box 8 (.t 3)⟩, 0, []⟩,
  ⟨⟨none, .mov 10 (.c (.one .zs))⟩, 0, []⟩,
  ⟨⟨none, .mov 11 (.c (.one .zs))⟩, 0, []⟩,
  ⟨⟨none, .mov 12 (.c (.one (.d (.int .i64 0))))⟩, 0, []⟩]

abbrev i_spec_LockAsk_r1 : List RO := [
  ⟨⟨none, .bslice 19 1 [] []⟩, 0, []⟩,
  ⟨⟨none, .mov 13 (.t 19)⟩, 0, []⟩]

abbrev i_spec_LockAsk_r2 : List RO := [
  ⟨⟨none, .mov 20 (.t 0)⟩, 0, []⟩,
  ⟨⟨none, .mov 21 (.t 1)⟩, 0, []⟩,
  ⟨⟨none, .mov 22 (.t 2)⟩, 0, []⟩,
  ⟨⟨none, .load 23 (some 2) (.t 8)⟩, 0, []⟩,
  ⟨⟨none, .mov 24 (.t 4)⟩, 0, []⟩,
  ⟨⟨none, .callv 25 (.c (.one (.fn k_spec_l12Right []))) [(.t 20), (.t 21), (.t 22), (.t 23), (.t 24)]⟩, 0, []⟩,
  ⟨⟨none, .inv 26 (.t 25)⟩, 0, []⟩]

abbrev i_spec_LockAsk_r3 : List RO := [
  ⟨⟨none, .bslice 27 4 [] []⟩, 0, []⟩,
  ⟨⟨none, .mov 28 (.t 13)⟩, 0, []⟩,
  ⟨⟨none, .mov 10 (.t 27)⟩, 0, []⟩,
  ⟨⟨none, .mov 11 (.t 28)⟩, 0, []⟩,
  ⟨⟨none, .mov 12 (.c (.one (.d (.int .i64 1))))⟩, 0, []⟩]

abbrev i_spec_LockAsk_r4 : List RO := [
  ⟨⟨none, .bslice 29 4 [] []⟩, 0, []⟩,
  ⟨⟨none, .mov 30 (.t 0)⟩, 0, []⟩,
  ⟨⟨none, .app 31 4 32 [(.int .i64 0), (.int .i64 0), (.int .i64 0), (.int .i64 0)] (.t 29) (.t 30)⟩, 0, []⟩,
  ⟨⟨none, .mov 14 (.t 31)⟩, 0, []⟩]

abbrev i_spec_LockAsk_r5 : List RO := [
  ⟨⟨none, .mov 32 (.t 0)⟩, 0, []⟩,
  ⟨⟨none, .mov 33 (.t 2)⟩, 0, []⟩,
  ⟨⟨none, .load 34 (some 2) (.t 8)⟩, 0, []⟩,
  ⟨⟨none, .mov 35 (.t 4)⟩, 0, []⟩,
  ⟨⟨none, .callv 36 (.c (.one (.fn k_spec_l12Holds []))) [(.t 32), (.t 33), (.t 34), (.t 35)]⟩, 0, []⟩]

abbrev i_spec_LockAsk_r6 : List RO := [
  ⟨⟨none, .mov 37 (.t 14)⟩, 0, []⟩,
  ⟨⟨none, .mov 38 (.t 13)⟩, 0, []⟩,
  ⟨⟨none, .mov 10 (.t 37)⟩, 0, []⟩,
  ⟨⟨none, .mov 11 (.t 38)⟩, 0, []⟩,
  ⟨⟨none, .mov 12 (.c (.one (.d (.int .i64 0))))⟩, 0, []⟩]

abbrev i_spec_LockAsk_r7 : List RO := [
  ⟨⟨none, .mov 39 (.t 0)⟩, 0, []⟩,
  ⟨⟨none, .mov 40 (.t 1)⟩, 0, []⟩,
  ⟨⟨none, .mov 41 (.t 2)⟩, 0, []⟩,
  ⟨⟨none, .load 42 (some 2) (.t 8)⟩, 0, []⟩,
  ⟨⟨none, .mov 43 (.t 4)⟩, 0, []⟩,
  ⟨⟨none, .callv 44 (.c (.one (.fn k_spec_LocksWaits []))) [(.t 39), (.t 40), (.t 41), (.t 42), (.t 43)]⟩, 0, []⟩,
  ⟨⟨none, .len 45 false (.t 44)⟩, 0, []⟩,
  ⟨⟨none, .bin 46 .gtr (.t 45) (.c (.one (.d (.int .i64 0))))⟩, 0, []⟩]

abbrev i_spec_LockAsk_r8 : List RO := [
  ⟨⟨none, .mov 47 (.t 14)⟩, 0, []⟩,
  ⟨⟨none, .mov 48 (.t 13)⟩, 0, []⟩,
  ⟨⟨none, .mov 10 (.t 47)⟩, 0, []⟩,
  ⟨⟨none, .mov 11 (.t 48)⟩, 0, []⟩,
  ⟨⟨none, .mov 12 (.c (.one (.d (.int .i64 2))))⟩, 0, []⟩]

abbrev i_spec_LockAsk_r9 : List RO := [
  ⟨⟨none, .mov 49 (.t 2)⟩, 0, []⟩,
  ⟨⟨none, .faddr 50 0 (.t 8)⟩, 0, []⟩,
  ⟨⟨none, .load 51 none (.t 50)⟩, 0, []⟩,
  ⟨⟨none, .faddr 52 1 (.t 8)⟩, 0, []⟩,
  ⟨⟨none, .load 53 none (.t 52)⟩, 0, []⟩,
  ⟨⟨none, .mov 54 (.t 4)⟩, 0, []⟩,
  ⟨⟨none, .build 55 [(.d (.int .i64 0)), (.d (.int .i64 0)), (.d (.int .i64 0)), (.d (.int .i64 0))] [(0, 1, (.t 49)), (1, 1, (.t 51)), (2, 1, (.t 53)), (3, 1, (.t 54))]⟩, 0, []⟩,
  ⟨⟨none, .var 15 [(.d (.int .i64 0)), (.d (.int .i64 0)), (.d (.int .i64 0)), (.d (.int .i64 0))]⟩, 0, []⟩,
  ⟨⟨none, .store 4 [(.int .i64 0), (.int .i64 0), (.int .i64 0), (.int .i64 0)] (.t 15) (.t 55)⟩, 0, []⟩]

abbrev i_spec_LockAsk_r10 : List RO := [
  ⟨⟨none, .mov 56 (.t 0)⟩, 0, []⟩,
  ⟨⟨none, .load 57 (some 4) (.t 15)⟩, 0, []⟩,
  ⟨⟨none, .callv 58 (.c (.one (.fn k_spec_l12Foes []))) [(.t 56), (.t 57)]⟩, 0, []⟩,
  ⟨⟨none, .mov 16 (.t 58)⟩, 0, []⟩]

abbrev i_spec_LockAsk_r11 : List RO := [
  ⟨⟨none, .mov 59 (.t 14)⟩, 0, []⟩,
  ⟨⟨none, .mov 17 (.t 59)⟩, 0, []⟩]

abbrev i_spec_LockAsk_r12 : List RO := [
  ⟨⟨none, .mov 18 (.c (.one (.d (.int .i64 0))))⟩, 0, []⟩]

abbrev i_spec_LockAsk_r13 : List RO := [
  ⟨⟨none, .mov 60 (.t 18)⟩, 0, []⟩,
  ⟨⟨none, .mov 61 (.t 16)⟩, 0, []⟩,
  ⟨⟨none, .len 62 false (.t 61)⟩, 0, []⟩,
  ⟨⟨none, .bin 63 .lss (.t 60) (.t 62)⟩, 0, []⟩]

abbrev i_spec_LockAsk_r14 : List RO := [
  ⟨⟨none, .mov 66 (.t 17)⟩, 0, []⟩,
  ⟨⟨none, .mov 67 (.t 16)⟩, 0, []⟩,
  ⟨⟨none, .mov 68 (.t 18)⟩, 0, []⟩,
  ⟨⟨none, .iaddr 69 1 (.t 67) (.t 68)⟩, 0, []⟩,
  ⟨⟨none, .load 70 none (.t 69)⟩, 0, []⟩,
  ⟨⟨none, .callv 71 (.c (.one (.fn k_spec_l12Keep []))) [(.t 66), (.t 70), (.c (.one (.d (.bool false))))]⟩, 0, []⟩,
  ⟨⟨none, .mov 17 (.t 71)⟩, 0, []⟩]

abbrev i_spec_LockAsk_r15 : List RO := [
  ⟨⟨none, .mov 64 (.t 18)⟩, 0, []⟩,
  ⟨⟨none, .bin 65 .add (.t 64) (.c (.one (.d (.int .i64 1))))⟩, 0, []⟩,
  ⟨⟨none, .mov 18 (.t 65)⟩, 0, []⟩]

abbrev i_spec_LockAsk_r16 : List RO := [
  ⟨⟨none, .mov 72 (.t 17)⟩, 0, []⟩,
  ⟨⟨none, .len 73 false (.t 72)⟩, 0, []⟩,
  ⟨⟨none, .bin 74 .eql (.t 73) (.c (.one (.d (.int .i64 40))))⟩, 0, []⟩]

abbrev i_spec_LockAsk_r17 : List RO := [
  ⟨⟨none, .bslice 75 4 [] []⟩, 0, []⟩,
  ⟨⟨none, .mov 76 (.t 0)⟩, 0, []⟩,
  ⟨⟨none, .app 77 4 32 [(.int .i64 0), (.int .i64 0), (.int .i64 0), (.int .i64 0)] (.t 75) (.t 76)⟩, 0, []⟩,
  ⟨⟨none, .mov 78 (.t 13)⟩, 0, []⟩,
  ⟨⟨none, .mov 10 (.t 77)⟩, 0, []⟩,
  ⟨⟨none, .mov 11 (.t 78)⟩, 0, []⟩,
  ⟨⟨none, .mov 12 (.c (.one (.d (.int .i64 3))))⟩, 0, []⟩]

abbrev i_spec_LockAsk_r18 : List RO := [
  ⟨⟨none, .mov 79 (.t 17)⟩, 0, []⟩,
  ⟨⟨none, .load 80 (some 4) (.t 15)⟩, 0, []⟩,
  ⟨⟨none, .bslice 81 4 [(.d (.int .i64 0)), (.d (.int .i64 0)), (.d (.int .i64 0)), (.d (.int .i64 0))] [(0, 4, (.t 80))]⟩, 0, []⟩,
  ⟨⟨none, .app 82 4 32 [(.int .i64 0), (.int .i64 0), (.int .i64 0), (.int .i64 0)] (.t 79) (.t 81)⟩, 0, []⟩,
  ⟨⟨none, .mov 83 (.t 16)⟩, 0, []⟩,
  ⟨⟨none, .mov 10 (.t 82)⟩, 0, []⟩,
  ⟨⟨none, .mov 11 (.t 83)⟩, 0, []⟩,
  ⟨⟨none, .mov 12 (.c (.one (.d (.int .i64 0))))⟩, 0, []⟩]

def i_spec_LockAsk : IC := (.seq (.reg i_spec_LockAsk_r0)
  (.seq (.reg i_spec_LockAsk_r1)
  (.seq (.seq (.reg i_spec_LockAsk_r2)
  (.cond (.t 26) (.seq (.reg i_spec_LockAsk_r3)
  .ret) .skip))
  (.seq (.reg i_spec_LockAsk_r4)
  (.seq (.seq (.reg i_spec_LockAsk_r5)
  (.cond (.t 36) (.seq (.reg i_spec_LockAsk_r6)
  .ret) .skip))
  (.seq (.seq (.reg i_spec_LockAsk_r7)
  (.cond (.t 46) (.seq (.reg i_spec_LockAsk_r8)
  .ret) .skip))
  (.seq (.reg i_spec_LockAsk_r9)
  (.seq (.reg i_spec_LockAsk_r10)
  (.seq (.reg i_spec_LockAsk_r11)
  (.seq (.seq (.reg i_spec_LockAsk_r12)
  (.block 0 (.loop (.seq (.seq (.reg i_spec_LockAsk_r13)
  (.cond (.t 63) .skip (.exit 0)))
  (.seq (.block 1 (.reg i_spec_LockAsk_r14))
  (.reg i_spec_LockAsk_r15))))))
  (.seq (.seq (.reg i_spec_LockAsk_r16)
  (.cond (.t 74) (.seq (.reg i_spec_LockAsk_r17)
  .ret) .skip))
  (.seq (.reg i_spec_LockAsk_r18)
  .ret))))))))))))

theorem i_spec_LockAsk_ok : (Try.f41.body.bind fun c => toIC Try.prog 84 c []) = some (i_spec_LockAsk, []) := by kernel_rfl

theorem i_spec_LockAsk_fn {ds rs : List D} (hle : ds.length ≤ 84) (h : AW Try.prog 84 i_spec_LockAsk (Ends [.tmp 10, .tmp 11, .tmp 12] rs) (init ds)) : Fn Try.prog k_spec_LockAsk (lent ds) true rs :=
  Fn.intro' (by kernel_rfl) Try.func41 (by kernel_rfl) i_spec_LockAsk_ok (by kernel_rfl) hle h.h

abbrev i_impl_from_r0 : List RO := [
  ⟨⟨none, .mov 6 (.c (.one (.d (.bool false))))⟩, 0, []⟩]

abbrev i_impl_from_r1 : List RO := [
  ⟨⟨none, .mov 7 (.t 0)⟩, 0, []⟩,
  ⟨⟨none, .mov 8 (.t 1)⟩, 0, []⟩,
  ⟨⟨none, .bin 9 .geq (.t 7) (.t 8)⟩, 0, []⟩,
  ⟨⟨none, .mov 10 (.t 9)⟩, 0, []⟩,
  ⟨⟨some (10, true), .mov 11 (.t 0)⟩, 0, []⟩,
  ⟨⟨some (10, true), .mov 12 (.t 2)⟩, 0, []⟩,
  ⟨⟨some (10, true), .bin 13 .leq (.t 11) (.t 12)⟩, 0, []⟩,
  ⟨⟨none, .pick 14 (.t 10) (.t 13) (.c (.one (.d (.bool false))))⟩, 0, []⟩,
  ⟨⟨none, .mov 6 (.t 14)⟩, 0, []⟩]

def i_impl_from : IC := (.seq (.reg i_impl_from_r0)
  (.seq (.reg i_impl_from_r1)
  .ret))

theorem i_impl_from_ok : (Try.f128.body.bind fun c => toIC Try.prog 15 c []) = some (i_impl_from, []) := by kernel_rfl

theorem i_impl_from_fn {ds rs : List D} (hle : ds.length ≤ 15) (h : AW Try.prog 15 i_impl_from (Ends [.tmp 6] rs) (init ds)) : Fn Try.prog k_impl_from (lent ds) true rs :=
  Fn.intro' (by kernel_rfl) Try.func128 (by kernel_rfl) i_impl_from_ok (by kernel_rfl) hle h.h

abbrev i_impl_isTx_r0 : List RO := [
  ⟨⟨none, .mov 2 (.c (.one (.d (.bool false))))⟩, 0, []⟩]

abbrev i_impl_isTx_r1 : List RO := [
  ⟨⟨none, .mov 3 (.t 0)⟩, 0, []⟩,
  ⟨⟨none, .callv 4 (.c (.one (.fn k_impl_from []))) [(.t 3), (.c (.one (.d (.int .i64 1)))), (.c (.one (.d (.int .i64 60))))]⟩, 0, []⟩,
  ⟨⟨none, .mov 2 (.t 4)⟩, 0, []⟩]

def i_impl_isTx : IC := (.seq (.reg i_impl_isTx_r0)
  (.seq (.reg i_impl_isTx_r1)
  .ret))

theorem i_impl_isTx_ok : (Try.f154.body.bind fun c => toIC Try.prog 5 c []) = some (i_impl_isTx, []) := by kernel_rfl

theorem i_impl_isTx_fn {ds rs : List D} (hle : ds.length ≤ 5) (h : AW Try.prog 5 i_impl_isTx (Ends [.tmp 2] rs) (init ds)) : Fn Try.prog k_impl_isTx (lent ds) true rs :=
  Fn.intro' (by kernel_rfl) Try.func154 (by kernel_rfl) i_impl_isTx_ok (by kernel_rfl) hle h.h

abbrev i__impl_Lock_keys_r0 : List RO := [
  ⟨⟨none, .box 1 (.t 0)⟩, 0, []⟩,
  ⟨⟨none, .var 2 [(.d (.int .i64 0)), (.d (.int .i64 0))]⟩, 0, []⟩]

abbrev i__impl_Lock_keys_r1 : List RO := [
  ⟨⟨none, .faddr 3 1 (.t 1)⟩, 0, []⟩,
  ⟨⟨none, .load 4 none (.t 3)⟩, 0, []⟩,
  ⟨⟨none, .faddr 5 2 (.t 1)⟩, 0, []⟩,
  ⟨⟨none, .load 6 none (.t 5)⟩, 0, []⟩,
  ⟨⟨none, .build 7 [(.d (.int .i64 0)), (.d (.int .i64 0))] [(0, 1, (.t 4)), (1, 1, (.t 6))]⟩, 0, []⟩,
  ⟨⟨none, .store 2 [(.int .i64 0), (.int .i64 0)] (.t 2) (.t 7)⟩, 0, []⟩]

def i__impl_Lock_keys : IC := (.seq (.reg i__impl_Lock_keys_r0)
  (.seq (.reg i__impl_Lock_keys_r1)
  .ret))

theorem i__impl_Lock_keys_ok : (Try.f177.body.bind fun c => toIC Try.prog 8 c []) = some (i__impl_Lock_keys, []) := by kernel_rfl

theorem i__impl_Lock_keys_fn {ds rs : List D} (hle : ds.length ≤ 8) (h : AW Try.prog 8 i__impl_Lock_keys (Ends [.cell 2 (some 2)] rs) (init ds)) : Fn Try.prog k__impl_Lock_keys (lent ds) true rs :=
  Fn.intro' (by kernel_rfl) Try.func177 (by kernel_rfl) i__impl_Lock_keys_ok (by kernel_rfl) hle h.h

abbrev i_impl_RangeOk_r0 : List RO := [
  ⟨⟨none, .box 1 (.t 0)⟩, 0, []⟩,
  ⟨⟨none, .mov 2 (.c (.one (.d (.bool false))))⟩, 0, []⟩]

abbrev i_impl_RangeOk_r1 : List RO := [
  ⟨⟨none, .faddr 3 0 (.t 1)⟩, 0, []⟩,
  ⟨⟨none, .load 4 none (.t 3)⟩, 0, []⟩,
  ⟨⟨none, .bin 5 .geq (.t 4) (.c (.one (.d (.int .i64 0))))⟩, 0, []⟩,
  ⟨⟨none, .mov 6 (.t 5)⟩, 0, []⟩,
  ⟨⟨some (6, true), .faddr 7 0 (.t 1)⟩, 0, []⟩,
  ⟨⟨some (6, true), .load 8 none (.t 7)⟩, 0, []⟩,
  ⟨⟨some (6, true), .faddr 9 1 (.t 1)⟩, 0, []⟩,
  ⟨⟨some (6, true), .load 10 none (.t 9)⟩, 0, []⟩,
  ⟨⟨some (6, true), .bin 11 .lss (.t 8) (.t 10)⟩, 0, []⟩,
  ⟨⟨none, .pick 12 (.t 6) (.t 11) (.c (.one (.d (.bool false))))⟩, 0, []⟩,
  ⟨⟨none, .mov 13 (.t 12)⟩, 0, []⟩,
  ⟨⟨some (13, true), .faddr 14 1 (.t 1)⟩, 0, []⟩,
  ⟨⟨some (13, true), .load 15 none (.t 14)⟩, 0, []⟩,
  ⟨⟨some (13, true), .bin 16 .leq (.t 15) (.c (.one (.d (.int .i64 1000))))⟩, 0, []⟩,
  ⟨⟨none, .pick 17 (.t 13) (.t 16) (.c (.one (.d (.bool false))))⟩, 0, []⟩,
  ⟨⟨none, .mov 2 (.t 17)⟩, 0, []⟩]

def i_impl_RangeOk : IC := (.seq (.reg i_impl_RangeOk_r0)
  (.seq (.reg i_impl_RangeOk_r1)
  .ret))

theorem i_impl_RangeOk_ok : (Try.f107.body.bind fun c => toIC Try.prog 18 c []) = some (i_impl_RangeOk, []) := by kernel_rfl

theorem i_impl_RangeOk_fn {ds rs : List D} (hle : ds.length ≤ 18) (h : AW Try.prog 18 i_impl_RangeOk (Ends [.tmp 2] rs) (init ds)) : Fn Try.prog k_impl_RangeOk (lent ds) true rs :=
  Fn.intro' (by kernel_rfl) Try.func107 (by kernel_rfl) i_impl_RangeOk_ok (by kernel_rfl) hle h.h

abbrev i_impl_isMode_r0 : List RO := [
  ⟨⟨none, .mov 2 (.c (.one (.d (.bool false))))⟩, 0, []⟩]

abbrev i_impl_isMode_r1 : List RO := [
  ⟨⟨none, .mov 3 (.t 0)⟩, 0, []⟩,
  ⟨⟨none, .bin 4 .eql (.t 3) (.c (.one (.d (.int .i64 1))))⟩, 0, []⟩,
  ⟨⟨none, .mov 5 (.t 4)⟩, 0, []⟩,
  ⟨⟨some (5, false), .mov 6 (.t 0)⟩, 0, []⟩,
  ⟨⟨some (5, false), .bin 7 .eql (.t 6) (.c (.one (.d (.int .i64 2))))⟩, 0, []⟩,
  ⟨⟨none, .pick 8 (.t 5) (.c (.one (.d (.bool true)))) (.t 7)⟩, 0, []⟩,
  ⟨⟨none, .mov 2 (.t 8)⟩, 0, []⟩]

def i_impl_isMode : IC := (.seq (.reg i_impl_isMode_r0)
  (.seq (.reg i_impl_isMode_r1)
  .ret))

theorem i_impl_isMode_ok : (Try.f155.body.bind fun c => toIC Try.prog 9 c []) = some (i_impl_isMode, []) := by kernel_rfl

theorem i_impl_isMode_fn {ds rs : List D} (hle : ds.length ≤ 9) (h : AW Try.prog 9 i_impl_isMode (Ends [.tmp 2] rs) (init ds)) : Fn Try.prog k_impl_isMode (lent ds) true rs :=
  Fn.intro' (by kernel_rfl) Try.func155 (by kernel_rfl) i_impl_isMode_ok (by kernel_rfl) hle h.h

abbrev i_impl_meets_r0 : List RO := [
  ⟨⟨none, .box 2 (.t 0)⟩, 0, []⟩,
  ⟨⟨none, .box 3 (.t 1)⟩, 0, []⟩,
  ⟨⟨none, .mov 4 (.c (.one (.d (.bool false))))⟩, 0, []⟩]

abbrev i_impl_meets_r1 : List RO := [
  ⟨⟨none, .faddr 5 0 (.t 2)⟩, 0, []⟩,
  ⟨⟨none, .load 6 none (.t 5)⟩, 0, []⟩,
  ⟨⟨none, .faddr 7 1 (.t 3)⟩, 0, []⟩,
  ⟨⟨none, .load 8 none (.t 7)⟩, 0, []⟩,
  ⟨⟨none, .bin 9 .lss (.t 6) (.t 8)⟩, 0, []⟩,
  ⟨⟨none, .mov 10 (.t 9)⟩, 0, []⟩,
  ⟨⟨some (10, true), .faddr 11 0 (.t 3)⟩, 0, []⟩,
  ⟨⟨some (10, true), .load 12 none (.t 11)⟩, 0, []⟩,
  ⟨⟨some (10, true), .faddr 13 1 (.t 2)⟩, 0, []⟩,
  ⟨⟨some (10, true), .load 14 none (.t 13)⟩, 0, []⟩,
  ⟨⟨some (10, true), .bin 15 .lss (.t 12) (.t 14)⟩, 0, []⟩,
  ⟨⟨none, .pick 16 (.t 10) (.t 15) (.c (.one (.d (.bool false))))⟩, 0, []⟩,
  ⟨⟨none, .mov 4 (.t 16)⟩, 0, []⟩]

def i_impl_meets : IC := (.seq (.reg i_impl_meets_r0)
  (.seq (.reg i_impl_meets_r1)
  .ret))

theorem i_impl_meets_ok : (Try.f250.body.bind fun c => toIC Try.prog 17 c []) = some (i_impl_meets, []) := by kernel_rfl

theorem i_impl_meets_fn {ds rs : List D} (hle : ds.length ≤ 17) (h : AW Try.prog 17 i_impl_meets (Ends [.tmp 4] rs) (init ds)) : Fn Try.prog k_impl_meets (lent ds) true rs :=
  Fn.intro' (by kernel_rfl) Try.func250 (by kernel_rfl) i_impl_meets_ok (by kernel_rfl) hle h.h

abbrev i_impl_clash_r0 : List RO := [
  ⟨⟨none, .box 2 (.t 0)⟩, 0, []⟩,
  ⟨⟨none, .box 3 (.t 1)⟩, 0, []⟩,
  ⟨⟨none, .mov 4 (.c (.one (.d (.bool false))))⟩, 0, []⟩]

abbrev i_impl_clash_r1 : List RO := [
  ⟨⟨none, .faddr 5 0 (.t 2)⟩, 0, []⟩,
  ⟨⟨none, .load 6 none (.t 5)⟩, 1, []⟩,
  ⟨⟨none, .faddr 7 0 (.t 3)⟩, 0, []⟩,
  ⟨⟨none, .load 8 none (.t 7)⟩, 4, []⟩,
  ⟨⟨none, .bin 9 .neq (.t 6) (.t 8)⟩, 15, []⟩,
  ⟨⟨none, .mov 10 (.t 9)⟩, 31, []⟩,
  ⟨⟨some (10, true), .faddr 11 3 (.t 2)⟩, 63, []⟩,
  ⟨⟨some (10, true), .load 12 none (.t 11)⟩, 127, []⟩,
  ⟨⟨some (10, true), .bin 13 .eql (.t 12) (.c (.one (.d (.int .i64 2))))⟩, 255, []⟩,
  ⟨⟨some (10, true), .mov 14 (.t 13)⟩, 511, []⟩,
  ⟨⟨some (14, false), .faddr 15 3 (.t 3)⟩, 1023, []⟩,
  ⟨⟨some (14, false), .load 16 none (.t 15)⟩, 2047, []⟩,
  ⟨⟨some (14, false), .bin 17 .eql (.t 16) (.c (.one (.d (.int .i64 2))))⟩, 4095, []⟩,
  ⟨⟨some (10, true), .pick 18 (.t 14) (.c (.one (.d (.bool true)))) (.t 17)⟩, 8191, []⟩,
  ⟨⟨none, .pick 19 (.t 10) (.t 18) (.c (.one (.d (.bool false))))⟩, 16383, []⟩,
  ⟨⟨none, .mov 20 (.t 19)⟩, 32767, []⟩,
  ⟨⟨some (20, true), .load 21 (some 4) (.t 2)⟩, 65535, []⟩,
  ⟨⟨some (20, true), .callv 22 (.c (.one (.fn k__impl_Lock_keys []))) [(.t 21)]⟩, 131071, []⟩,
  ⟨⟨some (20, true), .load 23 (some 4) (.t 3)⟩, 65535, [22]⟩,
  ⟨⟨some (20, true), .callv 24 (.c (.one (.fn k__impl_Lock_keys []))) [(.t 23)]⟩, 524287, []⟩,
  ⟨⟨some (20, true), .callv 25 (.c (.one (.fn k_impl_meets []))) [(.t 22), (.t 24)]⟩, 1048575, []⟩,
  ⟨⟨none, .pick 26 (.t 20) (.t 25) (.c (.one (.d (.bool false))))⟩, 2097151, []⟩,
  ⟨⟨none, .mov 4 (.t 26)⟩, 4194303, []⟩]

def i_impl_clash : IC := (.seq (.reg i_impl_clash_r0)
  (.seq (.regd i_impl_clash_r1)
  .ret))

theorem i_impl_clash_ok : (Try.f180.body.bind fun c => toIC Try.prog 27 c [[(0, []), (1, []), (0, []), (4, []), (15, []), (31, []), (63, []), (127, []), (255, []), (511, []), (1023, []), (2047, []), (4095, []), (8191, []), (16383, []), (32767, []), (65535, []), (131071, []), (65535, [22]), (524287, []), (1048575, []), (2097151, []), (4194303, [])]]) = some (i_impl_clash, []) := by kernel_rfl

theorem i_impl_clash_fn {ds rs : List D} (hle : ds.length ≤ 27) (h : AW Try.prog 27 i_impl_clash (Ends [.tmp 4] rs) (init ds)) : Fn Try.prog k_impl_clash (lent ds) true rs :=
  Fn.intro' (by kernel_rfl) Try.func180 (by kernel_rfl) i_impl_clash_ok (by kernel_rfl) hle h.h

abbrev i_impl_LocksOk_1_r0 : List RO := [
  ⟨⟨none, .box 2 (.t 0)⟩, 0, []⟩,
  ⟨⟨none, .mov 3 (.c (.one (.d (.bool false))))⟩, 0, []⟩]

abbrev i_impl_LocksOk_1_r1 : List RO := [
  ⟨⟨none, .load 4 (some 4) (.t 1)⟩, 0, []⟩,
  ⟨⟨none, .load 5 (some 4) (.t 2)⟩, 0, []⟩,
  ⟨⟨none, .callv 6 (.c (.one (.fn k_impl_clash []))) [(.t 4), (.t 5)]⟩, 0, []⟩,
  ⟨⟨none, .mov 3 (.t 6)⟩, 0, []⟩]

def i_impl_LocksOk_1 : IC := (.seq (.reg i_impl_LocksOk_1_r0)
  (.seq (.reg i_impl_LocksOk_1_r1)
  .ret))

theorem i_impl_LocksOk_1_ok : (Try.f179.body.bind fun c => toIC Try.prog 7 c []) = some (i_impl_LocksOk_1, []) := by kernel_rfl

theorem i_impl_LocksOk_1_fn {ds rs : List D} (hle : ds.length ≤ 7) (h : AW Try.prog 7 i_impl_LocksOk_1 (Ends [.tmp 3] rs) (init ds)) : Fn Try.prog k_impl_LocksOk_1 (lent ds) true rs :=
  Fn.intro' (by kernel_rfl) Try.func179 (by kernel_rfl) i_impl_LocksOk_1_ok (by kernel_rfl) hle h.h

abbrev i_slices_IndexFunc___impl_Lock_impl_Lock__r0 : List RO := [
  ⟨⟨none, .mov 4 (.c (.one (.d (.int .i64 0))))⟩, 0, []⟩]

abbrev i_slices_IndexFunc___impl_Lock_impl_Lock__r1 : List RO := [
  ⟨⟨none, .mov 6 (.t 0)⟩, 0, []⟩,
  ⟨⟨none, .len 7 false (.t 6)⟩, 0, []⟩,
  ⟨⟨none, .mov 8 (.c (.one (.d (.int .i64 0))))⟩, 0, []⟩]

abbrev i_slices_IndexFunc___impl_Lock_impl_Lock__r2 : List RO := [
  ⟨⟨none, .bin 9 .lss (.t 8) (.t 7)⟩, 0, []⟩]

abbrev i_slices_IndexFunc___impl_Lock_impl_Lock__r3 : List RO := [
  ⟨⟨none, .mov 10 (.t 8)⟩, 0, []⟩,
  ⟨⟨none, .mov 5 (.t 10)⟩, 0, []⟩]

abbrev i_slices_IndexFunc___impl_Lock_impl_Lock__r4 : List RO := [
  ⟨⟨none, .mov 11 (.t 1)⟩, 0, []⟩,
  ⟨⟨none, .mov 12 (.t 0)⟩, 0, []⟩,
  ⟨⟨none, .mov 13 (.t 5)⟩, 0, []⟩,
  ⟨⟨none, .iaddr 14 4 (.t 12) (.t 13)⟩, 0, []⟩,
  ⟨⟨none, .load 15 (some 4) (.t 14)⟩, 0, []⟩,
  ⟨⟨none, .callv 16 (.t 11) [(.t 15)]⟩, 0, []⟩]

abbrev i_slices_IndexFunc___impl_Lock_impl_Lock__r5 : List RO := [
  ⟨⟨none, .mov 17 (.t 5)⟩, 0, []⟩,
  ⟨⟨none, .mov 4 (.t 17)⟩, 0, []⟩]

abbrev i_slices_IndexFunc___impl_Lock_impl_Lock__r6 : List RO := [
  ⟨⟨none, .bin 18 .add (.t 8) (.c (.one (.d (.int .i64 1))))⟩, 0, []⟩,
  ⟨⟨none, .mov 8 (.t 18)⟩, 0, []⟩]

abbrev i_slices_IndexFunc___impl_Lock_impl_Lock__r7 : List RO := [
  ⟨⟨none, .mov 4 (.c (.one (.d (.int .i64 (-1)))))⟩, 0, []⟩]

def i_slices_IndexFunc___impl_Lock_impl_Lock_ : IC := (.seq (.reg i_slices_IndexFunc___impl_Lock_impl_Lock__r0)
  (.seq (.seq (.reg i_slices_IndexFunc___impl_Lock_impl_Lock__r1)
  (.block 0 (.loop (.seq (.reg i_slices_IndexFunc___impl_Lock_impl_Lock__r2)
  (.seq (.cond (.t 9) .skip (.exit 0))
  (.seq (.block 1 (.seq (.reg i_slices_IndexFunc___impl_Lock_impl_Lock__r3)
  (.seq (.reg i_slices_IndexFunc___impl_Lock_impl_Lock__r4)
  (.cond (.t 16) (.seq (.reg i_slices_IndexFunc___impl_Lock_impl_Lock__r5)
  .ret) .skip))))
  (.reg i_slices_IndexFunc___impl_Lock_impl_Lock__r6)))))))
  (.seq (.reg i_slices_IndexFunc___impl_Lock_impl_Lock__r7)
  .ret)))

theorem i_slices_IndexFunc___impl_Lock_impl_Lock__ok : (Try.f240.body.bind fun c => toIC Try.prog 19 c []) = some (i_slices_IndexFunc___impl_Lock_impl_Lock_, []) := by kernel_rfl

theorem i_slices_IndexFunc___impl_Lock_impl_Lock__fn {ds rs : List D} (hle : ds.length ≤ 19) (h : AW Try.prog 19 i_slices_IndexFunc___impl_Lock_impl_Lock_ (Ends [.tmp 4] rs) (init ds)) : Fn Try.prog k_slices_IndexFunc___impl_Lock_impl_Lock_ (lent ds) true rs :=
  Fn.intro' (by kernel_rfl) Try.func240 (by kernel_rfl) i_slices_IndexFunc___impl_Lock_impl_Lock__ok (by kernel_rfl) hle h.h

abbrev i_slices_ContainsFunc___impl_Lock_impl_Lock__r0 : List RO := [
  ⟨⟨none, .mov 4 (.c (.one (.d (.bool false))))⟩, 0, []⟩]

abbrev i_slices_ContainsFunc___impl_Lock_impl_Lock__r1 : List RO := [
  ⟨⟨none, .mov 5 (.t 0)⟩, 0, []⟩,
  ⟨⟨none, .mov 6 (.t 1)⟩, 0, []⟩,
  ⟨⟨none, .callv 7 (.c (.one (.fn k_slices_IndexFunc___impl_Lock_impl_Lock_ []))) [(.t 5), (.t 6)]⟩, 0, []⟩,
  ⟨⟨none, .bin 8 .geq (.t 7) (.c (.one (.d (.int .i64 0))))⟩, 0, []⟩,
  ⟨⟨none, .mov 4 (.t 8)⟩, 0, []⟩]

def i_slices_ContainsFunc___impl_Lock_impl_Lock_ : IC := (.seq (.reg i_slices_ContainsFunc___impl_Lock_impl_Lock__r0)
  (.seq (.reg i_slices_ContainsFunc___impl_Lock_impl_Lock__r1)
  .ret))

theorem i_slices_ContainsFunc___impl_Lock_impl_Lock__ok : (Try.f178.body.bind fun c => toIC Try.prog 9 c []) = some (i_slices_ContainsFunc___impl_Lock_impl_Lock_, []) := by kernel_rfl

theorem i_slices_ContainsFunc___impl_Lock_impl_Lock__fn {ds rs : List D} (hle : ds.length ≤ 9) (h : AW Try.prog 9 i_slices_ContainsFunc___impl_Lock_impl_Lock_ (Ends [.tmp 4] rs) (init ds)) : Fn Try.prog k_slices_ContainsFunc___impl_Lock_impl_Lock_ (lent ds) true rs :=
  Fn.intro' (by kernel_rfl) Try.func178 (by kernel_rfl) i_slices_ContainsFunc___impl_Lock_impl_Lock__ok (by kernel_rfl) hle h.h

abbrev i_impl_LocksOk_r0 : List RO := [
  ⟨⟨none, .mov 2 (.c (.one (.d (.bool false))))⟩, 0, []⟩]

abbrev i_impl_LocksOk_r1 : List RO := [
  ⟨⟨none, .mov 5 (.t 0)⟩, 0, []⟩,
  ⟨⟨none, .len 6 false (.t 5)⟩, 0, []⟩,
  ⟨⟨none, .mov 7 (.c (.one (.d (.int .i64 0))))⟩, 0, []⟩]

abbrev i_impl_LocksOk_r2 : List RO := [
  ⟨⟨none, .bin 8 .lss (.t 7) (.t 6)⟩, 0, []⟩]

abbrev i_impl_LocksOk_r3 : List RO := [
  ⟨⟨none, .mov 9 (.t 7)⟩, 0, []⟩,
  ⟨⟨none, .iaddr 10 4 (.t 5) (.t 7)⟩, 0, []⟩,
  ⟨⟨none, .load 11 (some 4) (.t 10)⟩, 0, []⟩,
  ⟨⟨none, .var 4 [(.d (.int .i64 0)), (.d (.int .i64 0)), (.d (.int .i64 0)), (.d (.int .i64 0))]⟩, 0, []⟩,
  ⟨⟨none, .mov 3 (.t 9)⟩, 0, []⟩,
  ⟨⟨none, .store 4 [(.int .i64 0), (.int .i64 0), (.int .i64 0), (.int .i64 0)] (.t 4) (.t 11)⟩, 0, []⟩]

abbrev i_impl_LocksOk_r4 : List RO := [
  ⟨⟨none, .faddr 12 0 (.t 4)⟩, 0, []⟩,
  ⟨⟨none, .load 13 none (.t 12)⟩, 0, []⟩,
  ⟨⟨none, .callv 14 (.c (.one (.fn k_impl_isTx []))) [(.t 13)]⟩, 0, []⟩,
  ⟨⟨none, .inv 15 (.t 14)⟩, 0, []⟩,
  ⟨⟨none, .mov 16 (.t 15)⟩, 0, []⟩,
  ⟨⟨some (16, false), .load 17 (some 4) (.t 4)⟩, 0, []⟩,
  ⟨⟨some (16, false), .callv 18 (.c (.one (.fn k__impl_Lock_keys []))) [(.t 17)]⟩, 0, []⟩,
  ⟨⟨some (16, false), .callv 19 (.c (.one (.fn k_impl_RangeOk []))) [(.t 18)]⟩, 0, []⟩,
  ⟨⟨some (16, false), .inv 20 (.t 19)⟩, 0, []⟩,
  ⟨⟨none, .pick 21 (.t 16) (.c (.one (.d (.bool true)))) (.t 20)⟩, 0, []⟩,
  ⟨⟨none, .mov 22 (.t 21)⟩, 0, []⟩,
  ⟨⟨some (22, false), .faddr 23 3 (.t 4)⟩, 0, []⟩,
  ⟨⟨some (22, false), .load 24 none (.t 23)⟩, 0, []⟩,
  ⟨⟨some (22, false), .callv 25 (.c (.one (.fn k_impl_isMode []))) [(.t 24)]⟩, 0, []⟩,
  ⟨⟨some (22, false), .inv 26 (.t 25)⟩, 0, []⟩,
  ⟨⟨none, .pick 27 (.t 22) (.c (.one (.d (.bool true)))) (.t 26)⟩, 0, []⟩,
  ⟨⟨none, .mov 28 (.t 27)⟩, 0, []⟩,
  ⟨⟨some (28, false), .mov 29 (.t 0)⟩, 0, []⟩,
  ⟨⟨some (28, false), .mov 30 (.t 3)⟩, 0, []⟩,
  ⟨⟨some (28, false), .slice 31 4 (.t 29) none (some (.t 30)) none⟩, 0, []⟩,
  ⟨⟨some (28, false), .mkfn 32 k_impl_LocksOk_1 [(.t 4)]⟩, 0, []⟩,
  ⟨⟨some (28, false), .callv 33 (.c (.one (.fn k_slices_ContainsFunc___impl_Lock_impl_Lock_ []))) [(.t 31), (.t 32)]⟩, 0, []⟩,
  ⟨⟨none, .pick 34 (.t 28) (.c (.one (.d (.bool true)))) (.t 33)⟩, 0, []⟩]

abbrev i_impl_LocksOk_r5 : List RO := [
  ⟨⟨none, .mov 2 (.c (.one (.d (.bool false))))⟩, 0, []⟩]

abbrev i_impl_LocksOk_r6 : List RO := [
  ⟨⟨none, .bin 35 .add (.t 7) (.c (.one (.d (.int .i64 1))))⟩, 0, []⟩,
  ⟨⟨none, .mov 7 (.t 35)⟩, 0, []⟩]

abbrev i_impl_LocksOk_r7 : List RO := [
  ⟨⟨none, .mov 36 (.t 0)⟩, 0, []⟩,
  ⟨⟨none, .len 37 false (.t 36)⟩, 0, []⟩,
  ⟨⟨none, .bin 38 .leq (.t 37) (.c (.one (.d (.int .i64 40))))⟩, 0, []⟩,
  ⟨⟨none, .mov 2 (.t 38)⟩, 0, []⟩]

def i_impl_LocksOk : IC := (.seq (.reg i_impl_LocksOk_r0)
  (.seq (.seq (.reg i_impl_LocksOk_r1)
  (.block 0 (.loop (.seq (.reg i_impl_LocksOk_r2)
  (.seq (.cond (.t 8) .skip (.exit 0))
  (.seq (.block 1 (.seq (.reg i_impl_LocksOk_r3)
  (.seq (.reg i_impl_LocksOk_r4)
  (.cond (.t 34) (.seq (.reg i_impl_LocksOk_r5)
  .ret) .skip))))
  (.reg i_impl_LocksOk_r6)))))))
  (.seq (.reg i_impl_LocksOk_r7)
  .ret)))

theorem i_impl_LocksOk_ok : (Try.f66.body.bind fun c => toIC Try.prog 39 c []) = some (i_impl_LocksOk, []) := by kernel_rfl

theorem i_impl_LocksOk_fn {ds rs : List D} (hle : ds.length ≤ 39) (h : AW Try.prog 39 i_impl_LocksOk (Ends [.tmp 2] rs) (init ds)) : Fn Try.prog k_impl_LocksOk (lent ds) true rs :=
  Fn.intro' (by kernel_rfl) Try.func66 (by kernel_rfl) i_impl_LocksOk_ok (by kernel_rfl) hle h.h

abbrev i_slices_Clone___impl_Lock_impl_Lock__r0 : List RO := [
  ⟨⟨none, .mov 2 (.c (.one .zs))⟩, 0, []⟩]

abbrev i_slices_Clone___impl_Lock_impl_Lock__r1 : List RO := [
  ⟨⟨none, .mov 3 (.t 0)⟩, 0, []⟩,
  ⟨⟨none, .isnil 4 false (.t 3)⟩, 0, []⟩]

abbrev i_slices_Clone___impl_Lock_impl_Lock__r2 : List RO := [
  ⟨⟨none, .mov 2 (.c (.one .zs))⟩, 0, []⟩]

abbrev i_slices_Clone___impl_Lock_impl_Lock__r3 : List RO := [
  ⟨⟨none, .bslice 5 4 [] []⟩, 0, []⟩,
  ⟨⟨none, .mov 6 (.t 0)⟩, 0, []⟩,
  ⟨⟨none, .app 7 4 32 [(.int .i64 0), (.int .i64 0), (.int .i64 0), (.int .i64 0)] (.t 5) (.t 6)⟩, 0, []⟩,
  ⟨⟨none, .mov 2 (.t 7)⟩, 0, []⟩]

def i_slices_Clone___impl_Lock_impl_Lock_ : IC := (.seq (.reg i_slices_Clone___impl_Lock_impl_Lock__r0)
  (.seq (.seq (.reg i_slices_Clone___impl_Lock_impl_Lock__r1)
  (.cond (.t 4) (.seq (.reg i_slices_Clone___impl_Lock_impl_Lock__r2)
  .ret) .skip))
  (.seq (.reg i_slices_Clone___impl_Lock_impl_Lock__r3)
  .ret)))

theorem i_slices_Clone___impl_Lock_impl_Lock__ok : (Try.f156.body.bind fun c => toIC Try.prog 8 c []) = some (i_slices_Clone___impl_Lock_impl_Lock_, []) := by kernel_rfl

theorem i_slices_Clone___impl_Lock_impl_Lock__fn {ds rs : List D} (hle : ds.length ≤ 8) (h : AW Try.prog 8 i_slices_Clone___impl_Lock_impl_Lock_ (Ends [.tmp 2] rs) (init ds)) : Fn Try.prog k_slices_Clone___impl_Lock_impl_Lock_ (lent ds) true rs :=
  Fn.intro' (by kernel_rfl) Try.func156 (by kernel_rfl) i_slices_Clone___impl_Lock_impl_Lock__ok (by kernel_rfl) hle h.h

abbrev i_impl_LocksHold_1_r0 : List RO := [
  ⟨⟨none, .box 4 (.t 0)⟩, 0, []⟩,
  ⟨⟨none, .mov 5 (.c (.one (.d (.bool false))))⟩, 0, []⟩]

abbrev i_impl_LocksHold_1_r1 : List RO := [
  ⟨⟨none, .faddr 6 0 (.t 4)⟩, 0, []⟩,
  ⟨⟨none, .load 7 none (.t 6)⟩, 0, []⟩,
  ⟨⟨none, .load 8 none (.t 1)⟩, 0, []⟩,
  ⟨⟨none, .bin 9 .eql (.t 7) (.t 8)⟩, 0, []⟩,
  ⟨⟨none, .mov 10 (.t 9)⟩, 0, []⟩,
  ⟨⟨some (10, true), .faddr 11 3 (.t 4)⟩, 0, []⟩,
  ⟨⟨some (10, true), .load 12 none (.t 11)⟩, 0, []⟩,
  ⟨⟨some (10, true), .load 13 none (.t 2)⟩, 0, []⟩,
  ⟨⟨some (10, true), .bin 14 .eql (.t 12) (.t 13)⟩, 0, []⟩,
  ⟨⟨some (10, true), .mov 15 (.t 14)⟩, 0, []⟩,
  ⟨⟨some (15, false), .faddr 16 3 (.t 4)⟩, 0, []⟩,
  ⟨⟨some (15, false), .load 17 none (.t 16)⟩, 0, []⟩,
  ⟨⟨some (15, false), .bin 18 .eql (.t 17) (.c (.one (.d (.int .i64 2))))⟩, 0, []⟩,
  ⟨⟨some (10, true), .pick 19 (.t 15) (.c (.one (.d (.bool true)))) (.t 18)⟩, 0, []⟩,
  ⟨⟨none, .pick 20 (.t 10) (.t 19) (.c (.one (.d (.bool false))))⟩, 0, []⟩,
  ⟨⟨none, .mov 21 (.t 20)⟩, 0, []⟩,
  ⟨⟨some (21, true), .faddr 22 1 (.t 4)⟩, 0, []⟩,
  ⟨⟨some (21, true), .load 23 none (.t 22)⟩, 0, []⟩,
  ⟨⟨some (21, true), .faddr 24 0 (.t 3)⟩, 0, []⟩,
  ⟨⟨some (21, true), .load 25 none (.t 24)⟩, 0, []⟩,
  ⟨⟨some (21, true), .bin 26 .leq (.t 23) (.t 25)⟩, 0, []⟩,
  ⟨⟨none, .pick 27 (.t 21) (.t 26) (.c (.one (.d (.bool false))))⟩, 0, []⟩,
  ⟨⟨none, .mov 28 (.t 27)⟩, 0, []⟩,
  ⟨⟨some (28, true), .faddr 29 1 (.t 3)⟩, 0, []⟩,
  ⟨⟨some (28, true), .load 30 none (.t 29)⟩, 0, []⟩,
  ⟨⟨some (28, true), .faddr 31 2 (.t 4)⟩, 0, []⟩,
  ⟨⟨some (28, true), .load 32 none (.t 31)⟩, 0, []⟩,
  ⟨⟨some (28, true), .bin 33 .leq (.t 30) (.t 32)⟩, 0, []⟩,
  ⟨⟨none, .pick 34 (.t 28) (.t 33) (.c (.one (.d (.bool false))))⟩, 0, []⟩,
  ⟨⟨none, .mov 5 (.t 34)⟩, 0, []⟩]

def i_impl_LocksHold_1 : IC := (.seq (.reg i_impl_LocksHold_1_r0)
  (.seq (.reg i_impl_LocksHold_1_r1)
  .ret))

theorem i_impl_LocksHold_1_ok : (Try.f181.body.bind fun c => toIC Try.prog 35 c []) = some (i_impl_LocksHold_1, []) := by kernel_rfl

theorem i_impl_LocksHold_1_fn {ds rs : List D} (hle : ds.length ≤ 35) (h : AW Try.prog 35 i_impl_LocksHold_1 (Ends [.tmp 5] rs) (init ds)) : Fn Try.prog k_impl_LocksHold_1 (lent ds) true rs :=
  Fn.intro' (by kernel_rfl) Try.func181 (by kernel_rfl) i_impl_LocksHold_1_ok (by kernel_rfl) hle h.h

abbrev i_impl_LocksHold_r0 : List RO := [
  ⟨⟨none, .box 5 (.t 1)⟩, 0, []⟩,
  ⟨⟨none, .box 6 (.t 2)⟩, 0, []⟩,
  ⟨⟨none, .box 7 (.t 3)⟩, 0, []⟩,
  ⟨⟨none, .mov 8 (.c (.one (.d (.bool false))))⟩, 0, []⟩]

abbrev i_impl_LocksHold_r1 : List RO := [
  ⟨⟨none, .mov 9 (.t 0)⟩, 0, []⟩,
  ⟨⟨none, .callv 10 (.c (.one (.fn k_impl_LocksOk []))) [(.t 9)]⟩, 0, []⟩,
  ⟨⟨none, .mov 11 (.t 10)⟩, 0, []⟩,
  ⟨⟨some (11, true), .load 12 (some 2) (.t 6)⟩, 0, []⟩,
  ⟨⟨some (11, true), .callv 13 (.c (.one (.fn k_impl_RangeOk []))) [(.t 12)]⟩, 0, []⟩,
  ⟨⟨none, .pick 14 (.t 11) (.t 13) (.c (.one (.d (.bool false))))⟩, 0, []⟩,
  ⟨⟨none, .mov 15 (.t 14)⟩, 0, []⟩,
  ⟨⟨some (15, true), .load 16 none (.t 7)⟩, 0, []⟩,
  ⟨⟨some (15, true), .callv 17 (.c (.one (.fn k_impl_isMode []))) [(.t 16)]⟩, 0, []⟩,
  ⟨⟨none, .pick 18 (.t 15) (.t 17) (.c (.one (.d (.bool false))))⟩, 0, []⟩,
  ⟨⟨none, .mov 19 (.t 18)⟩, 0, []⟩,
  ⟨⟨some (19, true), .mov 20 (.t 0)⟩, 0, []⟩,
  ⟨⟨some (19, true), .mkfn 21 k_impl_LocksHold_1 [(.t 5), (.t 7), (.t 6)]⟩, 0, []⟩,
  ⟨⟨some (19, true), .callv 22 (.c (.one (.fn k_slices_ContainsFunc___impl_Lock_impl_Lock_ []))) [(.t 20), (.t 21)]⟩, 0, []⟩,
  ⟨⟨none, .pick 23 (.t 19) (.t 22) (.c (.one (.d (.bool false))))⟩, 0, []⟩,
  ⟨⟨none, .mov 8 (.t 23)⟩, 0, []⟩]

def i_impl_LocksHold : IC := (.seq (.reg i_impl_LocksHold_r0)
  (.seq (.reg i_impl_LocksHold_r1)
  .ret))

theorem i_impl_LocksHold_ok : (Try.f68.body.bind fun c => toIC Try.prog 24 c []) = some (i_impl_LocksHold, []) := by kernel_rfl

theorem i_impl_LocksHold_fn {ds rs : List D} (hle : ds.length ≤ 24) (h : AW Try.prog 24 i_impl_LocksHold (Ends [.tmp 8] rs) (init ds)) : Fn Try.prog k_impl_LocksHold (lent ds) true rs :=
  Fn.intro' (by kernel_rfl) Try.func68 (by kernel_rfl) i_impl_LocksHold_ok (by kernel_rfl) hle h.h

abbrev i_cmp_isNaN_int__r0 : List RO := [
  ⟨⟨none, .mov 2 (.c (.one (.d (.bool false))))⟩, 0, []⟩]

abbrev i_cmp_isNaN_int__r1 : List RO := [
  ⟨⟨none, .mov 3 (.t 0)⟩, 0, []⟩,
  ⟨⟨none, .mov 4 (.t 0)⟩, 0, []⟩,
  ⟨⟨none, .bin 5 .neq (.t 3) (.t 4)⟩, 0, []⟩,
  ⟨⟨none, .mov 2 (.t 5)⟩, 0, []⟩]

def i_cmp_isNaN_int_ : IC := (.seq (.reg i_cmp_isNaN_int__r0)
  (.seq (.reg i_cmp_isNaN_int__r1)
  .ret))

theorem i_cmp_isNaN_int__ok : (Try.f284.body.bind fun c => toIC Try.prog 6 c []) = some (i_cmp_isNaN_int_, []) := by kernel_rfl

theorem i_cmp_isNaN_int__fn {ds rs : List D} (hle : ds.length ≤ 6) (h : AW Try.prog 6 i_cmp_isNaN_int_ (Ends [.tmp 2] rs) (init ds)) : Fn Try.prog k_cmp_isNaN_int_ (lent ds) true rs :=
  Fn.intro' (by kernel_rfl) Try.func284 (by kernel_rfl) i_cmp_isNaN_int__ok (by kernel_rfl) hle h.h

abbrev i_cmp_Less_int__r0 : List RO := [
  ⟨⟨none, .mov 4 (.c (.one (.d (.bool false))))⟩, 0, []⟩]

abbrev i_cmp_Less_int__r1 : List RO := [
  ⟨⟨none, .mov 5 (.t 0)⟩, 0, []⟩,
  ⟨⟨none, .callv 6 (.c (.one (.fn k_cmp_isNaN_int_ []))) [(.t 5)]⟩, 0, []⟩,
  ⟨⟨none, .mov 7 (.t 6)⟩, 0, []⟩,
  ⟨⟨some (7, true), .mov 8 (.t 1)⟩, 0, []⟩,
  ⟨⟨some (7, true), .callv 9 (.c (.one (.fn k_cmp_isNaN_int_ []))) [(.t 8)]⟩, 0, []⟩,
  ⟨⟨some (7, true), .inv 10 (.t 9)⟩, 0, []⟩,
  ⟨⟨none, .pick 11 (.t 7) (.t 10) (.c (.one (.d (.bool false))))⟩, 0, []⟩,
  ⟨⟨none, .mov 12 (.t 11)⟩, 0, []⟩,
  ⟨⟨some (12, false), .mov 13 (.t 0)⟩, 0, []⟩,
  ⟨⟨some (12, false), .mov 14 (.t 1)⟩, 0, []⟩,
  ⟨⟨some (12, false), .bin 15 .lss (.t 13) (.t 14)⟩, 0, []⟩,
  ⟨⟨none, .pick 16 (.t 12) (.c (.one (.d (.bool true)))) (.t 15)⟩, 0, []⟩,
  ⟨⟨none, .mov 4 (.t 16)⟩, 0, []⟩]

def i_cmp_Less_int_ : IC := (.seq (.reg i_cmp_Less_int__r0)
  (.seq (.reg i_cmp_Less_int__r1)
  .ret))

theorem i_cmp_Less_int__ok : (Try.f279.body.bind fun c => toIC Try.prog 17 c []) = some (i_cmp_Less_int_, []) := by kernel_rfl

theorem i_cmp_Less_int__fn {ds rs : List D} (hle : ds.length ≤ 17) (h : AW Try.prog 17 i_cmp_Less_int_ (Ends [.tmp 4] rs) (init ds)) : Fn Try.prog k_cmp_Less_int_ (lent ds) true rs :=
  Fn.intro' (by kernel_rfl) Try.func279 (by kernel_rfl) i_cmp_Less_int__ok (by kernel_rfl) hle h.h

abbrev i_slices_isNaN_int__r0 : List RO := [
  ⟨⟨none, .mov 2 (.c (.one (.d (.bool false))))⟩, 0, []⟩]

abbrev i_slices_isNaN_int__r1 : List RO := [
  ⟨⟨none, .mov 3 (.t 0)⟩, 0, []⟩,
  ⟨⟨none, .mov 4 (.t 0)⟩, 0, []⟩,
  ⟨⟨none, .bin 5 .neq (.t 3) (.t 4)⟩, 0, []⟩,
  ⟨⟨none, .mov 2 (.t 5)⟩, 0, []⟩]

def i_slices_isNaN_int_ : IC := (.seq (.reg i_slices_isNaN_int__r0)
  (.seq (.reg i_slices_isNaN_int__r1)
  .ret))

theorem i_slices_isNaN_int__ok : (Try.f280.body.bind fun c => toIC Try.prog 6 c []) = some (i_slices_isNaN_int_, []) := by kernel_rfl

theorem i_slices_isNaN_int__fn {ds rs : List D} (hle : ds.length ≤ 6) (h : AW Try.prog 6 i_slices_isNaN_int_ (Ends [.tmp 2] rs) (init ds)) : Fn Try.prog k_slices_isNaN_int_ (lent ds) true rs :=
  Fn.intro' (by kernel_rfl) Try.func280 (by kernel_rfl) i_slices_isNaN_int__ok (by kernel_rfl) hle h.h

abbrev i_slices_BinarySearch___int_int__r0 : List RO := [
  ⟨⟨none, .mov 4 (.c (.one (.d (.int .i64 0))))⟩, 0, []⟩,
  ⟨⟨none, .mov 5 (.c (.one (.d (.bool false))))⟩, 0, []⟩]

abbrev i_slices_BinarySearch___int_int__r1 : List RO := [
  ⟨⟨none, .mov 10 (.t 0)⟩, 0, []⟩,
  ⟨⟨none, .len 11 false (.t 10)⟩, 0, []⟩,
  ⟨⟨none, .mov 6 (.t 11)⟩, 0, []⟩]

abbrev i_slices_BinarySearch___int_int__r2 : List RO := [
  ⟨⟨none, .mov 12 (.t 6)⟩, 0, []⟩,
  ⟨⟨none, .mov 7 (.c (.one (.d (.int .i64 0))))⟩, 0, []⟩,
  ⟨⟨none, .mov 8 (.t 12)⟩, 0, []⟩]

abbrev i_slices_BinarySearch___int_int__r3 : List RO := [
  ⟨⟨none, .mov 13 (.t 7)⟩, 0, []⟩,
  ⟨⟨none, .mov 14 (.t 8)⟩, 0, []⟩,
  ⟨⟨none, .bin 15 .lss (.t 13) (.t 14)⟩, 0, []⟩]

abbrev i_slices_BinarySearch___int_int__r4 : List RO := [
  ⟨⟨none, .mov 16 (.t 7)⟩, 0, []⟩,
  ⟨⟨none, .mov 17 (.t 8)⟩, 0, []⟩,
  ⟨⟨none, .bin 18 .add (.t 16) (.t 17)⟩, 0, []⟩,
  ⟨⟨none, .conv 19 .u64 (.t 18)⟩, 0, []⟩,
  ⟨⟨none, .bin 20 .shr (.t 19) (.c (.one (.d (.int .u64 1))))⟩, 0, []⟩,
  ⟨⟨none, .conv 21 .i64 (.t 20)⟩, 0, []⟩,
  ⟨⟨none, .mov 9 (.t 21)⟩, 0, []⟩]

abbrev i_slices_BinarySearch___int_int__r5 : List RO := [
  ⟨⟨none, .mov 22 (.t 0)⟩, 0, []⟩,
  ⟨⟨none, .mov 23 (.t 9)⟩, 0, []⟩,
  ⟨⟨none, .iaddr 24 1 (.t 22) (.t 23)⟩, 0, []⟩,
  ⟨⟨none, .load 25 none (.t 24)⟩, 0, []⟩,
  ⟨⟨none, .mov 26 (.t 1)⟩, 0, []⟩,
  ⟨⟨none, .callv 27 (.c (.one (.fn k_cmp_Less_int_ []))) [(.t 25), (.t 26)]⟩, 0, []⟩]

abbrev i_slices_BinarySearch___int_int__r6 : List RO := [
  ⟨⟨none, .mov 28 (.t 9)⟩, 0, []⟩,
  ⟨⟨none, .bin 29 .add (.t 28) (.c (.one (.d (.int .i64 1))))⟩, 0, []⟩,
  ⟨⟨none, .mov 7 (.t 29)⟩, 0, []⟩]

abbrev i_slices_BinarySearch___int_int__r7 : List RO := [
  ⟨⟨none, .mov 30 (.t 9)⟩, 0, []⟩,
  ⟨⟨none, .mov 8 (.t 30)⟩, 0, []⟩]

abbrev i_slices_BinarySearch___int_int__r8 : List RO := [
  ⟨⟨none, .mov 31 (.t 7)⟩, 0, []⟩,
  ⟨⟨none, .mov 32 (.t 7)⟩, 0, []⟩,
  ⟨⟨none, .mov 33 (.t 6)⟩, 0, []⟩,
  ⟨⟨none, .bin 34 .lss (.t 32) (.t 33)⟩, 0, []⟩,
  ⟨⟨none, .mov 35 (.t 34)⟩, 0, []⟩,
  ⟨⟨some (35, true), .mov 36 (.t 0)⟩, 0, []⟩,
  ⟨⟨some (35, true), .mov 37 (.t 7)⟩, 0, []⟩,
  ⟨⟨some (35, true), .iaddr 38 1 (.t 36) (.t 37)⟩, 0, []⟩,
  ⟨⟨some (35, true), .load 39 none (.t 38)⟩, 0, []⟩,
  ⟨⟨some (35, true), .mov 40 (.t 1)⟩, 0, []⟩,
  ⟨⟨some (35, true), .bin 41 .eql (.t 39) (.t 40)⟩, 0, []⟩,
  ⟨⟨some (35, true), .mov 42 (.t 41)⟩, 0, []⟩,
  ⟨⟨some (42, false), .mov 43 (.t 0)⟩, 0, []⟩,
  ⟨⟨some (42, false), .mov 44 (.t 7)⟩, 0, []⟩,
  ⟨⟨some (42, false), .iaddr 45 1 (.t 43) (.t 44)⟩, 0, []⟩,
  ⟨⟨some (42, false), .load 46 none (.t 45)⟩, 0, []⟩,
  ⟨⟨some (42, false), .callv 47 (.c (.one (.fn k_slices_isNaN_int_ []))) [(.t 46)]⟩, 0, []⟩,
  ⟨⟨some (42, false), .mov 48 (.t 47)⟩, 0, []⟩,
  ⟨⟨some (48, true), .mov 49 (.t 1)⟩, 0, []⟩,
  ⟨⟨some (48, true), .callv 50 (.c (.one (.fn k_slices_isNaN_int_ []))) [(.t 49)]⟩, 0, []⟩,
  ⟨⟨some (42, false), .pick 51 (.t 48) (.t 50) (.c (.one (.d (.bool false))))⟩, 0, []⟩,
  ⟨⟨some (35, true), .pick 52 (.t 42) (.c (.one (.d (.bool true)))) (.t 51)⟩, 0, []⟩,
  ⟨⟨none, .pick 53 (.t 35) (.t 52) (.c (.one (.d (.bool false))))⟩, 0, []⟩,
  ⟨⟨none, .mov 4 (.t 31)⟩, 0, []⟩,
  ⟨⟨none, .mov 5 (.t 53)⟩, 0, []⟩]

def i_slices_BinarySearch___int_int_ : IC := (.seq (.reg i_slices_BinarySearch___int_int__r0)
  (.seq (.reg i_slices_BinarySearch___int_int__r1)
  (.seq (.reg i_slices_BinarySearch___int_int__r2)
  (.seq (.block 0 (.loop (.seq (.seq (.reg i_slices_BinarySearch___int_int__r3)
  (.cond (.t 15) .skip (.exit 0)))
  (.block 1 (.seq (.reg i_slices_BinarySearch___int_int__r4)
  (.seq (.reg i_slices_BinarySearch___int_int__r5)
  (.cond (.t 27) (.reg i_slices_BinarySearch___int_int__r6) (.reg i_slices_BinarySearch___int_int__r7))))))))
  (.seq (.reg i_slices_BinarySearch___int_int__r8)
  .ret)))))

theorem i_slices_BinarySearch___int_int__ok : (Try.f267.body.bind fun c => toIC Try.prog 54 c []) = some (i_slices_BinarySearch___int_int_, []) := by kernel_rfl

theorem i_slices_BinarySearch___int_int__fn {ds rs : List D} (hle : ds.length ≤ 54) (h : AW Try.prog 54 i_slices_BinarySearch___int_int_ (Ends [.tmp 4, .tmp 5] rs) (init ds)) : Fn Try.prog k_slices_BinarySearch___int_int_ (lent ds) true rs :=
  Fn.intro' (by kernel_rfl) Try.func267 (by kernel_rfl) i_slices_BinarySearch___int_int__ok (by kernel_rfl) hle h.h

abbrev i_slices_Clone___int_int__r0 : List RO := [
  ⟨⟨none, .mov 2 (.c (.one .zs))⟩, 0, []⟩]

abbrev i_slices_Clone___int_int__r1 : List RO := [
  ⟨⟨none, .mov 3 (.t 0)⟩, 0, []⟩,
  ⟨⟨none, .isnil 4 false (.t 3)⟩, 0, []⟩]

abbrev i_slices_Clone___int_int__r2 : List RO := [
  ⟨⟨none, .mov 2 (.c (.one .zs))⟩, 0, []⟩]

abbrev i_slices_Clone___int_int__r3 : List RO := [
  ⟨⟨none, .bslice 5 1 [] []⟩, 0, []⟩,
  ⟨⟨none, .mov 6 (.t 0)⟩, 0, []⟩,
  ⟨⟨none, .app 7 1 8 [(.int .i64 0)] (.t 5) (.t 6)⟩, 0, []⟩,
  ⟨⟨none, .mov 2 (.t 7)⟩, 0, []⟩]

def i_slices_Clone___int_int_ : IC := (.seq (.reg i_slices_Clone___int_int__r0)
  (.seq (.seq (.reg i_slices_Clone___int_int__r1)
  (.cond (.t 4) (.seq (.reg i_slices_Clone___int_int__r2)
  .ret) .skip))
  (.seq (.reg i_slices_Clone___int_int__r3)
  .ret)))

theorem i_slices_Clone___int_int__ok : (Try.f231.body.bind fun c => toIC Try.prog 8 c []) = some (i_slices_Clone___int_int_, []) := by kernel_rfl

theorem i_slices_Clone___int_int__fn {ds rs : List D} (hle : ds.length ≤ 8) (h : AW Try.prog 8 i_slices_Clone___int_int_ (Ends [.tmp 2] rs) (init ds)) : Fn Try.prog k_slices_Clone___int_int_ (lent ds) true rs :=
  Fn.intro' (by kernel_rfl) Try.func231 (by kernel_rfl) i_slices_Clone___int_int__ok (by kernel_rfl) hle h.h

abbrev i_slices_Insert___int_int__r0 : List RO := [
  ⟨⟨none, .mov 6 (.c (.one .zs))⟩, 0, []⟩]

abbrev i_slices_Insert___int_int__r1 : List RO := [
  ⟨⟨none, .mov 10 (.t 0)⟩, 0, []⟩,
  ⟨⟨none, .mov 11 (.t 1)⟩, 0, []⟩,
  ⟨⟨none, .slice 12 1 (.t 10) (some (.t 11)) none none⟩, 0, []⟩]

abbrev i_slices_Insert___int_int__r2 : List RO := [
  ⟨⟨none, .mov 13 (.t 2)⟩, 0, []⟩,
  ⟨⟨none, .len 14 false (.t 13)⟩, 0, []⟩,
  ⟨⟨none, .mov 7 (.t 14)⟩, 0, []⟩]

abbrev i_slices_Insert___int_int__r3 : List RO := [
  ⟨⟨none, .mov 15 (.t 7)⟩, 0, []⟩,
  ⟨⟨none, .bin 16 .eql (.t 15) (.c (.one (.d (.int .i64 0))))⟩, 0, []⟩]

abbrev i_slices_Insert___int_int__r4 : List RO := [
  ⟨⟨none, .mov 17 (.t 0)⟩, 0, []⟩,
  ⟨⟨none, .mov 6 (.t 17)⟩, 0, []⟩]

abbrev i_slices_Insert___int_int__r5 : List RO := [
  ⟨⟨none, .mov 18 (.t 0)⟩, 0, []⟩,
  ⟨⟨none, .len 19 false (.t 18)⟩, 0, []⟩,
  ⟨⟨none, .mov 8 (.t 19)⟩, 0, []⟩]

abbrev i_slices_Insert___int_int__r6 : List RO := [
  ⟨⟨none, .mov 20 (.t 1)⟩, 0, []⟩,
  ⟨⟨none, .mov 21 (.t 8)⟩, 0, []⟩,
  ⟨⟨none, .bin 22 .eql (.t 20) (.t 21)⟩, 0, []⟩]

abbrev i_slices_Insert___int_int__r7 : List RO := [
  ⟨⟨none, .mov 23 (.t 0)⟩, 0, []⟩,
  ⟨⟨none, .mov 24 (.t 2)⟩, 0, []⟩,
  ⟨⟨none, .app 25 1 8 [(.int .i64 0)] (.t 23) (.t 24)⟩, 0, []⟩,
  ⟨⟨none, .mov 6 (.t 25)⟩, 0, []⟩]

abbrev i_slices_Insert___int_int__r8 : List RO := [
  ⟨⟨none, .mov 26 (.t 8)⟩, 0, []⟩,
  ⟨⟨none, .mov 27 (.t 7)⟩, 0, []⟩,
  ⟨⟨none, .bin 28 .add (.t 26) (.t 27)⟩, 0, []⟩,
  ⟨⟨none, .mov 29 (.t 0)⟩, 0, []⟩,
  ⟨⟨none, .cap 30 (.t 29)⟩, 0, []⟩,
  ⟨⟨none, .bin 31 .gtr (.t 28) (.t 30)⟩, 0, []⟩]

abbrev i_slices_Insert___int_int__r9 : List RO := [
  ⟨⟨none, .mov 32 (.t 0)⟩, 0, []⟩,
  ⟨⟨none, .mov 33 (.t 1)⟩, 0, []⟩,
  ⟨⟨none, .slice 34 1 (.t 32) none (some (.t 33)) none⟩, 0, []⟩,
  ⟨⟨none, .mov 35 (.t 8)⟩, 0, []⟩,
  ⟨⟨none, .mov 36 (.t 7)⟩, 0, []⟩,
  ⟨⟨none, .bin 37 .add (.t 35) (.t 36)⟩, 0, []⟩,
  ⟨⟨none, .mov 38 (.t 1)⟩, 0, []⟩,
  ⟨⟨none, .bin 39 .sub (.t 37) (.t 38)⟩, 0, []⟩,
  ⟨⟨none, .apm 40 1 8 [(.int .i64 0)] (.t 34) (.t 39)⟩, 0, []⟩,
  ⟨⟨none, .mov 9 (.t 40)⟩, 0, []⟩]

abbrev i_slices_Insert___int_int__r10 : List RO := [
  ⟨⟨none, .mov 41 (.t 9)⟩, 0, []⟩,
  ⟨⟨none, .mov 42 (.t 1)⟩, 0, []⟩,
  ⟨⟨none, .slice 43 1 (.t 41) (some (.t 42)) none none⟩, 0, []⟩,
  ⟨⟨none, .mov 44 (.t 2)⟩, 0, []⟩,
  ⟨⟨none, .copy 45 1 (.t 43) (.t 44)⟩, 0, []⟩]

abbrev i_slices_Insert___int_int__r11 : List RO := [
  ⟨⟨none, .mov 46 (.t 9)⟩, 0, []⟩,
  ⟨⟨none, .mov 47 (.t 1)⟩, 0, []⟩,
  ⟨⟨none, .mov 48 (.t 7)⟩, 0, []⟩,
  ⟨⟨none, .bin 49 .add (.t 47) (.t 48)⟩, 6, []⟩,
  ⟨⟨none, .slice 50 1 (.t 46) (some (.t 49)) none none⟩, 15, []⟩,
  ⟨⟨none, .mov 51 (.t 0)⟩, 0, []⟩,
  ⟨⟨none, .mov 52 (.t 1)⟩, 0, []⟩,
  ⟨⟨none, .slice 53 1 (.t 51) (some (.t 52)) none none⟩, 96, []⟩,
  ⟨⟨none, .copy 54 1 (.t 50) (.t 53)⟩, 255, []⟩]

abbrev i_slices_Insert___int_int__r12 : List RO := [
  ⟨⟨none, .mov 55 (.t 9)⟩, 0, []⟩,
  ⟨⟨none, .mov 6 (.t 55)⟩, 0, []⟩]

abbrev i_slices_Insert___int_int__r13 : List RO := [
  ⟨⟨none, .mov 56 (.t 0)⟩, 0, []⟩,
  ⟨⟨none, .mov 57 (.t 8)⟩, 0, []⟩,
  ⟨⟨none, .mov 58 (.t 7)⟩, 0, []⟩,
  ⟨⟨none, .bin 59 .add (.t 57) (.t 58)⟩, 0, []⟩,
  ⟨⟨none, .slice 60 1 (.t 56) none (some (.t 59)) none⟩, 0, []⟩,
  ⟨⟨none, .mov 0 (.t 60)⟩, 0, []⟩]

abbrev i_slices_Insert___int_int__r14 : List RO := [
  ⟨⟨none, .mov 61 (.t 2)⟩, 0, []⟩,
  ⟨⟨none, .mov 62 (.t 0)⟩, 0, []⟩,
  ⟨⟨none, .mov 63 (.t 1)⟩, 0, []⟩,
  ⟨⟨none, .mov 64 (.t 7)⟩, 0, []⟩,
  ⟨⟨none, .bin 65 .add (.t 63) (.t 64)⟩, 0, []⟩,
  ⟨⟨none, .slice 66 1 (.t 62) (some (.t 65)) none none⟩, 0, []⟩,
  ⟨⟨none, .callv 67 (.c (.one (.fn k_slices_overlaps_int_ []))) [(.t 61), (.t 66)]⟩, 0, []⟩,
  ⟨⟨none, .inv 68 (.t 67)⟩, 0, []⟩]

abbrev i_slices_Insert___int_int__r15 : List RO := [
  ⟨⟨none, .mov 69 (.t 0)⟩, 0, []⟩,
  ⟨⟨none, .mov 70 (.t 1)⟩, 0, []⟩,
  ⟨⟨none, .mov 71 (.t 7)⟩, 0, []⟩,
  ⟨⟨none, .bin 72 .add (.t 70) (.t 71)⟩, 6, []⟩,
  ⟨⟨none, .slice 73 1 (.t 69) (some (.t 72)) none none⟩, 15, []⟩,
  ⟨⟨none, .mov 74 (.t 0)⟩, 0, []⟩,
  ⟨⟨none, .mov 75 (.t 1)⟩, 0, []⟩,
  ⟨⟨none, .slice 76 1 (.t 74) (some (.t 75)) none none⟩, 96, []⟩,
  ⟨⟨none, .copy 77 1 (.t 73) (.t 76)⟩, 255, []⟩]

abbrev i_slices_Insert___int_int__r16 : List RO := [
  ⟨⟨none, .mov 78 (.t 0)⟩, 0, []⟩,
  ⟨⟨none, .mov 79 (.t 1)⟩, 0, []⟩,
  ⟨⟨none, .slice 80 1 (.t 78) (some (.t 79)) none none⟩, 0, []⟩,
  ⟨⟨none, .mov 81 (.t 2)⟩, 0, []⟩,
  ⟨⟨none, .copy 82 1 (.t 80) (.t 81)⟩, 0, []⟩]

abbrev i_slices_Insert___int_int__r17 : List RO := [
  ⟨⟨none, .mov 83 (.t 0)⟩, 0, []⟩,
  ⟨⟨none, .mov 6 (.t 83)⟩, 0, []⟩]

abbrev i_slices_Insert___int_int__r18 : List RO := [
  ⟨⟨none, .mov 84 (.t 0)⟩, 0, []⟩,
  ⟨⟨none, .mov 85 (.t 8)⟩, 0, []⟩,
  ⟨⟨none, .slice 86 1 (.t 84) (some (.t 85)) none none⟩, 0, []⟩,
  ⟨⟨none, .mov 87 (.t 2)⟩, 0, []⟩,
  ⟨⟨none, .copy 88 1 (.t 86) (.t 87)⟩, 0, []⟩]

abbrev i_slices_Insert___int_int__r19 : List RO := [
  ⟨⟨none, .mov 89 (.t 0)⟩, 0, []⟩,
  ⟨⟨none, .mov 90 (.t 1)⟩, 0, []⟩,
  ⟨⟨none, .slice 91 1 (.t 89) (some (.t 90)) none none⟩, 0, []⟩,
  ⟨⟨none, .mov 92 (.t 7)⟩, 0, []⟩,
  ⟨⟨none, .callv 93 (.c (.one (.fn k_slices_rotateRight_int_ []))) [(.t 91), (.t 92)]⟩, 0, []⟩]

abbrev i_slices_Insert___int_int__r20 : List RO := [
  ⟨⟨none, .mov 94 (.t 0)⟩, 0, []⟩,
  ⟨⟨none, .mov 6 (.t 94)⟩, 0, []⟩]

def i_slices_Insert___int_int_ : IC := (.seq (.reg i_slices_Insert___int_int__r0)
  (.seq (.reg i_slices_Insert___int_int__r1)
  (.seq (.reg i_slices_Insert___int_int__r2)
  (.seq (.seq (.reg i_slices_Insert___int_int__r3)
  (.cond (.t 16) (.seq (.reg i_slices_Insert___int_int__r4)
  .ret) .skip))
  (.seq (.reg i_slices_Insert___int_int__r5)
  (.seq (.seq (.reg i_slices_Insert___int_int__r6)
  (.cond (.t 22) (.seq (.reg i_slices_Insert___int_int__r7)
  .ret) .skip))
  (.seq (.seq (.reg i_slices_Insert___int_int__r8)
  (.cond (.t 31) (.seq (.reg i_slices_Insert___int_int__r9)
  (.seq (.reg i_slices_Insert___int_int__r10)
  (.seq (.regd i_slices_Insert___int_int__r11)
  (.seq (.reg i_slices_Insert___int_int__r12)
  .ret)))) .skip))
  (.seq (.reg i_slices_Insert___int_int__r13)
  (.seq (.seq (.reg i_slices_Insert___int_int__r14)
  (.cond (.t 68) (.seq (.regd i_slices_Insert___int_int__r15)
  (.seq (.reg i_slices_Insert___int_int__r16)
  (.seq (.reg i_slices_Insert___int_int__r17)
  .ret))) .skip))
  (.seq (.reg i_slices_Insert___int_int__r18)
  (.seq (.reg i_slices_Insert___int_int__r19)
  (.seq (.reg i_slices_Insert___int_int__r20)
  .ret))))))))))))

theorem i_slices_Insert___int_int__ok : (Try.f268.body.bind fun c => toIC Try.prog 95 c [[(0, []), (0, []), (0, []), (6, []), (15, []), (0, []), (0, []), (96, []), (255, [])], [(0, []), (0, []), (0, []), (6, []), (15, []), (0, []), (0, []), (96, []), (255, [])]]) = some (i_slices_Insert___int_int_, []) := by kernel_rfl

theorem i_slices_Insert___int_int__fnM {ars : List Ar} {rs : List D} (hle : ars.length ≤ 95) (hfr : freshL ⟨fun _ => .top, fun _ => none, fun _ => .top⟩ ((argB 0 ars).2.map (·.1))) (hlt : ((argB 0 ars).2.map (·.1)).all (fun n => Nat.ble n 1999999) = true) (h : AW Try.prog 95 i_slices_Insert___int_int_ (EndsM ars [.tmp 6] rs) (initM ars)) : Fn Try.prog k_slices_Insert___int_int_ ars true rs :=
  Fn.introM' (by kernel_rfl) Try.func268 (by kernel_rfl) i_slices_Insert___int_int__ok (by kernel_rfl) hle hfr hlt h.h

abbrev i_impl_inserted_r0 : List RO := [
  ⟨⟨none, .mov 4 (.c (.one .zs))⟩, 0, []⟩]

abbrev i_impl_inserted_r1 : List RO := [
  ⟨⟨none, .mov 8 (.t 0)⟩, 0, []⟩,
  ⟨⟨none, .mov 9 (.t 1)⟩, 0, []⟩,
  ⟨⟨none, .callv 10 (.c (.one (.fn k_slices_BinarySearch___int_int_ []))) [(.t 8), (.t 9)]⟩, 0, []⟩,
  ⟨⟨none, .mov 7 (.t 10)⟩, 0, []⟩,
  ⟨⟨none, .ext 11 (.t 7) 0⟩, 0, []⟩,
  ⟨⟨none, .ext 12 (.t 7) 1⟩, 0, []⟩,
  ⟨⟨none, .mov 5 (.t 11)⟩, 0, []⟩,
  ⟨⟨none, .mov 6 (.t 12)⟩, 0, []⟩]

abbrev i_impl_inserted_r2 : List RO := [
  ⟨⟨none, .mov 13 (.t 6)⟩, 0, []⟩]

abbrev i_impl_inserted_r3 : List RO := [
  ⟨⟨none, .mov 14 (.t 0)⟩, 0, []⟩,
  ⟨⟨none, .mov 4 (.t 14)⟩, 0, []⟩]

abbrev i_impl_inserted_r4 : List RO := [
  ⟨⟨none, .mov 15 (.t 0)⟩, 0, []⟩,
  ⟨⟨none, .callv 16 (.c (.one (.fn k_slices_Clone___int_int_ []))) [(.t 15)]⟩, 0, []⟩,
  ⟨⟨none, .mov 17 (.t 5)⟩, 0, []⟩,
  ⟨⟨none, .mov 18 (.t 1)⟩, 0, []⟩,
  ⟨⟨none, .bslice 19 1 [(.d (.int .i64 0))] [(0, 1, (.t 18))]⟩, 0, []⟩,
  ⟨⟨none, .callv 20 (.c (.one (.fn k_slices_Insert___int_int_ []))) [(.t 16), (.t 17), (.t 19)]⟩, 0, []⟩,
  ⟨⟨none, .mov 4 (.t 20)⟩, 0, []⟩]

def i_impl_inserted : IC := (.seq (.reg i_impl_inserted_r0)
  (.seq (.reg i_impl_inserted_r1)
  (.seq (.seq (.reg i_impl_inserted_r2)
  (.cond (.t 13) (.seq (.reg i_impl_inserted_r3)
  .ret) .skip))
  (.seq (.reg i_impl_inserted_r4)
  .ret))))

theorem i_impl_inserted_ok : (Try.f239.body.bind fun c => toIC Try.prog 21 c []) = some (i_impl_inserted, []) := by kernel_rfl

theorem i_impl_inserted_fnM {ars : List Ar} {rs : List D} (hle : ars.length ≤ 21) (hfr : freshL ⟨fun _ => .top, fun _ => none, fun _ => .top⟩ ((argB 0 ars).2.map (·.1))) (hlt : ((argB 0 ars).2.map (·.1)).all (fun n => Nat.ble n 1999999) = true) (h : AW Try.prog 21 i_impl_inserted (EndsM ars [.tmp 4] rs) (initM ars)) : Fn Try.prog k_impl_inserted ars true rs :=
  Fn.introM' (by kernel_rfl) Try.func239 (by kernel_rfl) i_impl_inserted_ok (by kernel_rfl) hle hfr hlt h.h

abbrev i_slices_Index___int_int__r0 : List RO := [
  ⟨⟨none, .mov 4 (.c (.one (.d (.int .i64 0))))⟩, 0, []⟩]

abbrev i_slices_Index___int_int__r1 : List RO := [
  ⟨⟨none, .mov 6 (.t 0)⟩, 0, []⟩,
  ⟨⟨none, .len 7 false (.t 6)⟩, 0, []⟩,
  ⟨⟨none, .mov 8 (.c (.one (.d (.int .i64 0))))⟩, 0, []⟩]

abbrev i_slices_Index___int_int__r2 : List RO := [
  ⟨⟨none, .bin 9 .lss (.t 8) (.t 7)⟩, 0, []⟩]

abbrev i_slices_Index___int_int__r3 : List RO := [
  ⟨⟨none, .mov 10 (.t 8)⟩, 0, []⟩,
  ⟨⟨none, .mov 5 (.t 10)⟩, 0, []⟩]

abbrev i_slices_Index___int_int__r4 : List RO := [
  ⟨⟨none, .mov 11 (.t 1)⟩, 0, []⟩,
  ⟨⟨none, .mov 12 (.t 0)⟩, 0, []⟩,
  ⟨⟨none, .mov 13 (.t 5)⟩, 0, []⟩,
  ⟨⟨none, .iaddr 14 1 (.t 12) (.t 13)⟩, 0, []⟩,
  ⟨⟨none, .load 15 none (.t 14)⟩, 0, []⟩,
  ⟨⟨none, .bin 16 .eql (.t 11) (.t 15)⟩, 0, []⟩]

abbrev i_slices_Index___int_int__r5 : List RO := [
  ⟨⟨none, .mov 17 (.t 5)⟩, 0, []⟩,
  ⟨⟨none, .mov 4 (.t 17)⟩, 0, []⟩]

abbrev i_slices_Index___int_int__r6 : List RO := [
  ⟨⟨none, .bin 18 .add (.t 8) (.c (.one (.d (.int .i64 1))))⟩, 0, []⟩,
  ⟨⟨none, .mov 8 (.t 18)⟩, 0, []⟩]

abbrev i_slices_Index___int_int__r7 : List RO := [
  ⟨⟨none, .mov 4 (.c (.one (.d (.int .i64 (-1)))))⟩, 0, []⟩]

def i_slices_Index___int_int_ : IC := (.seq (.reg i_slices_Index___int_int__r0)
  (.seq (.seq (.reg i_slices_Index___int_int__r1)
  (.block 0 (.loop (.seq (.reg i_slices_Index___int_int__r2)
  (.seq (.cond (.t 9) .skip (.exit 0))
  (.seq (.block 1 (.seq (.reg i_slices_Index___int_int__r3)
  (.seq (.reg i_slices_Index___int_int__r4)
  (.cond (.t 16) (.seq (.reg i_slices_Index___int_int__r5)
  .ret) .skip))))
  (.reg i_slices_Index___int_int__r6)))))))
  (.seq (.reg i_slices_Index___int_int__r7)
  .ret)))

theorem i_slices_Index___int_int__ok : (Try.f241.body.bind fun c => toIC Try.prog 19 c []) = some (i_slices_Index___int_int_, []) := by kernel_rfl

theorem i_slices_Index___int_int__fn {ds rs : List D} (hle : ds.length ≤ 19) (h : AW Try.prog 19 i_slices_Index___int_int_ (Ends [.tmp 4] rs) (init ds)) : Fn Try.prog k_slices_Index___int_int_ (lent ds) true rs :=
  Fn.intro' (by kernel_rfl) Try.func241 (by kernel_rfl) i_slices_Index___int_int__ok (by kernel_rfl) hle h.h

abbrev i_slices_Contains___int_int__r0 : List RO := [
  ⟨⟨none, .mov 4 (.c (.one (.d (.bool false))))⟩, 0, []⟩]

abbrev i_slices_Contains___int_int__r1 : List RO := [
  ⟨⟨none, .mov 5 (.t 0)⟩, 0, []⟩,
  ⟨⟨none, .mov 6 (.t 1)⟩, 0, []⟩,
  ⟨⟨none, .callv 7 (.c (.one (.fn k_slices_Index___int_int_ []))) [(.t 5), (.t 6)]⟩, 0, []⟩,
  ⟨⟨none, .bin 8 .geq (.t 7) (.c (.one (.d (.int .i64 0))))⟩, 0, []⟩,
  ⟨⟨none, .mov 4 (.t 8)⟩, 0, []⟩]

def i_slices_Contains___int_int_ : IC := (.seq (.reg i_slices_Contains___int_int__r0)
  (.seq (.reg i_slices_Contains___int_int__r1)
  .ret))

theorem i_slices_Contains___int_int__ok : (Try.f160.body.bind fun c => toIC Try.prog 9 c []) = some (i_slices_Contains___int_int_, []) := by kernel_rfl

theorem i_slices_Contains___int_int__fn {ds rs : List D} (hle : ds.length ≤ 9) (h : AW Try.prog 9 i_slices_Contains___int_int_ (Ends [.tmp 4] rs) (init ds)) : Fn Try.prog k_slices_Contains___int_int_ (lent ds) true rs :=
  Fn.intro' (by kernel_rfl) Try.func160 (by kernel_rfl) i_slices_Contains___int_int__ok (by kernel_rfl) hle h.h

abbrev i_impl_clashing_r0 : List RO := [
  ⟨⟨none, .box 5 (.t 2)⟩, 0, []⟩,
  ⟨⟨none, .mov 6 (.c (.one .zs))⟩, 0, []⟩,
  ⟨⟨none, .mov 7 (.c (.one .zs))⟩, 0, []⟩]

abbrev i_impl_clashing_r1 : List RO := [
  ⟨⟨none, .bslice 12 1 [] []⟩, 0, []⟩,
  ⟨⟨none, .bslice 13 1 [] []⟩, 0, []⟩,
  ⟨⟨none, .mov 8 (.t 12)⟩, 0, []⟩,
  ⟨⟨none, .mov 9 (.t 13)⟩, 0, []⟩]

abbrev i_impl_clashing_r2 : List RO := [
  ⟨⟨none, .mov 14 (.t 0)⟩, 0, []⟩,
  ⟨⟨none, .len 15 false (.t 14)⟩, 0, []⟩,
  ⟨⟨none, .mov 16 (.c (.one (.d (.int .i64 0))))⟩, 0, []⟩]

abbrev i_impl_clashing_r3 : List RO := [
  ⟨⟨none, .bin 17 .lss (.t 16) (.t 15)⟩, 0, []⟩]

abbrev i_impl_clashing_r4 : List RO := [
  ⟨⟨none, .iaddr 18 4 (.t 14) (.t 16)⟩, 0, []⟩,
  ⟨⟨none, .load 19 (some 4) (.t 18)⟩, 0, []⟩,
  ⟨⟨none, .var 11 [(.d (.int .i64 0)), (.d (.int .i64 0)), (.d (.int .i64 0)), (.d (.int .i64 0))]⟩, 0, []⟩,
  ⟨⟨none, .store 4 [(.int .i64 0), (.int .i64 0), (.int .i64 0), (.int .i64 0)] (.t 11) (.t 19)⟩, 0, []⟩]

abbrev i_impl_clashing_r5 : List RO := [
  ⟨⟨none, .load 20 (some 4) (.t 5)⟩, 0, []⟩,
  ⟨⟨none, .load 21 (some 4) (.t 11)⟩, 0, []⟩,
  ⟨⟨none, .callv 22 (.c (.one (.fn k_impl_clash []))) [(.t 20), (.t 21)]⟩, 0, []⟩,
  ⟨⟨none, .inv 23 (.t 22)⟩, 0, []⟩]

abbrev i_impl_clashing_r6 : List RO := [
  ⟨⟨none, .mov 24 (.t 8)⟩, 0, []⟩,
  ⟨⟨none, .faddr 25 0 (.t 11)⟩, 0, []⟩,
  ⟨⟨none, .load 26 none (.t 25)⟩, 0, []⟩,
  ⟨⟨none, .callv 27 (.c (.one (.fn k_impl_inserted []))) [(.t 24), (.t 26)]⟩, 0, []⟩,
  ⟨⟨none, .mov 8 (.t 27)⟩, 0, []⟩]

abbrev i_impl_clashing_r7 : List RO := [
  ⟨⟨none, .faddr 28 0 (.t 11)⟩, 0, []⟩,
  ⟨⟨none, .load 29 none (.t 28)⟩, 0, []⟩,
  ⟨⟨none, .faddr 30 0 (.t 5)⟩, 0, []⟩,
  ⟨⟨none, .load 31 none (.t 30)⟩, 0, []⟩,
  ⟨⟨none, .bin 32 .lss (.t 29) (.t 31)⟩, 0, []⟩,
  ⟨⟨none, .mov 33 (.t 32)⟩, 0, []⟩,
  ⟨⟨some (33, false), .mov 34 (.t 1)⟩, 0, []⟩,
  ⟨⟨some (33, false), .faddr 35 0 (.t 11)⟩, 0, []⟩,
  ⟨⟨some (33, false), .load 36 none (.t 35)⟩, 0, []⟩,
  ⟨⟨some (33, false), .callv 37 (.c (.one (.fn k_slices_Contains___int_int_ []))) [(.t 34), (.t 36)]⟩, 0, []⟩,
  ⟨⟨none, .pick 38 (.t 33) (.c (.one (.d (.bool true)))) (.t 37)⟩, 0, []⟩]

abbrev i_impl_clashing_r8 : List RO := [
  ⟨⟨none, .mov 39 (.t 9)⟩, 0, []⟩,
  ⟨⟨none, .faddr 40 0 (.t 11)⟩, 0, []⟩,
  ⟨⟨none, .load 41 none (.t 40)⟩, 0, []⟩,
  ⟨⟨none, .callv 42 (.c (.one (.fn k_impl_inserted []))) [(.t 39), (.t 41)]⟩, 0, []⟩,
  ⟨⟨none, .mov 9 (.t 42)⟩, 0, []⟩]

abbrev i_impl_clashing_r9 : List RO := [
  ⟨⟨none, .bin 43 .add (.t 16) (.c (.one (.d (.int .i64 1))))⟩, 0, []⟩,
  ⟨⟨none, .mov 16 (.t 43)⟩, 0, []⟩]

abbrev i_impl_clashing_r10 : List RO := [
  ⟨⟨none, .mov 44 (.t 8)⟩, 0, []⟩,
  ⟨⟨none, .mov 45 (.t 9)⟩, 0, []⟩,
  ⟨⟨none, .mov 6 (.t 44)⟩, 0, []⟩,
  ⟨⟨none, .mov 7 (.t 45)⟩, 0, []⟩]

def i_impl_clashing : IC := (.seq (.reg i_impl_clashing_r0)
  (.seq (.reg i_impl_clashing_r1)
  (.seq (.seq (.reg i_impl_clashing_r2)
  (.block 0 (.loop (.seq (.reg i_impl_clashing_r3)
  (.seq (.cond (.t 17) .skip (.exit 0))
  (.seq (.block 1 (.seq (.reg i_impl_clashing_r4)
  (.seq (.seq (.reg i_impl_clashing_r5)
  (.cond (.t 23) (.exit 1) .skip))
  (.seq (.reg i_impl_clashing_r6)
  (.seq (.reg i_impl_clashing_r7)
  (.cond (.t 38) (.reg i_impl_clashing_r8) .skip))))))
  (.reg i_impl_clashing_r9)))))))
  (.seq (.reg i_impl_clashing_r10)
  .ret))))

theorem i_impl_clashing_ok : (Try.f157.body.bind fun c => toIC Try.prog 46 c []) = some (i_impl_clashing, []) := by kernel_rfl

theorem i_impl_clashing_fn {ds rs : List D} (hle : ds.length ≤ 46) (h : AW Try.prog 46 i_impl_clashing (Ends [.tmp 6, .tmp 7] rs) (init ds)) : Fn Try.prog k_impl_clashing (lent ds) true rs :=
  Fn.intro' (by kernel_rfl) Try.func157 (by kernel_rfl) i_impl_clashing_ok (by kernel_rfl) hle h.h

abbrev i_impl_LockAsk_1_r0 : List RO := [
  ⟨⟨none, .box 2 (.t 0)⟩, 0, []⟩,
  ⟨⟨none, .mov 3 (.c (.one (.d (.bool false))))⟩, 0, []⟩]

abbrev i_impl_LockAsk_1_r1 : List RO := [
  ⟨⟨none, .load 4 none (.t 1)⟩, 0, []⟩,
  ⟨⟨none, .faddr 5 0 (.t 2)⟩, 0, []⟩,
  ⟨⟨none, .load 6 none (.t 5)⟩, 0, []⟩,
  ⟨⟨none, .callv 7 (.c (.one (.fn k_slices_Contains___int_int_ []))) [(.t 4), (.t 6)]⟩, 0, []⟩,
  ⟨⟨none, .mov 3 (.t 7)⟩, 0, []⟩]

def i_impl_LockAsk_1 : IC := (.seq (.reg i_impl_LockAsk_1_r0)
  (.seq (.reg i_impl_LockAsk_1_r1)
  .ret))

theorem i_impl_LockAsk_1_ok : (Try.f159.body.bind fun c => toIC Try.prog 8 c []) = some (i_impl_LockAsk_1, []) := by kernel_rfl

theorem i_impl_LockAsk_1_fn {ds rs : List D} (hle : ds.length ≤ 8) (h : AW Try.prog 8 i_impl_LockAsk_1 (Ends [.tmp 3] rs) (init ds)) : Fn Try.prog k_impl_LockAsk_1 (lent ds) true rs :=
  Fn.intro' (by kernel_rfl) Try.func159 (by kernel_rfl) i_impl_LockAsk_1_ok (by kernel_rfl) hle h.h

abbrev i_slices_DeleteFunc___impl_Lock_impl_Lock__r0 : List RO := [
  ⟨⟨none, .mov 4 (.c (.one .zs))⟩, 0, []⟩]

abbrev i_slices_DeleteFunc___impl_Lock_impl_Lock__r1 : List RO := [
  ⟨⟨none, .mov 8 (.t 0)⟩, 0, []⟩,
  ⟨⟨none, .mov 9 (.t 1)⟩, 0, []⟩,
  ⟨⟨none, .callv 10 (.c (.one (.fn k_slices_IndexFunc___impl_Lock_impl_Lock_ []))) [(.t 8), (.t 9)]⟩, 0, []⟩,
  ⟨⟨none, .mov 5 (.t 10)⟩, 0, []⟩]

abbrev i_slices_DeleteFunc___impl_Lock_impl_Lock__r2 : List RO := [
  ⟨⟨none, .mov 11 (.t 5)⟩, 0, []⟩,
  ⟨⟨none, .bin 12 .eql (.t 11) (.c (.one (.d (.int .i64 (-1)))))⟩, 0, []⟩]

abbrev i_slices_DeleteFunc___impl_Lock_impl_Lock__r3 : List RO := [
  ⟨⟨none, .mov 13 (.t 0)⟩, 0, []⟩,
  ⟨⟨none, .mov 4 (.t 13)⟩, 0, []⟩]

abbrev i_slices_DeleteFunc___impl_Lock_impl_Lock__r4 : List RO := [
  ⟨⟨none, .mov 14 (.t 5)⟩, 0, []⟩,
  ⟨⟨none, .bin 15 .add (.t 14) (.c (.one (.d (.int .i64 1))))⟩, 0, []⟩,
  ⟨⟨none, .mov 6 (.t 15)⟩, 0, []⟩]

abbrev i_slices_DeleteFunc___impl_Lock_impl_Lock__r5 : List RO := [
  ⟨⟨none, .mov 16 (.t 6)⟩, 0, []⟩,
  ⟨⟨none, .mov 17 (.t 0)⟩, 0, []⟩,
  ⟨⟨none, .len 18 false (.t 17)⟩, 0, []⟩,
  ⟨⟨none, .bin 19 .lss (.t 16) (.t 18)⟩, 0, []⟩]

abbrev i_slices_DeleteFunc___impl_Lock_impl_Lock__r6 : List RO := [
  ⟨⟨none, .mov 22 (.t 0)⟩, 0, []⟩,
  ⟨⟨none, .mov 23 (.t 6)⟩, 0, []⟩,
  ⟨⟨none, .iaddr 24 4 (.t 22) (.t 23)⟩, 0, []⟩,
  ⟨⟨none, .load 25 (some 4) (.t 24)⟩, 0, []⟩,
  ⟨⟨none, .var 7 [(.d (.int .i64 0)), (.d (.int .i64 0)), (.d (.int .i64 0)), (.d (.int .i64 0))]⟩, 0, []⟩,
  ⟨⟨none, .store 4 [(.int .i64 0), (.int .i64 0), (.int .i64 0), (.int .i64 0)] (.t 7) (.t 25)⟩, 0, []⟩]

abbrev i_slices_DeleteFunc___impl_Lock_impl_Lock__r7 : List RO := [
  ⟨⟨none, .mov 26 (.t 1)⟩, 0, []⟩,
  ⟨⟨none, .load 27 (some 4) (.t 7)⟩, 0, []⟩,
  ⟨⟨none, .callv 28 (.t 26) [(.t 27)]⟩, 0, []⟩,
  ⟨⟨none, .inv 29 (.t 28)⟩, 0, []⟩]

abbrev i_slices_DeleteFunc___impl_Lock_impl_Lock__r8 : List RO := [
  ⟨⟨none, .mov 30 (.t 0)⟩, 0, []⟩,
  ⟨⟨none, .mov 31 (.t 5)⟩, 0, []⟩,
  ⟨⟨none, .load 32 (some 4) (.t 7)⟩, 0, []⟩,
  ⟨⟨none, .iaddr 33 4 (.t 30) (.t 31)⟩, 0, []⟩,
  ⟨⟨none, .store 4 [(.int .i64 0), (.int .i64 0), (.int .i64 0), (.int .i64 0)] (.t 33) (.t 32)⟩, 0, []⟩]

abbrev i_slices_DeleteFunc___impl_Lock_impl_Lock__r9 : List RO := [
  ⟨⟨none, .mov 34 (.t 5)⟩, 0, []⟩,
  ⟨⟨none, .bin 35 .add (.t 34) (.c (.one (.d (.int .i64 1))))⟩, 0, []⟩,
  ⟨⟨none, .mov 5 (.t 35)⟩, 0, []⟩]

abbrev i_slices_DeleteFunc___impl_Lock_impl_Lock__r10 : List RO := [
  ⟨⟨none, .mov 20 (.t 6)⟩, 0, []⟩,
  ⟨⟨none, .bin 21 .add (.t 20) (.c (.one (.d (.int .i64 1))))⟩, 0, []⟩,
  ⟨⟨none, .mov 6 (.t 21)⟩, 0, []⟩]

abbrev i_slices_DeleteFunc___impl_Lock_impl_Lock__r11 : List RO := [
  ⟨⟨none, .mov 36 (.t 0)⟩, 0, []⟩,
  ⟨⟨none, .mov 37 (.t 5)⟩, 0, []⟩,
  ⟨⟨none, .slice 38 4 (.t 36) (some (.t 37)) none none⟩, 0, []⟩,
  ⟨⟨none, .clear 4 [(.int .i64 0), (.int .i64 0), (.int .i64 0), (.int .i64 0)] (.t 38)⟩, 0, []⟩]

abbrev i_slices_DeleteFunc___impl_Lock_impl_Lock__r12 : List RO := [
  ⟨⟨none, .mov 39 (.t 0)⟩, 0, []⟩,
  ⟨⟨none, .mov 40 (.t 5)⟩, 0, []⟩,
  ⟨⟨none, .slice 41 4 (.t 39) none (some (.t 40)) none⟩, 0, []⟩,
  ⟨⟨none, .mov 4 (.t 41)⟩, 0, []⟩]

def i_slices_DeleteFunc___impl_Lock_impl_Lock_ : IC := (.seq (.reg i_slices_DeleteFunc___impl_Lock_impl_Lock__r0)
  (.seq (.reg i_slices_DeleteFunc___impl_Lock_impl_Lock__r1)
  (.seq (.seq (.reg i_slices_DeleteFunc___impl_Lock_impl_Lock__r2)
  (.cond (.t 12) (.seq (.reg i_slices_DeleteFunc___impl_Lock_impl_Lock__r3)
  .ret) .skip))
  (.seq (.seq (.reg i_slices_DeleteFunc___impl_Lock_impl_Lock__r4)
  (.block 0 (.loop (.seq (.seq (.reg i_slices_DeleteFunc___impl_Lock_impl_Lock__r5)
  (.cond (.t 19) .skip (.exit 0)))
  (.seq (.block 1 (.seq (.reg i_slices_DeleteFunc___impl_Lock_impl_Lock__r6)
  (.seq (.reg i_slices_DeleteFunc___impl_Lock_impl_Lock__r7)
  (.cond (.t 29) (.seq (.reg i_slices_DeleteFunc___impl_Lock_impl_Lock__r8)
  (.reg i_slices_DeleteFunc___impl_Lock_impl_Lock__r9)) .skip))))
  (.reg i_slices_DeleteFunc___impl_Lock_impl_Lock__r10))))))
  (.seq (.reg i_slices_DeleteFunc___impl_Lock_impl_Lock__r11)
  (.seq (.reg i_slices_DeleteFunc___impl_Lock_impl_Lock__r12)
  .ret))))))

theorem i_slices_DeleteFunc___impl_Lock_impl_Lock__ok : (Try.f158.body.bind fun c => toIC Try.prog 42 c []) = some (i_slices_DeleteFunc___impl_Lock_impl_Lock_, []) := by kernel_rfl

theorem i_slices_DeleteFunc___impl_Lock_impl_Lock__fnM {ars : List Ar} {rs : List D} (hle : ars.length ≤ 42) (hfr : freshL ⟨fun _ => .top, fun _ => none, fun _ => .top⟩ ((argB 0 ars).2.map (·.1))) (hlt : ((argB 0 ars).2.map (·.1)).all (fun n => Nat.ble n 1999999) = true) (h : AW Try.prog 42 i_slices_DeleteFunc___impl_Lock_impl_Lock_ (EndsM ars [.tmp 4] rs) (initM ars)) : Fn Try.prog k_slices_DeleteFunc___impl_Lock_impl_Lock_ ars true rs :=
  Fn.introM' (by kernel_rfl) Try.func158 (by kernel_rfl) i_slices_DeleteFunc___impl_Lock_impl_Lock__ok (by kernel_rfl) hle hfr hlt h.h

abbrev i_impl_LockAsk_r0 : List RO := [
  ⟨⟨none, .box 8 (.t 3)⟩, 0, []⟩,
  ⟨⟨none, .mov 10 (.c (.one .zs))⟩, 0, []⟩,
  ⟨⟨none, .mov 11 (.c (.one .zs))⟩, 0, []⟩,
  ⟨⟨none, .mov 12 (.c (.one (.d (.int .i64 0))))⟩, 0, []⟩]

abbrev i_impl_LockAsk_r1 : List RO := [
  ⟨⟨none, .mov 18 (.t 0)⟩, 0, []⟩,
  ⟨⟨none, .callv 19 (.c (.one (.fn k_impl_LocksOk []))) [(.t 18)]⟩, 0, []⟩,
  ⟨⟨none, .inv 20 (.t 19)⟩, 0, []⟩,
  ⟨⟨none, .mov 21 (.t 20)⟩, 0, []⟩,
  ⟨⟨some (21, false), .mov 22 (.t 1)⟩, 0, []⟩,
  ⟨⟨some (21, false), .len 23 false (.t 22)⟩, 0, []⟩,
  ⟨⟨some (21, false), .bin 24 .gtr (.t 23) (.c (.one (.d (.int .i64 60))))⟩, 0, []⟩,
  ⟨⟨none, .pick 25 (.t 21) (.c (.one (.d (.bool true)))) (.t 24)⟩, 0, []⟩,
  ⟨⟨none, .mov 26 (.t 25)⟩, 0, []⟩,
  ⟨⟨some (26, false), .mov 27 (.t 2)⟩, 0, []⟩,
  ⟨⟨some (26, false), .callv 28 (.c (.one (.fn k_impl_isTx []))) [(.t 27)]⟩, 0, []⟩,
  ⟨⟨some (26, false), .inv 29 (.t 28)⟩, 0, []⟩,
  ⟨⟨none, .pick 30 (.t 26) (.c (.one (.d (.bool true)))) (.t 29)⟩, 0, []⟩,
  ⟨⟨none, .mov 31 (.t 30)⟩, 0, []⟩,
  ⟨⟨some (31, false), .load 32 (some 2) (.t 8)⟩, 0, []⟩,
  ⟨⟨some (31, false), .callv 33 (.c (.one (.fn k_impl_RangeOk []))) [(.t 32)]⟩, 0, []⟩,
  ⟨⟨some (31, false), .inv 34 (.t 33)⟩, 0, []⟩,
  ⟨⟨none, .pick 35 (.t 31) (.c (.one (.d (.bool true)))) (.t 34)⟩, 0, []⟩,
  ⟨⟨none, .mov 36 (.t 35)⟩, 0, []⟩,
  ⟨⟨some (36, false), .mov 37 (.t 4)⟩, 0, []⟩,
  ⟨⟨some (36, false), .callv 38 (.c (.one (.fn k_impl_isMode []))) [(.t 37)]⟩, 0, []⟩,
  ⟨⟨some (36, false), .inv 39 (.t 38)⟩, 0, []⟩,
  ⟨⟨none, .pick 40 (.t 36) (.c (.one (.d (.bool true)))) (.t 39)⟩, 0, []⟩]

abbrev i_impl_LockAsk_r2 : List RO := [
  ⟨⟨none, .mov 10 (.c (.one .zs))⟩, 0, []⟩,
  ⟨⟨none, .mov 11 (.c (.one .zs))⟩, 0, []⟩,
  ⟨⟨none, .mov 12 (.c (.one (.d (.int .i64 1))))⟩, 0, []⟩]

abbrev i_impl_LockAsk_r3 : List RO := [
  ⟨⟨none, .mov 41 (.t 0)⟩, 0, []⟩,
  ⟨⟨none, .callv 42 (.c (.one (.fn k_slices_Clone___impl_Lock_impl_Lock_ []))) [(.t 41)]⟩, 0, []⟩,
  ⟨⟨none, .mov 13 (.t 42)⟩, 0, []⟩]

abbrev i_impl_LockAsk_r4 : List RO := [
  ⟨⟨none, .mov 43 (.t 0)⟩, 0, []⟩,
  ⟨⟨none, .mov 44 (.t 2)⟩, 0, []⟩,
  ⟨⟨none, .load 45 (some 2) (.t 8)⟩, 0, []⟩,
  ⟨⟨none, .mov 46 (.t 4)⟩, 0, []⟩,
  ⟨⟨none, .callv 47 (.c (.one (.fn k_impl_LocksHold []))) [(.t 43), (.t 44), (.t 45), (.t 46)]⟩, 0, []⟩]

abbrev i_impl_LockAsk_r5 : List RO := [
  ⟨⟨none, .mov 48 (.t 13)⟩, 0, []⟩,
  ⟨⟨none, .mov 10 (.t 48)⟩, 0, []⟩,
  ⟨⟨none, .mov 11 (.c (.one .zs))⟩, 0, []⟩,
  ⟨⟨none, .mov 12 (.c (.one (.d (.int .i64 0))))⟩, 0, []⟩]

abbrev i_impl_LockAsk_r6 : List RO := [
  ⟨⟨none, .mov 49 (.t 2)⟩, 0, []⟩,
  ⟨⟨none, .faddr 50 0 (.t 8)⟩, 0, []⟩,
  ⟨⟨none, .load 51 none (.t 50)⟩, 0, []⟩,
  ⟨⟨none, .faddr 52 1 (.t 8)⟩, 0, []⟩,
  ⟨⟨none, .load 53 none (.t 52)⟩, 0, []⟩,
  ⟨⟨none, .mov 54 (.t 4)⟩, 0, []⟩,
  ⟨⟨none, .build 55 [(.d (.int .i64 0)), (.d (.int .i64 0)), (.d (.int .i64 0)), (.d (.int .i64 0))] [(0, 1, (.t 49)), (1, 1, (.t 51)), (2, 1, (.t 53)), (3, 1, (.t 54))]⟩, 0, []⟩,
  ⟨⟨none, .var 14 [(.d (.int .i64 0)), (.d (.int .i64 0)), (.d (.int .i64 0)), (.d (.int .i64 0))]⟩, 0, []⟩,
  ⟨⟨none, .store 4 [(.int .i64 0), (.int .i64 0), (.int .i64 0), (.int .i64 0)] (.t 14) (.t 55)⟩, 0, []⟩]

abbrev i_impl_LockAsk_r7 : List RO := [
  ⟨⟨none, .mov 57 (.t 0)⟩, 0, []⟩,
  ⟨⟨none, .mov 58 (.t 1)⟩, 0, []⟩,
  ⟨⟨none, .load 59 (some 4) (.t 14)⟩, 0, []⟩,
  ⟨⟨none, .callv 60 (.c (.one (.fn k_impl_clashing []))) [(.t 57), (.t 58), (.t 59)]⟩, 0, []⟩,
  ⟨⟨none, .mov 56 (.t 60)⟩, 0, []⟩,
  ⟨⟨none, .ext 61 (.t 56) 0⟩, 0, []⟩,
  ⟨⟨none, .ext 62 (.t 56) 1⟩, 0, []⟩,
  ⟨⟨none, .var 15 [.zs]⟩, 0, []⟩,
  ⟨⟨none, .store 1 [(.sl 1 [])] (.t 15) (.t 61)⟩, 0, []⟩,
  ⟨⟨none, .mov 16 (.t 62)⟩, 0, []⟩]

abbrev i_impl_LockAsk_r8 : List RO := [
  ⟨⟨none, .mov 63 (.t 16)⟩, 0, []⟩,
  ⟨⟨none, .len 64 false (.t 63)⟩, 0, []⟩,
  ⟨⟨none, .bin 65 .gtr (.t 64) (.c (.one (.d (.int .i64 0))))⟩, 0, []⟩]

abbrev i_impl_LockAsk_r9 : List RO := [
  ⟨⟨none, .mov 66 (.t 13)⟩, 0, []⟩,
  ⟨⟨none, .mov 10 (.t 66)⟩, 0, []⟩,
  ⟨⟨none, .mov 11 (.c (.one .zs))⟩, 0, []⟩,
  ⟨⟨none, .mov 12 (.c (.one (.d (.int .i64 2))))⟩, 0, []⟩]

abbrev i_impl_LockAsk_r10 : List RO := [
  ⟨⟨none, .mov 67 (.t 0)⟩, 0, []⟩,
  ⟨⟨none, .callv 68 (.c (.one (.fn k_slices_Clone___impl_Lock_impl_Lock_ []))) [(.t 67)]⟩, 0, []⟩,
  ⟨⟨none, .mkfn 69 k_impl_LockAsk_1 [(.t 15)]⟩, 0, []⟩,
  ⟨⟨none, .callv 70 (.c (.one (.fn k_slices_DeleteFunc___impl_Lock_impl_Lock_ []))) [(.t 68), (.t 69)]⟩, 0, []⟩,
  ⟨⟨none, .mov 17 (.t 70)⟩, 0, []⟩]

abbrev i_impl_LockAsk_r11 : List RO := [
  ⟨⟨none, .mov 71 (.t 17)⟩, 0, []⟩,
  ⟨⟨none, .len 72 false (.t 71)⟩, 0, []⟩,
  ⟨⟨none, .bin 73 .eql (.t 72) (.c (.one (.d (.int .i64 40))))⟩, 0, []⟩]

abbrev i_impl_LockAsk_r12 : List RO := [
  ⟨⟨none, .mov 74 (.t 13)⟩, 0, []⟩,
  ⟨⟨none, .mov 10 (.t 74)⟩, 0, []⟩,
  ⟨⟨none, .mov 11 (.c (.one .zs))⟩, 0, []⟩,
  ⟨⟨none, .mov 12 (.c (.one (.d (.int .i64 3))))⟩, 0, []⟩]

abbrev i_impl_LockAsk_r13 : List RO := [
  ⟨⟨none, .mov 75 (.t 17)⟩, 0, []⟩,
  ⟨⟨none, .load 76 (some 4) (.t 14)⟩, 0, []⟩,
  ⟨⟨none, .bslice 77 4 [(.d (.int .i64 0)), (.d (.int .i64 0)), (.d (.int .i64 0)), (.d (.int .i64 0))] [(0, 4, (.t 76))]⟩, 2, []⟩,
  ⟨⟨none, .app 78 4 32 [(.int .i64 0), (.int .i64 0), (.int .i64 0), (.int .i64 0)] (.t 75) (.t 77)⟩, 7, []⟩,
  ⟨⟨none, .load 79 none (.t 15)⟩, 0, [77, 78, 2000003]⟩,
  ⟨⟨none, .mov 10 (.t 78)⟩, 15, []⟩,
  ⟨⟨none, .mov 11 (.t 79)⟩, 63, []⟩,
  ⟨⟨none, .mov 12 (.c (.one (.d (.int .i64 0))))⟩, 127, []⟩]

def i_impl_LockAsk : IC := (.seq (.reg i_impl_LockAsk_r0)
  (.seq (.seq (.reg i_impl_LockAsk_r1)
  (.cond (.t 40) (.seq (.reg i_impl_LockAsk_r2)
  .ret) .skip))
  (.seq (.reg i_impl_LockAsk_r3)
  (.seq (.seq (.reg i_impl_LockAsk_r4)
  (.cond (.t 47) (.seq (.reg i_impl_LockAsk_r5)
  .ret) .skip))
  (.seq (.reg i_impl_LockAsk_r6)
  (.seq (.reg i_impl_LockAsk_r7)
  (.seq (.seq (.reg i_impl_LockAsk_r8)
  (.cond (.t 65) (.seq (.reg i_impl_LockAsk_r9)
  .ret) .skip))
  (.seq (.reg i_impl_LockAsk_r10)
  (.seq (.seq (.reg i_impl_LockAsk_r11)
  (.cond (.t 73) (.seq (.reg i_impl_LockAsk_r12)
  .ret) .skip))
  (.seq (.regl i_impl_LockAsk_r13)
  .ret))))))))))

theorem i_impl_LockAsk_ok : (Try.f45.body.bind fun c => toIC Try.prog 80 c [[(0, []), (0, []), (2, []), (7, []), (0, [77, 78, 2000003]), (15, []), (63, []), (127, [])]]) = some (i_impl_LockAsk, []) := by kernel_rfl

theorem i_impl_LockAsk_fn {ds rs : List D} (hle : ds.length ≤ 80) (h : AW Try.prog 80 i_impl_LockAsk (Ends [.tmp 10, .tmp 11, .tmp 12] rs) (init ds)) : Fn Try.prog k_impl_LockAsk (lent ds) true rs :=
  Fn.intro' (by kernel_rfl) Try.func45 (by kernel_rfl) i_impl_LockAsk_ok (by kernel_rfl) hle h.h

abbrev i_laws_eqLock_r0 : List RO := [
  ⟨⟨none, .box 2 (.t 0)⟩, 0, []⟩,
  ⟨⟨none, .box 3 (.t 1)⟩, 0, []⟩,
  ⟨⟨none, .mov 4 (.c (.one (.d (.bool false))))⟩, 0, []⟩]

abbrev i_laws_eqLock_r1 : List RO := [
  ⟨⟨none, .faddr 5 0 (.t 2)⟩, 0, []⟩,
  ⟨⟨none, .load 6 none (.t 5)⟩, 0, []⟩,
  ⟨⟨none, .faddr 7 0 (.t 3)⟩, 0, []⟩,
  ⟨⟨none, .load 8 none (.t 7)⟩, 0, []⟩,
  ⟨⟨none, .bin 9 .neq (.t 6) (.t 8)⟩, 0, []⟩]

abbrev i_laws_eqLock_r2 : List RO := [
  ⟨⟨none, .mov 4 (.c (.one (.d (.bool false))))⟩, 0, []⟩]

abbrev i_laws_eqLock_r3 : List RO := [
  ⟨⟨none, .faddr 10 1 (.t 2)⟩, 0, []⟩,
  ⟨⟨none, .load 11 none (.t 10)⟩, 0, []⟩,
  ⟨⟨none, .faddr 12 1 (.t 3)⟩, 0, []⟩,
  ⟨⟨none, .load 13 none (.t 12)⟩, 0, []⟩,
  ⟨⟨none, .bin 14 .neq (.t 11) (.t 13)⟩, 0, []⟩]

abbrev i_laws_eqLock_r4 : List RO := [
  ⟨⟨none, .mov 4 (.c (.one (.d (.bool false))))⟩, 0, []⟩]

abbrev i_laws_eqLock_r5 : List RO := [
  ⟨⟨none, .faddr 15 2 (.t 2)⟩, 0, []⟩,
  ⟨⟨none, .load 16 none (.t 15)⟩, 0, []⟩,
  ⟨⟨none, .faddr 17 2 (.t 3)⟩, 0, []⟩,
  ⟨⟨none, .load 18 none (.t 17)⟩, 0, []⟩,
  ⟨⟨none, .bin 19 .neq (.t 16) (.t 18)⟩, 0, []⟩]

abbrev i_laws_eqLock_r6 : List RO := [
  ⟨⟨none, .mov 4 (.c (.one (.d (.bool false))))⟩, 0, []⟩]

abbrev i_laws_eqLock_r7 : List RO := [
  ⟨⟨none, .faddr 20 3 (.t 2)⟩, 0, []⟩,
  ⟨⟨none, .load 21 none (.t 20)⟩, 0, []⟩,
  ⟨⟨none, .faddr 22 3 (.t 3)⟩, 0, []⟩,
  ⟨⟨none, .load 23 none (.t 22)⟩, 0, []⟩,
  ⟨⟨none, .bin 24 .neq (.t 21) (.t 23)⟩, 0, []⟩]

abbrev i_laws_eqLock_r8 : List RO := [
  ⟨⟨none, .mov 4 (.c (.one (.d (.bool false))))⟩, 0, []⟩]

abbrev i_laws_eqLock_r9 : List RO := [
  ⟨⟨none, .mov 4 (.c (.one (.d (.bool true))))⟩, 0, []⟩]

def i_laws_eqLock : IC := (.seq (.reg i_laws_eqLock_r0)
  (.seq (.seq (.reg i_laws_eqLock_r1)
  (.cond (.t 9) (.seq (.reg i_laws_eqLock_r2)
  .ret) .skip))
  (.seq (.seq (.reg i_laws_eqLock_r3)
  (.cond (.t 14) (.seq (.reg i_laws_eqLock_r4)
  .ret) .skip))
  (.seq (.seq (.reg i_laws_eqLock_r5)
  (.cond (.t 19) (.seq (.reg i_laws_eqLock_r6)
  .ret) .skip))
  (.seq (.seq (.reg i_laws_eqLock_r7)
  (.cond (.t 24) (.seq (.reg i_laws_eqLock_r8)
  .ret) .skip))
  (.seq (.reg i_laws_eqLock_r9)
  .ret))))))

theorem i_laws_eqLock_ok : (Try.f161.body.bind fun c => toIC Try.prog 25 c []) = some (i_laws_eqLock, []) := by kernel_rfl

theorem i_laws_eqLock_fn {ds rs : List D} (hle : ds.length ≤ 25) (h : AW Try.prog 25 i_laws_eqLock (Ends [.tmp 4] rs) (init ds)) : Fn Try.prog k_laws_eqLock (lent ds) true rs :=
  Fn.intro' (by kernel_rfl) Try.func161 (by kernel_rfl) i_laws_eqLock_ok (by kernel_rfl) hle h.h

abbrev i_laws_eqLockS_r0 : List RO := [
  ⟨⟨none, .mov 4 (.c (.one (.d (.bool false))))⟩, 0, []⟩]

abbrev i_laws_eqLockS_r1 : List RO := [
  ⟨⟨none, .mov 6 (.t 0)⟩, 0, []⟩,
  ⟨⟨none, .len 7 false (.t 6)⟩, 0, []⟩,
  ⟨⟨none, .mov 8 (.t 1)⟩, 0, []⟩,
  ⟨⟨none, .len 9 false (.t 8)⟩, 0, []⟩,
  ⟨⟨none, .bin 10 .neq (.t 7) (.t 9)⟩, 0, []⟩]

abbrev i_laws_eqLockS_r2 : List RO := [
  ⟨⟨none, .mov 4 (.c (.one (.d (.bool false))))⟩, 0, []⟩]

abbrev i_laws_eqLockS_r3 : List RO := [
  ⟨⟨none, .mov 5 (.c (.one (.d (.int .i64 0))))⟩, 0, []⟩]

abbrev i_laws_eqLockS_r4 : List RO := [
  ⟨⟨none, .mov 11 (.t 5)⟩, 0, []⟩,
  ⟨⟨none, .mov 12 (.t 0)⟩, 0, []⟩,
  ⟨⟨none, .len 13 false (.t 12)⟩, 0, []⟩,
  ⟨⟨none, .bin 14 .lss (.t 11) (.t 13)⟩, 0, []⟩]

abbrev i_laws_eqLockS_r5 : List RO := [
  ⟨⟨none, .mov 17 (.t 0)⟩, 0, []⟩,
  ⟨⟨none, .mov 18 (.t 5)⟩, 0, []⟩,
  ⟨⟨none, .iaddr 19 4 (.t 17) (.t 18)⟩, 3, []⟩,
  ⟨⟨none, .load 20 (some 4) (.t 19)⟩, 7, []⟩,
  ⟨⟨none, .mov 21 (.t 1)⟩, 0, []⟩,
  ⟨⟨none, .mov 22 (.t 5)⟩, 0, []⟩,
  ⟨⟨none, .iaddr 23 4 (.t 21) (.t 22)⟩, 48, []⟩,
  ⟨⟨none, .load 24 (some 4) (.t 23)⟩, 112, []⟩,
  ⟨⟨none, .callv 25 (.c (.one (.fn k_laws_eqLock []))) [(.t 20), (.t 24)]⟩, 255, []⟩,
  ⟨⟨none, .inv 26 (.t 25)⟩, 511, []⟩]

abbrev i_laws_eqLockS_r6 : List RO := [
  ⟨⟨none, .mov 4 (.c (.one (.d (.bool false))))⟩, 0, []⟩]

abbrev i_laws_eqLockS_r7 : List RO := [
  ⟨⟨none, .mov 15 (.t 5)⟩, 0, []⟩,
  ⟨⟨none, .bin 16 .add (.t 15) (.c (.one (.d (.int .i64 1))))⟩, 0, []⟩,
  ⟨⟨none, .mov 5 (.t 16)⟩, 0, []⟩]

abbrev i_laws_eqLockS_r8 : List RO := [
  ⟨⟨none, .mov 4 (.c (.one (.d (.bool true))))⟩, 0, []⟩]

def i_laws_eqLockS : IC := (.seq (.reg i_laws_eqLockS_r0)
  (.seq (.seq (.reg i_laws_eqLockS_r1)
  (.cond (.t 10) (.seq (.reg i_laws_eqLockS_r2)
  .ret) .skip))
  (.seq (.seq (.reg i_laws_eqLockS_r3)
  (.block 0 (.loop (.seq (.seq (.reg i_laws_eqLockS_r4)
  (.cond (.t 14) .skip (.exit 0)))
  (.seq (.block 1 (.seq (.regd i_laws_eqLockS_r5)
  (.cond (.t 26) (.seq (.reg i_laws_eqLockS_r6)
  .ret) .skip)))
  (.reg i_laws_eqLockS_r7))))))
  (.seq (.reg i_laws_eqLockS_r8)
  .ret))))

theorem i_laws_eqLockS_ok : (Try.f46.body.bind fun c => toIC Try.prog 27 c [[(0, []), (0, []), (3, []), (7, []), (0, []), (0, []), (48, []), (112, []), (255, []), (511, [])]]) = some (i_laws_eqLockS, []) := by kernel_rfl

theorem i_laws_eqLockS_fn {ds rs : List D} (hle : ds.length ≤ 27) (h : AW Try.prog 27 i_laws_eqLockS (Ends [.tmp 4] rs) (init ds)) : Fn Try.prog k_laws_eqLockS (lent ds) true rs :=
  Fn.intro' (by kernel_rfl) Try.func46 (by kernel_rfl) i_laws_eqLockS_ok (by kernel_rfl) hle h.h

abbrev i_laws_eqIntS_r0 : List RO := [
  ⟨⟨none, .mov 4 (.c (.one (.d (.bool false))))⟩, 0, []⟩]

abbrev i_laws_eqIntS_r1 : List RO := [
  ⟨⟨none, .mov 6 (.t 0)⟩, 0, []⟩,
  ⟨⟨none, .len 7 false (.t 6)⟩, 0, []⟩,
  ⟨⟨none, .mov 8 (.t 1)⟩, 0, []⟩,
  ⟨⟨none, .len 9 false (.t 8)⟩, 0, []⟩,
  ⟨⟨none, .bin 10 .neq (.t 7) (.t 9)⟩, 0, []⟩]

abbrev i_laws_eqIntS_r2 : List RO := [
  ⟨⟨none, .mov 4 (.c (.one (.d (.bool false))))⟩, 0, []⟩]

abbrev i_laws_eqIntS_r3 : List RO := [
  ⟨⟨none, .mov 5 (.c (.one (.d (.int .i64 0))))⟩, 0, []⟩]

abbrev i_laws_eqIntS_r4 : List RO := [
  ⟨⟨none, .mov 11 (.t 5)⟩, 0, []⟩,
  ⟨⟨none, .mov 12 (.t 0)⟩, 0, []⟩,
  ⟨⟨none, .len 13 false (.t 12)⟩, 0, []⟩,
  ⟨⟨none, .bin 14 .lss (.t 11) (.t 13)⟩, 0, []⟩]

abbrev i_laws_eqIntS_r5 : List RO := [
  ⟨⟨none, .mov 17 (.t 0)⟩, 0, []⟩,
  ⟨⟨none, .mov 18 (.t 5)⟩, 0, []⟩,
  ⟨⟨none, .iaddr 19 1 (.t 17) (.t 18)⟩, 3, []⟩,
  ⟨⟨none, .load 20 none (.t 19)⟩, 7, []⟩,
  ⟨⟨none, .mov 21 (.t 1)⟩, 0, []⟩,
  ⟨⟨none, .mov 22 (.t 5)⟩, 0, []⟩,
  ⟨⟨none, .iaddr 23 1 (.t 21) (.t 22)⟩, 48, []⟩,
  ⟨⟨none, .load 24 none (.t 23)⟩, 112, []⟩,
  ⟨⟨none, .bin 25 .neq (.t 20) (.t 24)⟩, 255, []⟩]

abbrev i_laws_eqIntS_r6 : List RO := [
  ⟨⟨none, .mov 4 (.c (.one (.d (.bool false))))⟩, 0, []⟩]

abbrev i_laws_eqIntS_r7 : List RO := [
  ⟨⟨none, .mov 15 (.t 5)⟩, 0, []⟩,
  ⟨⟨none, .bin 16 .add (.t 15) (.c (.one (.d (.int .i64 1))))⟩, 0, []⟩,
  ⟨⟨none, .mov 5 (.t 16)⟩, 0, []⟩]

abbrev i_laws_eqIntS_r8 : List RO := [
  ⟨⟨none, .mov 4 (.c (.one (.d (.bool true))))⟩, 0, []⟩]

def i_laws_eqIntS : IC := (.seq (.reg i_laws_eqIntS_r0)
  (.seq (.seq (.reg i_laws_eqIntS_r1)
  (.cond (.t 10) (.seq (.reg i_laws_eqIntS_r2)
  .ret) .skip))
  (.seq (.seq (.reg i_laws_eqIntS_r3)
  (.block 0 (.loop (.seq (.seq (.reg i_laws_eqIntS_r4)
  (.cond (.t 14) .skip (.exit 0)))
  (.seq (.block 1 (.seq (.regd i_laws_eqIntS_r5)
  (.cond (.t 25) (.seq (.reg i_laws_eqIntS_r6)
  .ret) .skip)))
  (.reg i_laws_eqIntS_r7))))))
  (.seq (.reg i_laws_eqIntS_r8)
  .ret))))

theorem i_laws_eqIntS_ok : (Try.f47.body.bind fun c => toIC Try.prog 26 c [[(0, []), (0, []), (3, []), (7, []), (0, []), (0, []), (48, []), (112, []), (255, [])]]) = some (i_laws_eqIntS, []) := by kernel_rfl

theorem i_laws_eqIntS_fn {ds rs : List D} (hle : ds.length ≤ 26) (h : AW Try.prog 26 i_laws_eqIntS (Ends [.tmp 4] rs) (init ds)) : Fn Try.prog k_laws_eqIntS (lent ds) true rs :=
  Fn.intro' (by kernel_rfl) Try.func47 (by kernel_rfl) i_laws_eqIntS_ok (by kernel_rfl) hle h.h

abbrev i_laws_markLockS_r0 : List RO := [
  ⟨⟨none, .mov 4 (.c (.one (.d (.int .i64 0))))⟩, 0, []⟩]

abbrev i_laws_markLockS_r1 : List RO := [
  ⟨⟨none, .mov 5 (.c (.one (.d (.int .i64 0))))⟩, 0, []⟩]

abbrev i_laws_markLockS_r2 : List RO := [
  ⟨⟨none, .mov 6 (.t 5)⟩, 0, []⟩,
  ⟨⟨none, .mov 7 (.t 0)⟩, 0, []⟩,
  ⟨⟨none, .len 8 false (.t 7)⟩, 0, []⟩,
  ⟨⟨none, .bin 9 .lss (.t 6) (.t 8)⟩, 0, []⟩]

abbrev i_laws_markLockS_r3 : List RO := [
  ⟨⟨none, .mov 12 (.t 0)⟩, 0, []⟩,
  ⟨⟨none, .mov 13 (.t 5)⟩, 0, []⟩,
  ⟨⟨none, .mov 14 (.t 1)⟩, 0, []⟩,
  ⟨⟨none, .iaddr 15 4 (.t 12) (.t 13)⟩, 0, []⟩,
  ⟨⟨none, .faddr 16 0 (.t 15)⟩, 0, []⟩,
  ⟨⟨none, .store 1 [(.int .i64 0)] (.t 16) (.t 14)⟩, 0, []⟩]

abbrev i_laws_markLockS_r4 : List RO := [
  ⟨⟨none, .mov 17 (.t 1)⟩, 0, []⟩,
  ⟨⟨none, .bin 18 .add (.t 17) (.c (.one (.d (.int .i64 1))))⟩, 0, []⟩,
  ⟨⟨none, .mov 1 (.t 18)⟩, 0, []⟩]

abbrev i_laws_markLockS_r5 : List RO := [
  ⟨⟨none, .mov 19 (.t 0)⟩, 0, []⟩,
  ⟨⟨none, .mov 20 (.t 5)⟩, 0, []⟩,
  ⟨⟨none, .mov 21 (.t 1)⟩, 0, []⟩,
  ⟨⟨none, .iaddr 22 4 (.t 19) (.t 20)⟩, 0, []⟩,
  ⟨⟨none, .faddr 23 1 (.t 22)⟩, 0, []⟩,
  ⟨⟨none, .store 1 [(.int .i64 0)] (.t 23) (.t 21)⟩, 0, []⟩]

abbrev i_laws_markLockS_r6 : List RO := [
  ⟨⟨none, .mov 24 (.t 1)⟩, 0, []⟩,
  ⟨⟨none, .bin 25 .add (.t 24) (.c (.one (.d (.int .i64 1))))⟩, 0, []⟩,
  ⟨⟨none, .mov 1 (.t 25)⟩, 0, []⟩]

abbrev i_laws_markLockS_r7 : List RO := [
  ⟨⟨none, .mov 26 (.t 0)⟩, 0, []⟩,
  ⟨⟨none, .mov 27 (.t 5)⟩, 0, []⟩,
  ⟨⟨none, .mov 28 (.t 1)⟩, 0, []⟩,
  ⟨⟨none, .iaddr 29 4 (.t 26) (.t 27)⟩, 0, []⟩,
  ⟨⟨none, .faddr 30 2 (.t 29)⟩, 0, []⟩,
  ⟨⟨none, .store 1 [(.int .i64 0)] (.t 30) (.t 28)⟩, 0, []⟩]

abbrev i_laws_markLockS_r8 : List RO := [
  ⟨⟨none, .mov 31 (.t 1)⟩, 0, []⟩,
  ⟨⟨none, .bin 32 .add (.t 31) (.c (.one (.d (.int .i64 1))))⟩, 0, []⟩,
  ⟨⟨none, .mov 1 (.t 32)⟩, 0, []⟩]

abbrev i_laws_markLockS_r9 : List RO := [
  ⟨⟨none, .mov 33 (.t 0)⟩, 0, []⟩,
  ⟨⟨none, .mov 34 (.t 5)⟩, 0, []⟩,
  ⟨⟨none, .mov 35 (.t 1)⟩, 0, []⟩,
  ⟨⟨none, .iaddr 36 4 (.t 33) (.t 34)⟩, 0, []⟩,
  ⟨⟨none, .faddr 37 3 (.t 36)⟩, 0, []⟩,
  ⟨⟨none, .store 1 [(.int .i64 0)] (.t 37) (.t 35)⟩, 0, []⟩]

abbrev i_laws_markLockS_r10 : List RO := [
  ⟨⟨none, .mov 38 (.t 1)⟩, 0, []⟩,
  ⟨⟨none, .bin 39 .add (.t 38) (.c (.one (.d (.int .i64 1))))⟩, 0, []⟩,
  ⟨⟨none, .mov 1 (.t 39)⟩, 0, []⟩]

abbrev i_laws_markLockS_r11 : List RO := [
  ⟨⟨none, .mov 10 (.t 5)⟩, 0, []⟩,
  ⟨⟨none, .bin 11 .add (.t 10) (.c (.one (.d (.int .i64 1))))⟩, 0, []⟩,
  ⟨⟨none, .mov 5 (.t 11)⟩, 0, []⟩]

abbrev i_laws_markLockS_r12 : List RO := [
  ⟨⟨none, .mov 40 (.t 1)⟩, 0, []⟩,
  ⟨⟨none, .mov 4 (.t 40)⟩, 0, []⟩]

def i_laws_markLockS : IC := (.seq (.reg i_laws_markLockS_r0)
  (.seq (.seq (.reg i_laws_markLockS_r1)
  (.block 0 (.loop (.seq (.seq (.reg i_laws_markLockS_r2)
  (.cond (.t 9) .skip (.exit 0)))
  (.seq (.block 1 (.seq (.reg i_laws_markLockS_r3)
  (.seq (.reg i_laws_markLockS_r4)
  (.seq (.reg i_laws_markLockS_r5)
  (.seq (.reg i_laws_markLockS_r6)
  (.seq (.reg i_laws_markLockS_r7)
  (.seq (.reg i_laws_markLockS_r8)
  (.seq (.reg i_laws_markLockS_r9)
  (.reg i_laws_markLockS_r10)))))))))
  (.reg i_laws_markLockS_r11))))))
  (.seq (.reg i_laws_markLockS_r12)
  .ret)))

theorem i_laws_markLockS_ok : (Try.f48.body.bind fun c => toIC Try.prog 41 c []) = some (i_laws_markLockS, []) := by kernel_rfl

theorem i_laws_markLockS_fnM {ars : List Ar} {rs : List D} (hle : ars.length ≤ 41) (hfr : freshL ⟨fun _ => .top, fun _ => none, fun _ => .top⟩ ((argB 0 ars).2.map (·.1))) (hlt : ((argB 0 ars).2.map (·.1)).all (fun n => Nat.ble n 1999999) = true) (h : AW Try.prog 41 i_laws_markLockS (EndsM ars [.tmp 4] rs) (initM ars)) : Fn Try.prog k_laws_markLockS ars true rs :=
  Fn.introM' (by kernel_rfl) Try.func48 (by kernel_rfl) i_laws_markLockS_ok (by kernel_rfl) hle hfr hlt h.h

abbrev i_laws_markIntS_r0 : List RO := [
  ⟨⟨none, .mov 4 (.c (.one (.d (.int .i64 0))))⟩, 0, []⟩]

abbrev i_laws_markIntS_r1 : List RO := [
  ⟨⟨none, .mov 5 (.c (.one (.d (.int .i64 0))))⟩, 0, []⟩]

abbrev i_laws_markIntS_r2 : List RO := [
  ⟨⟨none, .mov 6 (.t 5)⟩, 0, []⟩,
  ⟨⟨none, .mov 7 (.t 0)⟩, 0, []⟩,
  ⟨⟨none, .len 8 false (.t 7)⟩, 0, []⟩,
  ⟨⟨none, .bin 9 .lss (.t 6) (.t 8)⟩, 0, []⟩]

abbrev i_laws_markIntS_r3 : List RO := [
  ⟨⟨none, .mov 12 (.t 0)⟩, 0, []⟩,
  ⟨⟨none, .mov 13 (.t 5)⟩, 0, []⟩,
  ⟨⟨none, .mov 14 (.t 1)⟩, 0, []⟩,
  ⟨⟨none, .iaddr 15 1 (.t 12) (.t 13)⟩, 0, []⟩,
  ⟨⟨none, .store 1 [(.int .i64 0)] (.t 15) (.t 14)⟩, 0, []⟩]

abbrev i_laws_markIntS_r4 : List RO := [
  ⟨⟨none, .mov 16 (.t 1)⟩, 0, []⟩,
  ⟨⟨none, .bin 17 .add (.t 16) (.c (.one (.d (.int .i64 1))))⟩, 0, []⟩,
  ⟨⟨none, .mov 1 (.t 17)⟩, 0, []⟩]

abbrev i_laws_markIntS_r5 : List RO := [
  ⟨⟨none, .mov 10 (.t 5)⟩, 0, []⟩,
  ⟨⟨none, .bin 11 .add (.t 10) (.c (.one (.d (.int .i64 1))))⟩, 0, []⟩,
  ⟨⟨none, .mov 5 (.t 11)⟩, 0, []⟩]

abbrev i_laws_markIntS_r6 : List RO := [
  ⟨⟨none, .mov 18 (.t 1)⟩, 0, []⟩,
  ⟨⟨none, .mov 4 (.t 18)⟩, 0, []⟩]

def i_laws_markIntS : IC := (.seq (.reg i_laws_markIntS_r0)
  (.seq (.seq (.reg i_laws_markIntS_r1)
  (.block 0 (.loop (.seq (.seq (.reg i_laws_markIntS_r2)
  (.cond (.t 9) .skip (.exit 0)))
  (.seq (.block 1 (.seq (.reg i_laws_markIntS_r3)
  (.reg i_laws_markIntS_r4)))
  (.reg i_laws_markIntS_r5))))))
  (.seq (.reg i_laws_markIntS_r6)
  .ret)))

theorem i_laws_markIntS_ok : (Try.f49.body.bind fun c => toIC Try.prog 19 c []) = some (i_laws_markIntS, []) := by kernel_rfl

theorem i_laws_markIntS_fnM {ars : List Ar} {rs : List D} (hle : ars.length ≤ 19) (hfr : freshL ⟨fun _ => .top, fun _ => none, fun _ => .top⟩ ((argB 0 ars).2.map (·.1))) (hlt : ((argB 0 ars).2.map (·.1)).all (fun n => Nat.ble n 1999999) = true) (h : AW Try.prog 19 i_laws_markIntS (EndsM ars [.tmp 4] rs) (initM ars)) : Fn Try.prog k_laws_markIntS ars true rs :=
  Fn.introM' (by kernel_rfl) Try.func49 (by kernel_rfl) i_laws_markIntS_ok (by kernel_rfl) hle hfr hlt h.h

abbrev i_laws_heldLockS_r0 : List RO := [
  ⟨⟨none, .mov 4 (.c (.one (.d (.int .i64 0))))⟩, 0, []⟩]

abbrev i_laws_heldLockS_r1 : List RO := [
  ⟨⟨none, .mov 5 (.c (.one (.d (.int .i64 0))))⟩, 0, []⟩]

abbrev i_laws_heldLockS_r2 : List RO := [
  ⟨⟨none, .mov 6 (.t 5)⟩, 0, []⟩,
  ⟨⟨none, .mov 7 (.t 0)⟩, 0, []⟩,
  ⟨⟨none, .len 8 false (.t 7)⟩, 0, []⟩,
  ⟨⟨none, .bin 9 .lss (.t 6) (.t 8)⟩, 0, []⟩]

abbrev i_laws_heldLockS_r3 : List RO := [
  ⟨⟨none, .mov 12 (.t 0)⟩, 0, []⟩,
  ⟨⟨none, .mov 13 (.t 5)⟩, 0, []⟩,
  ⟨⟨none, .iaddr 14 4 (.t 12) (.t 13)⟩, 0, []⟩,
  ⟨⟨none, .faddr 15 0 (.t 14)⟩, 0, []⟩,
  ⟨⟨none, .load 16 none (.t 15)⟩, 0, []⟩,
  ⟨⟨none, .mov 17 (.t 1)⟩, 0, []⟩,
  ⟨⟨none, .bin 18 .neq (.t 16) (.t 17)⟩, 0, []⟩]

abbrev i_laws_heldLockS_r4 : List RO := [
  ⟨⟨none, .mov 4 (.c (.one (.d (.int .i64 (-1)))))⟩, 0, []⟩]

abbrev i_laws_heldLockS_r5 : List RO := [
  ⟨⟨none, .mov 19 (.t 1)⟩, 0, []⟩,
  ⟨⟨none, .bin 20 .add (.t 19) (.c (.one (.d (.int .i64 1))))⟩, 0, []⟩,
  ⟨⟨none, .mov 1 (.t 20)⟩, 0, []⟩]

abbrev i_laws_heldLockS_r6 : List RO := [
  ⟨⟨none, .mov 21 (.t 0)⟩, 0, []⟩,
  ⟨⟨none, .mov 22 (.t 5)⟩, 0, []⟩,
  ⟨⟨none, .iaddr 23 4 (.t 21) (.t 22)⟩, 0, []⟩,
  ⟨⟨none, .faddr 24 1 (.t 23)⟩, 0, []⟩,
  ⟨⟨none, .load 25 none (.t 24)⟩, 0, []⟩,
  ⟨⟨none, .mov 26 (.t 1)⟩, 0, []⟩,
  ⟨⟨none, .bin 27 .neq (.t 25) (.t 26)⟩, 0, []⟩]

abbrev i_laws_heldLockS_r7 : List RO := [
  ⟨⟨none, .mov 4 (.c (.one (.d (.int .i64 (-1)))))⟩, 0, []⟩]

abbrev i_laws_heldLockS_r8 : List RO := [
  ⟨⟨none, .mov 28 (.t 1)⟩, 0, []⟩,
  ⟨⟨none, .bin 29 .add (.t 28) (.c (.one (.d (.int .i64 1))))⟩, 0, []⟩,
  ⟨⟨none, .mov 1 (.t 29)⟩, 0, []⟩]

abbrev i_laws_heldLockS_r9 : List RO := [
  ⟨⟨none, .mov 30 (.t 0)⟩, 0, []⟩,
  ⟨⟨none, .mov 31 (.t 5)⟩, 0, []⟩,
  ⟨⟨none, .iaddr 32 4 (.t 30) (.t 31)⟩, 0, []⟩,
  ⟨⟨none, .faddr 33 2 (.t 32)⟩, 0, []⟩,
  ⟨⟨none, .load 34 none (.t 33)⟩, 0, []⟩,
  ⟨⟨none, .mov 35 (.t 1)⟩, 0, []⟩,
  ⟨⟨none, .bin 36 .neq (.t 34) (.t 35)⟩, 0, []⟩]

abbrev i_laws_heldLockS_r10 : List RO := [
  ⟨⟨none, .mov 4 (.c (.one (.d (.int .i64 (-1)))))⟩, 0, []⟩]

abbrev i_laws_heldLockS_r11 : List RO := [
  ⟨⟨none, .mov 37 (.t 1)⟩, 0, []⟩,
  ⟨⟨none, .bin 38 .add (.t 37) (.c (.one (.d (.int .i64 1))))⟩, 0, []⟩,
  ⟨⟨none, .mov 1 (.t 38)⟩, 0, []⟩]

abbrev i_laws_heldLockS_r12 : List RO := [
  ⟨⟨none, .mov 39 (.t 0)⟩, 0, []⟩,
  ⟨⟨none, .mov 40 (.t 5)⟩, 0, []⟩,
  ⟨⟨none, .iaddr 41 4 (.t 39) (.t 40)⟩, 0, []⟩,
  ⟨⟨none, .faddr 42 3 (.t 41)⟩, 0, []⟩,
  ⟨⟨none, .load 43 none (.t 42)⟩, 0, []⟩,
  ⟨⟨none, .mov 44 (.t 1)⟩, 0, []⟩,
  ⟨⟨none, .bin 45 .neq (.t 43) (.t 44)⟩, 0, []⟩]

abbrev i_laws_heldLockS_r13 : List RO := [
  ⟨⟨none, .mov 4 (.c (.one (.d (.int .i64 (-1)))))⟩, 0, []⟩]

abbrev i_laws_heldLockS_r14 : List RO := [
  ⟨⟨none, .mov 46 (.t 1)⟩, 0, []⟩,
  ⟨⟨none, .bin 47 .add (.t 46) (.c (.one (.d (.int .i64 1))))⟩, 0, []⟩,
  ⟨⟨none, .mov 1 (.t 47)⟩, 0, []⟩]

abbrev i_laws_heldLockS_r15 : List RO := [
  ⟨⟨none, .mov 10 (.t 5)⟩, 0, []⟩,
  ⟨⟨none, .bin 11 .add (.t 10) (.c (.one (.d (.int .i64 1))))⟩, 0, []⟩,
  ⟨⟨none, .mov 5 (.t 11)⟩, 0, []⟩]

abbrev i_laws_heldLockS_r16 : List RO := [
  ⟨⟨none, .mov 48 (.t 1)⟩, 0, []⟩,
  ⟨⟨none, .mov 4 (.t 48)⟩, 0, []⟩]

def i_laws_heldLockS : IC := (.seq (.reg i_laws_heldLockS_r0)
  (.seq (.seq (.reg i_laws_heldLockS_r1)
  (.block 0 (.loop (.seq (.seq (.reg i_laws_heldLockS_r2)
  (.cond (.t 9) .skip (.exit 0)))
  (.seq (.block 1 (.seq (.seq (.reg i_laws_heldLockS_r3)
  (.cond (.t 18) (.seq (.reg i_laws_heldLockS_r4)
  .ret) .skip))
  (.seq (.reg i_laws_heldLockS_r5)
  (.seq (.seq (.reg i_laws_heldLockS_r6)
  (.cond (.t 27) (.seq (.reg i_laws_heldLockS_r7)
  .ret) .skip))
  (.seq (.reg i_laws_heldLockS_r8)
  (.seq (.seq (.reg i_laws_heldLockS_r9)
  (.cond (.t 36) (.seq (.reg i_laws_heldLockS_r10)
  .ret) .skip))
  (.seq (.reg i_laws_heldLockS_r11)
  (.seq (.seq (.reg i_laws_heldLockS_r12)
  (.cond (.t 45) (.seq (.reg i_laws_heldLockS_r13)
  .ret) .skip))
  (.reg i_laws_heldLockS_r14)))))))))
  (.reg i_laws_heldLockS_r15))))))
  (.seq (.reg i_laws_heldLockS_r16)
  .ret)))

theorem i_laws_heldLockS_ok : (Try.f50.body.bind fun c => toIC Try.prog 49 c []) = some (i_laws_heldLockS, []) := by kernel_rfl

theorem i_laws_heldLockS_fn {ds rs : List D} (hle : ds.length ≤ 49) (h : AW Try.prog 49 i_laws_heldLockS (Ends [.tmp 4] rs) (init ds)) : Fn Try.prog k_laws_heldLockS (lent ds) true rs :=
  Fn.intro' (by kernel_rfl) Try.func50 (by kernel_rfl) i_laws_heldLockS_ok (by kernel_rfl) hle h.h

abbrev i_laws_heldIntS_r0 : List RO := [
  ⟨⟨none, .mov 4 (.c (.one (.d (.int .i64 0))))⟩, 0, []⟩]

abbrev i_laws_heldIntS_r1 : List RO := [
  ⟨⟨none, .mov 5 (.c (.one (.d (.int .i64 0))))⟩, 0, []⟩]

abbrev i_laws_heldIntS_r2 : List RO := [
  ⟨⟨none, .mov 6 (.t 5)⟩, 0, []⟩,
  ⟨⟨none, .mov 7 (.t 0)⟩, 0, []⟩,
  ⟨⟨none, .len 8 false (.t 7)⟩, 0, []⟩,
  ⟨⟨none, .bin 9 .lss (.t 6) (.t 8)⟩, 0, []⟩]

abbrev i_laws_heldIntS_r3 : List RO := [
  ⟨⟨none, .mov 12 (.t 0)⟩, 0, []⟩,
  ⟨⟨none, .mov 13 (.t 5)⟩, 0, []⟩,
  ⟨⟨none, .iaddr 14 1 (.t 12) (.t 13)⟩, 0, []⟩,
  ⟨⟨none, .load 15 none (.t 14)⟩, 0, []⟩,
  ⟨⟨none, .mov 16 (.t 1)⟩, 0, []⟩,
  ⟨⟨none, .bin 17 .neq (.t 15) (.t 16)⟩, 0, []⟩]

abbrev i_laws_heldIntS_r4 : List RO := [
  ⟨⟨none, .mov 4 (.c (.one (.d (.int .i64 (-1)))))⟩, 0, []⟩]

abbrev i_laws_heldIntS_r5 : List RO := [
  ⟨⟨none, .mov 18 (.t 1)⟩, 0, []⟩,
  ⟨⟨none, .bin 19 .add (.t 18) (.c (.one (.d (.int .i64 1))))⟩, 0, []⟩,
  ⟨⟨none, .mov 1 (.t 19)⟩, 0, []⟩]

abbrev i_laws_heldIntS_r6 : List RO := [
  ⟨⟨none, .mov 10 (.t 5)⟩, 0, []⟩,
  ⟨⟨none, .bin 11 .add (.t 10) (.c (.one (.d (.int .i64 1))))⟩, 0, []⟩,
  ⟨⟨none, .mov 5 (.t 11)⟩, 0, []⟩]

abbrev i_laws_heldIntS_r7 : List RO := [
  ⟨⟨none, .mov 20 (.t 1)⟩, 0, []⟩,
  ⟨⟨none, .mov 4 (.t 20)⟩, 0, []⟩]

def i_laws_heldIntS : IC := (.seq (.reg i_laws_heldIntS_r0)
  (.seq (.seq (.reg i_laws_heldIntS_r1)
  (.block 0 (.loop (.seq (.seq (.reg i_laws_heldIntS_r2)
  (.cond (.t 9) .skip (.exit 0)))
  (.seq (.block 1 (.seq (.seq (.reg i_laws_heldIntS_r3)
  (.cond (.t 17) (.seq (.reg i_laws_heldIntS_r4)
  .ret) .skip))
  (.reg i_laws_heldIntS_r5)))
  (.reg i_laws_heldIntS_r6))))))
  (.seq (.reg i_laws_heldIntS_r7)
  .ret)))

theorem i_laws_heldIntS_ok : (Try.f51.body.bind fun c => toIC Try.prog 21 c []) = some (i_laws_heldIntS, []) := by kernel_rfl

theorem i_laws_heldIntS_fn {ds rs : List D} (hle : ds.length ≤ 21) (h : AW Try.prog 21 i_laws_heldIntS (Ends [.tmp 4] rs) (init ds)) : Fn Try.prog k_laws_heldIntS (lent ds) true rs :=
  Fn.intro' (by kernel_rfl) Try.func51 (by kernel_rfl) i_laws_heldIntS_ok (by kernel_rfl) hle h.h

abbrev i_laws_FnExactLockAsk_r0 : List RO := [
  ⟨⟨none, .box 8 (.t 3)⟩, 0, []⟩,
  ⟨⟨none, .mov 10 (.c (.one (.d (.bool false))))⟩, 0, []⟩]

abbrev i_laws_FnExactLockAsk_r1 : List RO := [
  ⟨⟨none, .mov 26 (.t 1)⟩, 0, []⟩,
  ⟨⟨none, .len 27 false (.t 26)⟩, 0, []⟩,
  ⟨⟨none, .bin 28 .gtr (.t 27) (.c (.one (.d (.int .i64 1048576))))⟩, 0, []⟩]

abbrev i_laws_FnExactLockAsk_r2 : List RO := [
  ⟨⟨none, .mov 10 (.c (.one (.d (.bool true))))⟩, 0, []⟩]

abbrev i_laws_FnExactLockAsk_r3 : List RO := [
  ⟨⟨none, .mov 11 (.c (.one (.d (.int .i64 1048576))))⟩, 0, []⟩]

abbrev i_laws_FnExactLockAsk_r4 : List RO := [
  ⟨⟨none, .mov 29 (.t 0)⟩, 0, []⟩,
  ⟨⟨none, .mov 30 (.t 11)⟩, 0, []⟩,
  ⟨⟨none, .callv 31 (.c (.one (.fn k_laws_szLockS []))) [(.t 29), (.t 30)]⟩, 0, []⟩,
  ⟨⟨none, .mov 11 (.t 31)⟩, 0, []⟩]

abbrev i_laws_FnExactLockAsk_r5 : List RO := [
  ⟨⟨none, .mov 32 (.t 11)⟩, 0, []⟩,
  ⟨⟨none, .bin 33 .lss (.t 32) (.c (.one (.d (.int .i64 0))))⟩, 0, []⟩]

abbrev i_laws_FnExactLockAsk_r6 : List RO := [
  ⟨⟨none, .mov 10 (.c (.one (.d (.bool true))))⟩, 0, []⟩]

abbrev i_laws_FnExactLockAsk_r7 : List RO := [
  ⟨⟨none, .mov 35 (.t 0)⟩, 0, []⟩,
  ⟨⟨none, .callv 36 (.c (.one (.fn k_laws_toLockS []))) [(.t 35)]⟩, 1, []⟩,
  ⟨⟨none, .mov 37 (.t 1)⟩, 0, []⟩,
  ⟨⟨none, .callv 38 (.c (.one (.fn k_laws_toIntS []))) [(.t 37)]⟩, 7, []⟩,
  ⟨⟨none, .mov 39 (.t 2)⟩, 0, []⟩,
  ⟨⟨none, .load 40 (some 2) (.t 8)⟩, 0, [36, 38]⟩,
  ⟨⟨none, .callv 41 (.c (.one (.fn k_laws_toRange []))) [(.t 40)]⟩, 47, []⟩,
  ⟨⟨none, .mov 42 (.t 4)⟩, 0, []⟩,
  ⟨⟨none, .callv 43 (.c (.one (.fn k_spec_LockAsk []))) [(.t 36), (.t 38), (.t 39), (.t 41), (.t 42)]⟩, 255, []⟩,
  ⟨⟨none, .mov 34 (.t 43)⟩, 511, []⟩,
  ⟨⟨none, .ext 44 (.t 34) 0⟩, 1023, []⟩,
  ⟨⟨none, .ext 45 (.t 34) 1⟩, 1023, []⟩,
  ⟨⟨none, .ext 46 (.t 34) 2⟩, 1023, []⟩,
  ⟨⟨none, .mov 12 (.t 44)⟩, 2047, []⟩,
  ⟨⟨none, .mov 13 (.t 45)⟩, 12287, []⟩,
  ⟨⟨none, .mov 14 (.t 46)⟩, 32767, []⟩]

abbrev i_laws_FnExactLockAsk_r8 : List RO := [
  ⟨⟨none, .mov 47 (.t 0)⟩, 0, []⟩,
  ⟨⟨none, .callv 48 (.c (.one (.fn k_laws_toLockS []))) [(.t 47)]⟩, 0, []⟩,
  ⟨⟨none, .mov 15 (.t 48)⟩, 0, []⟩]

abbrev i_laws_FnExactLockAsk_r9 : List RO := [
  ⟨⟨none, .mov 49 (.t 1)⟩, 0, []⟩,
  ⟨⟨none, .callv 50 (.c (.one (.fn k_laws_toIntS []))) [(.t 49)]⟩, 0, []⟩,
  ⟨⟨none, .mov 16 (.t 50)⟩, 0, []⟩]

abbrev i_laws_FnExactLockAsk_r10 : List RO := [
  ⟨⟨none, .mov 52 (.t 15)⟩, 0, []⟩,
  ⟨⟨none, .mov 53 (.t 16)⟩, 0, []⟩,
  ⟨⟨none, .mov 54 (.t 2)⟩, 0, []⟩,
  ⟨⟨none, .load 55 (some 2) (.t 8)⟩, 0, []⟩,
  ⟨⟨none, .callv 56 (.c (.one (.fn k_laws_toRange []))) [(.t 55)]⟩, 0, []⟩,
  ⟨⟨none, .mov 57 (.t 4)⟩, 0, []⟩,
  ⟨⟨none, .callv 58 (.c (.one (.fn k_impl_LockAsk []))) [(.t 52), (.t 53), (.t 54), (.t 56), (.t 57)]⟩, 0, []⟩,
  ⟨⟨none, .mov 51 (.t 58)⟩, 0, []⟩,
  ⟨⟨none, .ext 59 (.t 51) 0⟩, 0, []⟩,
  ⟨⟨none, .ext 60 (.t 51) 1⟩, 0, []⟩,
  ⟨⟨none, .ext 61 (.t 51) 2⟩, 0, []⟩,
  ⟨⟨none, .mov 17 (.t 59)⟩, 0, []⟩,
  ⟨⟨none, .mov 18 (.t 60)⟩, 0, []⟩,
  ⟨⟨none, .mov 19 (.t 61)⟩, 0, []⟩]

abbrev i_laws_FnExactLockAsk_r11 : List RO := [
  ⟨⟨none, .mov 62 (.t 17)⟩, 0, []⟩,
  ⟨⟨none, .mov 63 (.t 12)⟩, 0, []⟩,
  ⟨⟨none, .callv 64 (.c (.one (.fn k_laws_eqLockS []))) [(.t 62), (.t 63)]⟩, 0, []⟩,
  ⟨⟨none, .inv 65 (.t 64)⟩, 0, []⟩,
  ⟨⟨none, .mov 66 (.t 65)⟩, 0, []⟩,
  ⟨⟨some (66, false), .mov 67 (.t 18)⟩, 0, []⟩,
  ⟨⟨some (66, false), .mov 68 (.t 13)⟩, 0, []⟩,
  ⟨⟨some (66, false), .callv 69 (.c (.one (.fn k_laws_eqIntS []))) [(.t 67), (.t 68)]⟩, 0, []⟩,
  ⟨⟨some (66, false), .inv 70 (.t 69)⟩, 0, []⟩,
  ⟨⟨none, .pick 71 (.t 66) (.c (.one (.d (.bool true)))) (.t 70)⟩, 0, []⟩,
  ⟨⟨none, .mov 72 (.t 71)⟩, 0, []⟩,
  ⟨⟨some (72, false), .mov 73 (.t 19)⟩, 0, []⟩,
  ⟨⟨some (72, false), .mov 74 (.t 14)⟩, 0, []⟩,
  ⟨⟨some (72, false), .bin 75 .neq (.t 73) (.t 74)⟩, 0, []⟩,
  ⟨⟨none, .pick 76 (.t 72) (.c (.one (.d (.bool true)))) (.t 75)⟩, 0, []⟩]

abbrev i_laws_FnExactLockAsk_r12 : List RO := [
  ⟨⟨none, .mov 10 (.c (.one (.d (.bool false))))⟩, 0, []⟩]

abbrev i_laws_FnExactLockAsk_r13 : List RO := [
  ⟨⟨none, .mov 77 (.t 15)⟩, 0, []⟩,
  ⟨⟨none, .mov 78 (.t 0)⟩, 0, []⟩,
  ⟨⟨none, .callv 79 (.c (.one (.fn k_laws_toLockS []))) [(.t 78)]⟩, 0, []⟩,
  ⟨⟨none, .callv 80 (.c (.one (.fn k_laws_eqLockS []))) [(.t 77), (.t 79)]⟩, 0, []⟩,
  ⟨⟨none, .inv 81 (.t 80)⟩, 0, []⟩]

abbrev i_laws_FnExactLockAsk_r14 : List RO := [
  ⟨⟨none, .mov 10 (.c (.one (.d (.bool false))))⟩, 0, []⟩]

abbrev i_laws_FnExactLockAsk_r15 : List RO := [
  ⟨⟨none, .mov 82 (.t 16)⟩, 0, []⟩,
  ⟨⟨none, .mov 83 (.t 1)⟩, 0, []⟩,
  ⟨⟨none, .callv 84 (.c (.one (.fn k_laws_toIntS []))) [(.t 83)]⟩, 0, []⟩,
  ⟨⟨none, .callv 85 (.c (.one (.fn k_laws_eqIntS []))) [(.t 82), (.t 84)]⟩, 0, []⟩,
  ⟨⟨none, .inv 86 (.t 85)⟩, 0, []⟩]

abbrev i_laws_FnExactLockAsk_r16 : List RO := [
  ⟨⟨none, .mov 10 (.c (.one (.d (.bool false))))⟩, 0, []⟩]

abbrev i_laws_FnExactLockAsk_r17 : List RO := [
  ⟨⟨none, .mov 20 (.c (.one (.d (.int .i64 1))))⟩, 0, []⟩]

abbrev i_laws_FnExactLockAsk_r18 : List RO := [
  ⟨⟨none, .mov 87 (.t 15)⟩, 0, []⟩,
  ⟨⟨none, .mov 88 (.t 20)⟩, 0, []⟩,
  ⟨⟨none, .callv 89 (.c (.one (.fn k_laws_markLockS []))) [(.t 87), (.t 88)]⟩, 0, []⟩,
  ⟨⟨none, .mov 20 (.t 89)⟩, 0, []⟩]

abbrev i_laws_FnExactLockAsk_r19 : List RO := [
  ⟨⟨none, .mov 90 (.t 16)⟩, 0, []⟩,
  ⟨⟨none, .mov 91 (.t 20)⟩, 0, []⟩,
  ⟨⟨none, .callv 92 (.c (.one (.fn k_laws_markIntS []))) [(.t 90), (.t 91)]⟩, 0, []⟩,
  ⟨⟨none, .mov 20 (.t 92)⟩, 0, []⟩]

abbrev i_laws_FnExactLockAsk_r20 : List RO := [
  ⟨⟨none, .mov 93 (.t 20)⟩, 0, []⟩,
  ⟨⟨none, .bin 94 .lss (.t 93) (.c (.one (.d (.int .i64 0))))⟩, 0, []⟩,
  ⟨⟨none, .mov 95 (.t 94)⟩, 0, []⟩,
  ⟨⟨some (95, false), .mov 96 (.t 17)⟩, 0, []⟩,
  ⟨⟨some (95, false), .mov 97 (.t 12)⟩, 0, []⟩,
  ⟨⟨some (95, false), .callv 98 (.c (.one (.fn k_laws_eqLockS []))) [(.t 96), (.t 97)]⟩, 0, []⟩,
  ⟨⟨some (95, false), .inv 99 (.t 98)⟩, 0, []⟩,
  ⟨⟨none, .pick 100 (.t 95) (.c (.one (.d (.bool true)))) (.t 99)⟩, 0, []⟩,
  ⟨⟨none, .mov 101 (.t 100)⟩, 0, []⟩,
  ⟨⟨some (101, false), .mov 102 (.t 18)⟩, 0, []⟩,
  ⟨⟨some (101, false), .mov 103 (.t 13)⟩, 0, []⟩,
  ⟨⟨some (101, false), .callv 104 (.c (.one (.fn k_laws_eqIntS []))) [(.t 102), (.t 103)]⟩, 0, []⟩,
  ⟨⟨some (101, false), .inv 105 (.t 104)⟩, 0, []⟩,
  ⟨⟨none, .pick 106 (.t 101) (.c (.one (.d (.bool true)))) (.t 105)⟩, 0, []⟩,
  ⟨⟨none, .mov 107 (.t 106)⟩, 0, []⟩,
  ⟨⟨some (107, false), .mov 108 (.t 19)⟩, 0, []⟩,
  ⟨⟨some (107, false), .mov 109 (.t 14)⟩, 0, []⟩,
  ⟨⟨some (107, false), .bin 110 .neq (.t 108) (.t 109)⟩, 0, []⟩,
  ⟨⟨none, .pick 111 (.t 107) (.c (.one (.d (.bool true)))) (.t 110)⟩, 0, []⟩]

abbrev i_laws_FnExactLockAsk_r21 : List RO := [
  ⟨⟨none, .mov 10 (.c (.one (.d (.bool false))))⟩, 0, []⟩]

abbrev i_laws_FnExactLockAsk_r22 : List RO := [
  ⟨⟨none, .mov 21 (.c (.one (.d (.int .i64 1))))⟩, 0, []⟩]

abbrev i_laws_FnExactLockAsk_r23 : List RO := [
  ⟨⟨none, .mov 112 (.t 17)⟩, 0, []⟩,
  ⟨⟨none, .mov 113 (.t 21)⟩, 0, []⟩,
  ⟨⟨none, .callv 114 (.c (.one (.fn k_laws_markLockS []))) [(.t 112), (.t 113)]⟩, 0, []⟩,
  ⟨⟨none, .mov 21 (.t 114)⟩, 0, []⟩]

abbrev i_laws_FnExactLockAsk_r24 : List RO := [
  ⟨⟨none, .mov 115 (.t 18)⟩, 0, []⟩,
  ⟨⟨none, .mov 116 (.t 21)⟩, 0, []⟩,
  ⟨⟨none, .callv 117 (.c (.one (.fn k_laws_markIntS []))) [(.t 115), (.t 116)]⟩, 0, []⟩,
  ⟨⟨none, .mov 21 (.t 117)⟩, 0, []⟩]

abbrev i_laws_FnExactLockAsk_r25 : List RO := [
  ⟨⟨none, .mov 22 (.c (.one (.d (.int .i64 1))))⟩, 0, []⟩]

abbrev i_laws_FnExactLockAsk_r26 : List RO := [
  ⟨⟨none, .mov 118 (.t 17)⟩, 0, []⟩,
  ⟨⟨none, .mov 119 (.t 22)⟩, 0, []⟩,
  ⟨⟨none, .callv 120 (.c (.one (.fn k_laws_heldLockS []))) [(.t 118), (.t 119)]⟩, 0, []⟩,
  ⟨⟨none, .mov 22 (.t 120)⟩, 0, []⟩]

abbrev i_laws_FnExactLockAsk_r27 : List RO := [
  ⟨⟨none, .mov 121 (.t 22)⟩, 0, []⟩,
  ⟨⟨none, .bin 122 .lss (.t 121) (.c (.one (.d (.int .i64 0))))⟩, 0, []⟩]

abbrev i_laws_FnExactLockAsk_r28 : List RO := [
  ⟨⟨none, .mov 10 (.c (.one (.d (.bool false))))⟩, 0, []⟩]

abbrev i_laws_FnExactLockAsk_r29 : List RO := [
  ⟨⟨none, .mov 123 (.t 18)⟩, 0, []⟩,
  ⟨⟨none, .mov 124 (.t 22)⟩, 0, []⟩,
  ⟨⟨none, .callv 125 (.c (.one (.fn k_laws_heldIntS []))) [(.t 123), (.t 124)]⟩, 0, []⟩,
  ⟨⟨none, .mov 22 (.t 125)⟩, 0, []⟩]

abbrev i_laws_FnExactLockAsk_r30 : List RO := [
  ⟨⟨none, .mov 126 (.t 22)⟩, 0, []⟩,
  ⟨⟨none, .bin 127 .lss (.t 126) (.c (.one (.d (.int .i64 0))))⟩, 0, []⟩]

abbrev i_laws_FnExactLockAsk_r31 : List RO := [
  ⟨⟨none, .mov 10 (.c (.one (.d (.bool false))))⟩, 0, []⟩]

abbrev i_laws_FnExactLockAsk_r32 : List RO := [
  ⟨⟨none, .mov 128 (.t 22)⟩, 0, []⟩,
  ⟨⟨none, .mov 129 (.t 21)⟩, 0, []⟩,
  ⟨⟨none, .bin 130 .neq (.t 128) (.t 129)⟩, 0, []⟩]

abbrev i_laws_FnExactLockAsk_r33 : List RO := [
  ⟨⟨none, .mov 10 (.c (.one (.d (.bool false))))⟩, 0, []⟩]

abbrev i_laws_FnExactLockAsk_r34 : List RO := [
  ⟨⟨none, .mov 132 (.t 0)⟩, 0, []⟩,
  ⟨⟨none, .callv 133 (.c (.one (.fn k_laws_toLockS []))) [(.t 132)]⟩, 1, []⟩,
  ⟨⟨none, .mov 134 (.t 1)⟩, 0, []⟩,
  ⟨⟨none, .callv 135 (.c (.one (.fn k_laws_toIntS []))) [(.t 134)]⟩, 7, []⟩,
  ⟨⟨none, .mov 136 (.t 2)⟩, 0, []⟩,
  ⟨⟨none, .load 137 (some 2) (.t 8)⟩, 0, [133, 135]⟩,
  ⟨⟨none, .callv 138 (.c (.one (.fn k_laws_toRange []))) [(.t 137)]⟩, 47, []⟩,
  ⟨⟨none, .mov 139 (.t 4)⟩, 0, []⟩,
  ⟨⟨none, .callv 140 (.c (.one (.fn k_impl_LockAsk []))) [(.t 133), (.t 135), (.t 136), (.t 138), (.t 139)]⟩, 255, []⟩,
  ⟨⟨none, .mov 131 (.t 140)⟩, 511, []⟩,
  ⟨⟨none, .ext 141 (.t 131) 0⟩, 1023, []⟩,
  ⟨⟨none, .ext 142 (.t 131) 1⟩, 1023, []⟩,
  ⟨⟨none, .ext 143 (.t 131) 2⟩, 1023, []⟩,
  ⟨⟨none, .mov 23 (.t 141)⟩, 2047, []⟩,
  ⟨⟨none, .mov 24 (.t 142)⟩, 12287, []⟩,
  ⟨⟨none, .mov 25 (.t 143)⟩, 32767, []⟩]

abbrev i_laws_FnExactLockAsk_r35 : List RO := [
  ⟨⟨none, .mov 144 (.t 23)⟩, 0, []⟩,
  ⟨⟨none, .mov 145 (.t 12)⟩, 0, []⟩,
  ⟨⟨none, .callv 146 (.c (.one (.fn k_laws_eqLockS []))) [(.t 144), (.t 145)]⟩, 0, []⟩,
  ⟨⟨none, .inv 147 (.t 146)⟩, 0, []⟩,
  ⟨⟨none, .mov 148 (.t 147)⟩, 0, []⟩,
  ⟨⟨some (148, false), .mov 149 (.t 24)⟩, 0, []⟩,
  ⟨⟨some (148, false), .mov 150 (.t 13)⟩, 0, []⟩,
  ⟨⟨some (148, false), .callv 151 (.c (.one (.fn k_laws_eqIntS []))) [(.t 149), (.t 150)]⟩, 0, []⟩,
  ⟨⟨some (148, false), .inv 152 (.t 151)⟩, 0, []⟩,
  ⟨⟨none, .pick 153 (.t 148) (.c (.one (.d (.bool true)))) (.t 152)⟩, 0, []⟩,
  ⟨⟨none, .mov 154 (.t 153)⟩, 0, []⟩,
  ⟨⟨some (154, false), .mov 155 (.t 25)⟩, 0, []⟩,
  ⟨⟨some (154, false), .mov 156 (.t 14)⟩, 0, []⟩,
  ⟨⟨some (154, false), .bin 157 .neq (.t 155) (.t 156)⟩, 0, []⟩,
  ⟨⟨none, .pick 158 (.t 154) (.c (.one (.d (.bool true)))) (.t 157)⟩, 0, []⟩]

abbrev i_laws_FnExactLockAsk_r36 : List RO := [
  ⟨⟨none, .mov 10 (.c (.one (.d (.bool false))))⟩, 0, []⟩]

abbrev i_laws_FnExactLockAsk_r37 : List RO := [
  ⟨⟨none, .mov 22 (.c (.one (.d (.int .i64 1))))⟩, 0, []⟩]

abbrev i_laws_FnExactLockAsk_r38 : List RO := [
  ⟨⟨none, .mov 159 (.t 17)⟩, 0, []⟩,
  ⟨⟨none, .mov 160 (.t 22)⟩, 0, []⟩,
  ⟨⟨none, .callv 161 (.c (.one (.fn k_laws_heldLockS []))) [(.t 159), (.t 160)]⟩, 0, []⟩,
  ⟨⟨none, .mov 22 (.t 161)⟩, 0, []⟩]

abbrev i_laws_FnExactLockAsk_r39 : List RO := [
  ⟨⟨none, .mov 162 (.t 22)⟩, 0, []⟩,
  ⟨⟨none, .bin 163 .lss (.t 162) (.c (.one (.d (.int .i64 0))))⟩, 0, []⟩]

abbrev i_laws_FnExactLockAsk_r40 : List RO := [
  ⟨⟨none, .mov 10 (.c (.one (.d (.bool false))))⟩, 0, []⟩]

abbrev i_laws_FnExactLockAsk_r41 : List RO := [
  ⟨⟨none, .mov 164 (.t 18)⟩, 0, []⟩,
  ⟨⟨none, .mov 165 (.t 22)⟩, 0, []⟩,
  ⟨⟨none, .callv 166 (.c (.one (.fn k_laws_heldIntS []))) [(.t 164), (.t 165)]⟩, 0, []⟩,
  ⟨⟨none, .mov 22 (.t 166)⟩, 0, []⟩]

abbrev i_laws_FnExactLockAsk_r42 : List RO := [
  ⟨⟨none, .mov 167 (.t 22)⟩, 0, []⟩,
  ⟨⟨none, .bin 168 .lss (.t 167) (.c (.one (.d (.int .i64 0))))⟩, 0, []⟩]

abbrev i_laws_FnExactLockAsk_r43 : List RO := [
  ⟨⟨none, .mov 10 (.c (.one (.d (.bool false))))⟩, 0, []⟩]

abbrev i_laws_FnExactLockAsk_r44 : List RO := [
  ⟨⟨none, .mov 169 (.t 22)⟩, 0, []⟩,
  ⟨⟨none, .mov 170 (.t 21)⟩, 0, []⟩,
  ⟨⟨none, .bin 171 .neq (.t 169) (.t 170)⟩, 0, []⟩]

abbrev i_laws_FnExactLockAsk_r45 : List RO := [
  ⟨⟨none, .mov 10 (.c (.one (.d (.bool false))))⟩, 0, []⟩]

abbrev i_laws_FnExactLockAsk_r46 : List RO := [
  ⟨⟨none, .mov 10 (.c (.one (.d (.bool true))))⟩, 0, []⟩]

def i_laws_FnExactLockAsk : IC := (.seq (.reg i_laws_FnExactLockAsk_r0)
  (.seq (.seq (.reg i_laws_FnExactLockAsk_r1)
  (.cond (.t 28) (.seq (.reg i_laws_FnExactLockAsk_r2)
  .ret) .skip))
  (.seq (.reg i_laws_FnExactLockAsk_r3)
  (.seq (.reg i_laws_FnExactLockAsk_r4)
  (.seq (.seq (.reg i_laws_FnExactLockAsk_r5)
  (.cond (.t 33) (.seq (.reg i_laws_FnExactLockAsk_r6)
  .ret) .skip))
  (.seq (.regd i_laws_FnExactLockAsk_r7)
  (.seq (.reg i_laws_FnExactLockAsk_r8)
  (.seq (.reg i_laws_FnExactLockAsk_r9)
  (.seq (.reg i_laws_FnExactLockAsk_r10)
  (.seq (.seq (.reg i_laws_FnExactLockAsk_r11)
  (.cond (.t 76) (.seq (.reg i_laws_FnExactLockAsk_r12)
  .ret) .skip))
  (.seq (.seq (.reg i_laws_FnExactLockAsk_r13)
  (.cond (.t 81) (.seq (.reg i_laws_FnExactLockAsk_r14)
  .ret) .skip))
  (.seq (.seq (.reg i_laws_FnExactLockAsk_r15)
  (.cond (.t 86) (.seq (.reg i_laws_FnExactLockAsk_r16)
  .ret) .skip))
  (.seq (.reg i_laws_FnExactLockAsk_r17)
  (.seq (.reg i_laws_FnExactLockAsk_r18)
  (.seq (.reg i_laws_FnExactLockAsk_r19)
  (.seq (.seq (.reg i_laws_FnExactLockAsk_r20)
  (.cond (.t 111) (.seq (.reg i_laws_FnExactLockAsk_r21)
  .ret) .skip))
  (.seq (.reg i_laws_FnExactLockAsk_r22)
  (.seq (.reg i_laws_FnExactLockAsk_r23)
  (.seq (.reg i_laws_FnExactLockAsk_r24)
  (.seq (.reg i_laws_FnExactLockAsk_r25)
  (.seq (.reg i_laws_FnExactLockAsk_r26)
  (.seq (.seq (.reg i_laws_FnExactLockAsk_r27)
  (.cond (.t 122) (.seq (.reg i_laws_FnExactLockAsk_r28)
  .ret) .skip))
  (.seq (.reg i_laws_FnExactLockAsk_r29)
  (.seq (.seq (.reg i_laws_FnExactLockAsk_r30)
  (.cond (.t 127) (.seq (.reg i_laws_FnExactLockAsk_r31)
  .ret) .skip))
  (.seq (.seq (.reg i_laws_FnExactLockAsk_r32)
  (.cond (.t 130) (.seq (.reg i_laws_FnExactLockAsk_r33)
  .ret) .skip))
  (.seq (.regd i_laws_FnExactLockAsk_r34)
  (.seq (.seq (.reg i_laws_FnExactLockAsk_r35)
  (.cond (.t 158) (.seq (.reg i_laws_FnExactLockAsk_r36)
  .ret) .skip))
  (.seq (.reg i_laws_FnExactLockAsk_r37)
  (.seq (.reg i_laws_FnExactLockAsk_r38)
  (.seq (.seq (.reg i_laws_FnExactLockAsk_r39)
  (.cond (.t 163) (.seq (.reg i_laws_FnExactLockAsk_r40)
  .ret) .skip))
  (.seq (.reg i_laws_FnExactLockAsk_r41)
  (.seq (.seq (.reg i_laws_FnExactLockAsk_r42)
  (.cond (.t 168) (.seq (.reg i_laws_FnExactLockAsk_r43)
  .ret) .skip))
  (.seq (.seq (.reg i_laws_FnExactLockAsk_r44)
  (.cond (.t 171) (.seq (.reg i_laws_FnExactLockAsk_r45)
  .ret) .skip))
  (.seq (.reg i_laws_FnExactLockAsk_r46)
  .ret))))))))))))))))))))))))))))))))))

theorem i_laws_FnExactLockAsk_ok : (Try.f6.body.bind fun c => toIC Try.prog 172 c [[(0, []), (1, []), (0, []), (7, []), (0, []), (0, [36, 38]), (47, []), (0, []), (255, []), (511, []), (1023, []), (1023, []), (1023, []), (2047, []), (12287, []), (32767, [])], [(0, []), (1, []), (0, []), (7, []), (0, []), (0, [133, 135]), (47, []), (0, []), (255, []), (511, []), (1023, []), (1023, []), (1023, []), (2047, []), (12287, []), (32767, [])]]) = some (i_laws_FnExactLockAsk, []) := by kernel_rfl

theorem i_laws_FnExactLockAsk_fn {ds rs : List D} (hle : ds.length ≤ 172) (h : AW Try.prog 172 i_laws_FnExactLockAsk (Ends [.tmp 10] rs) (init ds)) : Fn Try.prog k_laws_FnExactLockAsk (lent ds) true rs :=
  Fn.intro' (by kernel_rfl) Try.func6 (by kernel_rfl) i_laws_FnExactLockAsk_ok (by kernel_rfl) hle h.h

end Go.AW
