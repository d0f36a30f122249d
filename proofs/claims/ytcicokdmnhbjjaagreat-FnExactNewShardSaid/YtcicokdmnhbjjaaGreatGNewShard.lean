/- The compact code of functions of the program, and that it is the program's: made by a program of the prover's own (tool/GenIC.lean). Conditions: none. -/
import Derived.Test.YtcicokdmnhbjjaaGreatYi
import Derived.Test.YtcicokdmnhbjjaaGreatRows
import Derived.KernelRfl
set_option linter.unusedVariables false
set_option maxRecDepth 100000
namespace Go.AW
open Go.Proofs
abbrev r10_0 : List RO := [ro (.mov 4 (c6 0))]
abbrev r10_1 : List RO := [rM 5 1, rM 6 0, ro (.len 7 false (.t 6)), ro (.bin 8 .sub (.t 5) (.t 7)), rM 1 8]
abbrev r10_2 : List RO := [rM 9 1, ro (.bin 10 .lss (.t 9) (c6 0))]
abbrev r10_3 : List RO := [ro (.mov 4 (c6 (-1)))]
abbrev r10_4 : List RO := [rM 11 1, rM 4 11]
def i10 : IC := (.seq (.reg r10_0) (.seq (.reg r10_1) (.seq (.seq (.reg r10_2) (.cond (.t 10) (.seq (.reg r10_3) .ret) .skip)) (.seq (.reg r10_4) .ret))))
theorem o10 : (Tryz.f10.body.bind fun c => toIC Tryz.prog 12 c []) = some (i10, []) := by kernel_rfl
theorem f10 : FI Tryz.prog 12 i10 [.tmp 4] 10 := fi (by kernel_rfl) Tryz.func10 (by kernel_rfl) o10 (by kernel_rfl)
abbrev r64_0 : List RO := [ro (.box 1 (.t 0)), ro (.var 2 [(dI 0), (dI 0)])]
abbrev r64_1 : List RO := [ro (.var 3 [(dI 0), (dI 0)])]
abbrev r64_2 : List RO := [rF 4 0 1, rL 5 4, rF 6 0 3, ro (.store 1 [(.int .i64 0)] (.t 6) (.t 5))]
abbrev r64_3 : List RO := [rF 7 1 1, rL 8 7, rF 9 1 3, ro (.store 1 [(.int .i64 0)] (.t 9) (.t 8))]
abbrev r64_4 : List RO := [ro (.load 10 (some 2) (.t 3)), ro (.store 2 [(.int .i64 0), (.int .i64 0)] (.t 2) (.t 10))]
def i64 : IC := (.seq (.reg r64_0) (.seq (.reg r64_1) (.seq (.reg r64_2) (.seq (.reg r64_3) (.seq (.reg r64_4) .ret)))))
theorem o64 : (Tryz.f64.body.bind fun c => toIC Tryz.prog 11 c []) = some (i64, []) := by kernel_rfl
theorem f64 : FI Tryz.prog 11 i64 [.cell 2 (some 2)] 64 := fi (by kernel_rfl) Tryz.func64 (by kernel_rfl) o64 (by kernel_rfl)
abbrev r12_0 : List RO := [ro (.mov 2 (.c (.one .zs)))]
abbrev r12_1 : List RO := [rM 5 0, ro (.len 6 false (.t 5)), ro (.mksl 7 2 16 [(.int .i64 0), (.int .i64 0)] (.t 6) (.t 6)), rM 3 7]
abbrev r12_2 : List RO := [ro (.mov 4 (c6 0))]
abbrev r12_3 : List RO := [rM 8 4, rM 9 0, ro (.len 10 false (.t 9)), ro (.bin 11 .lss (.t 8) (.t 10))]
abbrev r12_4 : List RO := [rM 14 3, rM 15 4, rM 16 0, rM 17 4, ro (.iaddr 18 2 (.t 16) (.t 17)), ro (.load 19 (some 2) (.t 18)), ro (.callv 20 (.c (.one (.fn 64 []))) [(.t 19)]), ro (.iaddr 21 2 (.t 14) (.t 15)), ro (.store 2 [(.int .i64 0), (.int .i64 0)] (.t 21) (.t 20))]
abbrev r12_5 : List RO := [rM 12 4, ro (.bin 13 .add (.t 12) (c6 1)), rM 4 13]
abbrev r12_6 : List RO := [rM 22 3, rM 2 22]
def i12 : IC := (.seq (.reg r12_0) (.seq (.reg r12_1) (.seq (.seq (.reg r12_2) (.block 0 (.loop (.seq (.seq (.reg r12_3) (.cond (.t 11) .skip (.exit 0))) (.seq (.block 1 (.reg r12_4)) (.reg r12_5)))))) (.seq (.reg r12_6) .ret))))
theorem o12 : (Tryz.f12.body.bind fun c => toIC Tryz.prog 23 c []) = some (i12, []) := by kernel_rfl
theorem f12 : FI Tryz.prog 23 i12 [.tmp 2] 12 := fi (by kernel_rfl) Tryz.func12 (by kernel_rfl) o12 (by kernel_rfl)
abbrev r22_0 : List RO := [ro (.mov 6 (cB false))]
abbrev r22_1 : List RO := [rM 7 0, rM 8 1, ro (.bin 9 .geq (.t 7) (.t 8)), rM 10 9, rT 10 (.mov 11 (.t 0)), rT 10 (.mov 12 (.t 2)), rT 10 (.bin 13 .leq (.t 11) (.t 12)), ro (.pick 14 (.t 10) (.t 13) (cB false)), rM 6 14]
def i22 : IC := (.seq (.reg r22_0) (.seq (.reg r22_1) .ret))
theorem o22 : (Tryz.f22.body.bind fun c => toIC Tryz.prog 15 c []) = some (i22, []) := by kernel_rfl
theorem f22 : FI Tryz.prog 15 i22 [.tmp 6] 22 := fi (by kernel_rfl) Tryz.func22 (by kernel_rfl) o22 (by kernel_rfl)
abbrev r77_0 : List RO := [ro (.box 1 (.t 0)), ro (.mov 2 (cB false))]
abbrev r77_1 : List RO := [rF 3 0 1, rL 4 3, ro (.bin 5 .geq (.t 4) (c6 0)), rM 6 5, rT 6 (.faddr 7 0 (.t 1)), rT 6 (.load 8 none (.t 7)), rT 6 (.faddr 9 1 (.t 1)), rT 6 (.load 10 none (.t 9)), rT 6 (.bin 11 .lss (.t 8) (.t 10)), ro (.pick 12 (.t 6) (.t 11) (cB false)), rM 13 12, rT 13 (.faddr 14 1 (.t 1)), rT 13 (.load 15 none (.t 14)), rT 13 (.bin 16 .leq (.t 15) (c6 1000)), ro (.pick 17 (.t 13) (.t 16) (cB false)), rM 2 17]
def i77 : IC := (.seq (.reg r77_0) (.seq (.reg r77_1) .ret))
theorem o77 : (Tryz.f77.body.bind fun c => toIC Tryz.prog 18 c []) = some (i77, []) := by kernel_rfl
theorem f77 : FI Tryz.prog 18 i77 [.tmp 2] 77 := fi (by kernel_rfl) Tryz.func77 (by kernel_rfl) o77 (by kernel_rfl)
abbrev r23_0 : List RO := [ro (.mov 2 (cB false))]
abbrev r23_1 : List RO := [rM 4 0, ro (.len 5 false (.t 4)), ro (.bin 6 .gtr (.t 5) (c6 16))]
abbrev r23_2 : List RO := [ro (.mov 2 (cB false))]
abbrev r23_3 : List RO := [ro (.mov 3 (c6 0))]
abbrev r23_4 : List RO := [rM 7 3, rM 8 0, ro (.len 9 false (.t 8)), ro (.bin 10 .lss (.t 7) (.t 9))]
abbrev r23_5 : List RO := [rM 13 0, rM 14 3, ⟨⟨none, .iaddr 15 2 (.t 13) (.t 14)⟩, 3, []⟩, ⟨⟨none, .load 16 (some 2) (.t 15)⟩, 7, []⟩, ⟨⟨none, .callv 17 (.c (.one (.fn 77 []))) [(.t 16)]⟩, 15, []⟩, ⟨⟨none, .inv 18 (.t 17)⟩, 31, []⟩, ⟨⟨none, .mov 19 (.t 18)⟩, 63, []⟩, ⟨⟨some (19, false), .mov 20 (.t 3)⟩, 127, []⟩, ⟨⟨some (19, false), .bin 21 .gtr (.t 20) (c6 0)⟩, 255, []⟩, ⟨⟨some (19, false), .mov 22 (.t 21)⟩, 511, []⟩, ⟨⟨some (22, true), .mov 23 (.t 0)⟩, 1023, []⟩, ⟨⟨some (22, true), .mov 24 (.t 3)⟩, 1023, []⟩, ⟨⟨some (22, true), .iaddr 25 2 (.t 23) (.t 24)⟩, 4095, []⟩, ⟨⟨some (22, true), .faddr 26 0 (.t 25)⟩, 8191, []⟩, ⟨⟨some (22, true), .load 27 none (.t 26)⟩, 16383, []⟩, ⟨⟨some (22, true), .mov 28 (.t 0)⟩, 1023, []⟩, ⟨⟨some (22, true), .mov 29 (.t 3)⟩, 1023, []⟩, ⟨⟨some (22, true), .bin 30 .sub (.t 29) (c6 1)⟩, 66559, []⟩, ⟨⟨some (22, true), .iaddr 31 2 (.t 28) (.t 30)⟩, 230399, []⟩, ⟨⟨some (22, true), .faddr 32 1 (.t 31)⟩, 492543, []⟩, ⟨⟨some (22, true), .load 33 none (.t 32)⟩, 1016831, []⟩, ⟨⟨some (22, true), .bin 34 .lss (.t 27) (.t 33)⟩, 2097151, []⟩, ⟨⟨some (19, false), .pick 35 (.t 22) (.t 34) (cB false)⟩, 4194303, []⟩, ⟨⟨none, .pick 36 (.t 19) (cB true) (.t 35)⟩, 8388607, []⟩]
abbrev r23_6 : List RO := [ro (.mov 2 (cB false))]
abbrev r23_7 : List RO := [rM 11 3, ro (.bin 12 .add (.t 11) (c6 1)), rM 3 12]
abbrev r23_8 : List RO := [ro (.mov 2 (cB true))]
def i23 : IC := (.seq (.reg r23_0) (.seq (.seq (.reg r23_1) (.cond (.t 6) (.seq (.reg r23_2) .ret) .skip)) (.seq (.seq (.reg r23_3) (.block 0 (.loop (.seq (.seq (.reg r23_4) (.cond (.t 10) .skip (.exit 0))) (.seq (.block 1 (.seq (.regd r23_5) (.cond (.t 36) (.seq (.reg r23_6) .ret) .skip))) (.reg r23_7)))))) (.seq (.reg r23_8) .ret))))
theorem o23 : (Tryz.f23.body.bind fun c => toIC Tryz.prog 37 c [[(0, []), (0, []), (3, []), (7, []), (15, []), (31, []), (63, []), (127, []), (255, []), (511, []), (1023, []), (1023, []), (4095, []), (8191, []), (16383, []), (1023, []), (1023, []), (66559, []), (230399, []), (492543, []), (1016831, []), (2097151, []), (4194303, []), (8388607, [])]]) = some (i23, []) := by kernel_rfl
theorem f23 : FI Tryz.prog 37 i23 [.tmp 2] 23 := fi (by kernel_rfl) Tryz.func23 (by kernel_rfl) o23 (by kernel_rfl)
abbrev r78_0 : List RO := [ro (.mov 2 (cB false))]
abbrev r78_1 : List RO := [rM 3 0, ro (.callv 4 (.c (.one (.fn 22 []))) [(.t 3), (c6 0), (c6 999)]), rM 2 4]
def i78 : IC := (.seq (.reg r78_0) (.seq (.reg r78_1) .ret))
theorem o78 : (Tryz.f78.body.bind fun c => toIC Tryz.prog 5 c []) = some (i78, []) := by kernel_rfl
theorem f78 : FI Tryz.prog 5 i78 [.tmp 2] 78 := fi (by kernel_rfl) Tryz.func78 (by kernel_rfl) o78 (by kernel_rfl)
abbrev r79_0 : List RO := [ro (.mov 2 (cB false))]
abbrev r79_1 : List RO := [rM 3 0, ro (.callv 4 (.c (.one (.fn 22 []))) [(.t 3), (c6 0), (c6 1000000000)]), rM 2 4]
def i79 : IC := (.seq (.reg r79_0) (.seq (.reg r79_1) .ret))
theorem o79 : (Tryz.f79.body.bind fun c => toIC Tryz.prog 5 c []) = some (i79, []) := by kernel_rfl
theorem f79 : FI Tryz.prog 5 i79 [.tmp 2] 79 := fi (by kernel_rfl) Tryz.func79 (by kernel_rfl) o79 (by kernel_rfl)
abbrev r24_0 : List RO := [ro (.mov 2 (cB false))]
abbrev r24_1 : List RO := [rM 4 0, ro (.len 5 false (.t 4)), ro (.bin 6 .gtr (.t 5) (c6 60))]
abbrev r24_2 : List RO := [ro (.mov 2 (cB false))]
abbrev r24_3 : List RO := [ro (.mov 3 (c6 0))]
abbrev r24_4 : List RO := [rM 7 3, rM 8 0, ro (.len 9 false (.t 8)), ro (.bin 10 .lss (.t 7) (.t 9))]
abbrev r24_5 : List RO := [rM 13 0, rM 14 3, ⟨⟨none, .iaddr 15 2 (.t 13) (.t 14)⟩, 3, []⟩, ⟨⟨none, .faddr 16 0 (.t 15)⟩, 7, []⟩, ⟨⟨none, .load 17 none (.t 16)⟩, 15, []⟩, ⟨⟨none, .callv 18 (.c (.one (.fn 78 []))) [(.t 17)]⟩, 31, []⟩, ⟨⟨none, .inv 19 (.t 18)⟩, 63, []⟩, ⟨⟨none, .mov 20 (.t 19)⟩, 127, []⟩, ⟨⟨some (20, false), .mov 21 (.t 0)⟩, 255, []⟩, ⟨⟨some (20, false), .mov 22 (.t 3)⟩, 255, []⟩, ⟨⟨some (20, false), .iaddr 23 2 (.t 21) (.t 22)⟩, 1023, []⟩, ⟨⟨some (20, false), .faddr 24 1 (.t 23)⟩, 2047, []⟩, ⟨⟨some (20, false), .load 25 none (.t 24)⟩, 4095, []⟩, ⟨⟨some (20, false), .callv 26 (.c (.one (.fn 79 []))) [(.t 25)]⟩, 8191, []⟩, ⟨⟨some (20, false), .inv 27 (.t 26)⟩, 16383, []⟩, ⟨⟨none, .pick 28 (.t 20) (cB true) (.t 27)⟩, 32767, []⟩, ⟨⟨none, .mov 29 (.t 28)⟩, 65535, []⟩, ⟨⟨some (29, false), .mov 30 (.t 3)⟩, 131071, []⟩, ⟨⟨some (29, false), .bin 31 .gtr (.t 30) (c6 0)⟩, 262143, []⟩, ⟨⟨some (29, false), .mov 32 (.t 31)⟩, 524287, []⟩, ⟨⟨some (32, true), .mov 33 (.t 0)⟩, 1048575, []⟩, ⟨⟨some (32, true), .mov 34 (.t 3)⟩, 1048575, []⟩, ⟨⟨some (32, true), .bin 35 .sub (.t 34) (c6 1)⟩, 3145727, []⟩, ⟨⟨some (32, true), .iaddr 36 2 (.t 33) (.t 35)⟩, 8388607, []⟩, ⟨⟨some (32, true), .faddr 37 0 (.t 36)⟩, 16777215, []⟩, ⟨⟨some (32, true), .load 38 none (.t 37)⟩, 33554431, []⟩, ⟨⟨some (32, true), .mov 39 (.t 0)⟩, 1048575, []⟩, ⟨⟨some (32, true), .mov 40 (.t 3)⟩, 1048575, []⟩, ⟨⟨some (32, true), .iaddr 41 2 (.t 39) (.t 40)⟩, 202375167, []⟩, ⟨⟨some (32, true), .faddr 42 0 (.t 41)⟩, 470810623, []⟩, ⟨⟨some (32, true), .load 43 none (.t 42)⟩, 1007681535, []⟩, ⟨⟨some (32, true), .bin 44 .geq (.t 38) (.t 43)⟩, 2147483647, []⟩, ⟨⟨some (29, false), .pick 45 (.t 32) (.t 44) (cB false)⟩, 4294967295, []⟩, ⟨⟨none, .pick 46 (.t 29) (cB true) (.t 45)⟩, 8589934591, []⟩]
abbrev r24_6 : List RO := [ro (.mov 2 (cB false))]
abbrev r24_7 : List RO := [rM 11 3, ro (.bin 12 .add (.t 11) (c6 1)), rM 3 12]
abbrev r24_8 : List RO := [ro (.mov 2 (cB true))]
def i24 : IC := (.seq (.reg r24_0) (.seq (.seq (.reg r24_1) (.cond (.t 6) (.seq (.reg r24_2) .ret) .skip)) (.seq (.seq (.reg r24_3) (.block 0 (.loop (.seq (.seq (.reg r24_4) (.cond (.t 10) .skip (.exit 0))) (.seq (.block 1 (.seq (.regd r24_5) (.cond (.t 46) (.seq (.reg r24_6) .ret) .skip))) (.reg r24_7)))))) (.seq (.reg r24_8) .ret))))
theorem o24 : (Tryz.f24.body.bind fun c => toIC Tryz.prog 47 c [[(0, []), (0, []), (3, []), (7, []), (15, []), (31, []), (63, []), (127, []), (255, []), (255, []), (1023, []), (2047, []), (4095, []), (8191, []), (16383, []), (32767, []), (65535, []), (131071, []), (262143, []), (524287, []), (1048575, []), (1048575, []), (3145727, []), (8388607, []), (16777215, []), (33554431, []), (1048575, []), (1048575, []), (202375167, []), (470810623, []), (1007681535, []), (2147483647, []), (4294967295, []), (8589934591, [])]]) = some (i24, []) := by kernel_rfl
theorem f24 : FI Tryz.prog 47 i24 [.tmp 2] 24 := fi (by kernel_rfl) Tryz.func24 (by kernel_rfl) o24 (by kernel_rfl)
abbrev r80_0 : List RO := [ro (.mov 2 (cB false))]
abbrev r80_1 : List RO := [rM 3 0, ro (.callv 4 (.c (.one (.fn 22 []))) [(.t 3), (c6 1), (c6 60)]), rM 2 4]
def i80 : IC := (.seq (.reg r80_0) (.seq (.reg r80_1) .ret))
theorem o80 : (Tryz.f80.body.bind fun c => toIC Tryz.prog 5 c []) = some (i80, []) := by kernel_rfl
theorem f80 : FI Tryz.prog 5 i80 [.tmp 2] 80 := fi (by kernel_rfl) Tryz.func80 (by kernel_rfl) o80 (by kernel_rfl)
abbrev r29_0 : List RO := [ro (.box 1 (.t 0)), ro (.var 2 [(dI 0), (dI 0)])]
abbrev r29_1 : List RO := [rF 3 1 1, rL 4 3, rF 5 2 1, rL 6 5, ro (.build 7 [(dI 0), (dI 0)] [(0, 1, (.t 4)), (1, 1, (.t 6))]), ro (.store 2 [(.int .i64 0), (.int .i64 0)] (.t 2) (.t 7))]
def i29 : IC := (.seq (.reg r29_0) (.seq (.reg r29_1) .ret))
theorem o29 : (Tryz.f29.body.bind fun c => toIC Tryz.prog 8 c []) = some (i29, []) := by kernel_rfl
theorem f29 : FI Tryz.prog 8 i29 [.cell 2 (some 2)] 29 := fi (by kernel_rfl) Tryz.func29 (by kernel_rfl) o29 (by kernel_rfl)
abbrev r81_0 : List RO := [ro (.mov 2 (cB false))]
abbrev r81_1 : List RO := [rM 3 0, ro (.bin 4 .eql (.t 3) (c6 1)), rM 5 4, rN 5 (.mov 6 (.t 0)), rN 5 (.bin 7 .eql (.t 6) (c6 2)), ro (.pick 8 (.t 5) (cB true) (.t 7)), rM 2 8]
def i81 : IC := (.seq (.reg r81_0) (.seq (.reg r81_1) .ret))
theorem o81 : (Tryz.f81.body.bind fun c => toIC Tryz.prog 9 c []) = some (i81, []) := by kernel_rfl
theorem f81 : FI Tryz.prog 9 i81 [.tmp 2] 81 := fi (by kernel_rfl) Tryz.func81 (by kernel_rfl) o81 (by kernel_rfl)
abbrev r135_0 : List RO := [ro (.mov 4 (c6 0))]
abbrev r135_1 : List RO := [rM 5 0, rM 6 1, ro (.bin 7 .gtr (.t 5) (.t 6))]
abbrev r135_2 : List RO := [rM 8 0, rM 4 8]
abbrev r135_3 : List RO := [rM 9 1, rM 4 9]
def i135 : IC := (.seq (.reg r135_0) (.seq (.seq (.reg r135_1) (.cond (.t 7) (.seq (.reg r135_2) .ret) .skip)) (.seq (.reg r135_3) .ret)))
theorem o135 : (Tryz.f135.body.bind fun c => toIC Tryz.prog 10 c []) = some (i135, []) := by kernel_rfl
theorem f135 : FI Tryz.prog 10 i135 [.tmp 4] 135 := fi (by kernel_rfl) Tryz.func135 (by kernel_rfl) o135 (by kernel_rfl)
abbrev r136_0 : List RO := [ro (.mov 4 (c6 0))]
abbrev r136_1 : List RO := [rM 5 0, rM 6 1, ro (.bin 7 .lss (.t 5) (.t 6))]
abbrev r136_2 : List RO := [rM 8 0, rM 4 8]
abbrev r136_3 : List RO := [rM 9 1, rM 4 9]
def i136 : IC := (.seq (.reg r136_0) (.seq (.seq (.reg r136_1) (.cond (.t 7) (.seq (.reg r136_2) .ret) .skip)) (.seq (.reg r136_3) .ret)))
theorem o136 : (Tryz.f136.body.bind fun c => toIC Tryz.prog 10 c []) = some (i136, []) := by kernel_rfl
theorem f136 : FI Tryz.prog 10 i136 [.tmp 4] 136 := fi (by kernel_rfl) Tryz.func136 (by kernel_rfl) o136 (by kernel_rfl)
abbrev r114_0 : List RO := [ro (.box 2 (.t 0)), ro (.box 3 (.t 1)), ro (.var 4 [(dI 0), (dI 0)]), ro (.mov 5 (cB false))]
abbrev r114_1 : List RO := [rF 7 0 2, ⟨⟨none, .load 8 none (.t 7)⟩, 1, [6]⟩, rF 9 0 3, ⟨⟨none, .load 10 none (.t 9)⟩, 4, [6]⟩, ⟨⟨none, .callv 11 (.c (.one (.fn 135 []))) [(.t 8), (.t 10)]⟩, 15, [6]⟩, rF 12 1 2, ⟨⟨none, .load 13 none (.t 12)⟩, 32, [11, 6]⟩, rF 14 1 3, ⟨⟨none, .load 15 none (.t 14)⟩, 128, [11, 6]⟩, ⟨⟨none, .callv 16 (.c (.one (.fn 136 []))) [(.t 13), (.t 15)]⟩, 511, [6]⟩, ⟨⟨none, .build 17 [(dI 0), (dI 0)] [(0, 1, (.t 11)), (1, 1, (.t 16))]⟩, 1023, []⟩, ⟨⟨none, .var 6 [(dI 0), (dI 0)]⟩, 0, [11, 16]⟩, ⟨⟨none, .store 2 [(.int .i64 0), (.int .i64 0)] (.t 6) (.t 17)⟩, 4095, []⟩]
abbrev r114_2 : List RO := [ro (.load 18 (some 2) (.t 2)), ro (.callv 19 (.c (.one (.fn 77 []))) [(.t 18)]), ro (.inv 20 (.t 19)), rM 21 20, rN 21 (.load 22 (some 2) (.t 3)), rN 21 (.callv 23 (.c (.one (.fn 77 []))) [(.t 22)]), rN 21 (.inv 24 (.t 23)), ro (.pick 25 (.t 21) (cB true) (.t 24)), rM 26 25, rN 26 (.load 27 (some 2) (.t 6)), rN 26 (.callv 28 (.c (.one (.fn 77 []))) [(.t 27)]), rN 26 (.inv 29 (.t 28)), ro (.pick 30 (.t 26) (cB true) (.t 29))]
abbrev r114_3 : List RO := [ro (.build 31 [(dI 0), (dI 0)] []), ro (.store 2 [(.int .i64 0), (.int .i64 0)] (.t 4) (.t 31)), ro (.mov 5 (cB false))]
abbrev r114_4 : List RO := [ro (.load 32 (some 2) (.t 6)), ro (.store 2 [(.int .i64 0), (.int .i64 0)] (.t 4) (.t 32)), ro (.mov 5 (cB true))]
def i114 : IC := (.seq (.reg r114_0) (.seq (.regd r114_1) (.seq (.seq (.reg r114_2) (.cond (.t 30) (.seq (.reg r114_3) .ret) .skip)) (.seq (.reg r114_4) .ret))))
theorem o114 : (Tryz.f114.body.bind fun c => toIC Tryz.prog 33 c [[(0, []), (1, [6]), (0, []), (4, [6]), (15, [6]), (0, []), (32, [11, 6]), (0, []), (128, [11, 6]), (511, [6]), (1023, []), (0, [11, 16]), (4095, [])]]) = some (i114, []) := by kernel_rfl
theorem f114 : FI Tryz.prog 33 i114 [.cell 4 (some 2), .tmp 5] 114 := fi (by kernel_rfl) Tryz.func114 (by kernel_rfl) o114 (by kernel_rfl)
abbrev r82_0 : List RO := [ro (.box 2 (.t 0)), ro (.box 3 (.t 1)), ro (.mov 4 (cB false))]
abbrev r82_1 : List RO := [⟨⟨none, .load 8 (some 4) (.t 2)⟩, 0, [5]⟩, ⟨⟨none, .callv 9 (.c (.one (.fn 29 []))) [(.t 8)]⟩, 1, [5]⟩, ⟨⟨none, .load 10 (some 4) (.t 3)⟩, 0, [9, 5]⟩, ⟨⟨none, .callv 11 (.c (.one (.fn 29 []))) [(.t 10)]⟩, 7, [5]⟩, ⟨⟨none, .callv 12 (.c (.one (.fn 114 []))) [(.t 9), (.t 11)]⟩, 15, [5]⟩, ⟨⟨none, .mov 7 (.t 12)⟩, 31, []⟩, ⟨⟨none, .ext 13 (.t 7) 0⟩, 63, []⟩, ⟨⟨none, .ext 14 (.t 7) 1⟩, 63, []⟩, ⟨⟨none, .var 5 [(dI 0), (dI 0)]⟩, 0, [9, 11, 12]⟩, ⟨⟨none, .store 2 [(.int .i64 0), (.int .i64 0)] (.t 5) (.t 13)⟩, 383, []⟩, ⟨⟨none, .mov 6 (.t 14)⟩, 1023, []⟩]
abbrev r82_2 : List RO := [rM 15 6, rM 16 15, rT 16 (.faddr 17 0 (.t 2)), rT 16 (.load 18 none (.t 17)), rT 16 (.faddr 19 0 (.t 3)), rT 16 (.load 20 none (.t 19)), rT 16 (.bin 21 .neq (.t 18) (.t 20)), ro (.pick 22 (.t 16) (.t 21) (cB false)), rM 23 22, rT 23 (.faddr 24 3 (.t 2)), rT 23 (.load 25 none (.t 24)), rT 23 (.bin 26 .eql (.t 25) (c6 2)), rT 23 (.mov 27 (.t 26)), rN 27 (.faddr 28 3 (.t 3)), rN 27 (.load 29 none (.t 28)), rN 27 (.bin 30 .eql (.t 29) (c6 2)), rT 23 (.pick 31 (.t 27) (cB true) (.t 30)), ro (.pick 32 (.t 23) (.t 31) (cB false)), rM 4 32]
def i82 : IC := (.seq (.reg r82_0) (.seq (.regd r82_1) (.seq (.reg r82_2) .ret)))
theorem o82 : (Tryz.f82.body.bind fun c => toIC Tryz.prog 33 c [[(0, [5]), (1, [5]), (0, [9, 5]), (7, [5]), (15, [5]), (31, []), (63, []), (63, []), (0, [9, 11, 12]), (383, []), (1023, [])]]) = some (i82, []) := by kernel_rfl
theorem f82 : FI Tryz.prog 33 i82 [.tmp 4] 82 := fi (by kernel_rfl) Tryz.func82 (by kernel_rfl) o82 (by kernel_rfl)
abbrev r25_0 : List RO := [ro (.mov 2 (cB false))]
abbrev r25_1 : List RO := [rM 5 0, ro (.len 6 false (.t 5)), ro (.bin 7 .gtr (.t 6) (c6 40))]
abbrev r25_2 : List RO := [ro (.mov 2 (cB false))]
abbrev r25_3 : List RO := [ro (.mov 3 (c6 0))]
abbrev r25_4 : List RO := [rM 8 3, rM 9 0, ro (.len 10 false (.t 9)), ro (.bin 11 .lss (.t 8) (.t 10))]
abbrev r25_5 : List RO := [rM 14 0, rM 15 3, ro (.iaddr 16 4 (.t 14) (.t 15)), rF 17 0 16, rL 18 17, ro (.callv 19 (.c (.one (.fn 80 []))) [(.t 18)]), ro (.inv 20 (.t 19)), rM 21 20, rN 21 (.mov 22 (.t 0)), rN 21 (.mov 23 (.t 3)), rN 21 (.iaddr 24 4 (.t 22) (.t 23)), rN 21 (.load 25 (some 4) (.t 24)), rN 21 (.callv 26 (.c (.one (.fn 29 []))) [(.t 25)]), rN 21 (.callv 27 (.c (.one (.fn 77 []))) [(.t 26)]), rN 21 (.inv 28 (.t 27)), ro (.pick 29 (.t 21) (cB true) (.t 28)), rM 30 29, rN 30 (.mov 31 (.t 0)), rN 30 (.mov 32 (.t 3)), rN 30 (.iaddr 33 4 (.t 31) (.t 32)), rN 30 (.faddr 34 3 (.t 33)), rN 30 (.load 35 none (.t 34)), rN 30 (.callv 36 (.c (.one (.fn 81 []))) [(.t 35)]), rN 30 (.inv 37 (.t 36)), ro (.pick 38 (.t 30) (cB true) (.t 37))]
abbrev r25_6 : List RO := [ro (.mov 2 (cB false))]
abbrev r25_7 : List RO := [ro (.mov 4 (c6 0))]
abbrev r25_8 : List RO := [rM 39 4, rM 40 3, ro (.bin 41 .lss (.t 39) (.t 40))]
abbrev r25_9 : List RO := [rM 44 0, rM 45 3, ⟨⟨none, .iaddr 46 4 (.t 44) (.t 45)⟩, 3, []⟩, ⟨⟨none, .load 47 (some 4) (.t 46)⟩, 7, []⟩, rM 48 0, rM 49 4, ⟨⟨none, .iaddr 50 4 (.t 48) (.t 49)⟩, 48, []⟩, ⟨⟨none, .load 51 (some 4) (.t 50)⟩, 112, []⟩, ⟨⟨none, .callv 52 (.c (.one (.fn 82 []))) [(.t 47), (.t 51)]⟩, 255, []⟩]
abbrev r25_10 : List RO := [ro (.mov 2 (cB false))]
abbrev r25_11 : List RO := [rM 42 4, ro (.bin 43 .add (.t 42) (c6 1)), rM 4 43]
abbrev r25_12 : List RO := [rM 12 3, ro (.bin 13 .add (.t 12) (c6 1)), rM 3 13]
abbrev r25_13 : List RO := [ro (.mov 2 (cB true))]
def i25 : IC := (.seq (.reg r25_0) (.seq (.seq (.reg r25_1) (.cond (.t 7) (.seq (.reg r25_2) .ret) .skip)) (.seq (.seq (.reg r25_3) (.block 0 (.loop (.seq (.seq (.reg r25_4) (.cond (.t 11) .skip (.exit 0))) (.seq (.block 1 (.seq (.seq (.reg r25_5) (.cond (.t 38) (.seq (.reg r25_6) .ret) .skip)) (.seq (.reg r25_7) (.block 2 (.loop (.seq (.seq (.reg r25_8) (.cond (.t 41) .skip (.exit 2))) (.seq (.block 3 (.seq (.regd r25_9) (.cond (.t 52) (.seq (.reg r25_10) .ret) .skip))) (.reg r25_11)))))))) (.reg r25_12)))))) (.seq (.reg r25_13) .ret))))
theorem o25 : (Tryz.f25.body.bind fun c => toIC Tryz.prog 53 c [[(0, []), (0, []), (3, []), (7, []), (0, []), (0, []), (48, []), (112, []), (255, [])]]) = some (i25, []) := by kernel_rfl
theorem f25 : FI Tryz.prog 53 i25 [.tmp 2] 25 := fi (by kernel_rfl) Tryz.func25 (by kernel_rfl) o25 (by kernel_rfl)
abbrev r26_0 : List RO := [ro (.mov 2 (cB false))]
abbrev r26_1 : List RO := [ro (.mov 3 (c6 0))]
abbrev r26_2 : List RO := [rM 4 3, rM 5 0, ro (.len 6 false (.t 5)), ro (.bin 7 .lss (.t 4) (.t 6))]
abbrev r26_3 : List RO := [rM 10 0, rM 11 3, ⟨⟨none, .iaddr 12 1 (.t 10) (.t 11)⟩, 3, []⟩, ⟨⟨none, .load 13 none (.t 12)⟩, 7, []⟩, ⟨⟨none, .callv 14 (.c (.one (.fn 80 []))) [(.t 13)]⟩, 15, []⟩, ⟨⟨none, .inv 15 (.t 14)⟩, 31, []⟩, ⟨⟨none, .mov 16 (.t 15)⟩, 63, []⟩, ⟨⟨some (16, false), .mov 17 (.t 3)⟩, 127, []⟩, ⟨⟨some (16, false), .bin 18 .gtr (.t 17) (c6 0)⟩, 255, []⟩, ⟨⟨some (16, false), .mov 19 (.t 18)⟩, 511, []⟩, ⟨⟨some (19, true), .mov 20 (.t 0)⟩, 1023, []⟩, ⟨⟨some (19, true), .mov 21 (.t 3)⟩, 1023, []⟩, ⟨⟨some (19, true), .bin 22 .sub (.t 21) (c6 1)⟩, 3071, []⟩, ⟨⟨some (19, true), .iaddr 23 1 (.t 20) (.t 22)⟩, 8191, []⟩, ⟨⟨some (19, true), .load 24 none (.t 23)⟩, 16383, []⟩, ⟨⟨some (19, true), .mov 25 (.t 0)⟩, 1023, []⟩, ⟨⟨some (19, true), .mov 26 (.t 3)⟩, 1023, []⟩, ⟨⟨some (19, true), .iaddr 27 1 (.t 25) (.t 26)⟩, 99327, []⟩, ⟨⟨some (19, true), .load 28 none (.t 27)⟩, 230399, []⟩, ⟨⟨some (19, true), .bin 29 .geq (.t 24) (.t 28)⟩, 524287, []⟩, ⟨⟨some (16, false), .pick 30 (.t 19) (.t 29) (cB false)⟩, 1048575, []⟩, ⟨⟨none, .pick 31 (.t 16) (cB true) (.t 30)⟩, 2097151, []⟩]
abbrev r26_4 : List RO := [ro (.mov 2 (cB false))]
abbrev r26_5 : List RO := [rM 8 3, ro (.bin 9 .add (.t 8) (c6 1)), rM 3 9]
abbrev r26_6 : List RO := [ro (.mov 2 (cB true))]
def i26 : IC := (.seq (.reg r26_0) (.seq (.seq (.reg r26_1) (.block 0 (.loop (.seq (.seq (.reg r26_2) (.cond (.t 7) .skip (.exit 0))) (.seq (.block 1 (.seq (.regd r26_3) (.cond (.t 31) (.seq (.reg r26_4) .ret) .skip))) (.reg r26_5)))))) (.seq (.reg r26_6) .ret)))
theorem o26 : (Tryz.f26.body.bind fun c => toIC Tryz.prog 32 c [[(0, []), (0, []), (3, []), (7, []), (15, []), (31, []), (63, []), (127, []), (255, []), (511, []), (1023, []), (1023, []), (3071, []), (8191, []), (16383, []), (1023, []), (1023, []), (99327, []), (230399, []), (524287, []), (1048575, []), (2097151, [])]]) = some (i26, []) := by kernel_rfl
theorem f26 : FI Tryz.prog 32 i26 [.tmp 2] 26 := fi (by kernel_rfl) Tryz.func26 (by kernel_rfl) o26 (by kernel_rfl)
abbrev r27_0 : List RO := [ro (.box 3 (.t 1)), ro (.mov 4 (cB false))]
abbrev r27_1 : List RO := [rM 7 0, ro (.callv 8 (.c (.one (.fn 23 []))) [(.t 7)]), ro (.inv 9 (.t 8)), rM 10 9, rN 10 (.load 11 (some 2) (.t 3)), rN 10 (.callv 12 (.c (.one (.fn 77 []))) [(.t 11)]), rN 10 (.inv 13 (.t 12)), ro (.pick 14 (.t 10) (cB true) (.t 13))]
abbrev r27_2 : List RO := [ro (.mov 4 (cB false))]
abbrev r27_3 : List RO := [rF 15 0 3, rL 16 15, rM 5 16]
abbrev r27_4 : List RO := [ro (.mov 6 (c6 0))]
abbrev r27_5 : List RO := [rM 17 6, rM 18 0, ro (.len 19 false (.t 18)), ro (.bin 20 .lss (.t 17) (.t 19))]
abbrev r27_6 : List RO := [rM 23 0, rM 24 6, ro (.iaddr 25 2 (.t 23) (.t 24)), rF 26 0 25, rL 27 26, rM 28 5, ro (.bin 29 .leq (.t 27) (.t 28)), rM 30 29, rT 30 (.mov 31 (.t 5)), rT 30 (.mov 32 (.t 0)), rT 30 (.mov 33 (.t 6)), rT 30 (.iaddr 34 2 (.t 32) (.t 33)), rT 30 (.faddr 35 1 (.t 34)), rT 30 (.load 36 none (.t 35)), rT 30 (.bin 37 .lss (.t 31) (.t 36)), ro (.pick 38 (.t 30) (.t 37) (cB false))]
abbrev r27_7 : List RO := [rM 39 0, rM 40 6, ro (.iaddr 41 2 (.t 39) (.t 40)), rF 42 1 41, rL 43 42, rM 5 43]
abbrev r27_8 : List RO := [rM 21 6, ro (.bin 22 .add (.t 21) (c6 1)), rM 6 22]
abbrev r27_9 : List RO := [rM 44 5, rF 45 1 3, rL 46 45, ro (.bin 47 .geq (.t 44) (.t 46)), rM 4 47]
def i27 : IC := (.seq (.reg r27_0) (.seq (.seq (.reg r27_1) (.cond (.t 14) (.seq (.reg r27_2) .ret) .skip)) (.seq (.reg r27_3) (.seq (.seq (.reg r27_4) (.block 0 (.loop (.seq (.seq (.reg r27_5) (.cond (.t 20) .skip (.exit 0))) (.seq (.block 1 (.seq (.reg r27_6) (.cond (.t 38) (.reg r27_7) .skip))) (.reg r27_8)))))) (.seq (.reg r27_9) .ret)))))
theorem o27 : (Tryz.f27.body.bind fun c => toIC Tryz.prog 48 c []) = some (i27, []) := by kernel_rfl
theorem f27 : FI Tryz.prog 48 i27 [.tmp 4] 27 := fi (by kernel_rfl) Tryz.func27 (by kernel_rfl) o27 (by kernel_rfl)
abbrev r28_0 : List RO := [ro (.var 2 [(dI 0), (dI 0)])]
abbrev r28_1 : List RO := [rM 3 0, rM 4 0, ro (.bin 5 .add (.t 4) (c6 1)), ro (.build 6 [(dI 0), (dI 0)] [(0, 1, (.t 3)), (1, 1, (.t 5))]), ro (.store 2 [(.int .i64 0), (.int .i64 0)] (.t 2) (.t 6))]
def i28 : IC := (.seq (.reg r28_0) (.seq (.reg r28_1) .ret))
theorem o28 : (Tryz.f28.body.bind fun c => toIC Tryz.prog 7 c []) = some (i28, []) := by kernel_rfl
theorem f28 : FI Tryz.prog 7 i28 [.cell 2 (some 2)] 28 := fi (by kernel_rfl) Tryz.func28 (by kernel_rfl) o28 (by kernel_rfl)
abbrev r30_0 : List RO := [ro (.mov 4 (cB false))]
abbrev r30_1 : List RO := [ro (.mov 5 (c6 0))]
abbrev r30_2 : List RO := [rM 6 5, rM 7 0, ro (.len 8 false (.t 7)), ro (.bin 9 .lss (.t 6) (.t 8))]
abbrev r30_3 : List RO := [rM 12 0, rM 13 5, ro (.iaddr 14 1 (.t 12) (.t 13)), rL 15 14, rM 16 1, ro (.bin 17 .eql (.t 15) (.t 16))]
abbrev r30_4 : List RO := [ro (.mov 4 (cB true))]
abbrev r30_5 : List RO := [rM 10 5, ro (.bin 11 .add (.t 10) (c6 1)), rM 5 11]
abbrev r30_6 : List RO := [ro (.mov 4 (cB false))]
def i30 : IC := (.seq (.reg r30_0) (.seq (.seq (.reg r30_1) (.block 0 (.loop (.seq (.seq (.reg r30_2) (.cond (.t 9) .skip (.exit 0))) (.seq (.block 1 (.seq (.reg r30_3) (.cond (.t 17) (.seq (.reg r30_4) .ret) .skip))) (.reg r30_5)))))) (.seq (.reg r30_6) .ret)))
theorem o30 : (Tryz.f30.body.bind fun c => toIC Tryz.prog 18 c []) = some (i30, []) := by kernel_rfl
theorem f30 : FI Tryz.prog 18 i30 [.tmp 4] 30 := fi (by kernel_rfl) Tryz.func30 (by kernel_rfl) o30 (by kernel_rfl)
abbrev r83_0 : List RO := [ro (.mov 2 (cB false))]
abbrev r83_1 : List RO := [rM 4 0, ro (.len 5 false (.t 4)), ro (.bin 6 .gtr (.t 5) (c6 60))]
abbrev r83_2 : List RO := [ro (.mov 2 (cB false))]
abbrev r83_3 : List RO := [ro (.mov 3 (c6 0))]
abbrev r83_4 : List RO := [rM 7 3, rM 8 0, ro (.len 9 false (.t 8)), ro (.bin 10 .lss (.t 7) (.t 9))]
abbrev r83_5 : List RO := [rM 13 0, rM 14 3, ⟨⟨none, .iaddr 15 2 (.t 13) (.t 14)⟩, 3, []⟩, ⟨⟨none, .faddr 16 0 (.t 15)⟩, 7, []⟩, ⟨⟨none, .load 17 none (.t 16)⟩, 15, []⟩, ⟨⟨none, .callv 18 (.c (.one (.fn 78 []))) [(.t 17)]⟩, 31, []⟩, ⟨⟨none, .inv 19 (.t 18)⟩, 63, []⟩, ⟨⟨none, .mov 20 (.t 19)⟩, 127, []⟩, ⟨⟨some (20, false), .mov 21 (.t 0)⟩, 255, []⟩, ⟨⟨some (20, false), .mov 22 (.t 3)⟩, 255, []⟩, ⟨⟨some (20, false), .iaddr 23 2 (.t 21) (.t 22)⟩, 1023, []⟩, ⟨⟨some (20, false), .faddr 24 1 (.t 23)⟩, 2047, []⟩, ⟨⟨some (20, false), .load 25 none (.t 24)⟩, 4095, []⟩, ⟨⟨some (20, false), .callv 26 (.c (.one (.fn 22 []))) [(.t 25), (c6 (-1)), (c6 1000000000)]⟩, 8191, []⟩, ⟨⟨some (20, false), .inv 27 (.t 26)⟩, 16383, []⟩, ⟨⟨none, .pick 28 (.t 20) (cB true) (.t 27)⟩, 32767, []⟩, ⟨⟨none, .mov 29 (.t 28)⟩, 65535, []⟩, ⟨⟨some (29, false), .mov 30 (.t 3)⟩, 131071, []⟩, ⟨⟨some (29, false), .bin 31 .gtr (.t 30) (c6 0)⟩, 262143, []⟩, ⟨⟨some (29, false), .mov 32 (.t 31)⟩, 524287, []⟩, ⟨⟨some (32, true), .mov 33 (.t 0)⟩, 1048575, []⟩, ⟨⟨some (32, true), .mov 34 (.t 3)⟩, 1048575, []⟩, ⟨⟨some (32, true), .bin 35 .sub (.t 34) (c6 1)⟩, 3145727, []⟩, ⟨⟨some (32, true), .iaddr 36 2 (.t 33) (.t 35)⟩, 8388607, []⟩, ⟨⟨some (32, true), .faddr 37 0 (.t 36)⟩, 16777215, []⟩, ⟨⟨some (32, true), .load 38 none (.t 37)⟩, 33554431, []⟩, ⟨⟨some (32, true), .mov 39 (.t 0)⟩, 1048575, []⟩, ⟨⟨some (32, true), .mov 40 (.t 3)⟩, 1048575, []⟩, ⟨⟨some (32, true), .iaddr 41 2 (.t 39) (.t 40)⟩, 202375167, []⟩, ⟨⟨some (32, true), .faddr 42 0 (.t 41)⟩, 470810623, []⟩, ⟨⟨some (32, true), .load 43 none (.t 42)⟩, 1007681535, []⟩, ⟨⟨some (32, true), .bin 44 .geq (.t 38) (.t 43)⟩, 2147483647, []⟩, ⟨⟨some (29, false), .pick 45 (.t 32) (.t 44) (cB false)⟩, 4294967295, []⟩, ⟨⟨none, .pick 46 (.t 29) (cB true) (.t 45)⟩, 8589934591, []⟩]
abbrev r83_6 : List RO := [ro (.mov 2 (cB false))]
abbrev r83_7 : List RO := [rM 11 3, ro (.bin 12 .add (.t 11) (c6 1)), rM 3 12]
abbrev r83_8 : List RO := [ro (.mov 2 (cB true))]
def i83 : IC := (.seq (.reg r83_0) (.seq (.seq (.reg r83_1) (.cond (.t 6) (.seq (.reg r83_2) .ret) .skip)) (.seq (.seq (.reg r83_3) (.block 0 (.loop (.seq (.seq (.reg r83_4) (.cond (.t 10) .skip (.exit 0))) (.seq (.block 1 (.seq (.regd r83_5) (.cond (.t 46) (.seq (.reg r83_6) .ret) .skip))) (.reg r83_7)))))) (.seq (.reg r83_8) .ret))))
theorem o83 : (Tryz.f83.body.bind fun c => toIC Tryz.prog 47 c [[(0, []), (0, []), (3, []), (7, []), (15, []), (31, []), (63, []), (127, []), (255, []), (255, []), (1023, []), (2047, []), (4095, []), (8191, []), (16383, []), (32767, []), (65535, []), (131071, []), (262143, []), (524287, []), (1048575, []), (1048575, []), (3145727, []), (8388607, []), (16777215, []), (33554431, []), (1048575, []), (1048575, []), (202375167, []), (470810623, []), (1007681535, []), (2147483647, []), (4294967295, []), (8589934591, [])]]) = some (i83, []) := by kernel_rfl
theorem f83 : FI Tryz.prog 47 i83 [.tmp 2] 83 := fi (by kernel_rfl) Tryz.func83 (by kernel_rfl) o83 (by kernel_rfl)
abbrev r115_0 : List RO := [ro (.box 2 (.t 0)), ro (.box 3 (.t 1)), ro (.mov 4 (cB false))]
abbrev r115_1 : List RO := [ro (.load 5 (some 2) (.t 2)), ro (.callv 6 (.c (.one (.fn 77 []))) [(.t 5)]), rM 7 6, rT 7 (.load 8 (some 2) (.t 3)), rT 7 (.callv 9 (.c (.one (.fn 77 []))) [(.t 8)]), ro (.pick 10 (.t 7) (.t 9) (cB false)), rM 11 10, rT 11 (.faddr 12 0 (.t 2)), rT 11 (.load 13 none (.t 12)), rT 11 (.faddr 14 0 (.t 3)), rT 11 (.load 15 none (.t 14)), rT 11 (.bin 16 .geq (.t 13) (.t 15)), ro (.pick 17 (.t 11) (.t 16) (cB false)), rM 18 17, rT 18 (.faddr 19 1 (.t 2)), rT 18 (.load 20 none (.t 19)), rT 18 (.faddr 21 1 (.t 3)), rT 18 (.load 22 none (.t 21)), rT 18 (.bin 23 .leq (.t 20) (.t 22)), ro (.pick 24 (.t 18) (.t 23) (cB false)), rM 4 24]
def i115 : IC := (.seq (.reg r115_0) (.seq (.reg r115_1) .ret))
theorem o115 : (Tryz.f115.body.bind fun c => toIC Tryz.prog 25 c []) = some (i115, []) := by kernel_rfl
theorem f115 : FI Tryz.prog 25 i115 [.tmp 4] 115 := fi (by kernel_rfl) Tryz.func115 (by kernel_rfl) o115 (by kernel_rfl)
abbrev r84_0 : List RO := [ro (.box 6 (.t 2)), ro (.mov 8 (cB false))]
abbrev r84_1 : List RO := [ro (.mov 9 (c6 0))]
abbrev r84_2 : List RO := [rM 10 9, rM 11 0, ro (.len 12 false (.t 11)), ro (.bin 13 .lss (.t 10) (.t 12))]
abbrev r84_3 : List RO := [rM 16 0, rM 17 9, ⟨⟨none, .iaddr 18 4 (.t 16) (.t 17)⟩, 3, []⟩, ⟨⟨none, .faddr 19 0 (.t 18)⟩, 7, []⟩, ⟨⟨none, .load 20 none (.t 19)⟩, 15, []⟩, rM 21 1, ⟨⟨none, .bin 22 .eql (.t 20) (.t 21)⟩, 63, []⟩, ⟨⟨none, .mov 23 (.t 22)⟩, 127, []⟩, ⟨⟨some (23, true), .load 24 (some 2) (.t 6)⟩, 255, [29]⟩, ⟨⟨some (23, true), .mov 25 (.t 0)⟩, 255, []⟩, ⟨⟨some (23, true), .mov 26 (.t 9)⟩, 255, []⟩, ⟨⟨some (23, true), .iaddr 27 4 (.t 25) (.t 26)⟩, 1791, []⟩, ⟨⟨some (23, true), .load 28 (some 4) (.t 27)⟩, 3839, []⟩, ⟨⟨some (23, true), .callv 29 (.c (.one (.fn 29 []))) [(.t 28)]⟩, 7935, []⟩, ⟨⟨some (23, true), .callv 30 (.c (.one (.fn 115 []))) [(.t 24), (.t 29)]⟩, 16383, []⟩, ⟨⟨none, .pick 31 (.t 23) (.t 30) (cB false)⟩, 32767, []⟩, ⟨⟨none, .mov 32 (.t 31)⟩, 65535, []⟩, ⟨⟨some (32, true), .mov 33 (.t 0)⟩, 131071, []⟩, ⟨⟨some (32, true), .mov 34 (.t 9)⟩, 131071, []⟩, ⟨⟨some (32, true), .iaddr 35 4 (.t 33) (.t 34)⟩, 524287, []⟩, ⟨⟨some (32, true), .faddr 36 3 (.t 35)⟩, 1048575, []⟩, ⟨⟨some (32, true), .load 37 none (.t 36)⟩, 2097151, []⟩, ⟨⟨some (32, true), .mov 38 (.t 3)⟩, 131071, []⟩, ⟨⟨some (32, true), .bin 39 .geq (.t 37) (.t 38)⟩, 8388607, []⟩, ⟨⟨none, .pick 40 (.t 32) (.t 39) (cB false)⟩, 16777215, []⟩]
abbrev r84_4 : List RO := [ro (.mov 8 (cB true))]
abbrev r84_5 : List RO := [rM 14 9, ro (.bin 15 .add (.t 14) (c6 1)), rM 9 15]
abbrev r84_6 : List RO := [ro (.mov 8 (cB false))]
def i84 : IC := (.seq (.reg r84_0) (.seq (.seq (.reg r84_1) (.block 0 (.loop (.seq (.seq (.reg r84_2) (.cond (.t 13) .skip (.exit 0))) (.seq (.block 1 (.seq (.regd r84_3) (.cond (.t 40) (.seq (.reg r84_4) .ret) .skip))) (.reg r84_5)))))) (.seq (.reg r84_6) .ret)))
theorem o84 : (Tryz.f84.body.bind fun c => toIC Tryz.prog 41 c [[(0, []), (0, []), (3, []), (7, []), (15, []), (0, []), (63, []), (127, []), (255, [29]), (255, []), (255, []), (1791, []), (3839, []), (7935, []), (16383, []), (32767, []), (65535, []), (131071, []), (131071, []), (524287, []), (1048575, []), (2097151, []), (131071, []), (8388607, []), (16777215, [])]]) = some (i84, []) := by kernel_rfl
theorem f84 : FI Tryz.prog 41 i84 [.tmp 8] 84 := fi (by kernel_rfl) Tryz.func84 (by kernel_rfl) o84 (by kernel_rfl)
abbrev r31_0 : List RO := [ro (.box 1 (.t 0)), ro (.mov 2 (cB false))]
abbrev r31_1 : List RO := [ro (.mov 3 (c6 0))]
abbrev r31_2 : List RO := [rM 6 3, rF 7 5 1, rL 8 7, ro (.len 9 false (.t 8)), ro (.bin 10 .lss (.t 6) (.t 9))]
abbrev r31_3 : List RO := [rF 13 5 1, rL 14 13, rM 15 3, ro (.iaddr 16 2 (.t 14) (.t 15)), ro (.load 17 (some 2) (.t 16)), ro (.var 4 [(dI 0), .zs]), ro (.store 2 [(.int .i64 0), (.sl 2 [])] (.t 4) (.t 17))]
abbrev r31_4 : List RO := [rF 18 0 4, ⟨⟨none, .load 19 none (.t 18)⟩, 1, []⟩, ⟨⟨none, .callv 20 (.c (.one (.fn 80 []))) [(.t 19)]⟩, 3, []⟩, ⟨⟨none, .inv 21 (.t 20)⟩, 7, []⟩, ⟨⟨none, .mov 22 (.t 21)⟩, 15, []⟩, ⟨⟨some (22, false), .mov 23 (.t 3)⟩, 31, []⟩, ⟨⟨some (22, false), .bin 24 .gtr (.t 23) (c6 0)⟩, 63, []⟩, ⟨⟨some (22, false), .mov 25 (.t 24)⟩, 127, []⟩, ⟨⟨some (25, true), .faddr 26 5 (.t 1)⟩, 255, []⟩, ⟨⟨some (25, true), .load 27 none (.t 26)⟩, 511, []⟩, ⟨⟨some (25, true), .mov 28 (.t 3)⟩, 255, []⟩, ⟨⟨some (25, true), .bin 29 .sub (.t 28) (c6 1)⟩, 1279, []⟩, ⟨⟨some (25, true), .iaddr 30 2 (.t 27) (.t 29)⟩, 4095, []⟩, ⟨⟨some (25, true), .faddr 31 0 (.t 30)⟩, 8191, []⟩, ⟨⟨some (25, true), .load 32 none (.t 31)⟩, 16383, []⟩, ⟨⟨some (25, true), .faddr 33 0 (.t 4)⟩, 255, []⟩, ⟨⟨some (25, true), .load 34 none (.t 33)⟩, 33023, []⟩, ⟨⟨some (25, true), .bin 35 .geq (.t 32) (.t 34)⟩, 131071, []⟩, ⟨⟨some (22, false), .pick 36 (.t 25) (.t 35) (cB false)⟩, 262143, []⟩, ⟨⟨none, .pick 37 (.t 22) (cB true) (.t 36)⟩, 524287, []⟩, ⟨⟨none, .mov 38 (.t 37)⟩, 1048575, []⟩, ⟨⟨some (38, false), .faddr 39 1 (.t 4)⟩, 2097151, []⟩, ⟨⟨some (38, false), .load 40 none (.t 39)⟩, 4194303, []⟩, ⟨⟨some (38, false), .callv 41 (.c (.one (.fn 83 []))) [(.t 40)]⟩, 8388607, []⟩, ⟨⟨some (38, false), .inv 42 (.t 41)⟩, 16777215, []⟩, ⟨⟨none, .pick 43 (.t 38) (cB true) (.t 42)⟩, 33554431, []⟩]
abbrev r31_5 : List RO := [ro (.mov 2 (cB false))]
abbrev r31_6 : List RO := [ro (.mov 5 (c6 0))]
abbrev r31_7 : List RO := [rM 44 5, rF 45 1 4, rL 46 45, ro (.len 47 false (.t 46)), ro (.bin 48 .lss (.t 44) (.t 47))]
abbrev r31_8 : List RO := [rF 51 4 1, ⟨⟨none, .load 52 none (.t 51)⟩, 1, [61]⟩, rF 53 0 4, ⟨⟨none, .load 54 none (.t 53)⟩, 4, [61]⟩, rF 55 1 4, ⟨⟨none, .load 56 none (.t 55)⟩, 16, []⟩, rM 57 5, ⟨⟨none, .iaddr 58 2 (.t 56) (.t 57)⟩, 112, []⟩, ⟨⟨none, .faddr 59 0 (.t 58)⟩, 240, []⟩, ⟨⟨none, .load 60 none (.t 59)⟩, 496, []⟩, ⟨⟨none, .callv 61 (.c (.one (.fn 28 []))) [(.t 60)]⟩, 1008, []⟩, ⟨⟨none, .callv 62 (.c (.one (.fn 84 []))) [(.t 52), (.t 54), (.t 61), (c6 2)]⟩, 2047, []⟩, ⟨⟨none, .inv 63 (.t 62)⟩, 4095, []⟩]
abbrev r31_9 : List RO := [ro (.mov 2 (cB false))]
abbrev r31_10 : List RO := [rM 49 5, ro (.bin 50 .add (.t 49) (c6 1)), rM 5 50]
abbrev r31_11 : List RO := [rF 64 6 1, rL 65 64, rF 66 0 4, rL 67 66, ro (.callv 68 (.c (.one (.fn 30 []))) [(.t 65), (.t 67)]), rM 69 68, rN 69 (.faddr 70 7 (.t 1)), rN 69 (.load 71 none (.t 70)), rN 69 (.faddr 72 0 (.t 4)), rN 69 (.load 73 none (.t 72)), rN 69 (.callv 74 (.c (.one (.fn 30 []))) [(.t 71), (.t 73)]), ro (.pick 75 (.t 69) (cB true) (.t 74))]
abbrev r31_12 : List RO := [ro (.mov 2 (cB false))]
abbrev r31_13 : List RO := [rM 11 3, ro (.bin 12 .add (.t 11) (c6 1)), rM 3 12]
abbrev r31_14 : List RO := [ro (.mov 2 (cB true))]
def i31 : IC := (.seq (.reg r31_0) (.seq (.seq (.reg r31_1) (.block 0 (.loop (.seq (.seq (.reg r31_2) (.cond (.t 10) .skip (.exit 0))) (.seq (.block 1 (.seq (.reg r31_3) (.seq (.seq (.regd r31_4) (.cond (.t 43) (.seq (.reg r31_5) .ret) .skip)) (.seq (.seq (.reg r31_6) (.block 2 (.loop (.seq (.seq (.reg r31_7) (.cond (.t 48) .skip (.exit 2))) (.seq (.block 3 (.seq (.regd r31_8) (.cond (.t 63) (.seq (.reg r31_9) .ret) .skip))) (.reg r31_10)))))) (.seq (.reg r31_11) (.cond (.t 75) (.seq (.reg r31_12) .ret) .skip)))))) (.reg r31_13)))))) (.seq (.reg r31_14) .ret)))
theorem o31 : (Tryz.f31.body.bind fun c => toIC Tryz.prog 76 c [[(0, []), (1, []), (3, []), (7, []), (15, []), (31, []), (63, []), (127, []), (255, []), (511, []), (255, []), (1279, []), (4095, []), (8191, []), (16383, []), (255, []), (33023, []), (131071, []), (262143, []), (524287, []), (1048575, []), (2097151, []), (4194303, []), (8388607, []), (16777215, []), (33554431, [])], [(0, []), (1, [61]), (0, []), (4, [61]), (0, []), (16, []), (0, []), (112, []), (240, []), (496, []), (1008, []), (2047, []), (4095, [])]]) = some (i31, []) := by kernel_rfl
theorem f31 : FI Tryz.prog 76 i31 [.tmp 2] 31 := fi (by kernel_rfl) Tryz.func31 (by kernel_rfl) o31 (by kernel_rfl)
abbrev r116_0 : List RO := [ro (.mov 4 (c6 0))]
abbrev r116_1 : List RO := [ro (.mov 5 (c6 0))]
abbrev r116_2 : List RO := [rM 6 5, rM 7 0, ro (.len 8 false (.t 7)), ro (.bin 9 .lss (.t 6) (.t 8))]
abbrev r116_3 : List RO := [rM 12 0, rM 13 5, ro (.iaddr 14 2 (.t 12) (.t 13)), rF 15 0 14, rL 16 15, rM 17 1, ro (.bin 18 .eql (.t 16) (.t 17))]
abbrev r116_4 : List RO := [rM 19 0, rM 20 5, ro (.iaddr 21 2 (.t 19) (.t 20)), rF 22 1 21, rL 23 22, rM 4 23]
abbrev r116_5 : List RO := [rM 10 5, ro (.bin 11 .add (.t 10) (c6 1)), rM 5 11]
abbrev r116_6 : List RO := [ro (.mov 4 (c6 (-1)))]
def i116 : IC := (.seq (.reg r116_0) (.seq (.seq (.reg r116_1) (.block 0 (.loop (.seq (.seq (.reg r116_2) (.cond (.t 9) .skip (.exit 0))) (.seq (.block 1 (.seq (.reg r116_3) (.cond (.t 18) (.seq (.reg r116_4) .ret) .skip))) (.reg r116_5)))))) (.seq (.reg r116_6) .ret)))
theorem o116 : (Tryz.f116.body.bind fun c => toIC Tryz.prog 24 c []) = some (i116, []) := by kernel_rfl
theorem f116 : FI Tryz.prog 24 i116 [.tmp 4] 116 := fi (by kernel_rfl) Tryz.func116 (by kernel_rfl) o116 (by kernel_rfl)
abbrev r85_0 : List RO := [ro (.mov 4 (c6 0))]
abbrev r85_1 : List RO := [rM 7 0, ro (.callv 8 (.c (.one (.fn 24 []))) [(.t 7)]), ro (.inv 9 (.t 8)), rM 10 9, rN 10 (.mov 11 (.t 1)), rN 10 (.callv 12 (.c (.one (.fn 83 []))) [(.t 11)]), rN 10 (.inv 13 (.t 12)), ro (.pick 14 (.t 10) (cB true) (.t 13))]
abbrev r85_2 : List RO := [ro (.mov 4 (c6 (-1)))]
abbrev r85_3 : List RO := [ro (.mov 5 (c6 0))]
abbrev r85_4 : List RO := [ro (.mov 6 (c6 0))]
abbrev r85_5 : List RO := [rM 15 6, rM 16 1, ro (.len 17 false (.t 16)), ro (.bin 18 .lss (.t 15) (.t 17))]
abbrev r85_6 : List RO := [rM 21 1, rM 22 6, ro (.iaddr 23 2 (.t 21) (.t 22)), rF 24 1 23, rL 25 24, ro (.bin 26 .geq (.t 25) (c6 0)), rM 27 26, rT 27 (.mov 28 (.t 0)), rT 27 (.mov 29 (.t 1)), rT 27 (.mov 30 (.t 6)), rT 27 (.iaddr 31 2 (.t 29) (.t 30)), rT 27 (.faddr 32 0 (.t 31)), rT 27 (.load 33 none (.t 32)), rT 27 (.callv 34 (.c (.one (.fn 116 []))) [(.t 28), (.t 33)]), rT 27 (.bin 35 .lss (.t 34) (c6 0)), ro (.pick 36 (.t 27) (.t 35) (cB false))]
abbrev r85_7 : List RO := [rM 37 5, ro (.bin 38 .add (.t 37) (c6 1)), rM 5 38]
abbrev r85_8 : List RO := [rM 19 6, ro (.bin 20 .add (.t 19) (c6 1)), rM 6 20]
abbrev r85_9 : List RO := [rM 39 5, rM 4 39]
def i85 : IC := (.seq (.reg r85_0) (.seq (.seq (.reg r85_1) (.cond (.t 14) (.seq (.reg r85_2) .ret) .skip)) (.seq (.reg r85_3) (.seq (.seq (.reg r85_4) (.block 0 (.loop (.seq (.seq (.reg r85_5) (.cond (.t 18) .skip (.exit 0))) (.seq (.block 1 (.seq (.reg r85_6) (.cond (.t 36) (.reg r85_7) .skip))) (.reg r85_8)))))) (.seq (.reg r85_9) .ret)))))
theorem o85 : (Tryz.f85.body.bind fun c => toIC Tryz.prog 40 c []) = some (i85, []) := by kernel_rfl
theorem f85 : FI Tryz.prog 40 i85 [.tmp 4] 85 := fi (by kernel_rfl) Tryz.func85 (by kernel_rfl) o85 (by kernel_rfl)
abbrev r32_0 : List RO := [ro (.box 1 (.t 0)), ro (.mov 2 (c6 0))]
abbrev r32_1 : List RO := [ro (.mov 3 (c6 0))]
abbrev r32_2 : List RO := [ro (.mov 4 (c6 0))]
abbrev r32_3 : List RO := [rM 5 4, rF 6 5 1, rL 7 6, ro (.len 8 false (.t 7)), ro (.bin 9 .lss (.t 5) (.t 8))]
abbrev r32_4 : List RO := [rM 12 3, rF 13 3 1, ⟨⟨none, .load 14 none (.t 13)⟩, 2, []⟩, rF 15 5 1, ⟨⟨none, .load 16 none (.t 15)⟩, 8, []⟩, rM 17 4, ⟨⟨none, .iaddr 18 2 (.t 16) (.t 17)⟩, 56, []⟩, ⟨⟨none, .faddr 19 1 (.t 18)⟩, 120, []⟩, ⟨⟨none, .load 20 none (.t 19)⟩, 248, []⟩, ⟨⟨none, .callv 21 (.c (.one (.fn 85 []))) [(.t 14), (.t 20)]⟩, 510, []⟩, ⟨⟨none, .bin 22 .add (.t 12) (.t 21)⟩, 1023, []⟩, ⟨⟨none, .mov 3 (.t 22)⟩, 2047, []⟩]
abbrev r32_5 : List RO := [rM 10 4, ro (.bin 11 .add (.t 10) (c6 1)), rM 4 11]
abbrev r32_6 : List RO := [rM 23 3, rM 2 23]
def i32 : IC := (.seq (.reg r32_0) (.seq (.reg r32_1) (.seq (.seq (.reg r32_2) (.block 0 (.loop (.seq (.seq (.reg r32_3) (.cond (.t 9) .skip (.exit 0))) (.seq (.block 1 (.regd r32_4)) (.reg r32_5)))))) (.seq (.reg r32_6) .ret))))
theorem o32 : (Tryz.f32.body.bind fun c => toIC Tryz.prog 24 c [[(0, []), (0, []), (2, []), (0, []), (8, []), (0, []), (56, []), (120, []), (248, []), (510, []), (1023, []), (2047, [])]]) = some (i32, []) := by kernel_rfl
theorem f32 : FI Tryz.prog 24 i32 [.tmp 2] 32 := fi (by kernel_rfl) Tryz.func32 (by kernel_rfl) o32 (by kernel_rfl)
abbrev r6_0 : List RO := [ro (.box 1 (.t 0)), ro (.mov 2 (cB false))]
abbrev r6_1 : List RO := [rF 8 0 1, rL 9 8, ro (.callv 10 (.c (.one (.fn 22 []))) [(.t 9), (c6 0), (c6 3)]), ro (.inv 11 (.t 10)), rM 12 11, rN 12 (.faddr 13 1 (.t 1)), rN 12 (.load 14 none (.t 13)), rN 12 (.callv 15 (.c (.one (.fn 23 []))) [(.t 14)]), rN 12 (.inv 16 (.t 15)), ro (.pick 17 (.t 12) (cB true) (.t 16)), rM 18 17, rN 18 (.faddr 19 2 (.t 1)), rN 18 (.load 20 none (.t 19)), rN 18 (.callv 21 (.c (.one (.fn 23 []))) [(.t 20)]), rN 18 (.inv 22 (.t 21)), ro (.pick 23 (.t 18) (cB true) (.t 22)), rM 24 23, rN 24 (.faddr 25 3 (.t 1)), rN 24 (.load 26 none (.t 25)), rN 24 (.callv 27 (.c (.one (.fn 24 []))) [(.t 26)]), rN 24 (.inv 28 (.t 27)), ro (.pick 29 (.t 24) (cB true) (.t 28)), rM 30 29, rN 30 (.faddr 31 4 (.t 1)), rN 30 (.load 32 none (.t 31)), rN 30 (.callv 33 (.c (.one (.fn 25 []))) [(.t 32)]), rN 30 (.inv 34 (.t 33)), ro (.pick 35 (.t 30) (cB true) (.t 34)), rM 36 35, rN 36 (.faddr 37 8 (.t 1)), rN 36 (.load 38 none (.t 37)), rN 36 (.callv 39 (.c (.one (.fn 22 []))) [(.t 38), (c6 0), (c6 1000000)]), rN 36 (.inv 40 (.t 39)), ro (.pick 41 (.t 36) (cB true) (.t 40))]
abbrev r6_2 : List RO := [ro (.mov 2 (cB false))]
abbrev r6_3 : List RO := [rF 42 5 1, rL 43 42, ro (.len 44 false (.t 43)), ro (.bin 45 .gtr (.t 44) (c6 60)), rM 46 45, rN 46 (.faddr 47 6 (.t 1)), rN 46 (.load 48 none (.t 47)), rN 46 (.len 49 false (.t 48)), rN 46 (.bin 50 .gtr (.t 49) (c6 60)), ro (.pick 51 (.t 46) (cB true) (.t 50)), rM 52 51, rN 52 (.faddr 53 7 (.t 1)), rN 52 (.load 54 none (.t 53)), rN 52 (.len 55 false (.t 54)), rN 52 (.bin 56 .gtr (.t 55) (c6 60)), ro (.pick 57 (.t 52) (cB true) (.t 56)), rM 58 57, rN 58 (.faddr 59 6 (.t 1)), rN 58 (.load 60 none (.t 59)), rN 58 (.callv 61 (.c (.one (.fn 26 []))) [(.t 60)]), rN 58 (.inv 62 (.t 61)), ro (.pick 63 (.t 58) (cB true) (.t 62)), rM 64 63, rN 64 (.faddr 65 7 (.t 1)), rN 64 (.load 66 none (.t 65)), rN 64 (.callv 67 (.c (.one (.fn 26 []))) [(.t 66)]), rN 64 (.inv 68 (.t 67)), ro (.pick 69 (.t 64) (cB true) (.t 68))]
abbrev r6_4 : List RO := [ro (.mov 2 (cB false))]
abbrev r6_5 : List RO := [ro (.mov 3 (c6 0))]
abbrev r6_6 : List RO := [rM 70 3, rF 71 2 1, rL 72 71, ro (.len 73 false (.t 72)), ro (.bin 74 .lss (.t 70) (.t 73))]
abbrev r6_7 : List RO := [rF 77 1 1, ⟨⟨none, .load 78 none (.t 77)⟩, 1, []⟩, rF 79 2 1, ⟨⟨none, .load 80 none (.t 79)⟩, 4, []⟩, rM 81 3, ⟨⟨none, .iaddr 82 2 (.t 80) (.t 81)⟩, 28, []⟩, ⟨⟨none, .load 83 (some 2) (.t 82)⟩, 60, []⟩, ⟨⟨none, .callv 84 (.c (.one (.fn 27 []))) [(.t 78), (.t 83)]⟩, 127, []⟩, ⟨⟨none, .inv 85 (.t 84)⟩, 255, []⟩]
abbrev r6_8 : List RO := [ro (.mov 2 (cB false))]
abbrev r6_9 : List RO := [rM 75 3, ro (.bin 76 .add (.t 75) (c6 1)), rM 3 76]
abbrev r6_10 : List RO := [ro (.mov 4 (c6 0))]
abbrev r6_11 : List RO := [rM 86 4, rF 87 3 1, rL 88 87, ro (.len 89 false (.t 88)), ro (.bin 90 .lss (.t 86) (.t 89))]
abbrev r6_12 : List RO := [rF 93 1 1, ⟨⟨none, .load 94 none (.t 93)⟩, 1, [101]⟩, rF 95 3 1, ⟨⟨none, .load 96 none (.t 95)⟩, 4, []⟩, rM 97 4, ⟨⟨none, .iaddr 98 2 (.t 96) (.t 97)⟩, 28, []⟩, ⟨⟨none, .faddr 99 0 (.t 98)⟩, 60, []⟩, ⟨⟨none, .load 100 none (.t 99)⟩, 124, []⟩, ⟨⟨none, .callv 101 (.c (.one (.fn 28 []))) [(.t 100)]⟩, 252, []⟩, ⟨⟨none, .callv 102 (.c (.one (.fn 27 []))) [(.t 94), (.t 101)]⟩, 511, []⟩, ⟨⟨none, .inv 103 (.t 102)⟩, 1023, []⟩]
abbrev r6_13 : List RO := [ro (.mov 2 (cB false))]
abbrev r6_14 : List RO := [rM 91 4, ro (.bin 92 .add (.t 91) (c6 1)), rM 4 92]
abbrev r6_15 : List RO := [ro (.mov 5 (c6 0))]
abbrev r6_16 : List RO := [rM 104 5, rF 105 4 1, rL 106 105, ro (.len 107 false (.t 106)), ro (.bin 108 .lss (.t 104) (.t 107))]
abbrev r6_17 : List RO := [rF 111 4 1, rL 112 111, rM 113 5, ro (.iaddr 114 4 (.t 112) (.t 113)), ro (.load 115 (some 4) (.t 114)), ro (.var 6 [(dI 0), (dI 0), (dI 0), (dI 0)]), ro (.store 4 [(.int .i64 0), (.int .i64 0), (.int .i64 0), (.int .i64 0)] (.t 6) (.t 115))]
abbrev r6_18 : List RO := [rF 116 1 1, ⟨⟨none, .load 117 none (.t 116)⟩, 1, [119]⟩, ro (.load 118 (some 4) (.t 6)), ⟨⟨none, .callv 119 (.c (.one (.fn 29 []))) [(.t 118)]⟩, 4, []⟩, ⟨⟨none, .callv 120 (.c (.one (.fn 27 []))) [(.t 117), (.t 119)]⟩, 15, []⟩, ⟨⟨none, .inv 121 (.t 120)⟩, 31, []⟩, ⟨⟨none, .mov 122 (.t 121)⟩, 63, []⟩, ⟨⟨some (122, false), .faddr 123 6 (.t 1)⟩, 127, []⟩, ⟨⟨some (122, false), .load 124 none (.t 123)⟩, 255, []⟩, ⟨⟨some (122, false), .faddr 125 0 (.t 6)⟩, 127, []⟩, ⟨⟨some (122, false), .load 126 none (.t 125)⟩, 639, []⟩, ⟨⟨some (122, false), .callv 127 (.c (.one (.fn 30 []))) [(.t 124), (.t 126)]⟩, 2047, []⟩, ⟨⟨none, .pick 128 (.t 122) (cB true) (.t 127)⟩, 4095, []⟩, ⟨⟨none, .mov 129 (.t 128)⟩, 8191, []⟩, ⟨⟨some (129, false), .faddr 130 7 (.t 1)⟩, 16383, []⟩, ⟨⟨some (129, false), .load 131 none (.t 130)⟩, 32767, []⟩, ⟨⟨some (129, false), .faddr 132 0 (.t 6)⟩, 16383, []⟩, ⟨⟨some (129, false), .load 133 none (.t 132)⟩, 81919, []⟩, ⟨⟨some (129, false), .callv 134 (.c (.one (.fn 30 []))) [(.t 131), (.t 133)]⟩, 262143, []⟩, ⟨⟨none, .pick 135 (.t 129) (cB true) (.t 134)⟩, 524287, []⟩]
abbrev r6_19 : List RO := [ro (.mov 2 (cB false))]
abbrev r6_20 : List RO := [rM 109 5, ro (.bin 110 .add (.t 109) (c6 1)), rM 5 110]
abbrev r6_21 : List RO := [ro (.mov 7 (c6 0))]
abbrev r6_22 : List RO := [rM 136 7, rF 137 6 1, rL 138 137, ro (.len 139 false (.t 138)), ro (.bin 140 .lss (.t 136) (.t 139))]
abbrev r6_23 : List RO := [rF 143 7 1, ⟨⟨none, .load 144 none (.t 143)⟩, 1, []⟩, rF 145 6 1, ⟨⟨none, .load 146 none (.t 145)⟩, 4, []⟩, rM 147 7, ⟨⟨none, .iaddr 148 1 (.t 146) (.t 147)⟩, 28, []⟩, ⟨⟨none, .load 149 none (.t 148)⟩, 60, []⟩, ⟨⟨none, .callv 150 (.c (.one (.fn 30 []))) [(.t 144), (.t 149)]⟩, 127, []⟩]
abbrev r6_24 : List RO := [ro (.mov 2 (cB false))]
abbrev r6_25 : List RO := [rM 141 7, ro (.bin 142 .add (.t 141) (c6 1)), rM 7 142]
abbrev r6_26 : List RO := [ro (.load 151 (some 9) (.t 1)), ⟨⟨none, .callv 152 (.c (.one (.fn 31 []))) [(.t 151)]⟩, 1, []⟩, ⟨⟨none, .mov 153 (.t 152)⟩, 3, []⟩, ⟨⟨some (153, true), .faddr 154 3 (.t 1)⟩, 7, []⟩, ⟨⟨some (153, true), .load 155 none (.t 154)⟩, 15, [158]⟩, ⟨⟨some (153, true), .len 156 false (.t 155)⟩, 31, []⟩, ⟨⟨some (153, true), .load 157 (some 9) (.t 1)⟩, 7, []⟩, ⟨⟨some (153, true), .callv 158 (.c (.one (.fn 32 []))) [(.t 157)]⟩, 71, []⟩, ⟨⟨some (153, true), .bin 159 .add (.t 156) (.t 158)⟩, 255, []⟩, ⟨⟨some (153, true), .bin 160 .leq (.t 159) (c6 60)⟩, 511, []⟩, ⟨⟨none, .pick 161 (.t 153) (.t 160) (cB false)⟩, 1023, []⟩, ⟨⟨none, .mov 2 (.t 161)⟩, 2047, []⟩]
def i6 : IC := (.seq (.reg r6_0) (.seq (.seq (.reg r6_1) (.cond (.t 41) (.seq (.reg r6_2) .ret) .skip)) (.seq (.seq (.reg r6_3) (.cond (.t 69) (.seq (.reg r6_4) .ret) .skip)) (.seq (.seq (.reg r6_5) (.block 0 (.loop (.seq (.seq (.reg r6_6) (.cond (.t 74) .skip (.exit 0))) (.seq (.block 1 (.seq (.regd r6_7) (.cond (.t 85) (.seq (.reg r6_8) .ret) .skip))) (.reg r6_9)))))) (.seq (.seq (.reg r6_10) (.block 2 (.loop (.seq (.seq (.reg r6_11) (.cond (.t 90) .skip (.exit 2))) (.seq (.block 3 (.seq (.regd r6_12) (.cond (.t 103) (.seq (.reg r6_13) .ret) .skip))) (.reg r6_14)))))) (.seq (.seq (.reg r6_15) (.block 4 (.loop (.seq (.seq (.reg r6_16) (.cond (.t 108) .skip (.exit 4))) (.seq (.block 5 (.seq (.reg r6_17) (.seq (.regd r6_18) (.cond (.t 135) (.seq (.reg r6_19) .ret) .skip)))) (.reg r6_20)))))) (.seq (.seq (.reg r6_21) (.block 6 (.loop (.seq (.seq (.reg r6_22) (.cond (.t 140) .skip (.exit 6))) (.seq (.block 7 (.seq (.regd r6_23) (.cond (.t 150) (.seq (.reg r6_24) .ret) .skip))) (.reg r6_25)))))) (.seq (.regd r6_26) .ret))))))))
theorem o6 : (Tryz.f6.body.bind fun c => toIC Tryz.prog 162 c [[(0, []), (1, []), (0, []), (4, []), (0, []), (28, []), (60, []), (127, []), (255, [])], [(0, []), (1, [101]), (0, []), (4, []), (0, []), (28, []), (60, []), (124, []), (252, []), (511, []), (1023, [])], [(0, []), (1, [119]), (0, []), (4, []), (15, []), (31, []), (63, []), (127, []), (255, []), (127, []), (639, []), (2047, []), (4095, []), (8191, []), (16383, []), (32767, []), (16383, []), (81919, []), (262143, []), (524287, [])], [(0, []), (1, []), (0, []), (4, []), (0, []), (28, []), (60, []), (127, [])], [(0, []), (1, []), (3, []), (7, []), (15, [158]), (31, []), (7, []), (71, []), (255, []), (511, []), (1023, []), (2047, [])]]) = some (i6, []) := by kernel_rfl
theorem f6 : FI Tryz.prog 162 i6 [.tmp 2] 6 := fi (by kernel_rfl) Tryz.func6 (by kernel_rfl) o6 (by kernel_rfl)
abbrev r11_0 : List RO := [ro (.var 4 [(dI 0), .zs, .zs, .zs, .zs, .zs, .zs, .zs, (dI 0)])]
abbrev r11_1 : List RO := [rM 6 0, ro (.bslice 7 2 [] []), rM 8 1, ro (.app 9 2 16 [(.int .i64 0), (.int .i64 0)] (.t 7) (.t 8)), ro (.build 10 [(dI 0), .zs, .zs, .zs, .zs, .zs, .zs, .zs, (dI 0)] [(0, 1, (.t 6)), (1, 1, (.t 9))]), ro (.var 5 [(dI 0), .zs, .zs, .zs, .zs, .zs, .zs, .zs, (dI 0)]), ro (.store 9 [(.int .i64 0), (.sl 2 []), (.sl 2 []), (.sl 2 []), (.sl 4 []), (.sl 2 []), (.sl 1 []), (.sl 1 []), (.int .i64 0)] (.t 5) (.t 10))]
abbrev r11_2 : List RO := [ro (.load 11 (some 9) (.t 5)), ro (.callv 12 (.c (.one (.fn 6 []))) [(.t 11)]), ro (.inv 13 (.t 12))]
abbrev r11_3 : List RO := [ro (.build 14 [(dI 0), .zs, .zs, .zs, .zs, .zs, .zs, .zs, (dI 0)] []), ro (.store 9 [(.int .i64 0), (.sl 2 []), (.sl 2 []), (.sl 2 []), (.sl 4 []), (.sl 2 []), (.sl 1 []), (.sl 1 []), (.int .i64 0)] (.t 4) (.t 14))]
abbrev r11_4 : List RO := [ro (.load 15 (some 9) (.t 5)), ro (.store 9 [(.int .i64 0), (.sl 2 []), (.sl 2 []), (.sl 2 []), (.sl 4 []), (.sl 2 []), (.sl 1 []), (.sl 1 []), (.int .i64 0)] (.t 4) (.t 15))]
def i11 : IC := (.seq (.reg r11_0) (.seq (.reg r11_1) (.seq (.seq (.reg r11_2) (.cond (.t 13) (.seq (.reg r11_3) .ret) .skip)) (.seq (.reg r11_4) .ret))))
theorem o11 : (Tryz.f11.body.bind fun c => toIC Tryz.prog 16 c []) = some (i11, []) := by kernel_rfl
theorem f11 : FI Tryz.prog 16 i11 [.cell 4 (some 9)] 11 := fi (by kernel_rfl) Tryz.func11 (by kernel_rfl) o11 (by kernel_rfl)
abbrev r65_0 : List RO := [ro (.mov 2 (.c (.one .zs)))]
abbrev r65_1 : List RO := [rM 3 0, ro (.isnil 4 false (.t 3))]
abbrev r65_2 : List RO := [ro (.mov 2 (.c (.one .zs)))]
abbrev r65_3 : List RO := [ro (.bslice 5 2 [] []), rM 6 0, ro (.app 7 2 16 [(.int .i64 0), (.int .i64 0)] (.t 5) (.t 6)), rM 2 7]
def i65 : IC := (.seq (.reg r65_0) (.seq (.seq (.reg r65_1) (.cond (.t 4) (.seq (.reg r65_2) .ret) .skip)) (.seq (.reg r65_3) .ret)))
theorem o65 : (Tryz.f65.body.bind fun c => toIC Tryz.prog 8 c []) = some (i65, []) := by kernel_rfl
theorem f65 : FI Tryz.prog 8 i65 [.tmp 2] 65 := fi (by kernel_rfl) Tryz.func65 (by kernel_rfl) o65 (by kernel_rfl)
abbrev r43_0 : List RO := [ro (.mov 6 (cB false))]
abbrev r43_1 : List RO := [rM 7 0, rM 8 1, ro (.bin 9 .geq (.t 7) (.t 8)), rM 10 9, rT 10 (.mov 11 (.t 0)), rT 10 (.mov 12 (.t 2)), rT 10 (.bin 13 .leq (.t 11) (.t 12)), ro (.pick 14 (.t 10) (.t 13) (cB false)), rM 6 14]
def i43 : IC := (.seq (.reg r43_0) (.seq (.reg r43_1) .ret))
theorem o43 : (Tryz.f43.body.bind fun c => toIC Tryz.prog 15 c []) = some (i43, []) := by kernel_rfl
theorem f43 : FI Tryz.prog 15 i43 [.tmp 6] 43 := fi (by kernel_rfl) Tryz.func43 (by kernel_rfl) o43 (by kernel_rfl)
abbrev r37_0 : List RO := [ro (.mov 2 (cB false))]
abbrev r37_1 : List RO := [rM 3 0, ro (.callv 4 (.c (.one (.fn 43 []))) [(.t 3), (c6 0), (c6 3)]), rM 2 4]
def i37 : IC := (.seq (.reg r37_0) (.seq (.reg r37_1) .ret))
theorem o37 : (Tryz.f37.body.bind fun c => toIC Tryz.prog 5 c []) = some (i37, []) := by kernel_rfl
theorem f37 : FI Tryz.prog 5 i37 [.tmp 2] 37 := fi (by kernel_rfl) Tryz.func37 (by kernel_rfl) o37 (by kernel_rfl)
abbrev r89_0 : List RO := [ro (.box 1 (.t 0)), ro (.mov 2 (cB false))]
abbrev r89_1 : List RO := [rF 3 0 1, rL 4 3, ro (.bin 5 .geq (.t 4) (c6 0)), rM 6 5, rT 6 (.faddr 7 0 (.t 1)), rT 6 (.load 8 none (.t 7)), rT 6 (.faddr 9 1 (.t 1)), rT 6 (.load 10 none (.t 9)), rT 6 (.bin 11 .lss (.t 8) (.t 10)), ro (.pick 12 (.t 6) (.t 11) (cB false)), rM 13 12, rT 13 (.faddr 14 1 (.t 1)), rT 13 (.load 15 none (.t 14)), rT 13 (.bin 16 .leq (.t 15) (c6 1000)), ro (.pick 17 (.t 13) (.t 16) (cB false)), rM 2 17]
def i89 : IC := (.seq (.reg r89_0) (.seq (.reg r89_1) .ret))
theorem o89 : (Tryz.f89.body.bind fun c => toIC Tryz.prog 18 c []) = some (i89, []) := by kernel_rfl
theorem f89 : FI Tryz.prog 18 i89 [.tmp 2] 89 := fi (by kernel_rfl) Tryz.func89 (by kernel_rfl) o89 (by kernel_rfl)
abbrev r38_0 : List RO := [ro (.mov 2 (cB false))]
abbrev r38_1 : List RO := [rM 5 0, ro (.len 6 false (.t 5)), ro (.mov 7 (c6 0))]
abbrev r38_2 : List RO := [ro (.bin 8 .lss (.t 7) (.t 6))]
abbrev r38_3 : List RO := [rM 9 7, ro (.iaddr 10 2 (.t 5) (.t 7)), ro (.load 11 (some 2) (.t 10)), ro (.var 4 [(dI 0), (dI 0)]), rM 3 9, ro (.store 2 [(.int .i64 0), (.int .i64 0)] (.t 4) (.t 11))]
abbrev r38_4 : List RO := [ro (.load 12 (some 2) (.t 4)), ⟨⟨none, .callv 13 (.c (.one (.fn 89 []))) [(.t 12)]⟩, 1, []⟩, ⟨⟨none, .inv 14 (.t 13)⟩, 3, []⟩, ⟨⟨none, .mov 15 (.t 14)⟩, 7, []⟩, ⟨⟨some (15, false), .mov 16 (.t 3)⟩, 15, []⟩, ⟨⟨some (15, false), .bin 17 .gtr (.t 16) (c6 0)⟩, 31, []⟩, ⟨⟨some (15, false), .mov 18 (.t 17)⟩, 63, []⟩, ⟨⟨some (18, true), .faddr 19 0 (.t 4)⟩, 127, []⟩, ⟨⟨some (18, true), .load 20 none (.t 19)⟩, 255, []⟩, ⟨⟨some (18, true), .mov 21 (.t 0)⟩, 127, []⟩, ⟨⟨some (18, true), .mov 22 (.t 3)⟩, 127, []⟩, ⟨⟨some (18, true), .bin 23 .sub (.t 22) (c6 1)⟩, 1151, []⟩, ⟨⟨some (18, true), .iaddr 24 2 (.t 21) (.t 23)⟩, 3711, []⟩, ⟨⟨some (18, true), .faddr 25 1 (.t 24)⟩, 7807, []⟩, ⟨⟨some (18, true), .load 26 none (.t 25)⟩, 15999, []⟩, ⟨⟨some (18, true), .bin 27 .lss (.t 20) (.t 26)⟩, 32767, []⟩, ⟨⟨some (15, false), .pick 28 (.t 18) (.t 27) (cB false)⟩, 65535, []⟩, ⟨⟨none, .pick 29 (.t 15) (cB true) (.t 28)⟩, 131071, []⟩]
abbrev r38_5 : List RO := [ro (.mov 2 (cB false))]
abbrev r38_6 : List RO := [ro (.bin 30 .add (.t 7) (c6 1)), rM 7 30]
abbrev r38_7 : List RO := [rM 31 0, ro (.len 32 false (.t 31)), ro (.bin 33 .leq (.t 32) (c6 16)), rM 2 33]
def i38 : IC := (.seq (.reg r38_0) (.seq (.seq (.reg r38_1) (.block 0 (.loop (.seq (.reg r38_2) (.seq (.cond (.t 8) .skip (.exit 0)) (.seq (.block 1 (.seq (.reg r38_3) (.seq (.regd r38_4) (.cond (.t 29) (.seq (.reg r38_5) .ret) .skip)))) (.reg r38_6))))))) (.seq (.reg r38_7) .ret)))
theorem o38 : (Tryz.f38.body.bind fun c => toIC Tryz.prog 34 c [[(0, []), (1, []), (3, []), (7, []), (15, []), (31, []), (63, []), (127, []), (255, []), (127, []), (127, []), (1151, []), (3711, []), (7807, []), (15999, []), (32767, []), (65535, []), (131071, [])]]) = some (i38, []) := by kernel_rfl
theorem f38 : FI Tryz.prog 34 i38 [.tmp 2] 38 := fi (by kernel_rfl) Tryz.func38 (by kernel_rfl) o38 (by kernel_rfl)
abbrev r90_0 : List RO := [ro (.mov 2 (cB false))]
abbrev r90_1 : List RO := [rM 3 0, ro (.callv 4 (.c (.one (.fn 43 []))) [(.t 3), (c6 0), (c6 999)]), rM 2 4]
def i90 : IC := (.seq (.reg r90_0) (.seq (.reg r90_1) .ret))
theorem o90 : (Tryz.f90.body.bind fun c => toIC Tryz.prog 5 c []) = some (i90, []) := by kernel_rfl
theorem f90 : FI Tryz.prog 5 i90 [.tmp 2] 90 := fi (by kernel_rfl) Tryz.func90 (by kernel_rfl) o90 (by kernel_rfl)
abbrev r91_0 : List RO := [ro (.mov 2 (cB false))]
abbrev r91_1 : List RO := [rM 3 0, ro (.callv 4 (.c (.one (.fn 43 []))) [(.t 3), (c6 0), (c6 1000000000)]), rM 2 4]
def i91 : IC := (.seq (.reg r91_0) (.seq (.reg r91_1) .ret))
theorem o91 : (Tryz.f91.body.bind fun c => toIC Tryz.prog 5 c []) = some (i91, []) := by kernel_rfl
theorem f91 : FI Tryz.prog 5 i91 [.tmp 2] 91 := fi (by kernel_rfl) Tryz.func91 (by kernel_rfl) o91 (by kernel_rfl)
abbrev r39_0 : List RO := [ro (.mov 2 (cB false))]
abbrev r39_1 : List RO := [rM 5 0, ro (.len 6 false (.t 5)), ro (.mov 7 (c6 0))]
abbrev r39_2 : List RO := [ro (.bin 8 .lss (.t 7) (.t 6))]
abbrev r39_3 : List RO := [rM 9 7, ro (.iaddr 10 2 (.t 5) (.t 7)), ro (.load 11 (some 2) (.t 10)), ro (.var 4 [(dI 0), (dI 0)]), rM 3 9, ro (.store 2 [(.int .i64 0), (.int .i64 0)] (.t 4) (.t 11))]
abbrev r39_4 : List RO := [rF 12 0 4, ⟨⟨none, .load 13 none (.t 12)⟩, 1, []⟩, ⟨⟨none, .callv 14 (.c (.one (.fn 90 []))) [(.t 13)]⟩, 3, []⟩, ⟨⟨none, .inv 15 (.t 14)⟩, 7, []⟩, ⟨⟨none, .mov 16 (.t 15)⟩, 15, []⟩, ⟨⟨some (16, false), .faddr 17 1 (.t 4)⟩, 31, []⟩, ⟨⟨some (16, false), .load 18 none (.t 17)⟩, 63, []⟩, ⟨⟨some (16, false), .callv 19 (.c (.one (.fn 91 []))) [(.t 18)]⟩, 127, []⟩, ⟨⟨some (16, false), .inv 20 (.t 19)⟩, 255, []⟩, ⟨⟨none, .pick 21 (.t 16) (cB true) (.t 20)⟩, 511, []⟩, ⟨⟨none, .mov 22 (.t 21)⟩, 1023, []⟩, ⟨⟨some (22, false), .mov 23 (.t 3)⟩, 2047, []⟩, ⟨⟨some (22, false), .bin 24 .gtr (.t 23) (c6 0)⟩, 4095, []⟩, ⟨⟨some (22, false), .mov 25 (.t 24)⟩, 8191, []⟩, ⟨⟨some (25, true), .mov 26 (.t 0)⟩, 16383, []⟩, ⟨⟨some (25, true), .mov 27 (.t 3)⟩, 16383, []⟩, ⟨⟨some (25, true), .bin 28 .sub (.t 27) (c6 1)⟩, 49151, []⟩, ⟨⟨some (25, true), .iaddr 29 2 (.t 26) (.t 28)⟩, 131071, []⟩, ⟨⟨some (25, true), .faddr 30 0 (.t 29)⟩, 262143, []⟩, ⟨⟨some (25, true), .load 31 none (.t 30)⟩, 524287, []⟩, ⟨⟨some (25, true), .faddr 32 0 (.t 4)⟩, 16383, []⟩, ⟨⟨some (25, true), .load 33 none (.t 32)⟩, 1064959, []⟩, ⟨⟨some (25, true), .bin 34 .geq (.t 31) (.t 33)⟩, 4194303, []⟩, ⟨⟨some (22, false), .pick 35 (.t 25) (.t 34) (cB false)⟩, 8388607, []⟩, ⟨⟨none, .pick 36 (.t 22) (cB true) (.t 35)⟩, 16777215, []⟩]
abbrev r39_5 : List RO := [ro (.mov 2 (cB false))]
abbrev r39_6 : List RO := [ro (.bin 37 .add (.t 7) (c6 1)), rM 7 37]
abbrev r39_7 : List RO := [rM 38 0, ro (.len 39 false (.t 38)), ro (.bin 40 .leq (.t 39) (c6 60)), rM 2 40]
def i39 : IC := (.seq (.reg r39_0) (.seq (.seq (.reg r39_1) (.block 0 (.loop (.seq (.reg r39_2) (.seq (.cond (.t 8) .skip (.exit 0)) (.seq (.block 1 (.seq (.reg r39_3) (.seq (.regd r39_4) (.cond (.t 36) (.seq (.reg r39_5) .ret) .skip)))) (.reg r39_6))))))) (.seq (.reg r39_7) .ret)))
theorem o39 : (Tryz.f39.body.bind fun c => toIC Tryz.prog 41 c [[(0, []), (1, []), (3, []), (7, []), (15, []), (31, []), (63, []), (127, []), (255, []), (511, []), (1023, []), (2047, []), (4095, []), (8191, []), (16383, []), (16383, []), (49151, []), (131071, []), (262143, []), (524287, []), (16383, []), (1064959, []), (4194303, []), (8388607, []), (16777215, [])]]) = some (i39, []) := by kernel_rfl
theorem f39 : FI Tryz.prog 41 i39 [.tmp 2] 39 := fi (by kernel_rfl) Tryz.func39 (by kernel_rfl) o39 (by kernel_rfl)
abbrev r92_0 : List RO := [ro (.mov 2 (cB false))]
abbrev r92_1 : List RO := [rM 3 0, ro (.callv 4 (.c (.one (.fn 43 []))) [(.t 3), (c6 1), (c6 60)]), rM 2 4]
def i92 : IC := (.seq (.reg r92_0) (.seq (.reg r92_1) .ret))
theorem o92 : (Tryz.f92.body.bind fun c => toIC Tryz.prog 5 c []) = some (i92, []) := by kernel_rfl
theorem f92 : FI Tryz.prog 5 i92 [.tmp 2] 92 := fi (by kernel_rfl) Tryz.func92 (by kernel_rfl) o92 (by kernel_rfl)
abbrev r53_0 : List RO := [ro (.box 1 (.t 0)), ro (.var 2 [(dI 0), (dI 0)])]
abbrev r53_1 : List RO := [rF 3 1 1, rL 4 3, rF 5 2 1, rL 6 5, ro (.build 7 [(dI 0), (dI 0)] [(0, 1, (.t 4)), (1, 1, (.t 6))]), ro (.store 2 [(.int .i64 0), (.int .i64 0)] (.t 2) (.t 7))]
def i53 : IC := (.seq (.reg r53_0) (.seq (.reg r53_1) .ret))
theorem o53 : (Tryz.f53.body.bind fun c => toIC Tryz.prog 8 c []) = some (i53, []) := by kernel_rfl
theorem f53 : FI Tryz.prog 8 i53 [.cell 2 (some 2)] 53 := fi (by kernel_rfl) Tryz.func53 (by kernel_rfl) o53 (by kernel_rfl)
abbrev r93_0 : List RO := [ro (.mov 2 (cB false))]
abbrev r93_1 : List RO := [rM 3 0, ro (.bin 4 .eql (.t 3) (c6 1)), rM 5 4, rN 5 (.mov 6 (.t 0)), rN 5 (.bin 7 .eql (.t 6) (c6 2)), ro (.pick 8 (.t 5) (cB true) (.t 7)), rM 2 8]
def i93 : IC := (.seq (.reg r93_0) (.seq (.reg r93_1) .ret))
theorem o93 : (Tryz.f93.body.bind fun c => toIC Tryz.prog 9 c []) = some (i93, []) := by kernel_rfl
theorem f93 : FI Tryz.prog 9 i93 [.tmp 2] 93 := fi (by kernel_rfl) Tryz.func93 (by kernel_rfl) o93 (by kernel_rfl)
abbrev r118_0 : List RO := [ro (.box 2 (.t 0)), ro (.box 3 (.t 1)), ro (.mov 4 (cB false))]
abbrev r118_1 : List RO := [rF 5 0 2, rL 6 5, rF 7 1 3, rL 8 7, ro (.bin 9 .lss (.t 6) (.t 8)), rM 10 9, rT 10 (.faddr 11 0 (.t 3)), rT 10 (.load 12 none (.t 11)), rT 10 (.faddr 13 1 (.t 2)), rT 10 (.load 14 none (.t 13)), rT 10 (.bin 15 .lss (.t 12) (.t 14)), ro (.pick 16 (.t 10) (.t 15) (cB false)), rM 4 16]
def i118 : IC := (.seq (.reg r118_0) (.seq (.reg r118_1) .ret))
theorem o118 : (Tryz.f118.body.bind fun c => toIC Tryz.prog 17 c []) = some (i118, []) := by kernel_rfl
theorem f118 : FI Tryz.prog 17 i118 [.tmp 4] 118 := fi (by kernel_rfl) Tryz.func118 (by kernel_rfl) o118 (by kernel_rfl)
abbrev r95_0 : List RO := [ro (.box 2 (.t 0)), ro (.box 3 (.t 1)), ro (.mov 4 (cB false))]
abbrev r95_1 : List RO := [rF 5 0 2, ⟨⟨none, .load 6 none (.t 5)⟩, 1, []⟩, rF 7 0 3, ⟨⟨none, .load 8 none (.t 7)⟩, 4, []⟩, ⟨⟨none, .bin 9 .neq (.t 6) (.t 8)⟩, 15, []⟩, ⟨⟨none, .mov 10 (.t 9)⟩, 31, []⟩, ⟨⟨some (10, true), .faddr 11 3 (.t 2)⟩, 63, []⟩, ⟨⟨some (10, true), .load 12 none (.t 11)⟩, 127, []⟩, ⟨⟨some (10, true), .bin 13 .eql (.t 12) (c6 2)⟩, 255, []⟩, ⟨⟨some (10, true), .mov 14 (.t 13)⟩, 511, []⟩, ⟨⟨some (14, false), .faddr 15 3 (.t 3)⟩, 1023, []⟩, ⟨⟨some (14, false), .load 16 none (.t 15)⟩, 2047, []⟩, ⟨⟨some (14, false), .bin 17 .eql (.t 16) (c6 2)⟩, 4095, []⟩, ⟨⟨some (10, true), .pick 18 (.t 14) (cB true) (.t 17)⟩, 8191, []⟩, ⟨⟨none, .pick 19 (.t 10) (.t 18) (cB false)⟩, 16383, []⟩, ⟨⟨none, .mov 20 (.t 19)⟩, 32767, []⟩, ⟨⟨some (20, true), .load 21 (some 4) (.t 2)⟩, 65535, []⟩, ⟨⟨some (20, true), .callv 22 (.c (.one (.fn 53 []))) [(.t 21)]⟩, 131071, []⟩, ⟨⟨some (20, true), .load 23 (some 4) (.t 3)⟩, 65535, [22]⟩, ⟨⟨some (20, true), .callv 24 (.c (.one (.fn 53 []))) [(.t 23)]⟩, 524287, []⟩, ⟨⟨some (20, true), .callv 25 (.c (.one (.fn 118 []))) [(.t 22), (.t 24)]⟩, 1048575, []⟩, ⟨⟨none, .pick 26 (.t 20) (.t 25) (cB false)⟩, 2097151, []⟩, ⟨⟨none, .mov 4 (.t 26)⟩, 4194303, []⟩]
def i95 : IC := (.seq (.reg r95_0) (.seq (.regd r95_1) .ret))
theorem o95 : (Tryz.f95.body.bind fun c => toIC Tryz.prog 27 c [[(0, []), (1, []), (0, []), (4, []), (15, []), (31, []), (63, []), (127, []), (255, []), (511, []), (1023, []), (2047, []), (4095, []), (8191, []), (16383, []), (32767, []), (65535, []), (131071, []), (65535, [22]), (524287, []), (1048575, []), (2097151, []), (4194303, [])]]) = some (i95, []) := by kernel_rfl
theorem f95 : FI Tryz.prog 27 i95 [.tmp 4] 95 := fi (by kernel_rfl) Tryz.func95 (by kernel_rfl) o95 (by kernel_rfl)
abbrev r94_0 : List RO := [ro (.box 2 (.t 0)), ro (.mov 3 (cB false))]
abbrev r94_1 : List RO := [ro (.load 4 (some 4) (.t 1)), ro (.load 5 (some 4) (.t 2)), ro (.callv 6 (.c (.one (.fn 95 []))) [(.t 4), (.t 5)]), rM 3 6]
def i94 : IC := (.seq (.reg r94_0) (.seq (.reg r94_1) .ret))
theorem o94 : (Tryz.f94.body.bind fun c => toIC Tryz.prog 7 c []) = some (i94, []) := by kernel_rfl
theorem f94 : FI Tryz.prog 7 i94 [.tmp 3] 94 := fi (by kernel_rfl) Tryz.func94 (by kernel_rfl) o94 (by kernel_rfl)
abbrev r103_0 : List RO := [ro (.mov 4 (c6 0))]
abbrev r103_1 : List RO := [rM 6 0, ro (.len 7 false (.t 6)), ro (.mov 8 (c6 0))]
abbrev r103_2 : List RO := [ro (.bin 9 .lss (.t 8) (.t 7))]
abbrev r103_3 : List RO := [rM 10 8, rM 5 10]
abbrev r103_4 : List RO := [rM 11 1, rM 12 0, rM 13 5, ro (.iaddr 14 4 (.t 12) (.t 13)), ro (.load 15 (some 4) (.t 14)), ro (.callv 16 (.t 11) [(.t 15)])]
abbrev r103_5 : List RO := [rM 17 5, rM 4 17]
abbrev r103_6 : List RO := [ro (.bin 18 .add (.t 8) (c6 1)), rM 8 18]
abbrev r103_7 : List RO := [ro (.mov 4 (c6 (-1)))]
def i103 : IC := (.seq (.reg r103_0) (.seq (.seq (.reg r103_1) (.block 0 (.loop (.seq (.reg r103_2) (.seq (.cond (.t 9) .skip (.exit 0)) (.seq (.block 1 (.seq (.reg r103_3) (.seq (.reg r103_4) (.cond (.t 16) (.seq (.reg r103_5) .ret) .skip)))) (.reg r103_6))))))) (.seq (.reg r103_7) .ret)))
theorem o103 : (Tryz.f103.body.bind fun c => toIC Tryz.prog 19 c []) = some (i103, []) := by kernel_rfl
theorem f103 : FI Tryz.prog 19 i103 [.tmp 4] 103 := fi (by kernel_rfl) Tryz.func103 (by kernel_rfl) o103 (by kernel_rfl)
abbrev r51_0 : List RO := [ro (.mov 4 (cB false))]
abbrev r51_1 : List RO := [rM 5 0, rM 6 1, ro (.callv 7 (.c (.one (.fn 103 []))) [(.t 5), (.t 6)]), ro (.bin 8 .geq (.t 7) (c6 0)), rM 4 8]
def i51 : IC := (.seq (.reg r51_0) (.seq (.reg r51_1) .ret))
theorem o51 : (Tryz.f51.body.bind fun c => toIC Tryz.prog 9 c []) = some (i51, []) := by kernel_rfl
theorem f51 : FI Tryz.prog 9 i51 [.tmp 4] 51 := fi (by kernel_rfl) Tryz.func51 (by kernel_rfl) o51 (by kernel_rfl)
abbrev r40_0 : List RO := [ro (.mov 2 (cB false))]
abbrev r40_1 : List RO := [rM 5 0, ro (.len 6 false (.t 5)), ro (.mov 7 (c6 0))]
abbrev r40_2 : List RO := [ro (.bin 8 .lss (.t 7) (.t 6))]
abbrev r40_3 : List RO := [rM 9 7, ro (.iaddr 10 4 (.t 5) (.t 7)), ro (.load 11 (some 4) (.t 10)), ro (.var 4 [(dI 0), (dI 0), (dI 0), (dI 0)]), rM 3 9, ro (.store 4 [(.int .i64 0), (.int .i64 0), (.int .i64 0), (.int .i64 0)] (.t 4) (.t 11))]
abbrev r40_4 : List RO := [rF 12 0 4, rL 13 12, ro (.callv 14 (.c (.one (.fn 92 []))) [(.t 13)]), ro (.inv 15 (.t 14)), rM 16 15, rN 16 (.load 17 (some 4) (.t 4)), rN 16 (.callv 18 (.c (.one (.fn 53 []))) [(.t 17)]), rN 16 (.callv 19 (.c (.one (.fn 89 []))) [(.t 18)]), rN 16 (.inv 20 (.t 19)), ro (.pick 21 (.t 16) (cB true) (.t 20)), rM 22 21, rN 22 (.faddr 23 3 (.t 4)), rN 22 (.load 24 none (.t 23)), rN 22 (.callv 25 (.c (.one (.fn 93 []))) [(.t 24)]), rN 22 (.inv 26 (.t 25)), ro (.pick 27 (.t 22) (cB true) (.t 26)), rM 28 27, rN 28 (.mov 29 (.t 0)), rN 28 (.mov 30 (.t 3)), rN 28 (.slice 31 4 (.t 29) none (some (.t 30)) none), rN 28 (.mkfn 32 94 [(.t 4)]), rN 28 (.callv 33 (.c (.one (.fn 51 []))) [(.t 31), (.t 32)]), ro (.pick 34 (.t 28) (cB true) (.t 33))]
abbrev r40_5 : List RO := [ro (.mov 2 (cB false))]
abbrev r40_6 : List RO := [ro (.bin 35 .add (.t 7) (c6 1)), rM 7 35]
abbrev r40_7 : List RO := [rM 36 0, ro (.len 37 false (.t 36)), ro (.bin 38 .leq (.t 37) (c6 40)), rM 2 38]
def i40 : IC := (.seq (.reg r40_0) (.seq (.seq (.reg r40_1) (.block 0 (.loop (.seq (.reg r40_2) (.seq (.cond (.t 8) .skip (.exit 0)) (.seq (.block 1 (.seq (.reg r40_3) (.seq (.reg r40_4) (.cond (.t 34) (.seq (.reg r40_5) .ret) .skip)))) (.reg r40_6))))))) (.seq (.reg r40_7) .ret)))
theorem o40 : (Tryz.f40.body.bind fun c => toIC Tryz.prog 39 c []) = some (i40, []) := by kernel_rfl
theorem f40 : FI Tryz.prog 39 i40 [.tmp 2] 40 := fi (by kernel_rfl) Tryz.func40 (by kernel_rfl) o40 (by kernel_rfl)
abbrev r119_0 : List RO := [ro (.mov 2 (cB false))]
abbrev r119_1 : List RO := [rM 3 0, ro (.callv 4 (.c (.one (.fn 43 []))) [(.t 3), (c6 (-1)), (c6 1000000000)]), rM 2 4]
def i119 : IC := (.seq (.reg r119_0) (.seq (.reg r119_1) .ret))
theorem o119 : (Tryz.f119.body.bind fun c => toIC Tryz.prog 5 c []) = some (i119, []) := by kernel_rfl
theorem f119 : FI Tryz.prog 5 i119 [.tmp 2] 119 := fi (by kernel_rfl) Tryz.func119 (by kernel_rfl) o119 (by kernel_rfl)
abbrev r96_0 : List RO := [ro (.mov 2 (cB false))]
abbrev r96_1 : List RO := [rM 5 0, ro (.len 6 false (.t 5)), ro (.mov 7 (c6 0))]
abbrev r96_2 : List RO := [ro (.bin 8 .lss (.t 7) (.t 6))]
abbrev r96_3 : List RO := [rM 9 7, ro (.iaddr 10 2 (.t 5) (.t 7)), ro (.load 11 (some 2) (.t 10)), ro (.var 4 [(dI 0), (dI 0)]), rM 3 9, ro (.store 2 [(.int .i64 0), (.int .i64 0)] (.t 4) (.t 11))]
abbrev r96_4 : List RO := [rF 12 0 4, ⟨⟨none, .load 13 none (.t 12)⟩, 1, []⟩, ⟨⟨none, .callv 14 (.c (.one (.fn 90 []))) [(.t 13)]⟩, 3, []⟩, ⟨⟨none, .inv 15 (.t 14)⟩, 7, []⟩, ⟨⟨none, .mov 16 (.t 15)⟩, 15, []⟩, ⟨⟨some (16, false), .faddr 17 1 (.t 4)⟩, 31, []⟩, ⟨⟨some (16, false), .load 18 none (.t 17)⟩, 63, []⟩, ⟨⟨some (16, false), .callv 19 (.c (.one (.fn 119 []))) [(.t 18)]⟩, 127, []⟩, ⟨⟨some (16, false), .inv 20 (.t 19)⟩, 255, []⟩, ⟨⟨none, .pick 21 (.t 16) (cB true) (.t 20)⟩, 511, []⟩, ⟨⟨none, .mov 22 (.t 21)⟩, 1023, []⟩, ⟨⟨some (22, false), .mov 23 (.t 3)⟩, 2047, []⟩, ⟨⟨some (22, false), .bin 24 .gtr (.t 23) (c6 0)⟩, 4095, []⟩, ⟨⟨some (22, false), .mov 25 (.t 24)⟩, 8191, []⟩, ⟨⟨some (25, true), .mov 26 (.t 0)⟩, 16383, []⟩, ⟨⟨some (25, true), .mov 27 (.t 3)⟩, 16383, []⟩, ⟨⟨some (25, true), .bin 28 .sub (.t 27) (c6 1)⟩, 49151, []⟩, ⟨⟨some (25, true), .iaddr 29 2 (.t 26) (.t 28)⟩, 131071, []⟩, ⟨⟨some (25, true), .faddr 30 0 (.t 29)⟩, 262143, []⟩, ⟨⟨some (25, true), .load 31 none (.t 30)⟩, 524287, []⟩, ⟨⟨some (25, true), .faddr 32 0 (.t 4)⟩, 16383, []⟩, ⟨⟨some (25, true), .load 33 none (.t 32)⟩, 1064959, []⟩, ⟨⟨some (25, true), .bin 34 .geq (.t 31) (.t 33)⟩, 4194303, []⟩, ⟨⟨some (22, false), .pick 35 (.t 25) (.t 34) (cB false)⟩, 8388607, []⟩, ⟨⟨none, .pick 36 (.t 22) (cB true) (.t 35)⟩, 16777215, []⟩]
abbrev r96_5 : List RO := [ro (.mov 2 (cB false))]
abbrev r96_6 : List RO := [ro (.bin 37 .add (.t 7) (c6 1)), rM 7 37]
abbrev r96_7 : List RO := [rM 38 0, ro (.len 39 false (.t 38)), ro (.bin 40 .leq (.t 39) (c6 60)), rM 2 40]
def i96 : IC := (.seq (.reg r96_0) (.seq (.seq (.reg r96_1) (.block 0 (.loop (.seq (.reg r96_2) (.seq (.cond (.t 8) .skip (.exit 0)) (.seq (.block 1 (.seq (.reg r96_3) (.seq (.regd r96_4) (.cond (.t 36) (.seq (.reg r96_5) .ret) .skip)))) (.reg r96_6))))))) (.seq (.reg r96_7) .ret)))
theorem o96 : (Tryz.f96.body.bind fun c => toIC Tryz.prog 41 c [[(0, []), (1, []), (3, []), (7, []), (15, []), (31, []), (63, []), (127, []), (255, []), (511, []), (1023, []), (2047, []), (4095, []), (8191, []), (16383, []), (16383, []), (49151, []), (131071, []), (262143, []), (524287, []), (16383, []), (1064959, []), (4194303, []), (8388607, []), (16777215, [])]]) = some (i96, []) := by kernel_rfl
theorem f96 : FI Tryz.prog 41 i96 [.tmp 2] 96 := fi (by kernel_rfl) Tryz.func96 (by kernel_rfl) o96 (by kernel_rfl)
abbrev r49_0 : List RO := [ro (.var 2 [(dI 0), (dI 0)])]
abbrev r49_1 : List RO := [rM 3 0, rM 4 0, ro (.bin 5 .add (.t 4) (c6 1)), ro (.build 6 [(dI 0), (dI 0)] [(0, 1, (.t 3)), (1, 1, (.t 5))]), ro (.store 2 [(.int .i64 0), (.int .i64 0)] (.t 2) (.t 6))]
def i49 : IC := (.seq (.reg r49_0) (.seq (.reg r49_1) .ret))
theorem o49 : (Tryz.f49.body.bind fun c => toIC Tryz.prog 7 c []) = some (i49, []) := by kernel_rfl
theorem f49 : FI Tryz.prog 7 i49 [.cell 2 (some 2)] 49 := fi (by kernel_rfl) Tryz.func49 (by kernel_rfl) o49 (by kernel_rfl)
abbrev r121_0 : List RO := [ro (.box 4 (.t 0)), ro (.mov 5 (cB false))]
abbrev r121_1 : List RO := [rF 6 0 4, rL 7 6, rL 8 1, ro (.bin 9 .eql (.t 7) (.t 8)), rM 10 9, rT 10 (.faddr 11 3 (.t 4)), rT 10 (.load 12 none (.t 11)), rT 10 (.load 13 none (.t 2)), rT 10 (.bin 14 .eql (.t 12) (.t 13)), rT 10 (.mov 15 (.t 14)), rN 15 (.faddr 16 3 (.t 4)), rN 15 (.load 17 none (.t 16)), rN 15 (.bin 18 .eql (.t 17) (c6 2)), rT 10 (.pick 19 (.t 15) (cB true) (.t 18)), ro (.pick 20 (.t 10) (.t 19) (cB false)), rM 21 20, rT 21 (.faddr 22 1 (.t 4)), rT 21 (.load 23 none (.t 22)), rT 21 (.faddr 24 0 (.t 3)), rT 21 (.load 25 none (.t 24)), rT 21 (.bin 26 .leq (.t 23) (.t 25)), ro (.pick 27 (.t 21) (.t 26) (cB false)), rM 28 27, rT 28 (.faddr 29 1 (.t 3)), rT 28 (.load 30 none (.t 29)), rT 28 (.faddr 31 2 (.t 4)), rT 28 (.load 32 none (.t 31)), rT 28 (.bin 33 .leq (.t 30) (.t 32)), ro (.pick 34 (.t 28) (.t 33) (cB false)), rM 5 34]
def i121 : IC := (.seq (.reg r121_0) (.seq (.reg r121_1) .ret))
theorem o121 : (Tryz.f121.body.bind fun c => toIC Tryz.prog 35 c []) = some (i121, []) := by kernel_rfl
theorem f121 : FI Tryz.prog 35 i121 [.tmp 5] 121 := fi (by kernel_rfl) Tryz.func121 (by kernel_rfl) o121 (by kernel_rfl)
abbrev r99_0 : List RO := [ro (.box 5 (.t 1)), ro (.box 6 (.t 2)), ro (.box 7 (.t 3)), ro (.mov 8 (cB false))]
abbrev r99_1 : List RO := [rM 9 0, ro (.callv 10 (.c (.one (.fn 40 []))) [(.t 9)]), rM 11 10, rT 11 (.load 12 (some 2) (.t 6)), rT 11 (.callv 13 (.c (.one (.fn 89 []))) [(.t 12)]), ro (.pick 14 (.t 11) (.t 13) (cB false)), rM 15 14, rT 15 (.load 16 none (.t 7)), rT 15 (.callv 17 (.c (.one (.fn 93 []))) [(.t 16)]), ro (.pick 18 (.t 15) (.t 17) (cB false)), rM 19 18, rT 19 (.mov 20 (.t 0)), rT 19 (.mkfn 21 121 [(.t 5), (.t 7), (.t 6)]), rT 19 (.callv 22 (.c (.one (.fn 51 []))) [(.t 20), (.t 21)]), ro (.pick 23 (.t 19) (.t 22) (cB false)), rM 8 23]
def i99 : IC := (.seq (.reg r99_0) (.seq (.reg r99_1) .ret))
theorem o99 : (Tryz.f99.body.bind fun c => toIC Tryz.prog 24 c []) = some (i99, []) := by kernel_rfl
theorem f99 : FI Tryz.prog 24 i99 [.tmp 8] 99 := fi (by kernel_rfl) Tryz.func99 (by kernel_rfl) o99 (by kernel_rfl)
abbrev r98_0 : List RO := [ro (.box 3 (.t 0)), ro (.mov 4 (cB false))]
abbrev r98_1 : List RO := [rF 5 4 1, ⟨⟨none, .load 6 none (.t 5)⟩, 1, [11]⟩, rF 7 0 2, ⟨⟨none, .load 8 none (.t 7)⟩, 4, [11]⟩, rF 9 0 3, ⟨⟨none, .load 10 none (.t 9)⟩, 16, []⟩, ⟨⟨none, .callv 11 (.c (.one (.fn 49 []))) [(.t 10)]⟩, 48, []⟩, ⟨⟨none, .callv 12 (.c (.one (.fn 99 []))) [(.t 6), (.t 8), (.t 11), (c6 2)]⟩, 127, []⟩, ⟨⟨none, .inv 13 (.t 12)⟩, 255, []⟩, ⟨⟨none, .mov 4 (.t 13)⟩, 511, []⟩]
def i98 : IC := (.seq (.reg r98_0) (.seq (.regd r98_1) .ret))
theorem o98 : (Tryz.f98.body.bind fun c => toIC Tryz.prog 14 c [[(0, []), (1, [11]), (0, []), (4, [11]), (0, []), (16, []), (48, []), (127, []), (255, []), (511, [])]]) = some (i98, []) := by kernel_rfl
theorem f98 : FI Tryz.prog 14 i98 [.tmp 4] 98 := fi (by kernel_rfl) Tryz.func98 (by kernel_rfl) o98 (by kernel_rfl)
abbrev r120_0 : List RO := [ro (.mov 4 (c6 0))]
abbrev r120_1 : List RO := [rM 6 0, ro (.len 7 false (.t 6)), ro (.mov 8 (c6 0))]
abbrev r120_2 : List RO := [ro (.bin 9 .lss (.t 8) (.t 7))]
abbrev r120_3 : List RO := [rM 10 8, rM 5 10]
abbrev r120_4 : List RO := [rM 11 1, rM 12 0, rM 13 5, ro (.iaddr 14 2 (.t 12) (.t 13)), ro (.load 15 (some 2) (.t 14)), ro (.callv 16 (.t 11) [(.t 15)])]
abbrev r120_5 : List RO := [rM 17 5, rM 4 17]
abbrev r120_6 : List RO := [ro (.bin 18 .add (.t 8) (c6 1)), rM 8 18]
abbrev r120_7 : List RO := [ro (.mov 4 (c6 (-1)))]
def i120 : IC := (.seq (.reg r120_0) (.seq (.seq (.reg r120_1) (.block 0 (.loop (.seq (.reg r120_2) (.seq (.cond (.t 9) .skip (.exit 0)) (.seq (.block 1 (.seq (.reg r120_3) (.seq (.reg r120_4) (.cond (.t 16) (.seq (.reg r120_5) .ret) .skip)))) (.reg r120_6))))))) (.seq (.reg r120_7) .ret)))
theorem o120 : (Tryz.f120.body.bind fun c => toIC Tryz.prog 19 c []) = some (i120, []) := by kernel_rfl
theorem f120 : FI Tryz.prog 19 i120 [.tmp 4] 120 := fi (by kernel_rfl) Tryz.func120 (by kernel_rfl) o120 (by kernel_rfl)
abbrev r97_0 : List RO := [ro (.mov 4 (cB false))]
abbrev r97_1 : List RO := [rM 5 0, rM 6 1, ro (.callv 7 (.c (.one (.fn 120 []))) [(.t 5), (.t 6)]), ro (.bin 8 .geq (.t 7) (c6 0)), rM 4 8]
def i97 : IC := (.seq (.reg r97_0) (.seq (.reg r97_1) .ret))
theorem o97 : (Tryz.f97.body.bind fun c => toIC Tryz.prog 9 c []) = some (i97, []) := by kernel_rfl
theorem f97 : FI Tryz.prog 9 i97 [.tmp 4] 97 := fi (by kernel_rfl) Tryz.func97 (by kernel_rfl) o97 (by kernel_rfl)
abbrev r55_0 : List RO := [ro (.mov 2 (.c (.one .zs)))]
abbrev r55_1 : List RO := [ro (.bslice 6 1 [] []), rM 3 6]
abbrev r55_2 : List RO := [rM 7 0, ro (.len 8 false (.t 7)), ro (.mov 9 (c6 0))]
abbrev r55_3 : List RO := [ro (.bin 10 .lss (.t 9) (.t 8))]
abbrev r55_4 : List RO := [ro (.iaddr 11 2 (.t 7) (.t 9)), ro (.load 12 (some 2) (.t 11)), ro (.var 5 [(dI 0), .zs]), ro (.store 2 [(.int .i64 0), (.sl 2 [])] (.t 5) (.t 12))]
abbrev r55_5 : List RO := [rM 13 3, rF 14 0 5, rL 15 14, ro (.bslice 16 1 [(dI 0)] [(0, 1, (.t 15))]), ro (.app 17 1 8 [(.int .i64 0)] (.t 13) (.t 16)), rM 3 17]
abbrev r55_6 : List RO := [ro (.bin 18 .add (.t 9) (c6 1)), rM 9 18]
abbrev r55_7 : List RO := [rM 19 3, rM 2 19]
def i55 : IC := (.seq (.reg r55_0) (.seq (.reg r55_1) (.seq (.seq (.reg r55_2) (.block 0 (.loop (.seq (.reg r55_3) (.seq (.cond (.t 10) .skip (.exit 0)) (.seq (.block 1 (.seq (.reg r55_4) (.reg r55_5))) (.reg r55_6))))))) (.seq (.reg r55_7) .ret))))
theorem o55 : (Tryz.f55.body.bind fun c => toIC Tryz.prog 20 c []) = some (i55, []) := by kernel_rfl
theorem f55 : FI Tryz.prog 20 i55 [.tmp 2] 55 := fi (by kernel_rfl) Tryz.func55 (by kernel_rfl) o55 (by kernel_rfl)
abbrev r42_0 : List RO := [ro (.mov 2 (cB false))]
abbrev r42_1 : List RO := [rM 5 0, ro (.len 6 false (.t 5)), ro (.mov 7 (c6 0))]
abbrev r42_2 : List RO := [ro (.bin 8 .lss (.t 7) (.t 6))]
abbrev r42_3 : List RO := [rM 9 7, ro (.iaddr 10 1 (.t 5) (.t 7)), rL 11 10, rM 3 9, rM 4 11]
abbrev r42_4 : List RO := [rM 12 4, ro (.callv 13 (.c (.one (.fn 92 []))) [(.t 12)]), ro (.inv 14 (.t 13)), rM 15 14, rN 15 (.mov 16 (.t 3)), rN 15 (.bin 17 .gtr (.t 16) (c6 0)), rN 15 (.mov 18 (.t 17)), rT 18 (.mov 19 (.t 0)), rT 18 (.mov 20 (.t 3)), rT 18 (.bin 21 .sub (.t 20) (c6 1)), rT 18 (.iaddr 22 1 (.t 19) (.t 21)), rT 18 (.load 23 none (.t 22)), rT 18 (.mov 24 (.t 4)), rT 18 (.bin 25 .geq (.t 23) (.t 24)), rN 15 (.pick 26 (.t 18) (.t 25) (cB false)), ro (.pick 27 (.t 15) (cB true) (.t 26))]
abbrev r42_5 : List RO := [ro (.mov 2 (cB false))]
abbrev r42_6 : List RO := [ro (.bin 28 .add (.t 7) (c6 1)), rM 7 28]
abbrev r42_7 : List RO := [ro (.mov 2 (cB true))]
def i42 : IC := (.seq (.reg r42_0) (.seq (.seq (.reg r42_1) (.block 0 (.loop (.seq (.reg r42_2) (.seq (.cond (.t 8) .skip (.exit 0)) (.seq (.block 1 (.seq (.reg r42_3) (.seq (.reg r42_4) (.cond (.t 27) (.seq (.reg r42_5) .ret) .skip)))) (.reg r42_6))))))) (.seq (.reg r42_7) .ret)))
theorem o42 : (Tryz.f42.body.bind fun c => toIC Tryz.prog 29 c []) = some (i42, []) := by kernel_rfl
theorem f42 : FI Tryz.prog 29 i42 [.tmp 2] 42 := fi (by kernel_rfl) Tryz.func42 (by kernel_rfl) o42 (by kernel_rfl)
abbrev r41_0 : List RO := [ro (.box 1 (.t 0)), ro (.mov 2 (cB false))]
abbrev r41_1 : List RO := [rF 5 5 1, rL 6 5, ro (.len 7 false (.t 6)), ro (.mov 8 (c6 0))]
abbrev r41_2 : List RO := [ro (.bin 9 .lss (.t 8) (.t 7))]
abbrev r41_3 : List RO := [ro (.iaddr 10 2 (.t 6) (.t 8)), ro (.load 11 (some 2) (.t 10)), ro (.var 4 [(dI 0), .zs]), ro (.store 2 [(.int .i64 0), (.sl 2 [])] (.t 4) (.t 11))]
abbrev r41_4 : List RO := [rF 12 1 4, rL 13 12, ro (.callv 14 (.c (.one (.fn 96 []))) [(.t 13)]), ro (.inv 15 (.t 14)), rM 16 15, rN 16 (.faddr 17 1 (.t 4)), rN 16 (.load 18 none (.t 17)), rN 16 (.mkfn 19 98 [(.t 1), (.t 4)]), rN 16 (.callv 20 (.c (.one (.fn 97 []))) [(.t 18), (.t 19)]), ro (.pick 21 (.t 16) (cB true) (.t 20))]
abbrev r41_5 : List RO := [ro (.mov 2 (cB false))]
abbrev r41_6 : List RO := [ro (.bin 22 .add (.t 8) (c6 1)), rM 8 22]
abbrev r41_7 : List RO := [rF 23 5 1, rL 24 23, ro (.callv 25 (.c (.one (.fn 55 []))) [(.t 24)]), ro (.callv 26 (.c (.one (.fn 42 []))) [(.t 25)]), rM 2 26]
def i41 : IC := (.seq (.reg r41_0) (.seq (.seq (.reg r41_1) (.block 0 (.loop (.seq (.reg r41_2) (.seq (.cond (.t 9) .skip (.exit 0)) (.seq (.block 1 (.seq (.reg r41_3) (.seq (.reg r41_4) (.cond (.t 21) (.seq (.reg r41_5) .ret) .skip)))) (.reg r41_6))))))) (.seq (.reg r41_7) .ret)))
theorem o41 : (Tryz.f41.body.bind fun c => toIC Tryz.prog 27 c []) = some (i41, []) := by kernel_rfl
theorem f41 : FI Tryz.prog 27 i41 [.tmp 2] 41 := fi (by kernel_rfl) Tryz.func41 (by kernel_rfl) o41 (by kernel_rfl)
abbrev r46_0 : List RO := [ro (.box 3 (.t 1)), ro (.mov 4 (cB false))]
abbrev r46_1 : List RO := [rF 8 0 3, rL 9 8, rM 5 9]
abbrev r46_2 : List RO := [rM 10 0, ro (.len 11 false (.t 10)), ro (.mov 12 (c6 0))]
abbrev r46_3 : List RO := [ro (.bin 13 .lss (.t 12) (.t 11))]
abbrev r46_4 : List RO := [ro (.iaddr 14 2 (.t 10) (.t 12)), ro (.load 15 (some 2) (.t 14)), ro (.var 7 [(dI 0), (dI 0)]), ro (.store 2 [(.int .i64 0), (.int .i64 0)] (.t 7) (.t 15))]
abbrev r46_5 : List RO := [rF 16 0 7, rL 17 16, rM 18 5, ro (.bin 19 .leq (.t 17) (.t 18)), rM 20 19, rT 20 (.mov 21 (.t 5)), rT 20 (.faddr 22 1 (.t 7)), rT 20 (.load 23 none (.t 22)), rT 20 (.bin 24 .lss (.t 21) (.t 23)), ro (.pick 25 (.t 20) (.t 24) (cB false))]
abbrev r46_6 : List RO := [rF 26 1 7, rL 27 26, rM 5 27]
abbrev r46_7 : List RO := [ro (.bin 28 .add (.t 12) (c6 1)), rM 12 28]
abbrev r46_8 : List RO := [rM 29 5, rF 30 1 3, rL 31 30, ro (.bin 32 .geq (.t 29) (.t 31)), rM 4 32]
def i46 : IC := (.seq (.reg r46_0) (.seq (.reg r46_1) (.seq (.seq (.reg r46_2) (.block 0 (.loop (.seq (.reg r46_3) (.seq (.cond (.t 13) .skip (.exit 0)) (.seq (.block 1 (.seq (.reg r46_4) (.seq (.reg r46_5) (.cond (.t 25) (.reg r46_6) .skip)))) (.reg r46_7))))))) (.seq (.reg r46_8) .ret))))
theorem o46 : (Tryz.f46.body.bind fun c => toIC Tryz.prog 33 c []) = some (i46, []) := by kernel_rfl
theorem f46 : FI Tryz.prog 33 i46 [.tmp 4] 46 := fi (by kernel_rfl) Tryz.func46 (by kernel_rfl) o46 (by kernel_rfl)
abbrev r45_0 : List RO := [ro (.box 2 (.t 0)), ro (.mov 3 (cB false))]
abbrev r45_1 : List RO := [rF 4 1 1, rL 5 4, ro (.load 6 (some 2) (.t 2)), ro (.callv 7 (.c (.one (.fn 46 []))) [(.t 5), (.t 6)]), ro (.inv 8 (.t 7)), rM 3 8]
def i45 : IC := (.seq (.reg r45_0) (.seq (.reg r45_1) .ret))
theorem o45 : (Tryz.f45.body.bind fun c => toIC Tryz.prog 9 c []) = some (i45, []) := by kernel_rfl
theorem f45 : FI Tryz.prog 9 i45 [.tmp 3] 45 := fi (by kernel_rfl) Tryz.func45 (by kernel_rfl) o45 (by kernel_rfl)
abbrev r100_0 : List RO := [ro (.mov 4 (c6 0))]
abbrev r100_1 : List RO := [rM 6 0, ro (.len 7 false (.t 6)), ro (.mov 8 (c6 0))]
abbrev r100_2 : List RO := [ro (.bin 9 .lss (.t 8) (.t 7))]
abbrev r100_3 : List RO := [rM 10 8, rM 5 10]
abbrev r100_4 : List RO := [rM 11 1, rM 12 0, rM 13 5, ro (.iaddr 14 2 (.t 12) (.t 13)), ro (.load 15 (some 2) (.t 14)), ro (.callv 16 (.t 11) [(.t 15)])]
abbrev r100_5 : List RO := [rM 17 5, rM 4 17]
abbrev r100_6 : List RO := [ro (.bin 18 .add (.t 8) (c6 1)), rM 8 18]
abbrev r100_7 : List RO := [ro (.mov 4 (c6 (-1)))]
def i100 : IC := (.seq (.reg r100_0) (.seq (.seq (.reg r100_1) (.block 0 (.loop (.seq (.reg r100_2) (.seq (.cond (.t 9) .skip (.exit 0)) (.seq (.block 1 (.seq (.reg r100_3) (.seq (.reg r100_4) (.cond (.t 16) (.seq (.reg r100_5) .ret) .skip)))) (.reg r100_6))))))) (.seq (.reg r100_7) .ret)))
theorem o100 : (Tryz.f100.body.bind fun c => toIC Tryz.prog 19 c []) = some (i100, []) := by kernel_rfl
theorem f100 : FI Tryz.prog 19 i100 [.tmp 4] 100 := fi (by kernel_rfl) Tryz.func100 (by kernel_rfl) o100 (by kernel_rfl)
abbrev r44_0 : List RO := [ro (.mov 4 (cB false))]
abbrev r44_1 : List RO := [rM 5 0, rM 6 1, ro (.callv 7 (.c (.one (.fn 100 []))) [(.t 5), (.t 6)]), ro (.bin 8 .geq (.t 7) (c6 0)), rM 4 8]
def i44 : IC := (.seq (.reg r44_0) (.seq (.reg r44_1) .ret))
theorem o44 : (Tryz.f44.body.bind fun c => toIC Tryz.prog 9 c []) = some (i44, []) := by kernel_rfl
theorem f44 : FI Tryz.prog 9 i44 [.tmp 4] 44 := fi (by kernel_rfl) Tryz.func44 (by kernel_rfl) o44 (by kernel_rfl)
abbrev r48_0 : List RO := [ro (.box 2 (.t 0)), ro (.mov 3 (cB false))]
abbrev r48_1 : List RO := [rF 4 1 1, ⟨⟨none, .load 5 none (.t 4)⟩, 1, [8]⟩, rF 6 0 2, ⟨⟨none, .load 7 none (.t 6)⟩, 4, []⟩, ⟨⟨none, .callv 8 (.c (.one (.fn 49 []))) [(.t 7)]⟩, 12, []⟩, ⟨⟨none, .callv 9 (.c (.one (.fn 46 []))) [(.t 5), (.t 8)]⟩, 31, []⟩, ⟨⟨none, .inv 10 (.t 9)⟩, 63, []⟩, ⟨⟨none, .mov 3 (.t 10)⟩, 127, []⟩]
def i48 : IC := (.seq (.reg r48_0) (.seq (.regd r48_1) .ret))
theorem o48 : (Tryz.f48.body.bind fun c => toIC Tryz.prog 11 c [[(0, []), (1, [8]), (0, []), (4, []), (12, []), (31, []), (63, []), (127, [])]]) = some (i48, []) := by kernel_rfl
theorem f48 : FI Tryz.prog 11 i48 [.tmp 3] 48 := fi (by kernel_rfl) Tryz.func48 (by kernel_rfl) o48 (by kernel_rfl)
abbrev r101_0 : List RO := [ro (.mov 4 (c6 0))]
abbrev r101_1 : List RO := [rM 6 0, ro (.len 7 false (.t 6)), ro (.mov 8 (c6 0))]
abbrev r101_2 : List RO := [ro (.bin 9 .lss (.t 8) (.t 7))]
abbrev r101_3 : List RO := [rM 10 8, rM 5 10]
abbrev r101_4 : List RO := [rM 11 1, rM 12 0, rM 13 5, ro (.iaddr 14 2 (.t 12) (.t 13)), ro (.load 15 (some 2) (.t 14)), ro (.callv 16 (.t 11) [(.t 15)])]
abbrev r101_5 : List RO := [rM 17 5, rM 4 17]
abbrev r101_6 : List RO := [ro (.bin 18 .add (.t 8) (c6 1)), rM 8 18]
abbrev r101_7 : List RO := [ro (.mov 4 (c6 (-1)))]
def i101 : IC := (.seq (.reg r101_0) (.seq (.seq (.reg r101_1) (.block 0 (.loop (.seq (.reg r101_2) (.seq (.cond (.t 9) .skip (.exit 0)) (.seq (.block 1 (.seq (.reg r101_3) (.seq (.reg r101_4) (.cond (.t 16) (.seq (.reg r101_5) .ret) .skip)))) (.reg r101_6))))))) (.seq (.reg r101_7) .ret)))
theorem o101 : (Tryz.f101.body.bind fun c => toIC Tryz.prog 19 c []) = some (i101, []) := by kernel_rfl
theorem f101 : FI Tryz.prog 19 i101 [.tmp 4] 101 := fi (by kernel_rfl) Tryz.func101 (by kernel_rfl) o101 (by kernel_rfl)
abbrev r47_0 : List RO := [ro (.mov 4 (cB false))]
abbrev r47_1 : List RO := [rM 5 0, rM 6 1, ro (.callv 7 (.c (.one (.fn 101 []))) [(.t 5), (.t 6)]), ro (.bin 8 .geq (.t 7) (c6 0)), rM 4 8]
def i47 : IC := (.seq (.reg r47_0) (.seq (.reg r47_1) .ret))
theorem o47 : (Tryz.f47.body.bind fun c => toIC Tryz.prog 9 c []) = some (i47, []) := by kernel_rfl
theorem f47 : FI Tryz.prog 9 i47 [.tmp 4] 47 := fi (by kernel_rfl) Tryz.func47 (by kernel_rfl) o47 (by kernel_rfl)
abbrev r50_0 : List RO := [ro (.mov 2 (.c (.one .zs)))]
abbrev r50_1 : List RO := [ro (.mov 3 (c6 0))]
abbrev r50_2 : List RO := [rM 9 0, ro (.len 10 false (.t 9)), ro (.mov 11 (c6 0))]
abbrev r50_3 : List RO := [ro (.bin 12 .lss (.t 11) (.t 10))]
abbrev r50_4 : List RO := [ro (.iaddr 13 1 (.t 9) (.t 11)), rL 14 13, rM 5 14]
abbrev r50_5 : List RO := [rM 15 3, rM 16 5, ro (.len 17 false (.t 16)), ro (.bin 18 .add (.t 15) (.t 17)), rM 3 18]
abbrev r50_6 : List RO := [rM 19 3, ro (.bin 20 .lss (.t 19) (c6 0))]
abbrev r50_7 : List RO := [ro (.dead (some 21)), ro (.dead none)]
abbrev r50_8 : List RO := [ro (.bin 22 .add (.t 11) (c6 1)), rM 11 22]
abbrev r50_9 : List RO := [rM 23 3, ro (.callv 24 (.c (.one (.fn 102 []))) [(.c (.one .zs)), (.t 23)]), rM 6 24]
abbrev r50_10 : List RO := [rM 25 0, ro (.len 26 false (.t 25)), ro (.mov 27 (c6 0))]
abbrev r50_11 : List RO := [ro (.bin 28 .lss (.t 27) (.t 26))]
abbrev r50_12 : List RO := [ro (.iaddr 29 1 (.t 25) (.t 27)), rL 30 29, rM 8 30]
abbrev r50_13 : List RO := [rM 31 6, rM 32 8, ro (.app 33 1 8 [(.int .i64 0)] (.t 31) (.t 32)), rM 6 33]
abbrev r50_14 : List RO := [ro (.bin 34 .add (.t 27) (c6 1)), rM 27 34]
abbrev r50_15 : List RO := [rM 35 6, rM 2 35]
def i50 : IC := (.seq (.reg r50_0) (.seq (.reg r50_1) (.seq (.seq (.reg r50_2) (.block 0 (.loop (.seq (.reg r50_3) (.seq (.cond (.t 12) .skip (.exit 0)) (.seq (.block 1 (.seq (.reg r50_4) (.seq (.reg r50_5) (.seq (.reg r50_6) (.cond (.t 20) (.reg r50_7) .skip))))) (.reg r50_8))))))) (.seq (.reg r50_9) (.seq (.seq (.reg r50_10) (.block 2 (.loop (.seq (.reg r50_11) (.seq (.cond (.t 28) .skip (.exit 2)) (.seq (.block 3 (.seq (.reg r50_12) (.reg r50_13))) (.reg r50_14))))))) (.seq (.reg r50_15) .ret))))))
theorem o50 : (Tryz.f50.body.bind fun c => toIC Tryz.prog 36 c []) = some (i50, []) := by kernel_rfl
theorem f50 : FI Tryz.prog 36 i50 [.tmp 2] 50 := fi (by kernel_rfl) Tryz.func50 (by kernel_rfl) o50 (by kernel_rfl)
abbrev r104_0 : List RO := [ro (.mov 4 (c6 0))]
abbrev r104_1 : List RO := [rM 6 0, ro (.len 7 false (.t 6)), ro (.mov 8 (c6 0))]
abbrev r104_2 : List RO := [ro (.bin 9 .lss (.t 8) (.t 7))]
abbrev r104_3 : List RO := [rM 10 8, rM 5 10]
abbrev r104_4 : List RO := [rM 11 1, rM 12 0, rM 13 5, ro (.iaddr 14 1 (.t 12) (.t 13)), rL 15 14, ro (.bin 16 .eql (.t 11) (.t 15))]
abbrev r104_5 : List RO := [rM 17 5, rM 4 17]
abbrev r104_6 : List RO := [ro (.bin 18 .add (.t 8) (c6 1)), rM 8 18]
abbrev r104_7 : List RO := [ro (.mov 4 (c6 (-1)))]
def i104 : IC := (.seq (.reg r104_0) (.seq (.seq (.reg r104_1) (.block 0 (.loop (.seq (.reg r104_2) (.seq (.cond (.t 9) .skip (.exit 0)) (.seq (.block 1 (.seq (.reg r104_3) (.seq (.reg r104_4) (.cond (.t 16) (.seq (.reg r104_5) .ret) .skip)))) (.reg r104_6))))))) (.seq (.reg r104_7) .ret)))
theorem o104 : (Tryz.f104.body.bind fun c => toIC Tryz.prog 19 c []) = some (i104, []) := by kernel_rfl
theorem f104 : FI Tryz.prog 19 i104 [.tmp 4] 104 := fi (by kernel_rfl) Tryz.func104 (by kernel_rfl) o104 (by kernel_rfl)
abbrev r54_0 : List RO := [ro (.mov 4 (cB false))]
abbrev r54_1 : List RO := [rM 5 0, rM 6 1, ro (.callv 7 (.c (.one (.fn 104 []))) [(.t 5), (.t 6)]), ro (.bin 8 .geq (.t 7) (c6 0)), rM 4 8]
def i54 : IC := (.seq (.reg r54_0) (.seq (.reg r54_1) .ret))
theorem o54 : (Tryz.f54.body.bind fun c => toIC Tryz.prog 9 c []) = some (i54, []) := by kernel_rfl
theorem f54 : FI Tryz.prog 9 i54 [.tmp 4] 54 := fi (by kernel_rfl) Tryz.func54 (by kernel_rfl) o54 (by kernel_rfl)
abbrev r52_0 : List RO := [ro (.box 3 (.t 0)), ro (.mov 4 (cB false))]
abbrev r52_1 : List RO := [rF 5 1 1, ⟨⟨none, .load 6 none (.t 5)⟩, 1, [8]⟩, ro (.load 7 (some 4) (.t 3)), ⟨⟨none, .callv 8 (.c (.one (.fn 53 []))) [(.t 7)]⟩, 4, []⟩, ⟨⟨none, .callv 9 (.c (.one (.fn 46 []))) [(.t 6), (.t 8)]⟩, 15, []⟩, ⟨⟨none, .inv 10 (.t 9)⟩, 31, []⟩, ⟨⟨none, .mov 11 (.t 10)⟩, 63, []⟩, ⟨⟨some (11, false), .load 12 none (.t 2)⟩, 127, []⟩, ⟨⟨some (11, false), .faddr 13 0 (.t 3)⟩, 127, []⟩, ⟨⟨some (11, false), .load 14 none (.t 13)⟩, 383, []⟩, ⟨⟨some (11, false), .callv 15 (.c (.one (.fn 54 []))) [(.t 12), (.t 14)]⟩, 1023, []⟩, ⟨⟨none, .pick 16 (.t 11) (cB true) (.t 15)⟩, 2047, []⟩, ⟨⟨none, .mov 4 (.t 16)⟩, 4095, []⟩]
def i52 : IC := (.seq (.reg r52_0) (.seq (.regd r52_1) .ret))
theorem o52 : (Tryz.f52.body.bind fun c => toIC Tryz.prog 17 c [[(0, []), (1, [8]), (0, []), (4, []), (15, []), (31, []), (63, []), (127, []), (127, []), (383, []), (1023, []), (2047, []), (4095, [])]]) = some (i52, []) := by kernel_rfl
theorem f52 : FI Tryz.prog 17 i52 [.tmp 4] 52 := fi (by kernel_rfl) Tryz.func52 (by kernel_rfl) o52 (by kernel_rfl)
abbrev r58_0 : List RO := [ro (.mov 2 (.c (.one .zs)))]
abbrev r58_1 : List RO := [rM 3 0, ro (.isnil 4 false (.t 3))]
abbrev r58_2 : List RO := [ro (.mov 2 (.c (.one .zs)))]
abbrev r58_3 : List RO := [ro (.bslice 5 1 [] []), rM 6 0, ro (.app 7 1 8 [(.int .i64 0)] (.t 5) (.t 6)), rM 2 7]
def i58 : IC := (.seq (.reg r58_0) (.seq (.seq (.reg r58_1) (.cond (.t 4) (.seq (.reg r58_2) .ret) .skip)) (.seq (.reg r58_3) .ret)))
theorem o58 : (Tryz.f58.body.bind fun c => toIC Tryz.prog 8 c []) = some (i58, []) := by kernel_rfl
theorem f58 : FI Tryz.prog 8 i58 [.tmp 2] 58 := fi (by kernel_rfl) Tryz.func58 (by kernel_rfl) o58 (by kernel_rfl)
abbrev r148_0 : List RO := [ro (.box 2 (.t 0)), ro (.mov 4 (c6 0))]
abbrev r148_1 : List RO := [rF 5 0 2, rL 6 5, rM 7 1, ro (.bin 8 .sub (.t 6) (.t 7)), rM 4 8]
def i148 : IC := (.seq (.reg r148_0) (.seq (.reg r148_1) .ret))
theorem o148 : (Tryz.f148.body.bind fun c => toIC Tryz.prog 9 c []) = some (i148, []) := by kernel_rfl
theorem f148 : FI Tryz.prog 9 i148 [.tmp 4] 148 := fi (by kernel_rfl) Tryz.func148 (by kernel_rfl) o148 (by kernel_rfl)
abbrev r147_0 : List RO := [ro (.mov 6 (c6 0)), ro (.mov 7 (cB false))]
abbrev r147_1 : List RO := [rM 12 0, ro (.len 13 false (.t 12)), rM 8 13]
abbrev r147_2 : List RO := [rM 14 8, ro (.mov 9 (c6 0)), rM 10 14]
abbrev r147_3 : List RO := [rM 15 9, rM 16 10, ro (.bin 17 .lss (.t 15) (.t 16))]
abbrev r147_4 : List RO := [rM 18 9, rM 19 10, ro (.bin 20 .add (.t 18) (.t 19)), ro (.conv 21 .u64 (.t 20)), ro (.bin 22 .shr (.t 21) (.c (.one (.d (.int .u64 1))))), ro (.conv 23 .i64 (.t 22)), rM 11 23]
abbrev r147_5 : List RO := [rM 24 2, rM 25 0, rM 26 11, ro (.iaddr 27 2 (.t 25) (.t 26)), ro (.load 28 (some 2) (.t 27)), rM 29 1, ro (.callv 30 (.t 24) [(.t 28), (.t 29)]), ro (.bin 31 .lss (.t 30) (c6 0))]
abbrev r147_6 : List RO := [rM 32 11, ro (.bin 33 .add (.t 32) (c6 1)), rM 9 33]
abbrev r147_7 : List RO := [rM 34 11, rM 10 34]
abbrev r147_8 : List RO := [rM 35 9, rM 36 9, rM 37 8, ro (.bin 38 .lss (.t 36) (.t 37)), rM 39 38, rT 39 (.mov 40 (.t 2)), rT 39 (.mov 41 (.t 0)), rT 39 (.mov 42 (.t 9)), rT 39 (.iaddr 43 2 (.t 41) (.t 42)), rT 39 (.load 44 (some 2) (.t 43)), rT 39 (.mov 45 (.t 1)), rT 39 (.callv 46 (.t 40) [(.t 44), (.t 45)]), rT 39 (.bin 47 .eql (.t 46) (c6 0)), ro (.pick 48 (.t 39) (.t 47) (cB false)), rM 6 35, rM 7 48]
def i147 : IC := (.seq (.reg r147_0) (.seq (.reg r147_1) (.seq (.reg r147_2) (.seq (.block 0 (.loop (.seq (.seq (.reg r147_3) (.cond (.t 17) .skip (.exit 0))) (.block 1 (.seq (.reg r147_4) (.seq (.reg r147_5) (.cond (.t 31) (.reg r147_6) (.reg r147_7)))))))) (.seq (.reg r147_8) .ret)))))
theorem o147 : (Tryz.f147.body.bind fun c => toIC Tryz.prog 49 c []) = some (i147, []) := by kernel_rfl
theorem f147 : FI Tryz.prog 49 i147 [.tmp 6, .tmp 7] 147 := fi (by kernel_rfl) Tryz.func147 (by kernel_rfl) o147 (by kernel_rfl)
abbrev r144_0 : List RO := [ro (.mov 4 (c6 0)), ro (.mov 5 (cB false))]
abbrev r144_1 : List RO := [rM 6 0, rM 7 1, ro (.callv 8 (.c (.one (.fn 147 []))) [(.t 6), (.t 7), (.c (.one (.fn 148 [])))]), ro (.ext 9 (.t 8) 0), ro (.ext 10 (.t 8) 1), rM 4 9, rM 5 10]
def i144 : IC := (.seq (.reg r144_0) (.seq (.reg r144_1) .ret))
theorem o144 : (Tryz.f144.body.bind fun c => toIC Tryz.prog 11 c []) = some (i144, []) := by kernel_rfl
theorem f144 : FI Tryz.prog 11 i144 [.tmp 4, .tmp 5] 144 := fi (by kernel_rfl) Tryz.func144 (by kernel_rfl) o144 (by kernel_rfl)
abbrev r133_0 : List RO := [ro (.mov 4 (c6 0))]
abbrev r133_1 : List RO := [rM 8 0, rM 9 1, ro (.callv 10 (.c (.one (.fn 144 []))) [(.t 8), (.t 9)]), rM 7 10, ro (.ext 11 (.t 7) 0), ro (.ext 12 (.t 7) 1), rM 5 11, rM 6 12]
abbrev r133_2 : List RO := [rM 13 6, ro (.inv 14 (.t 13))]
abbrev r133_3 : List RO := [ro (.mov 4 (c6 (-1)))]
abbrev r133_4 : List RO := [rM 15 0, rM 16 5, ro (.iaddr 17 2 (.t 15) (.t 16)), rF 18 1 17, rL 19 18, rM 4 19]
def i133 : IC := (.seq (.reg r133_0) (.seq (.reg r133_1) (.seq (.seq (.reg r133_2) (.cond (.t 14) (.seq (.reg r133_3) .ret) .skip)) (.seq (.reg r133_4) .ret))))
theorem o133 : (Tryz.f133.body.bind fun c => toIC Tryz.prog 20 c []) = some (i133, []) := by kernel_rfl
theorem f133 : FI Tryz.prog 20 i133 [.tmp 4] 133 := fi (by kernel_rfl) Tryz.func133 (by kernel_rfl) o133 (by kernel_rfl)
abbrev r107_0 : List RO := [ro (.mov 4 (c6 0))]
abbrev r107_1 : List RO := [rM 8 0, ro (.callv 9 (.c (.one (.fn 39 []))) [(.t 8)]), ro (.inv 10 (.t 9)), rM 11 10, rN 11 (.mov 12 (.t 1)), rN 11 (.callv 13 (.c (.one (.fn 96 []))) [(.t 12)]), rN 11 (.inv 14 (.t 13)), ro (.pick 15 (.t 11) (cB true) (.t 14))]
abbrev r107_2 : List RO := [ro (.mov 4 (c6 (-1)))]
abbrev r107_3 : List RO := [ro (.mov 5 (c6 0))]
abbrev r107_4 : List RO := [rM 16 1, ro (.len 17 false (.t 16)), ro (.mov 18 (c6 0))]
abbrev r107_5 : List RO := [ro (.bin 19 .lss (.t 18) (.t 17))]
abbrev r107_6 : List RO := [ro (.iaddr 20 2 (.t 16) (.t 18)), ro (.load 21 (some 2) (.t 20)), ro (.var 7 [(dI 0), (dI 0)]), ro (.store 2 [(.int .i64 0), (.int .i64 0)] (.t 7) (.t 21))]
abbrev r107_7 : List RO := [rF 22 1 7, rL 23 22, ro (.bin 24 .neq (.t 23) (c6 (-1))), rM 25 24, rT 25 (.mov 26 (.t 0)), rT 25 (.faddr 27 0 (.t 7)), rT 25 (.load 28 none (.t 27)), rT 25 (.callv 29 (.c (.one (.fn 133 []))) [(.t 26), (.t 28)]), rT 25 (.bin 30 .lss (.t 29) (c6 0)), ro (.pick 31 (.t 25) (.t 30) (cB false))]
abbrev r107_8 : List RO := [rM 32 5, ro (.bin 33 .add (.t 32) (c6 1)), rM 5 33]
abbrev r107_9 : List RO := [ro (.bin 34 .add (.t 18) (c6 1)), rM 18 34]
abbrev r107_10 : List RO := [rM 35 5, rM 4 35]
def i107 : IC := (.seq (.reg r107_0) (.seq (.seq (.reg r107_1) (.cond (.t 15) (.seq (.reg r107_2) .ret) .skip)) (.seq (.reg r107_3) (.seq (.seq (.reg r107_4) (.block 0 (.loop (.seq (.reg r107_5) (.seq (.cond (.t 19) .skip (.exit 0)) (.seq (.block 1 (.seq (.reg r107_6) (.seq (.reg r107_7) (.cond (.t 31) (.reg r107_8) .skip)))) (.reg r107_9))))))) (.seq (.reg r107_10) .ret)))))
theorem o107 : (Tryz.f107.body.bind fun c => toIC Tryz.prog 36 c []) = some (i107, []) := by kernel_rfl
theorem f107 : FI Tryz.prog 36 i107 [.tmp 4] 107 := fi (by kernel_rfl) Tryz.func107 (by kernel_rfl) o107 (by kernel_rfl)
abbrev r59_0 : List RO := [ro (.box 1 (.t 0)), ro (.mov 2 (c6 0))]
abbrev r59_1 : List RO := [rF 6 3 1, rL 7 6, ro (.len 8 false (.t 7)), rM 3 8]
abbrev r59_2 : List RO := [rF 9 5 1, rL 10 9, ro (.len 11 false (.t 10)), ro (.mov 12 (c6 0))]
abbrev r59_3 : List RO := [ro (.bin 13 .lss (.t 12) (.t 11))]
abbrev r59_4 : List RO := [ro (.iaddr 14 2 (.t 10) (.t 12)), ro (.load 15 (some 2) (.t 14)), ro (.var 5 [(dI 0), .zs]), ro (.store 2 [(.int .i64 0), (.sl 2 [])] (.t 5) (.t 15))]
abbrev r59_5 : List RO := [rM 16 3, rF 17 3 1, rL 18 17, rF 19 1 5, rL 20 19, ro (.callv 21 (.c (.one (.fn 107 []))) [(.t 18), (.t 20)]), ro (.bin 22 .add (.t 16) (.t 21)), rM 3 22]
abbrev r59_6 : List RO := [ro (.bin 23 .add (.t 12) (c6 1)), rM 12 23]
abbrev r59_7 : List RO := [rM 24 3, rM 2 24]
def i59 : IC := (.seq (.reg r59_0) (.seq (.reg r59_1) (.seq (.seq (.reg r59_2) (.block 0 (.loop (.seq (.reg r59_3) (.seq (.cond (.t 13) .skip (.exit 0)) (.seq (.block 1 (.seq (.reg r59_4) (.reg r59_5))) (.reg r59_6))))))) (.seq (.reg r59_7) .ret))))
theorem o59 : (Tryz.f59.body.bind fun c => toIC Tryz.prog 25 c []) = some (i59, []) := by kernel_rfl
theorem f59 : FI Tryz.prog 25 i59 [.tmp 2] 59 := fi (by kernel_rfl) Tryz.func59 (by kernel_rfl) o59 (by kernel_rfl)
abbrev r8_0 : List RO := [ro (.box 1 (.t 0)), ro (.mov 2 (cB false))]
abbrev r8_1 : List RO := [rF 5 0 1, rL 6 5, ro (.callv 7 (.c (.one (.fn 37 []))) [(.t 6)]), ro (.inv 8 (.t 7)), rM 9 8, rN 9 (.faddr 10 1 (.t 1)), rN 9 (.load 11 none (.t 10)), rN 9 (.callv 12 (.c (.one (.fn 38 []))) [(.t 11)]), rN 9 (.inv 13 (.t 12)), ro (.pick 14 (.t 9) (cB true) (.t 13)), rM 15 14, rN 15 (.faddr 16 2 (.t 1)), rN 15 (.load 17 none (.t 16)), rN 15 (.callv 18 (.c (.one (.fn 38 []))) [(.t 17)]), rN 15 (.inv 19 (.t 18)), ro (.pick 20 (.t 15) (cB true) (.t 19)), rM 21 20, rN 21 (.faddr 22 3 (.t 1)), rN 21 (.load 23 none (.t 22)), rN 21 (.callv 24 (.c (.one (.fn 39 []))) [(.t 23)]), rN 21 (.inv 25 (.t 24)), ro (.pick 26 (.t 21) (cB true) (.t 25)), rM 27 26, rN 27 (.faddr 28 4 (.t 1)), rN 27 (.load 29 none (.t 28)), rN 27 (.callv 30 (.c (.one (.fn 40 []))) [(.t 29)]), rN 27 (.inv 31 (.t 30)), ro (.pick 32 (.t 27) (cB true) (.t 31)), rM 33 32, rN 33 (.load 34 (some 9) (.t 1)), rN 33 (.callv 35 (.c (.one (.fn 41 []))) [(.t 34)]), rN 33 (.inv 36 (.t 35)), ro (.pick 37 (.t 33) (cB true) (.t 36)), rM 38 37, rN 38 (.faddr 39 6 (.t 1)), rN 38 (.load 40 none (.t 39)), rN 38 (.callv 41 (.c (.one (.fn 42 []))) [(.t 40)]), rN 38 (.inv 42 (.t 41)), ro (.pick 43 (.t 38) (cB true) (.t 42)), rM 44 43, rN 44 (.faddr 45 7 (.t 1)), rN 44 (.load 46 none (.t 45)), rN 44 (.callv 47 (.c (.one (.fn 42 []))) [(.t 46)]), rN 44 (.inv 48 (.t 47)), ro (.pick 49 (.t 44) (cB true) (.t 48)), rM 50 49, rN 50 (.faddr 51 8 (.t 1)), rN 50 (.load 52 none (.t 51)), rN 50 (.callv 53 (.c (.one (.fn 43 []))) [(.t 52), (c6 0), (c6 1000000)]), rN 50 (.inv 54 (.t 53)), ro (.pick 55 (.t 50) (cB true) (.t 54))]
abbrev r8_2 : List RO := [ro (.mov 2 (cB false))]
abbrev r8_3 : List RO := [rF 56 2 1, rL 57 56, ro (.mkfn 58 45 [(.t 1)]), ro (.callv 59 (.c (.one (.fn 44 []))) [(.t 57), (.t 58)]), rM 60 59, rN 60 (.faddr 61 3 (.t 1)), rN 60 (.load 62 none (.t 61)), rN 60 (.mkfn 63 48 [(.t 1)]), rN 60 (.callv 64 (.c (.one (.fn 47 []))) [(.t 62), (.t 63)]), ro (.pick 65 (.t 60) (cB true) (.t 64))]
abbrev r8_4 : List RO := [ro (.mov 2 (cB false))]
abbrev r8_5 : List RO := [rF 66 6 1, rL 67 66, rF 68 7 1, rL 69 68, ro (.bslice 70 1 [.zs, .zs] [(0, 1, (.t 67)), (1, 1, (.t 69))]), ro (.callv 71 (.c (.one (.fn 50 []))) [(.t 70)]), ro (.var 3 [.zs]), ro (.store 1 [(.sl 1 [])] (.t 3) (.t 71))]
abbrev r8_6 : List RO := [rF 72 4 1, rL 73 72, ro (.mkfn 74 52 [(.t 1), (.t 3)]), ro (.callv 75 (.c (.one (.fn 51 []))) [(.t 73), (.t 74)])]
abbrev r8_7 : List RO := [ro (.mov 2 (cB false))]
abbrev r8_8 : List RO := [rF 76 5 1, ⟨⟨none, .load 77 none (.t 76)⟩, 1, []⟩, ⟨⟨none, .callv 78 (.c (.one (.fn 55 []))) [(.t 77)]⟩, 3, []⟩, ⟨⟨none, .load 79 none (.t 3)⟩, 0, [78]⟩, ⟨⟨none, .app 80 1 8 [(.int .i64 0)] (.t 78) (.t 79)⟩, 15, []⟩, ⟨⟨none, .mov 4 (.t 80)⟩, 31, []⟩]
abbrev r8_9 : List RO := [rM 81 4, ro (.callv 82 (.c (.one (.fn 56 []))) [(.t 81)])]
abbrev r8_10 : List RO := [rM 83 4, ro (.callv 84 (.c (.one (.fn 58 []))) [(.t 83)]), ro (.callv 85 (.c (.one (.fn 57 []))) [(.t 84)]), ro (.len 86 false (.t 85)), rM 87 4, ro (.len 88 false (.t 87)), ro (.bin 89 .eql (.t 86) (.t 88)), rM 90 89, rT 90 (.load 91 (some 9) (.t 1)), rT 90 (.callv 92 (.c (.one (.fn 59 []))) [(.t 91)]), rT 90 (.bin 93 .leq (.t 92) (c6 60)), ro (.pick 94 (.t 90) (.t 93) (cB false)), rM 2 94]
def i8 : IC := (.seq (.reg r8_0) (.seq (.seq (.reg r8_1) (.cond (.t 55) (.seq (.reg r8_2) .ret) .skip)) (.seq (.seq (.reg r8_3) (.cond (.t 65) (.seq (.reg r8_4) .ret) .skip)) (.seq (.reg r8_5) (.seq (.seq (.reg r8_6) (.cond (.t 75) (.seq (.reg r8_7) .ret) .skip)) (.seq (.regd r8_8) (.seq (.reg r8_9) (.seq (.reg r8_10) .ret))))))))
theorem o8 : (Tryz.f8.body.bind fun c => toIC Tryz.prog 95 c [[(0, []), (1, []), (3, []), (0, [78]), (15, []), (31, [])]]) = some (i8, []) := by kernel_rfl
theorem f8 : FI Tryz.prog 95 i8 [.tmp 2] 8 := fi (by kernel_rfl) Tryz.func8 (by kernel_rfl) o8 (by kernel_rfl)
abbrev r13_0 : List RO := [ro (.var 4 [(dI 0), .zs, .zs, .zs, .zs, .zs, .zs, .zs, (dI 0)])]
abbrev r13_1 : List RO := [rM 6 0, rM 7 1, ro (.callv 8 (.c (.one (.fn 65 []))) [(.t 7)]), ro (.build 9 [(dI 0), .zs, .zs, .zs, .zs, .zs, .zs, .zs, (dI 0)] [(0, 1, (.t 6)), (1, 1, (.t 8))]), ro (.var 5 [(dI 0), .zs, .zs, .zs, .zs, .zs, .zs, .zs, (dI 0)]), ro (.store 9 [(.int .i64 0), (.sl 2 []), (.sl 2 []), (.sl 2 []), (.sl 4 []), (.sl 2 []), (.sl 1 []), (.sl 1 []), (.int .i64 0)] (.t 5) (.t 9))]
abbrev r13_2 : List RO := [ro (.load 10 (some 9) (.t 5)), ro (.callv 11 (.c (.one (.fn 8 []))) [(.t 10)]), ro (.inv 12 (.t 11))]
abbrev r13_3 : List RO := [ro (.build 13 [(dI 0), .zs, .zs, .zs, .zs, .zs, .zs, .zs, (dI 0)] []), ro (.store 9 [(.int .i64 0), (.sl 2 []), (.sl 2 []), (.sl 2 []), (.sl 4 []), (.sl 2 []), (.sl 1 []), (.sl 1 []), (.int .i64 0)] (.t 4) (.t 13))]
abbrev r13_4 : List RO := [ro (.load 14 (some 9) (.t 5)), ro (.store 9 [(.int .i64 0), (.sl 2 []), (.sl 2 []), (.sl 2 []), (.sl 4 []), (.sl 2 []), (.sl 1 []), (.sl 1 []), (.int .i64 0)] (.t 4) (.t 14))]
def i13 : IC := (.seq (.reg r13_0) (.seq (.reg r13_1) (.seq (.seq (.reg r13_2) (.cond (.t 12) (.seq (.reg r13_3) .ret) .skip)) (.seq (.reg r13_4) .ret))))
theorem o13 : (Tryz.f13.body.bind fun c => toIC Tryz.prog 15 c []) = some (i13, []) := by kernel_rfl
theorem f13 : FI Tryz.prog 15 i13 [.cell 4 (some 9)] 13 := fi (by kernel_rfl) Tryz.func13 (by kernel_rfl) o13 (by kernel_rfl)
abbrev r66_0 : List RO := [ro (.box 2 (.t 0)), ro (.box 3 (.t 1)), ro (.mov 4 (cB false))]
abbrev r66_1 : List RO := [rF 5 0 2, rL 6 5, rF 7 0 3, rL 8 7, ro (.bin 9 .neq (.t 6) (.t 8))]
abbrev r66_2 : List RO := [ro (.mov 4 (cB false))]
abbrev r66_3 : List RO := [rF 10 1 2, rL 11 10, rF 12 1 3, rL 13 12, ro (.bin 14 .neq (.t 11) (.t 13))]
abbrev r66_4 : List RO := [ro (.mov 4 (cB false))]
abbrev r66_5 : List RO := [ro (.mov 4 (cB true))]
def i66 : IC := (.seq (.reg r66_0) (.seq (.seq (.reg r66_1) (.cond (.t 9) (.seq (.reg r66_2) .ret) .skip)) (.seq (.seq (.reg r66_3) (.cond (.t 14) (.seq (.reg r66_4) .ret) .skip)) (.seq (.reg r66_5) .ret))))
theorem o66 : (Tryz.f66.body.bind fun c => toIC Tryz.prog 15 c []) = some (i66, []) := by kernel_rfl
theorem f66 : FI Tryz.prog 15 i66 [.tmp 4] 66 := fi (by kernel_rfl) Tryz.func66 (by kernel_rfl) o66 (by kernel_rfl)
abbrev r14_0 : List RO := [ro (.mov 4 (cB false))]
abbrev r14_1 : List RO := [rM 6 0, ro (.len 7 false (.t 6)), rM 8 1, ro (.len 9 false (.t 8)), ro (.bin 10 .neq (.t 7) (.t 9))]
abbrev r14_2 : List RO := [ro (.mov 4 (cB false))]
abbrev r14_3 : List RO := [ro (.mov 5 (c6 0))]
abbrev r14_4 : List RO := [rM 11 5, rM 12 0, ro (.len 13 false (.t 12)), ro (.bin 14 .lss (.t 11) (.t 13))]
abbrev r14_5 : List RO := [rM 17 0, rM 18 5, ⟨⟨none, .iaddr 19 2 (.t 17) (.t 18)⟩, 3, []⟩, ⟨⟨none, .load 20 (some 2) (.t 19)⟩, 7, []⟩, rM 21 1, rM 22 5, ⟨⟨none, .iaddr 23 2 (.t 21) (.t 22)⟩, 48, []⟩, ⟨⟨none, .load 24 (some 2) (.t 23)⟩, 112, []⟩, ⟨⟨none, .callv 25 (.c (.one (.fn 66 []))) [(.t 20), (.t 24)]⟩, 255, []⟩, ⟨⟨none, .inv 26 (.t 25)⟩, 511, []⟩]
abbrev r14_6 : List RO := [ro (.mov 4 (cB false))]
abbrev r14_7 : List RO := [rM 15 5, ro (.bin 16 .add (.t 15) (c6 1)), rM 5 16]
abbrev r14_8 : List RO := [ro (.mov 4 (cB true))]
def i14 : IC := (.seq (.reg r14_0) (.seq (.seq (.reg r14_1) (.cond (.t 10) (.seq (.reg r14_2) .ret) .skip)) (.seq (.seq (.reg r14_3) (.block 0 (.loop (.seq (.seq (.reg r14_4) (.cond (.t 14) .skip (.exit 0))) (.seq (.block 1 (.seq (.regd r14_5) (.cond (.t 26) (.seq (.reg r14_6) .ret) .skip))) (.reg r14_7)))))) (.seq (.reg r14_8) .ret))))
theorem o14 : (Tryz.f14.body.bind fun c => toIC Tryz.prog 27 c [[(0, []), (0, []), (3, []), (7, []), (0, []), (0, []), (48, []), (112, []), (255, []), (511, [])]]) = some (i14, []) := by kernel_rfl
theorem f14 : FI Tryz.prog 27 i14 [.tmp 4] 14 := fi (by kernel_rfl) Tryz.func14 (by kernel_rfl) o14 (by kernel_rfl)
abbrev r108_0 : List RO := [ro (.box 2 (.t 0)), ro (.box 3 (.t 1)), ro (.mov 4 (cB false))]
abbrev r108_1 : List RO := [rF 5 0 2, rL 6 5, rF 7 0 3, rL 8 7, ro (.bin 9 .neq (.t 6) (.t 8))]
abbrev r108_2 : List RO := [ro (.mov 4 (cB false))]
abbrev r108_3 : List RO := [rF 10 1 2, rL 11 10, rF 12 1 3, rL 13 12, ro (.bin 14 .neq (.t 11) (.t 13))]
abbrev r108_4 : List RO := [ro (.mov 4 (cB false))]
abbrev r108_5 : List RO := [ro (.mov 4 (cB true))]
def i108 : IC := (.seq (.reg r108_0) (.seq (.seq (.reg r108_1) (.cond (.t 9) (.seq (.reg r108_2) .ret) .skip)) (.seq (.seq (.reg r108_3) (.cond (.t 14) (.seq (.reg r108_4) .ret) .skip)) (.seq (.reg r108_5) .ret))))
theorem o108 : (Tryz.f108.body.bind fun c => toIC Tryz.prog 15 c []) = some (i108, []) := by kernel_rfl
theorem f108 : FI Tryz.prog 15 i108 [.tmp 4] 108 := fi (by kernel_rfl) Tryz.func108 (by kernel_rfl) o108 (by kernel_rfl)
abbrev r60_0 : List RO := [ro (.mov 4 (cB false))]
abbrev r60_1 : List RO := [rM 6 0, ro (.len 7 false (.t 6)), rM 8 1, ro (.len 9 false (.t 8)), ro (.bin 10 .neq (.t 7) (.t 9))]
abbrev r60_2 : List RO := [ro (.mov 4 (cB false))]
abbrev r60_3 : List RO := [ro (.mov 5 (c6 0))]
abbrev r60_4 : List RO := [rM 11 5, rM 12 0, ro (.len 13 false (.t 12)), ro (.bin 14 .lss (.t 11) (.t 13))]
abbrev r60_5 : List RO := [rM 17 0, rM 18 5, ⟨⟨none, .iaddr 19 2 (.t 17) (.t 18)⟩, 3, []⟩, ⟨⟨none, .load 20 (some 2) (.t 19)⟩, 7, []⟩, rM 21 1, rM 22 5, ⟨⟨none, .iaddr 23 2 (.t 21) (.t 22)⟩, 48, []⟩, ⟨⟨none, .load 24 (some 2) (.t 23)⟩, 112, []⟩, ⟨⟨none, .callv 25 (.c (.one (.fn 108 []))) [(.t 20), (.t 24)]⟩, 255, []⟩, ⟨⟨none, .inv 26 (.t 25)⟩, 511, []⟩]
abbrev r60_6 : List RO := [ro (.mov 4 (cB false))]
abbrev r60_7 : List RO := [rM 15 5, ro (.bin 16 .add (.t 15) (c6 1)), rM 5 16]
abbrev r60_8 : List RO := [ro (.mov 4 (cB true))]
def i60 : IC := (.seq (.reg r60_0) (.seq (.seq (.reg r60_1) (.cond (.t 10) (.seq (.reg r60_2) .ret) .skip)) (.seq (.seq (.reg r60_3) (.block 0 (.loop (.seq (.seq (.reg r60_4) (.cond (.t 14) .skip (.exit 0))) (.seq (.block 1 (.seq (.regd r60_5) (.cond (.t 26) (.seq (.reg r60_6) .ret) .skip))) (.reg r60_7)))))) (.seq (.reg r60_8) .ret))))
theorem o60 : (Tryz.f60.body.bind fun c => toIC Tryz.prog 27 c [[(0, []), (0, []), (3, []), (7, []), (0, []), (0, []), (48, []), (112, []), (255, []), (511, [])]]) = some (i60, []) := by kernel_rfl
theorem f60 : FI Tryz.prog 27 i60 [.tmp 4] 60 := fi (by kernel_rfl) Tryz.func60 (by kernel_rfl) o60 (by kernel_rfl)
abbrev r109_0 : List RO := [ro (.box 2 (.t 0)), ro (.box 3 (.t 1)), ro (.mov 4 (cB false))]
abbrev r109_1 : List RO := [rF 5 0 2, rL 6 5, rF 7 0 3, rL 8 7, ro (.bin 9 .neq (.t 6) (.t 8))]
abbrev r109_2 : List RO := [ro (.mov 4 (cB false))]
abbrev r109_3 : List RO := [rF 10 1 2, rL 11 10, rF 12 1 3, rL 13 12, ro (.bin 14 .neq (.t 11) (.t 13))]
abbrev r109_4 : List RO := [ro (.mov 4 (cB false))]
abbrev r109_5 : List RO := [rF 15 2 2, rL 16 15, rF 17 2 3, rL 18 17, ro (.bin 19 .neq (.t 16) (.t 18))]
abbrev r109_6 : List RO := [ro (.mov 4 (cB false))]
abbrev r109_7 : List RO := [rF 20 3 2, rL 21 20, rF 22 3 3, rL 23 22, ro (.bin 24 .neq (.t 21) (.t 23))]
abbrev r109_8 : List RO := [ro (.mov 4 (cB false))]
abbrev r109_9 : List RO := [ro (.mov 4 (cB true))]
def i109 : IC := (.seq (.reg r109_0) (.seq (.seq (.reg r109_1) (.cond (.t 9) (.seq (.reg r109_2) .ret) .skip)) (.seq (.seq (.reg r109_3) (.cond (.t 14) (.seq (.reg r109_4) .ret) .skip)) (.seq (.seq (.reg r109_5) (.cond (.t 19) (.seq (.reg r109_6) .ret) .skip)) (.seq (.seq (.reg r109_7) (.cond (.t 24) (.seq (.reg r109_8) .ret) .skip)) (.seq (.reg r109_9) .ret))))))
theorem o109 : (Tryz.f109.body.bind fun c => toIC Tryz.prog 25 c []) = some (i109, []) := by kernel_rfl
theorem f109 : FI Tryz.prog 25 i109 [.tmp 4] 109 := fi (by kernel_rfl) Tryz.func109 (by kernel_rfl) o109 (by kernel_rfl)
abbrev r61_0 : List RO := [ro (.mov 4 (cB false))]
abbrev r61_1 : List RO := [rM 6 0, ro (.len 7 false (.t 6)), rM 8 1, ro (.len 9 false (.t 8)), ro (.bin 10 .neq (.t 7) (.t 9))]
abbrev r61_2 : List RO := [ro (.mov 4 (cB false))]
abbrev r61_3 : List RO := [ro (.mov 5 (c6 0))]
abbrev r61_4 : List RO := [rM 11 5, rM 12 0, ro (.len 13 false (.t 12)), ro (.bin 14 .lss (.t 11) (.t 13))]
abbrev r61_5 : List RO := [rM 17 0, rM 18 5, ⟨⟨none, .iaddr 19 4 (.t 17) (.t 18)⟩, 3, []⟩, ⟨⟨none, .load 20 (some 4) (.t 19)⟩, 7, []⟩, rM 21 1, rM 22 5, ⟨⟨none, .iaddr 23 4 (.t 21) (.t 22)⟩, 48, []⟩, ⟨⟨none, .load 24 (some 4) (.t 23)⟩, 112, []⟩, ⟨⟨none, .callv 25 (.c (.one (.fn 109 []))) [(.t 20), (.t 24)]⟩, 255, []⟩, ⟨⟨none, .inv 26 (.t 25)⟩, 511, []⟩]
abbrev r61_6 : List RO := [ro (.mov 4 (cB false))]
abbrev r61_7 : List RO := [rM 15 5, ro (.bin 16 .add (.t 15) (c6 1)), rM 5 16]
abbrev r61_8 : List RO := [ro (.mov 4 (cB true))]
def i61 : IC := (.seq (.reg r61_0) (.seq (.seq (.reg r61_1) (.cond (.t 10) (.seq (.reg r61_2) .ret) .skip)) (.seq (.seq (.reg r61_3) (.block 0 (.loop (.seq (.seq (.reg r61_4) (.cond (.t 14) .skip (.exit 0))) (.seq (.block 1 (.seq (.regd r61_5) (.cond (.t 26) (.seq (.reg r61_6) .ret) .skip))) (.reg r61_7)))))) (.seq (.reg r61_8) .ret))))
theorem o61 : (Tryz.f61.body.bind fun c => toIC Tryz.prog 27 c [[(0, []), (0, []), (3, []), (7, []), (0, []), (0, []), (48, []), (112, []), (255, []), (511, [])]]) = some (i61, []) := by kernel_rfl
theorem f61 : FI Tryz.prog 27 i61 [.tmp 4] 61 := fi (by kernel_rfl) Tryz.func61 (by kernel_rfl) o61 (by kernel_rfl)
abbrev r145_0 : List RO := [ro (.box 2 (.t 0)), ro (.box 3 (.t 1)), ro (.mov 4 (cB false))]
abbrev r145_1 : List RO := [rF 5 0 2, rL 6 5, rF 7 0 3, rL 8 7, ro (.bin 9 .neq (.t 6) (.t 8))]
abbrev r145_2 : List RO := [ro (.mov 4 (cB false))]
abbrev r145_3 : List RO := [rF 10 1 2, rL 11 10, rF 12 1 3, rL 13 12, ro (.bin 14 .neq (.t 11) (.t 13))]
abbrev r145_4 : List RO := [ro (.mov 4 (cB false))]
abbrev r145_5 : List RO := [ro (.mov 4 (cB true))]
def i145 : IC := (.seq (.reg r145_0) (.seq (.seq (.reg r145_1) (.cond (.t 9) (.seq (.reg r145_2) .ret) .skip)) (.seq (.seq (.reg r145_3) (.cond (.t 14) (.seq (.reg r145_4) .ret) .skip)) (.seq (.reg r145_5) .ret))))
theorem o145 : (Tryz.f145.body.bind fun c => toIC Tryz.prog 15 c []) = some (i145, []) := by kernel_rfl
theorem f145 : FI Tryz.prog 15 i145 [.tmp 4] 145 := fi (by kernel_rfl) Tryz.func145 (by kernel_rfl) o145 (by kernel_rfl)
abbrev r134_0 : List RO := [ro (.mov 4 (cB false))]
abbrev r134_1 : List RO := [rM 6 0, ro (.len 7 false (.t 6)), rM 8 1, ro (.len 9 false (.t 8)), ro (.bin 10 .neq (.t 7) (.t 9))]
abbrev r134_2 : List RO := [ro (.mov 4 (cB false))]
abbrev r134_3 : List RO := [ro (.mov 5 (c6 0))]
abbrev r134_4 : List RO := [rM 11 5, rM 12 0, ro (.len 13 false (.t 12)), ro (.bin 14 .lss (.t 11) (.t 13))]
abbrev r134_5 : List RO := [rM 17 0, rM 18 5, ⟨⟨none, .iaddr 19 2 (.t 17) (.t 18)⟩, 3, []⟩, ⟨⟨none, .load 20 (some 2) (.t 19)⟩, 7, []⟩, rM 21 1, rM 22 5, ⟨⟨none, .iaddr 23 2 (.t 21) (.t 22)⟩, 48, []⟩, ⟨⟨none, .load 24 (some 2) (.t 23)⟩, 112, []⟩, ⟨⟨none, .callv 25 (.c (.one (.fn 145 []))) [(.t 20), (.t 24)]⟩, 255, []⟩, ⟨⟨none, .inv 26 (.t 25)⟩, 511, []⟩]
abbrev r134_6 : List RO := [ro (.mov 4 (cB false))]
abbrev r134_7 : List RO := [rM 15 5, ro (.bin 16 .add (.t 15) (c6 1)), rM 5 16]
abbrev r134_8 : List RO := [ro (.mov 4 (cB true))]
def i134 : IC := (.seq (.reg r134_0) (.seq (.seq (.reg r134_1) (.cond (.t 10) (.seq (.reg r134_2) .ret) .skip)) (.seq (.seq (.reg r134_3) (.block 0 (.loop (.seq (.seq (.reg r134_4) (.cond (.t 14) .skip (.exit 0))) (.seq (.block 1 (.seq (.regd r134_5) (.cond (.t 26) (.seq (.reg r134_6) .ret) .skip))) (.reg r134_7)))))) (.seq (.reg r134_8) .ret))))
theorem o134 : (Tryz.f134.body.bind fun c => toIC Tryz.prog 27 c [[(0, []), (0, []), (3, []), (7, []), (0, []), (0, []), (48, []), (112, []), (255, []), (511, [])]]) = some (i134, []) := by kernel_rfl
theorem f134 : FI Tryz.prog 27 i134 [.tmp 4] 134 := fi (by kernel_rfl) Tryz.func134 (by kernel_rfl) o134 (by kernel_rfl)
abbrev r110_0 : List RO := [ro (.box 2 (.t 0)), ro (.box 3 (.t 1)), ro (.mov 4 (cB false))]
abbrev r110_1 : List RO := [rF 5 0 2, rL 6 5, rF 7 0 3, rL 8 7, ro (.bin 9 .neq (.t 6) (.t 8))]
abbrev r110_2 : List RO := [ro (.mov 4 (cB false))]
abbrev r110_3 : List RO := [rF 10 1 2, rL 11 10, rF 12 1 3, rL 13 12, ro (.callv 14 (.c (.one (.fn 134 []))) [(.t 11), (.t 13)]), ro (.inv 15 (.t 14))]
abbrev r110_4 : List RO := [ro (.mov 4 (cB false))]
abbrev r110_5 : List RO := [ro (.mov 4 (cB true))]
def i110 : IC := (.seq (.reg r110_0) (.seq (.seq (.reg r110_1) (.cond (.t 9) (.seq (.reg r110_2) .ret) .skip)) (.seq (.seq (.reg r110_3) (.cond (.t 15) (.seq (.reg r110_4) .ret) .skip)) (.seq (.reg r110_5) .ret))))
theorem o110 : (Tryz.f110.body.bind fun c => toIC Tryz.prog 16 c []) = some (i110, []) := by kernel_rfl
theorem f110 : FI Tryz.prog 16 i110 [.tmp 4] 110 := fi (by kernel_rfl) Tryz.func110 (by kernel_rfl) o110 (by kernel_rfl)
abbrev r62_0 : List RO := [ro (.mov 4 (cB false))]
abbrev r62_1 : List RO := [rM 6 0, ro (.len 7 false (.t 6)), rM 8 1, ro (.len 9 false (.t 8)), ro (.bin 10 .neq (.t 7) (.t 9))]
abbrev r62_2 : List RO := [ro (.mov 4 (cB false))]
abbrev r62_3 : List RO := [ro (.mov 5 (c6 0))]
abbrev r62_4 : List RO := [rM 11 5, rM 12 0, ro (.len 13 false (.t 12)), ro (.bin 14 .lss (.t 11) (.t 13))]
abbrev r62_5 : List RO := [rM 17 0, rM 18 5, ⟨⟨none, .iaddr 19 2 (.t 17) (.t 18)⟩, 3, []⟩, ⟨⟨none, .load 20 (some 2) (.t 19)⟩, 7, []⟩, rM 21 1, rM 22 5, ⟨⟨none, .iaddr 23 2 (.t 21) (.t 22)⟩, 48, []⟩, ⟨⟨none, .load 24 (some 2) (.t 23)⟩, 112, []⟩, ⟨⟨none, .callv 25 (.c (.one (.fn 110 []))) [(.t 20), (.t 24)]⟩, 255, []⟩, ⟨⟨none, .inv 26 (.t 25)⟩, 511, []⟩]
abbrev r62_6 : List RO := [ro (.mov 4 (cB false))]
abbrev r62_7 : List RO := [rM 15 5, ro (.bin 16 .add (.t 15) (c6 1)), rM 5 16]
abbrev r62_8 : List RO := [ro (.mov 4 (cB true))]
def i62 : IC := (.seq (.reg r62_0) (.seq (.seq (.reg r62_1) (.cond (.t 10) (.seq (.reg r62_2) .ret) .skip)) (.seq (.seq (.reg r62_3) (.block 0 (.loop (.seq (.seq (.reg r62_4) (.cond (.t 14) .skip (.exit 0))) (.seq (.block 1 (.seq (.regd r62_5) (.cond (.t 26) (.seq (.reg r62_6) .ret) .skip))) (.reg r62_7)))))) (.seq (.reg r62_8) .ret))))
theorem o62 : (Tryz.f62.body.bind fun c => toIC Tryz.prog 27 c [[(0, []), (0, []), (3, []), (7, []), (0, []), (0, []), (48, []), (112, []), (255, []), (511, [])]]) = some (i62, []) := by kernel_rfl
theorem f62 : FI Tryz.prog 27 i62 [.tmp 4] 62 := fi (by kernel_rfl) Tryz.func62 (by kernel_rfl) o62 (by kernel_rfl)
abbrev r63_0 : List RO := [ro (.mov 4 (cB false))]
abbrev r63_1 : List RO := [rM 6 0, ro (.len 7 false (.t 6)), rM 8 1, ro (.len 9 false (.t 8)), ro (.bin 10 .neq (.t 7) (.t 9))]
abbrev r63_2 : List RO := [ro (.mov 4 (cB false))]
abbrev r63_3 : List RO := [ro (.mov 5 (c6 0))]
abbrev r63_4 : List RO := [rM 11 5, rM 12 0, ro (.len 13 false (.t 12)), ro (.bin 14 .lss (.t 11) (.t 13))]
abbrev r63_5 : List RO := [rM 17 0, rM 18 5, ⟨⟨none, .iaddr 19 1 (.t 17) (.t 18)⟩, 3, []⟩, ⟨⟨none, .load 20 none (.t 19)⟩, 7, []⟩, rM 21 1, rM 22 5, ⟨⟨none, .iaddr 23 1 (.t 21) (.t 22)⟩, 48, []⟩, ⟨⟨none, .load 24 none (.t 23)⟩, 112, []⟩, ⟨⟨none, .bin 25 .neq (.t 20) (.t 24)⟩, 255, []⟩]
abbrev r63_6 : List RO := [ro (.mov 4 (cB false))]
abbrev r63_7 : List RO := [rM 15 5, ro (.bin 16 .add (.t 15) (c6 1)), rM 5 16]
abbrev r63_8 : List RO := [ro (.mov 4 (cB true))]
def i63 : IC := (.seq (.reg r63_0) (.seq (.seq (.reg r63_1) (.cond (.t 10) (.seq (.reg r63_2) .ret) .skip)) (.seq (.seq (.reg r63_3) (.block 0 (.loop (.seq (.seq (.reg r63_4) (.cond (.t 14) .skip (.exit 0))) (.seq (.block 1 (.seq (.regd r63_5) (.cond (.t 25) (.seq (.reg r63_6) .ret) .skip))) (.reg r63_7)))))) (.seq (.reg r63_8) .ret))))
theorem o63 : (Tryz.f63.body.bind fun c => toIC Tryz.prog 26 c [[(0, []), (0, []), (3, []), (7, []), (0, []), (0, []), (48, []), (112, []), (255, [])]]) = some (i63, []) := by kernel_rfl
theorem f63 : FI Tryz.prog 26 i63 [.tmp 4] 63 := fi (by kernel_rfl) Tryz.func63 (by kernel_rfl) o63 (by kernel_rfl)
abbrev r9_0 : List RO := [ro (.box 2 (.t 0)), ro (.box 3 (.t 1)), ro (.mov 4 (cB false))]
abbrev r9_1 : List RO := [rF 5 0 2, rL 6 5, rF 7 0 3, rL 8 7, ro (.bin 9 .neq (.t 6) (.t 8))]
abbrev r9_2 : List RO := [ro (.mov 4 (cB false))]
abbrev r9_3 : List RO := [rF 10 1 2, rL 11 10, rF 12 1 3, rL 13 12, ro (.callv 14 (.c (.one (.fn 14 []))) [(.t 11), (.t 13)]), ro (.inv 15 (.t 14))]
abbrev r9_4 : List RO := [ro (.mov 4 (cB false))]
abbrev r9_5 : List RO := [rF 16 2 2, rL 17 16, rF 18 2 3, rL 19 18, ro (.callv 20 (.c (.one (.fn 14 []))) [(.t 17), (.t 19)]), ro (.inv 21 (.t 20))]
abbrev r9_6 : List RO := [ro (.mov 4 (cB false))]
abbrev r9_7 : List RO := [rF 22 3 2, rL 23 22, rF 24 3 3, rL 25 24, ro (.callv 26 (.c (.one (.fn 60 []))) [(.t 23), (.t 25)]), ro (.inv 27 (.t 26))]
abbrev r9_8 : List RO := [ro (.mov 4 (cB false))]
abbrev r9_9 : List RO := [rF 28 4 2, rL 29 28, rF 30 4 3, rL 31 30, ro (.callv 32 (.c (.one (.fn 61 []))) [(.t 29), (.t 31)]), ro (.inv 33 (.t 32))]
abbrev r9_10 : List RO := [ro (.mov 4 (cB false))]
abbrev r9_11 : List RO := [rF 34 5 2, rL 35 34, rF 36 5 3, rL 37 36, ro (.callv 38 (.c (.one (.fn 62 []))) [(.t 35), (.t 37)]), ro (.inv 39 (.t 38))]
abbrev r9_12 : List RO := [ro (.mov 4 (cB false))]
abbrev r9_13 : List RO := [rF 40 6 2, rL 41 40, rF 42 6 3, rL 43 42, ro (.callv 44 (.c (.one (.fn 63 []))) [(.t 41), (.t 43)]), ro (.inv 45 (.t 44))]
abbrev r9_14 : List RO := [ro (.mov 4 (cB false))]
abbrev r9_15 : List RO := [rF 46 7 2, rL 47 46, rF 48 7 3, rL 49 48, ro (.callv 50 (.c (.one (.fn 63 []))) [(.t 47), (.t 49)]), ro (.inv 51 (.t 50))]
abbrev r9_16 : List RO := [ro (.mov 4 (cB false))]
abbrev r9_17 : List RO := [rF 52 8 2, rL 53 52, rF 54 8 3, rL 55 54, ro (.bin 56 .neq (.t 53) (.t 55))]
abbrev r9_18 : List RO := [ro (.mov 4 (cB false))]
abbrev r9_19 : List RO := [ro (.mov 4 (cB true))]
def i9 : IC := (.seq (.reg r9_0) (.seq (.seq (.reg r9_1) (.cond (.t 9) (.seq (.reg r9_2) .ret) .skip)) (.seq (.seq (.reg r9_3) (.cond (.t 15) (.seq (.reg r9_4) .ret) .skip)) (.seq (.seq (.reg r9_5) (.cond (.t 21) (.seq (.reg r9_6) .ret) .skip)) (.seq (.seq (.reg r9_7) (.cond (.t 27) (.seq (.reg r9_8) .ret) .skip)) (.seq (.seq (.reg r9_9) (.cond (.t 33) (.seq (.reg r9_10) .ret) .skip)) (.seq (.seq (.reg r9_11) (.cond (.t 39) (.seq (.reg r9_12) .ret) .skip)) (.seq (.seq (.reg r9_13) (.cond (.t 45) (.seq (.reg r9_14) .ret) .skip)) (.seq (.seq (.reg r9_15) (.cond (.t 51) (.seq (.reg r9_16) .ret) .skip)) (.seq (.seq (.reg r9_17) (.cond (.t 56) (.seq (.reg r9_18) .ret) .skip)) (.seq (.reg r9_19) .ret)))))))))))
theorem o9 : (Tryz.f9.body.bind fun c => toIC Tryz.prog 57 c []) = some (i9, []) := by kernel_rfl
theorem f9 : FI Tryz.prog 57 i9 [.tmp 4] 9 := fi (by kernel_rfl) Tryz.func9 (by kernel_rfl) o9 (by kernel_rfl)
abbrev r15_0 : List RO := [ro (.mov 4 (c6 0))]
abbrev r15_1 : List RO := [ro (.mov 5 (c6 0))]
abbrev r15_2 : List RO := [rM 6 5, rM 7 0, ro (.len 8 false (.t 7)), ro (.bin 9 .lss (.t 6) (.t 8))]
abbrev r15_3 : List RO := [rM 12 0, rM 13 5, rM 14 1, ro (.iaddr 15 2 (.t 12) (.t 13)), rF 16 0 15, ro (.store 1 [(.int .i64 0)] (.t 16) (.t 14))]
abbrev r15_4 : List RO := [rM 17 1, ro (.bin 18 .add (.t 17) (c6 1)), rM 1 18]
abbrev r15_5 : List RO := [rM 19 0, rM 20 5, rM 21 1, ro (.iaddr 22 2 (.t 19) (.t 20)), rF 23 1 22, ro (.store 1 [(.int .i64 0)] (.t 23) (.t 21))]
abbrev r15_6 : List RO := [rM 24 1, ro (.bin 25 .add (.t 24) (c6 1)), rM 1 25]
abbrev r15_7 : List RO := [rM 10 5, ro (.bin 11 .add (.t 10) (c6 1)), rM 5 11]
abbrev r15_8 : List RO := [rM 26 1, rM 4 26]
def i15 : IC := (.seq (.reg r15_0) (.seq (.seq (.reg r15_1) (.block 0 (.loop (.seq (.seq (.reg r15_2) (.cond (.t 9) .skip (.exit 0))) (.seq (.block 1 (.seq (.reg r15_3) (.seq (.reg r15_4) (.seq (.reg r15_5) (.reg r15_6))))) (.reg r15_7)))))) (.seq (.reg r15_8) .ret)))
theorem o15 : (Tryz.f15.body.bind fun c => toIC Tryz.prog 27 c []) = some (i15, []) := by kernel_rfl
theorem m15 {ars : List Ar} {rs : List D} (hle : ars.length ≤ 27) (hfr : freshL ⟨fun _ => .top, fun _ => none, fun _ => .top⟩ ((argB 0 ars).2.map (·.1))) (hlt : ((argB 0 ars).2.map (·.1)).all (fun n => Nat.ble n 1999999) = true) (h : AW Tryz.prog 27 i15 (EndsM ars [.tmp 4] rs) (initM ars)) : Fn Tryz.prog 15 ars true rs :=
  Fn.introM' (by kernel_rfl) Tryz.func15 (by kernel_rfl) o15 (by kernel_rfl) hle hfr hlt h.h
abbrev r67_0 : List RO := [ro (.mov 4 (c6 0))]
abbrev r67_1 : List RO := [ro (.mov 5 (c6 0))]
abbrev r67_2 : List RO := [rM 6 5, rM 7 0, ro (.len 8 false (.t 7)), ro (.bin 9 .lss (.t 6) (.t 8))]
abbrev r67_3 : List RO := [rM 12 0, rM 13 5, rM 14 1, ro (.iaddr 15 2 (.t 12) (.t 13)), rF 16 0 15, ro (.store 1 [(.int .i64 0)] (.t 16) (.t 14))]
abbrev r67_4 : List RO := [rM 17 1, ro (.bin 18 .add (.t 17) (c6 1)), rM 1 18]
abbrev r67_5 : List RO := [rM 19 0, rM 20 5, rM 21 1, ro (.iaddr 22 2 (.t 19) (.t 20)), rF 23 1 22, ro (.store 1 [(.int .i64 0)] (.t 23) (.t 21))]
abbrev r67_6 : List RO := [rM 24 1, ro (.bin 25 .add (.t 24) (c6 1)), rM 1 25]
abbrev r67_7 : List RO := [rM 10 5, ro (.bin 11 .add (.t 10) (c6 1)), rM 5 11]
abbrev r67_8 : List RO := [rM 26 1, rM 4 26]
def i67 : IC := (.seq (.reg r67_0) (.seq (.seq (.reg r67_1) (.block 0 (.loop (.seq (.seq (.reg r67_2) (.cond (.t 9) .skip (.exit 0))) (.seq (.block 1 (.seq (.reg r67_3) (.seq (.reg r67_4) (.seq (.reg r67_5) (.reg r67_6))))) (.reg r67_7)))))) (.seq (.reg r67_8) .ret)))
theorem o67 : (Tryz.f67.body.bind fun c => toIC Tryz.prog 27 c []) = some (i67, []) := by kernel_rfl
theorem m67 {ars : List Ar} {rs : List D} (hle : ars.length ≤ 27) (hfr : freshL ⟨fun _ => .top, fun _ => none, fun _ => .top⟩ ((argB 0 ars).2.map (·.1))) (hlt : ((argB 0 ars).2.map (·.1)).all (fun n => Nat.ble n 1999999) = true) (h : AW Tryz.prog 27 i67 (EndsM ars [.tmp 4] rs) (initM ars)) : Fn Tryz.prog 67 ars true rs :=
  Fn.introM' (by kernel_rfl) Tryz.func67 (by kernel_rfl) o67 (by kernel_rfl) hle hfr hlt h.h
abbrev r68_0 : List RO := [ro (.mov 4 (c6 0))]
abbrev r68_1 : List RO := [ro (.mov 5 (c6 0))]
abbrev r68_2 : List RO := [rM 6 5, rM 7 0, ro (.len 8 false (.t 7)), ro (.bin 9 .lss (.t 6) (.t 8))]
abbrev r68_3 : List RO := [rM 12 0, rM 13 5, rM 14 1, ro (.iaddr 15 4 (.t 12) (.t 13)), rF 16 0 15, ro (.store 1 [(.int .i64 0)] (.t 16) (.t 14))]
abbrev r68_4 : List RO := [rM 17 1, ro (.bin 18 .add (.t 17) (c6 1)), rM 1 18]
abbrev r68_5 : List RO := [rM 19 0, rM 20 5, rM 21 1, ro (.iaddr 22 4 (.t 19) (.t 20)), rF 23 1 22, ro (.store 1 [(.int .i64 0)] (.t 23) (.t 21))]
abbrev r68_6 : List RO := [rM 24 1, ro (.bin 25 .add (.t 24) (c6 1)), rM 1 25]
abbrev r68_7 : List RO := [rM 26 0, rM 27 5, rM 28 1, ro (.iaddr 29 4 (.t 26) (.t 27)), rF 30 2 29, ro (.store 1 [(.int .i64 0)] (.t 30) (.t 28))]
abbrev r68_8 : List RO := [rM 31 1, ro (.bin 32 .add (.t 31) (c6 1)), rM 1 32]
abbrev r68_9 : List RO := [rM 33 0, rM 34 5, rM 35 1, ro (.iaddr 36 4 (.t 33) (.t 34)), rF 37 3 36, ro (.store 1 [(.int .i64 0)] (.t 37) (.t 35))]
abbrev r68_10 : List RO := [rM 38 1, ro (.bin 39 .add (.t 38) (c6 1)), rM 1 39]
abbrev r68_11 : List RO := [rM 10 5, ro (.bin 11 .add (.t 10) (c6 1)), rM 5 11]
abbrev r68_12 : List RO := [rM 40 1, rM 4 40]
def i68 : IC := (.seq (.reg r68_0) (.seq (.seq (.reg r68_1) (.block 0 (.loop (.seq (.seq (.reg r68_2) (.cond (.t 9) .skip (.exit 0))) (.seq (.block 1 (.seq (.reg r68_3) (.seq (.reg r68_4) (.seq (.reg r68_5) (.seq (.reg r68_6) (.seq (.reg r68_7) (.seq (.reg r68_8) (.seq (.reg r68_9) (.reg r68_10))))))))) (.reg r68_11)))))) (.seq (.reg r68_12) .ret)))
theorem o68 : (Tryz.f68.body.bind fun c => toIC Tryz.prog 41 c []) = some (i68, []) := by kernel_rfl
theorem m68 {ars : List Ar} {rs : List D} (hle : ars.length ≤ 41) (hfr : freshL ⟨fun _ => .top, fun _ => none, fun _ => .top⟩ ((argB 0 ars).2.map (·.1))) (hlt : ((argB 0 ars).2.map (·.1)).all (fun n => Nat.ble n 1999999) = true) (h : AW Tryz.prog 41 i68 (EndsM ars [.tmp 4] rs) (initM ars)) : Fn Tryz.prog 68 ars true rs :=
  Fn.introM' (by kernel_rfl) Tryz.func68 (by kernel_rfl) o68 (by kernel_rfl) hle hfr hlt h.h
abbrev r111_0 : List RO := [ro (.mov 4 (c6 0))]
abbrev r111_1 : List RO := [ro (.mov 5 (c6 0))]
abbrev r111_2 : List RO := [rM 6 5, rM 7 0, ro (.len 8 false (.t 7)), ro (.bin 9 .lss (.t 6) (.t 8))]
abbrev r111_3 : List RO := [rM 12 0, rM 13 5, rM 14 1, ro (.iaddr 15 2 (.t 12) (.t 13)), rF 16 0 15, ro (.store 1 [(.int .i64 0)] (.t 16) (.t 14))]
abbrev r111_4 : List RO := [rM 17 1, ro (.bin 18 .add (.t 17) (c6 1)), rM 1 18]
abbrev r111_5 : List RO := [rM 19 0, rM 20 5, rM 21 1, ro (.iaddr 22 2 (.t 19) (.t 20)), rF 23 1 22, ro (.store 1 [(.int .i64 0)] (.t 23) (.t 21))]
abbrev r111_6 : List RO := [rM 24 1, ro (.bin 25 .add (.t 24) (c6 1)), rM 1 25]
abbrev r111_7 : List RO := [rM 10 5, ro (.bin 11 .add (.t 10) (c6 1)), rM 5 11]
abbrev r111_8 : List RO := [rM 26 1, rM 4 26]
def i111 : IC := (.seq (.reg r111_0) (.seq (.seq (.reg r111_1) (.block 0 (.loop (.seq (.seq (.reg r111_2) (.cond (.t 9) .skip (.exit 0))) (.seq (.block 1 (.seq (.reg r111_3) (.seq (.reg r111_4) (.seq (.reg r111_5) (.reg r111_6))))) (.reg r111_7)))))) (.seq (.reg r111_8) .ret)))
theorem o111 : (Tryz.f111.body.bind fun c => toIC Tryz.prog 27 c []) = some (i111, []) := by kernel_rfl
theorem m111 {ars : List Ar} {rs : List D} (hle : ars.length ≤ 27) (hfr : freshL ⟨fun _ => .top, fun _ => none, fun _ => .top⟩ ((argB 0 ars).2.map (·.1))) (hlt : ((argB 0 ars).2.map (·.1)).all (fun n => Nat.ble n 1999999) = true) (h : AW Tryz.prog 27 i111 (EndsM ars [.tmp 4] rs) (initM ars)) : Fn Tryz.prog 111 ars true rs :=
  Fn.introM' (by kernel_rfl) Tryz.func111 (by kernel_rfl) o111 (by kernel_rfl) hle hfr hlt h.h
abbrev r69_0 : List RO := [ro (.mov 4 (c6 0))]
abbrev r69_1 : List RO := [ro (.mov 5 (c6 0))]
abbrev r69_2 : List RO := [rM 6 5, rM 7 0, ro (.len 8 false (.t 7)), ro (.bin 9 .lss (.t 6) (.t 8))]
abbrev r69_3 : List RO := [rM 12 0, rM 13 5, rM 14 1, ro (.iaddr 15 2 (.t 12) (.t 13)), rF 16 0 15, ro (.store 1 [(.int .i64 0)] (.t 16) (.t 14))]
abbrev r69_4 : List RO := [rM 17 1, ro (.bin 18 .add (.t 17) (c6 1)), rM 1 18]
abbrev r69_5 : List RO := [rM 19 0, rM 20 5, ro (.iaddr 21 2 (.t 19) (.t 20)), rF 22 1 21, rL 23 22, rM 24 1, ro (.callv 25 (.c (.one (.fn 111 []))) [(.t 23), (.t 24)]), rM 1 25]
abbrev r69_6 : List RO := [rM 10 5, ro (.bin 11 .add (.t 10) (c6 1)), rM 5 11]
abbrev r69_7 : List RO := [rM 26 1, rM 4 26]
def i69 : IC := (.seq (.reg r69_0) (.seq (.seq (.reg r69_1) (.block 0 (.loop (.seq (.seq (.reg r69_2) (.cond (.t 9) .skip (.exit 0))) (.seq (.block 1 (.seq (.reg r69_3) (.seq (.reg r69_4) (.reg r69_5)))) (.reg r69_6)))))) (.seq (.reg r69_7) .ret)))
theorem o69 : (Tryz.f69.body.bind fun c => toIC Tryz.prog 27 c []) = some (i69, []) := by kernel_rfl
theorem m69 {ars : List Ar} {rs : List D} (hle : ars.length ≤ 27) (hfr : freshL ⟨fun _ => .top, fun _ => none, fun _ => .top⟩ ((argB 0 ars).2.map (·.1))) (hlt : ((argB 0 ars).2.map (·.1)).all (fun n => Nat.ble n 1999999) = true) (h : AW Tryz.prog 27 i69 (EndsM ars [.tmp 4] rs) (initM ars)) : Fn Tryz.prog 69 ars true rs :=
  Fn.introM' (by kernel_rfl) Tryz.func69 (by kernel_rfl) o69 (by kernel_rfl) hle hfr hlt h.h
abbrev r70_0 : List RO := [ro (.mov 4 (c6 0))]
abbrev r70_1 : List RO := [ro (.mov 5 (c6 0))]
abbrev r70_2 : List RO := [rM 6 5, rM 7 0, ro (.len 8 false (.t 7)), ro (.bin 9 .lss (.t 6) (.t 8))]
abbrev r70_3 : List RO := [rM 12 0, rM 13 5, rM 14 1, ro (.iaddr 15 1 (.t 12) (.t 13)), ro (.store 1 [(.int .i64 0)] (.t 15) (.t 14))]
abbrev r70_4 : List RO := [rM 16 1, ro (.bin 17 .add (.t 16) (c6 1)), rM 1 17]
abbrev r70_5 : List RO := [rM 10 5, ro (.bin 11 .add (.t 10) (c6 1)), rM 5 11]
abbrev r70_6 : List RO := [rM 18 1, rM 4 18]
def i70 : IC := (.seq (.reg r70_0) (.seq (.seq (.reg r70_1) (.block 0 (.loop (.seq (.seq (.reg r70_2) (.cond (.t 9) .skip (.exit 0))) (.seq (.block 1 (.seq (.reg r70_3) (.reg r70_4))) (.reg r70_5)))))) (.seq (.reg r70_6) .ret)))
theorem o70 : (Tryz.f70.body.bind fun c => toIC Tryz.prog 19 c []) = some (i70, []) := by kernel_rfl
theorem m70 {ars : List Ar} {rs : List D} (hle : ars.length ≤ 19) (hfr : freshL ⟨fun _ => .top, fun _ => none, fun _ => .top⟩ ((argB 0 ars).2.map (·.1))) (hlt : ((argB 0 ars).2.map (·.1)).all (fun n => Nat.ble n 1999999) = true) (h : AW Tryz.prog 19 i70 (EndsM ars [.tmp 4] rs) (initM ars)) : Fn Tryz.prog 70 ars true rs :=
  Fn.introM' (by kernel_rfl) Tryz.func70 (by kernel_rfl) o70 (by kernel_rfl) hle hfr hlt h.h
abbrev r16_0 : List RO := [ro (.box 2 (.t 0)), ro (.mov 4 (c6 0))]
abbrev r16_1 : List RO := [rF 5 1 2, rL 6 5, rM 7 1, ro (.callv 8 (.c (.one (.fn 15 []))) [(.t 6), (.t 7)]), rM 1 8]
abbrev r16_2 : List RO := [rF 9 2 2, rL 10 9, rM 11 1, ro (.callv 12 (.c (.one (.fn 15 []))) [(.t 10), (.t 11)]), rM 1 12]
abbrev r16_3 : List RO := [rF 13 3 2, rL 14 13, rM 15 1, ro (.callv 16 (.c (.one (.fn 67 []))) [(.t 14), (.t 15)]), rM 1 16]
abbrev r16_4 : List RO := [rF 17 4 2, rL 18 17, rM 19 1, ro (.callv 20 (.c (.one (.fn 68 []))) [(.t 18), (.t 19)]), rM 1 20]
abbrev r16_5 : List RO := [rF 21 5 2, rL 22 21, rM 23 1, ro (.callv 24 (.c (.one (.fn 69 []))) [(.t 22), (.t 23)]), rM 1 24]
abbrev r16_6 : List RO := [rF 25 6 2, rL 26 25, rM 27 1, ro (.callv 28 (.c (.one (.fn 70 []))) [(.t 26), (.t 27)]), rM 1 28]
abbrev r16_7 : List RO := [rF 29 7 2, rL 30 29, rM 31 1, ro (.callv 32 (.c (.one (.fn 70 []))) [(.t 30), (.t 31)]), rM 1 32]
abbrev r16_8 : List RO := [rM 33 1, rM 4 33]
def i16 : IC := (.seq (.reg r16_0) (.seq (.reg r16_1) (.seq (.reg r16_2) (.seq (.reg r16_3) (.seq (.reg r16_4) (.seq (.reg r16_5) (.seq (.reg r16_6) (.seq (.reg r16_7) (.seq (.reg r16_8) .ret)))))))))
theorem o16 : (Tryz.f16.body.bind fun c => toIC Tryz.prog 34 c []) = some (i16, []) := by kernel_rfl
theorem m16 {ars : List Ar} {rs : List D} (hle : ars.length ≤ 34) (hfr : freshL ⟨fun _ => .top, fun _ => none, fun _ => .top⟩ ((argB 0 ars).2.map (·.1))) (hlt : ((argB 0 ars).2.map (·.1)).all (fun n => Nat.ble n 1999999) = true) (h : AW Tryz.prog 34 i16 (EndsM ars [.tmp 4] rs) (initM ars)) : Fn Tryz.prog 16 ars true rs :=
  Fn.introM' (by kernel_rfl) Tryz.func16 (by kernel_rfl) o16 (by kernel_rfl) hle hfr hlt h.h
abbrev r71_0 : List RO := [ro (.mov 4 (c6 0))]
abbrev r71_1 : List RO := [ro (.mov 5 (c6 0))]
abbrev r71_2 : List RO := [rM 6 5, rM 7 0, ro (.len 8 false (.t 7)), ro (.bin 9 .lss (.t 6) (.t 8))]
abbrev r71_3 : List RO := [rM 12 0, rM 13 5, ro (.iaddr 14 2 (.t 12) (.t 13)), rF 15 0 14, rL 16 15, rM 17 1, ro (.bin 18 .neq (.t 16) (.t 17))]
abbrev r71_4 : List RO := [ro (.mov 4 (c6 (-1)))]
abbrev r71_5 : List RO := [rM 19 1, ro (.bin 20 .add (.t 19) (c6 1)), rM 1 20]
abbrev r71_6 : List RO := [rM 21 0, rM 22 5, ro (.iaddr 23 2 (.t 21) (.t 22)), rF 24 1 23, rL 25 24, rM 26 1, ro (.bin 27 .neq (.t 25) (.t 26))]
abbrev r71_7 : List RO := [ro (.mov 4 (c6 (-1)))]
abbrev r71_8 : List RO := [rM 28 1, ro (.bin 29 .add (.t 28) (c6 1)), rM 1 29]
abbrev r71_9 : List RO := [rM 10 5, ro (.bin 11 .add (.t 10) (c6 1)), rM 5 11]
abbrev r71_10 : List RO := [rM 30 1, rM 4 30]
def i71 : IC := (.seq (.reg r71_0) (.seq (.seq (.reg r71_1) (.block 0 (.loop (.seq (.seq (.reg r71_2) (.cond (.t 9) .skip (.exit 0))) (.seq (.block 1 (.seq (.seq (.reg r71_3) (.cond (.t 18) (.seq (.reg r71_4) .ret) .skip)) (.seq (.reg r71_5) (.seq (.seq (.reg r71_6) (.cond (.t 27) (.seq (.reg r71_7) .ret) .skip)) (.reg r71_8))))) (.reg r71_9)))))) (.seq (.reg r71_10) .ret)))
theorem o71 : (Tryz.f71.body.bind fun c => toIC Tryz.prog 31 c []) = some (i71, []) := by kernel_rfl
theorem f71 : FI Tryz.prog 31 i71 [.tmp 4] 71 := fi (by kernel_rfl) Tryz.func71 (by kernel_rfl) o71 (by kernel_rfl)
abbrev r72_0 : List RO := [ro (.mov 4 (c6 0))]
abbrev r72_1 : List RO := [ro (.mov 5 (c6 0))]
abbrev r72_2 : List RO := [rM 6 5, rM 7 0, ro (.len 8 false (.t 7)), ro (.bin 9 .lss (.t 6) (.t 8))]
abbrev r72_3 : List RO := [rM 12 0, rM 13 5, ro (.iaddr 14 2 (.t 12) (.t 13)), rF 15 0 14, rL 16 15, rM 17 1, ro (.bin 18 .neq (.t 16) (.t 17))]
abbrev r72_4 : List RO := [ro (.mov 4 (c6 (-1)))]
abbrev r72_5 : List RO := [rM 19 1, ro (.bin 20 .add (.t 19) (c6 1)), rM 1 20]
abbrev r72_6 : List RO := [rM 21 0, rM 22 5, ro (.iaddr 23 2 (.t 21) (.t 22)), rF 24 1 23, rL 25 24, rM 26 1, ro (.bin 27 .neq (.t 25) (.t 26))]
abbrev r72_7 : List RO := [ro (.mov 4 (c6 (-1)))]
abbrev r72_8 : List RO := [rM 28 1, ro (.bin 29 .add (.t 28) (c6 1)), rM 1 29]
abbrev r72_9 : List RO := [rM 10 5, ro (.bin 11 .add (.t 10) (c6 1)), rM 5 11]
abbrev r72_10 : List RO := [rM 30 1, rM 4 30]
def i72 : IC := (.seq (.reg r72_0) (.seq (.seq (.reg r72_1) (.block 0 (.loop (.seq (.seq (.reg r72_2) (.cond (.t 9) .skip (.exit 0))) (.seq (.block 1 (.seq (.seq (.reg r72_3) (.cond (.t 18) (.seq (.reg r72_4) .ret) .skip)) (.seq (.reg r72_5) (.seq (.seq (.reg r72_6) (.cond (.t 27) (.seq (.reg r72_7) .ret) .skip)) (.reg r72_8))))) (.reg r72_9)))))) (.seq (.reg r72_10) .ret)))
theorem o72 : (Tryz.f72.body.bind fun c => toIC Tryz.prog 31 c []) = some (i72, []) := by kernel_rfl
theorem f72 : FI Tryz.prog 31 i72 [.tmp 4] 72 := fi (by kernel_rfl) Tryz.func72 (by kernel_rfl) o72 (by kernel_rfl)
abbrev r73_0 : List RO := [ro (.mov 4 (c6 0))]
abbrev r73_1 : List RO := [ro (.mov 5 (c6 0))]
abbrev r73_2 : List RO := [rM 6 5, rM 7 0, ro (.len 8 false (.t 7)), ro (.bin 9 .lss (.t 6) (.t 8))]
abbrev r73_3 : List RO := [rM 12 0, rM 13 5, ro (.iaddr 14 4 (.t 12) (.t 13)), rF 15 0 14, rL 16 15, rM 17 1, ro (.bin 18 .neq (.t 16) (.t 17))]
abbrev r73_4 : List RO := [ro (.mov 4 (c6 (-1)))]
abbrev r73_5 : List RO := [rM 19 1, ro (.bin 20 .add (.t 19) (c6 1)), rM 1 20]
abbrev r73_6 : List RO := [rM 21 0, rM 22 5, ro (.iaddr 23 4 (.t 21) (.t 22)), rF 24 1 23, rL 25 24, rM 26 1, ro (.bin 27 .neq (.t 25) (.t 26))]
abbrev r73_7 : List RO := [ro (.mov 4 (c6 (-1)))]
abbrev r73_8 : List RO := [rM 28 1, ro (.bin 29 .add (.t 28) (c6 1)), rM 1 29]
abbrev r73_9 : List RO := [rM 30 0, rM 31 5, ro (.iaddr 32 4 (.t 30) (.t 31)), rF 33 2 32, rL 34 33, rM 35 1, ro (.bin 36 .neq (.t 34) (.t 35))]
abbrev r73_10 : List RO := [ro (.mov 4 (c6 (-1)))]
abbrev r73_11 : List RO := [rM 37 1, ro (.bin 38 .add (.t 37) (c6 1)), rM 1 38]
abbrev r73_12 : List RO := [rM 39 0, rM 40 5, ro (.iaddr 41 4 (.t 39) (.t 40)), rF 42 3 41, rL 43 42, rM 44 1, ro (.bin 45 .neq (.t 43) (.t 44))]
abbrev r73_13 : List RO := [ro (.mov 4 (c6 (-1)))]
abbrev r73_14 : List RO := [rM 46 1, ro (.bin 47 .add (.t 46) (c6 1)), rM 1 47]
abbrev r73_15 : List RO := [rM 10 5, ro (.bin 11 .add (.t 10) (c6 1)), rM 5 11]
abbrev r73_16 : List RO := [rM 48 1, rM 4 48]
def i73 : IC := (.seq (.reg r73_0) (.seq (.seq (.reg r73_1) (.block 0 (.loop (.seq (.seq (.reg r73_2) (.cond (.t 9) .skip (.exit 0))) (.seq (.block 1 (.seq (.seq (.reg r73_3) (.cond (.t 18) (.seq (.reg r73_4) .ret) .skip)) (.seq (.reg r73_5) (.seq (.seq (.reg r73_6) (.cond (.t 27) (.seq (.reg r73_7) .ret) .skip)) (.seq (.reg r73_8) (.seq (.seq (.reg r73_9) (.cond (.t 36) (.seq (.reg r73_10) .ret) .skip)) (.seq (.reg r73_11) (.seq (.seq (.reg r73_12) (.cond (.t 45) (.seq (.reg r73_13) .ret) .skip)) (.reg r73_14))))))))) (.reg r73_15)))))) (.seq (.reg r73_16) .ret)))
theorem o73 : (Tryz.f73.body.bind fun c => toIC Tryz.prog 49 c []) = some (i73, []) := by kernel_rfl
theorem f73 : FI Tryz.prog 49 i73 [.tmp 4] 73 := fi (by kernel_rfl) Tryz.func73 (by kernel_rfl) o73 (by kernel_rfl)
abbrev r112_0 : List RO := [ro (.mov 4 (c6 0))]
abbrev r112_1 : List RO := [ro (.mov 5 (c6 0))]
abbrev r112_2 : List RO := [rM 6 5, rM 7 0, ro (.len 8 false (.t 7)), ro (.bin 9 .lss (.t 6) (.t 8))]
abbrev r112_3 : List RO := [rM 12 0, rM 13 5, ro (.iaddr 14 2 (.t 12) (.t 13)), rF 15 0 14, rL 16 15, rM 17 1, ro (.bin 18 .neq (.t 16) (.t 17))]
abbrev r112_4 : List RO := [ro (.mov 4 (c6 (-1)))]
abbrev r112_5 : List RO := [rM 19 1, ro (.bin 20 .add (.t 19) (c6 1)), rM 1 20]
abbrev r112_6 : List RO := [rM 21 0, rM 22 5, ro (.iaddr 23 2 (.t 21) (.t 22)), rF 24 1 23, rL 25 24, rM 26 1, ro (.bin 27 .neq (.t 25) (.t 26))]
abbrev r112_7 : List RO := [ro (.mov 4 (c6 (-1)))]
abbrev r112_8 : List RO := [rM 28 1, ro (.bin 29 .add (.t 28) (c6 1)), rM 1 29]
abbrev r112_9 : List RO := [rM 10 5, ro (.bin 11 .add (.t 10) (c6 1)), rM 5 11]
abbrev r112_10 : List RO := [rM 30 1, rM 4 30]
def i112 : IC := (.seq (.reg r112_0) (.seq (.seq (.reg r112_1) (.block 0 (.loop (.seq (.seq (.reg r112_2) (.cond (.t 9) .skip (.exit 0))) (.seq (.block 1 (.seq (.seq (.reg r112_3) (.cond (.t 18) (.seq (.reg r112_4) .ret) .skip)) (.seq (.reg r112_5) (.seq (.seq (.reg r112_6) (.cond (.t 27) (.seq (.reg r112_7) .ret) .skip)) (.reg r112_8))))) (.reg r112_9)))))) (.seq (.reg r112_10) .ret)))
theorem o112 : (Tryz.f112.body.bind fun c => toIC Tryz.prog 31 c []) = some (i112, []) := by kernel_rfl
theorem f112 : FI Tryz.prog 31 i112 [.tmp 4] 112 := fi (by kernel_rfl) Tryz.func112 (by kernel_rfl) o112 (by kernel_rfl)
abbrev r74_0 : List RO := [ro (.mov 4 (c6 0))]
abbrev r74_1 : List RO := [ro (.mov 5 (c6 0))]
abbrev r74_2 : List RO := [rM 6 5, rM 7 0, ro (.len 8 false (.t 7)), ro (.bin 9 .lss (.t 6) (.t 8))]
abbrev r74_3 : List RO := [rM 12 0, rM 13 5, ro (.iaddr 14 2 (.t 12) (.t 13)), rF 15 0 14, rL 16 15, rM 17 1, ro (.bin 18 .neq (.t 16) (.t 17))]
abbrev r74_4 : List RO := [ro (.mov 4 (c6 (-1)))]
abbrev r74_5 : List RO := [rM 19 1, ro (.bin 20 .add (.t 19) (c6 1)), rM 1 20]
abbrev r74_6 : List RO := [rM 21 0, rM 22 5, ro (.iaddr 23 2 (.t 21) (.t 22)), rF 24 1 23, rL 25 24, rM 26 1, ro (.callv 27 (.c (.one (.fn 112 []))) [(.t 25), (.t 26)]), rM 1 27]
abbrev r74_7 : List RO := [rM 28 1, ro (.bin 29 .lss (.t 28) (c6 0))]
abbrev r74_8 : List RO := [ro (.mov 4 (c6 (-1)))]
abbrev r74_9 : List RO := [rM 10 5, ro (.bin 11 .add (.t 10) (c6 1)), rM 5 11]
abbrev r74_10 : List RO := [rM 30 1, rM 4 30]
def i74 : IC := (.seq (.reg r74_0) (.seq (.seq (.reg r74_1) (.block 0 (.loop (.seq (.seq (.reg r74_2) (.cond (.t 9) .skip (.exit 0))) (.seq (.block 1 (.seq (.seq (.reg r74_3) (.cond (.t 18) (.seq (.reg r74_4) .ret) .skip)) (.seq (.reg r74_5) (.seq (.reg r74_6) (.seq (.reg r74_7) (.cond (.t 29) (.seq (.reg r74_8) .ret) .skip)))))) (.reg r74_9)))))) (.seq (.reg r74_10) .ret)))
theorem o74 : (Tryz.f74.body.bind fun c => toIC Tryz.prog 31 c []) = some (i74, []) := by kernel_rfl
theorem f74 : FI Tryz.prog 31 i74 [.tmp 4] 74 := fi (by kernel_rfl) Tryz.func74 (by kernel_rfl) o74 (by kernel_rfl)
abbrev r75_0 : List RO := [ro (.mov 4 (c6 0))]
abbrev r75_1 : List RO := [ro (.mov 5 (c6 0))]
abbrev r75_2 : List RO := [rM 6 5, rM 7 0, ro (.len 8 false (.t 7)), ro (.bin 9 .lss (.t 6) (.t 8))]
abbrev r75_3 : List RO := [rM 12 0, rM 13 5, ro (.iaddr 14 1 (.t 12) (.t 13)), rL 15 14, rM 16 1, ro (.bin 17 .neq (.t 15) (.t 16))]
abbrev r75_4 : List RO := [ro (.mov 4 (c6 (-1)))]
abbrev r75_5 : List RO := [rM 18 1, ro (.bin 19 .add (.t 18) (c6 1)), rM 1 19]
abbrev r75_6 : List RO := [rM 10 5, ro (.bin 11 .add (.t 10) (c6 1)), rM 5 11]
abbrev r75_7 : List RO := [rM 20 1, rM 4 20]
def i75 : IC := (.seq (.reg r75_0) (.seq (.seq (.reg r75_1) (.block 0 (.loop (.seq (.seq (.reg r75_2) (.cond (.t 9) .skip (.exit 0))) (.seq (.block 1 (.seq (.seq (.reg r75_3) (.cond (.t 17) (.seq (.reg r75_4) .ret) .skip)) (.reg r75_5))) (.reg r75_6)))))) (.seq (.reg r75_7) .ret)))
theorem o75 : (Tryz.f75.body.bind fun c => toIC Tryz.prog 21 c []) = some (i75, []) := by kernel_rfl
theorem f75 : FI Tryz.prog 21 i75 [.tmp 4] 75 := fi (by kernel_rfl) Tryz.func75 (by kernel_rfl) o75 (by kernel_rfl)
abbrev r17_0 : List RO := [ro (.box 2 (.t 0)), ro (.mov 4 (c6 0))]
abbrev r17_1 : List RO := [rF 5 1 2, rL 6 5, rM 7 1, ro (.callv 8 (.c (.one (.fn 71 []))) [(.t 6), (.t 7)]), rM 1 8]
abbrev r17_2 : List RO := [rM 9 1, ro (.bin 10 .lss (.t 9) (c6 0))]
abbrev r17_3 : List RO := [ro (.mov 4 (c6 (-1)))]
abbrev r17_4 : List RO := [rF 11 2 2, rL 12 11, rM 13 1, ro (.callv 14 (.c (.one (.fn 71 []))) [(.t 12), (.t 13)]), rM 1 14]
abbrev r17_5 : List RO := [rM 15 1, ro (.bin 16 .lss (.t 15) (c6 0))]
abbrev r17_6 : List RO := [ro (.mov 4 (c6 (-1)))]
abbrev r17_7 : List RO := [rF 17 3 2, rL 18 17, rM 19 1, ro (.callv 20 (.c (.one (.fn 72 []))) [(.t 18), (.t 19)]), rM 1 20]
abbrev r17_8 : List RO := [rM 21 1, ro (.bin 22 .lss (.t 21) (c6 0))]
abbrev r17_9 : List RO := [ro (.mov 4 (c6 (-1)))]
abbrev r17_10 : List RO := [rF 23 4 2, rL 24 23, rM 25 1, ro (.callv 26 (.c (.one (.fn 73 []))) [(.t 24), (.t 25)]), rM 1 26]
abbrev r17_11 : List RO := [rM 27 1, ro (.bin 28 .lss (.t 27) (c6 0))]
abbrev r17_12 : List RO := [ro (.mov 4 (c6 (-1)))]
abbrev r17_13 : List RO := [rF 29 5 2, rL 30 29, rM 31 1, ro (.callv 32 (.c (.one (.fn 74 []))) [(.t 30), (.t 31)]), rM 1 32]
abbrev r17_14 : List RO := [rM 33 1, ro (.bin 34 .lss (.t 33) (c6 0))]
abbrev r17_15 : List RO := [ro (.mov 4 (c6 (-1)))]
abbrev r17_16 : List RO := [rF 35 6 2, rL 36 35, rM 37 1, ro (.callv 38 (.c (.one (.fn 75 []))) [(.t 36), (.t 37)]), rM 1 38]
abbrev r17_17 : List RO := [rM 39 1, ro (.bin 40 .lss (.t 39) (c6 0))]
abbrev r17_18 : List RO := [ro (.mov 4 (c6 (-1)))]
abbrev r17_19 : List RO := [rF 41 7 2, rL 42 41, rM 43 1, ro (.callv 44 (.c (.one (.fn 75 []))) [(.t 42), (.t 43)]), rM 1 44]
abbrev r17_20 : List RO := [rM 45 1, ro (.bin 46 .lss (.t 45) (c6 0))]
abbrev r17_21 : List RO := [ro (.mov 4 (c6 (-1)))]
abbrev r17_22 : List RO := [rM 47 1, rM 4 47]
def i17 : IC := (.seq (.reg r17_0) (.seq (.reg r17_1) (.seq (.seq (.reg r17_2) (.cond (.t 10) (.seq (.reg r17_3) .ret) .skip)) (.seq (.reg r17_4) (.seq (.seq (.reg r17_5) (.cond (.t 16) (.seq (.reg r17_6) .ret) .skip)) (.seq (.reg r17_7) (.seq (.seq (.reg r17_8) (.cond (.t 22) (.seq (.reg r17_9) .ret) .skip)) (.seq (.reg r17_10) (.seq (.seq (.reg r17_11) (.cond (.t 28) (.seq (.reg r17_12) .ret) .skip)) (.seq (.reg r17_13) (.seq (.seq (.reg r17_14) (.cond (.t 34) (.seq (.reg r17_15) .ret) .skip)) (.seq (.reg r17_16) (.seq (.seq (.reg r17_17) (.cond (.t 40) (.seq (.reg r17_18) .ret) .skip)) (.seq (.reg r17_19) (.seq (.seq (.reg r17_20) (.cond (.t 46) (.seq (.reg r17_21) .ret) .skip)) (.seq (.reg r17_22) .ret))))))))))))))))
theorem o17 : (Tryz.f17.body.bind fun c => toIC Tryz.prog 48 c []) = some (i17, []) := by kernel_rfl
theorem f17 : FI Tryz.prog 48 i17 [.tmp 4] 17 := fi (by kernel_rfl) Tryz.func17 (by kernel_rfl) o17 (by kernel_rfl)
abbrev r4_0 : List RO := [ro (.mov 4 (cB false))]
abbrev r4_1 : List RO := [ro (.mov 5 (c6 1048576))]
abbrev r4_2 : List RO := [rM 13 1, rM 14 5, ro (.callv 15 (.c (.one (.fn 10 []))) [(.t 13), (.t 14)]), rM 5 15]
abbrev r4_3 : List RO := [rM 16 5, ro (.bin 17 .lss (.t 16) (c6 0))]
abbrev r4_4 : List RO := [ro (.mov 4 (cB true))]
abbrev r4_5 : List RO := [rM 18 0, rM 19 1, ro (.callv 20 (.c (.one (.fn 12 []))) [(.t 19)]), ro (.callv 21 (.c (.one (.fn 11 []))) [(.t 18), (.t 20)]), ro (.var 6 [(dI 0), .zs, .zs, .zs, .zs, .zs, .zs, .zs, (dI 0)]), ro (.store 9 [(.int .i64 0), (.sl 2 []), (.sl 2 []), (.sl 2 []), (.sl 4 []), (.sl 2 []), (.sl 1 []), (.sl 1 []), (.int .i64 0)] (.t 6) (.t 21))]
abbrev r4_6 : List RO := [rM 22 1, ro (.callv 23 (.c (.one (.fn 12 []))) [(.t 22)]), rM 7 23]
abbrev r4_7 : List RO := [rM 24 0, rM 25 7, ro (.callv 26 (.c (.one (.fn 13 []))) [(.t 24), (.t 25)]), ro (.var 8 [(dI 0), .zs, .zs, .zs, .zs, .zs, .zs, .zs, (dI 0)]), ro (.store 9 [(.int .i64 0), (.sl 2 []), (.sl 2 []), (.sl 2 []), (.sl 4 []), (.sl 2 []), (.sl 1 []), (.sl 1 []), (.int .i64 0)] (.t 8) (.t 26))]
abbrev r4_8 : List RO := [ro (.load 27 (some 9) (.t 8)), ro (.load 28 (some 9) (.t 6)), ro (.callv 29 (.c (.one (.fn 9 []))) [(.t 27), (.t 28)]), ro (.inv 30 (.t 29))]
abbrev r4_9 : List RO := [ro (.mov 4 (cB false))]
abbrev r4_10 : List RO := [rM 31 7, rM 32 1, ro (.callv 33 (.c (.one (.fn 12 []))) [(.t 32)]), ro (.callv 34 (.c (.one (.fn 14 []))) [(.t 31), (.t 33)]), ro (.inv 35 (.t 34))]
abbrev r4_11 : List RO := [ro (.mov 4 (cB false))]
abbrev r4_12 : List RO := [ro (.mov 9 (c6 1))]
abbrev r4_13 : List RO := [rM 36 7, rM 37 9, ro (.callv 38 (.c (.one (.fn 15 []))) [(.t 36), (.t 37)]), rM 9 38]
abbrev r4_14 : List RO := [rM 39 9, ro (.bin 40 .lss (.t 39) (c6 0)), rM 41 40, rN 41 (.load 42 (some 9) (.t 8)), rN 41 (.load 43 (some 9) (.t 6)), rN 41 (.callv 44 (.c (.one (.fn 9 []))) [(.t 42), (.t 43)]), rN 41 (.inv 45 (.t 44)), ro (.pick 46 (.t 41) (cB true) (.t 45))]
abbrev r4_15 : List RO := [ro (.mov 4 (cB false))]
abbrev r4_16 : List RO := [ro (.mov 10 (c6 1))]
abbrev r4_17 : List RO := [ro (.load 47 (some 9) (.t 8)), rM 48 10, ro (.callv 49 (.c (.one (.fn 16 []))) [(.t 47), (.t 48)]), rM 10 49]
abbrev r4_18 : List RO := [ro (.mov 11 (c6 1))]
abbrev r4_19 : List RO := [ro (.load 50 (some 9) (.t 8)), rM 51 11, ro (.callv 52 (.c (.one (.fn 17 []))) [(.t 50), (.t 51)]), rM 11 52]
abbrev r4_20 : List RO := [rM 53 11, ro (.bin 54 .lss (.t 53) (c6 0))]
abbrev r4_21 : List RO := [ro (.mov 4 (cB false))]
abbrev r4_22 : List RO := [rM 55 11, rM 56 10, ro (.bin 57 .neq (.t 55) (.t 56))]
abbrev r4_23 : List RO := [ro (.mov 4 (cB false))]
abbrev r4_24 : List RO := [rM 58 0, rM 59 1, ro (.callv 60 (.c (.one (.fn 12 []))) [(.t 59)]), ro (.callv 61 (.c (.one (.fn 13 []))) [(.t 58), (.t 60)]), ro (.var 12 [(dI 0), .zs, .zs, .zs, .zs, .zs, .zs, .zs, (dI 0)]), ro (.store 9 [(.int .i64 0), (.sl 2 []), (.sl 2 []), (.sl 2 []), (.sl 4 []), (.sl 2 []), (.sl 1 []), (.sl 1 []), (.int .i64 0)] (.t 12) (.t 61))]
abbrev r4_25 : List RO := [ro (.load 62 (some 9) (.t 12)), ro (.load 63 (some 9) (.t 6)), ro (.callv 64 (.c (.one (.fn 9 []))) [(.t 62), (.t 63)]), ro (.inv 65 (.t 64))]
abbrev r4_26 : List RO := [ro (.mov 4 (cB false))]
abbrev r4_27 : List RO := [ro (.mov 11 (c6 1))]
abbrev r4_28 : List RO := [ro (.load 66 (some 9) (.t 8)), rM 67 11, ro (.callv 68 (.c (.one (.fn 17 []))) [(.t 66), (.t 67)]), rM 11 68]
abbrev r4_29 : List RO := [rM 69 11, ro (.bin 70 .lss (.t 69) (c6 0))]
abbrev r4_30 : List RO := [ro (.mov 4 (cB false))]
abbrev r4_31 : List RO := [rM 71 11, rM 72 10, ro (.bin 73 .neq (.t 71) (.t 72))]
abbrev r4_32 : List RO := [ro (.mov 4 (cB false))]
abbrev r4_33 : List RO := [ro (.mov 4 (cB true))]
def i4 : IC := (.seq (.reg r4_0) (.seq (.reg r4_1) (.seq (.reg r4_2) (.seq (.seq (.reg r4_3) (.cond (.t 17) (.seq (.reg r4_4) .ret) .skip)) (.seq (.reg r4_5) (.seq (.reg r4_6) (.seq (.reg r4_7) (.seq (.seq (.reg r4_8) (.cond (.t 30) (.seq (.reg r4_9) .ret) .skip)) (.seq (.seq (.reg r4_10) (.cond (.t 35) (.seq (.reg r4_11) .ret) .skip)) (.seq (.reg r4_12) (.seq (.reg r4_13) (.seq (.seq (.reg r4_14) (.cond (.t 46) (.seq (.reg r4_15) .ret) .skip)) (.seq (.reg r4_16) (.seq (.reg r4_17) (.seq (.reg r4_18) (.seq (.reg r4_19) (.seq (.seq (.reg r4_20) (.cond (.t 54) (.seq (.reg r4_21) .ret) .skip)) (.seq (.seq (.reg r4_22) (.cond (.t 57) (.seq (.reg r4_23) .ret) .skip)) (.seq (.reg r4_24) (.seq (.seq (.reg r4_25) (.cond (.t 65) (.seq (.reg r4_26) .ret) .skip)) (.seq (.reg r4_27) (.seq (.reg r4_28) (.seq (.seq (.reg r4_29) (.cond (.t 70) (.seq (.reg r4_30) .ret) .skip)) (.seq (.seq (.reg r4_31) (.cond (.t 73) (.seq (.reg r4_32) .ret) .skip)) (.seq (.reg r4_33) .ret)))))))))))))))))))))))))
theorem o4 : (Tryz.f4.body.bind fun c => toIC Tryz.prog 74 c []) = some (i4, []) := by kernel_rfl
theorem f4 : FI Tryz.prog 74 i4 [.tmp 4] 4 := fi (by kernel_rfl) Tryz.func4 (by kernel_rfl) o4 (by kernel_rfl)
end Go.AW
