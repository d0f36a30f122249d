/- The compact code of functions of the program, and that it is the program's. Conditions: none. -/
import Derived.Test.YtnpbflgkgjnljaaYi
import Derived.Test.YtnpbflgkgjnljaaRows
import Derived.KernelRfl
set_option linter.unusedVariables false
set_option maxRecDepth 100000
namespace Go.AW
open Go.Proofs
abbrev r7_0 : List RO := [ro (.mov 2 (cB false))]
abbrev r7_1 : List RO := [rM 3 0, ro (.len 4 false (.t 3)), ro (.bin 5 .gtr (.t 4) (c6 1048576)), rM 2 5]
def i7 : IC := (.seq (.reg r7_0) (.seq (.reg r7_1) .ret))
theorem o7 : (Try.f7.body.bind fun c => toIC Try.prog 6 c []) = some (i7, []) := by kernel_rfl
theorem f7 : FI Try.prog 6 i7 [.tmp 2] 7 := fi (by kernel_rfl) Try.func7 (by kernel_rfl) o7 (by kernel_rfl)
abbrev r36_0 : List RO := [ro (.mov 2 (.c (.one .nilp)))]
abbrev r36_1 : List RO := [rM 5 0, ro (.len 6 false (.t 5)), ro (.bin 7 .add (c6 97097) (.t 6)), rM 3 7]
abbrev r36_2 : List RO := [ro (.mov 4 (c6 0))]
abbrev r36_3 : List RO := [rM 8 4, rM 9 0, ro (.len 10 false (.t 9)), ro (.bin 11 .lss (.t 8) (.t 10)), rM 12 11, rT 12 (.mov 13 (.t 4)), rT 12 (.bin 14 .lss (.t 13) (c6 4000)), ro (.pick 15 (.t 12) (.t 14) (cB false))]
abbrev r36_4 : List RO := [rM 18 3, ro (.bin 19 .mul (.t 18) (c6 131)), rM 20 0, rM 21 4, ro (.iaddr 22 1 (.t 20) (.t 21)), rL 23 22, ro (.conv 24 .i64 (.t 23)), ro (.bin 25 .add (.t 19) (.t 24)), ro (.bin 26 .add (.t 25) (c6 7)), ro (.bin 27 .and (.t 26) (c6 1073741823)), rM 3 27]
abbrev r36_5 : List RO := [rM 16 4, ro (.bin 17 .add (.t 16) (c6 1)), rM 4 17]
abbrev r36_6 : List RO := [rM 28 0, rM 29 3, ro (.build 30 [.zs, (dI 0), (dI 0)] [(0, 1, (.t 28)), (2, 1, (.t 29))]), ro (.box 31 (.t 30)), rM 2 31]
def i36 : IC := (.seq (.reg r36_0) (.seq (.reg r36_1) (.seq (.seq (.reg r36_2) (.block 0 (.loop (.seq (.seq (.reg r36_3) (.cond (.t 15) .skip (.exit 0))) (.seq (.block 1 (.reg r36_4)) (.reg r36_5)))))) (.seq (.reg r36_6) .ret))))
theorem o36 : (Try.f36.body.bind fun c => toIC Try.prog 32 c []) = some (i36, []) := by kernel_rfl
theorem n36 : FCu Try.prog 32 i36 [.tmp 2] 36 := fc (by kernel_rfl) Try.func36 (by kernel_rfl) o36 (by kernel_rfl)
abbrev r38_0 : List RO := [ro (.mov 4 (c6 0))]
abbrev r38_1 : List RO := [rM 6 0, ro (.len 7 false (.t 6)), ro (.bin 8 .quo (.t 7) (c6 20)), ro (.bin 9 .add (c6 2) (.t 8)), rM 5 9]
abbrev r38_2 : List RO := [rM 10 5, rM 11 1, ro (.bin 12 .gtr (.t 10) (.t 11))]
abbrev r38_3 : List RO := [rM 13 1, rM 4 13]
abbrev r38_4 : List RO := [rM 14 5, rM 4 14]
def i38 : IC := (.seq (.reg r38_0) (.seq (.reg r38_1) (.seq (.seq (.reg r38_2) (.cond (.t 12) (.seq (.reg r38_3) .ret) .skip)) (.seq (.reg r38_4) .ret))))
theorem o38 : (Try.f38.body.bind fun c => toIC Try.prog 15 c []) = some (i38, []) := by kernel_rfl
theorem n38 : FCu Try.prog 15 i38 [.tmp 4] 38 := fc (by kernel_rfl) Try.func38 (by kernel_rfl) o38 (by kernel_rfl)
abbrev r94_0 : List RO := [ro (.mov 2 (c6 0))]
abbrev r94_1 : List RO := [rM 4 0, rM 5 0, ro (.nilchk 6 (.t 5)), rF 7 2 6, rL 8 7, ro (.bin 9 .mul (.t 8) (c6 6364136223846793005)), ro (.bin 10 .add (.t 9) (c6 1442695040888963407)), ro (.nilchk 11 (.t 4)), rF 12 2 11, ro (.store 1 [(.int .i64 0)] (.t 12) (.t 10))]
abbrev r94_2 : List RO := [rM 13 0, ⟨⟨none, .nilchk 14 (.t 13)⟩, 1, []⟩, ⟨⟨none, .faddr 15 2 (.t 14)⟩, 3, []⟩, ⟨⟨none, .load 16 none (.t 15)⟩, 7, []⟩, ⟨⟨none, .bin 17 .shr (.t 16) (.c (.one (.d (.int .u64 33))))⟩, 15, []⟩, rM 18 0, ⟨⟨none, .nilchk 19 (.t 18)⟩, 32, []⟩, ⟨⟨none, .faddr 20 2 (.t 19)⟩, 96, []⟩, ⟨⟨none, .load 21 none (.t 20)⟩, 224, []⟩, ⟨⟨none, .bin 22 .shr (.t 21) (.c (.one (.d (.int .u64 45))))⟩, 480, []⟩, ⟨⟨none, .bin 23 .xor (.t 17) (.t 22)⟩, 1023, []⟩, ⟨⟨none, .bin 24 .and (.t 23) (c6 255)⟩, 2047, []⟩, ⟨⟨none, .mov 3 (.t 24)⟩, 4095, []⟩]
abbrev r94_3 : List RO := [rM 25 0, ⟨⟨none, .nilchk 26 (.t 25)⟩, 1, []⟩, ⟨⟨none, .faddr 27 1 (.t 26)⟩, 3, []⟩, ⟨⟨none, .load 28 none (.t 27)⟩, 7, []⟩, rM 29 0, ⟨⟨none, .nilchk 30 (.t 29)⟩, 16, []⟩, ⟨⟨none, .faddr 31 0 (.t 30)⟩, 48, []⟩, ⟨⟨none, .load 32 none (.t 31)⟩, 112, []⟩, ⟨⟨none, .len 33 false (.t 32)⟩, 240, []⟩, ⟨⟨none, .bin 34 .lss (.t 28) (.t 33)⟩, 511, []⟩]
abbrev r94_4 : List RO := [rM 35 3, rM 36 0, ⟨⟨none, .nilchk 37 (.t 36)⟩, 2, []⟩, ⟨⟨none, .faddr 38 0 (.t 37)⟩, 6, []⟩, ⟨⟨none, .load 39 none (.t 38)⟩, 14, []⟩, rM 40 0, ⟨⟨none, .nilchk 41 (.t 40)⟩, 32, []⟩, ⟨⟨none, .faddr 42 1 (.t 41)⟩, 96, []⟩, ⟨⟨none, .load 43 none (.t 42)⟩, 224, []⟩, ⟨⟨none, .iaddr 44 1 (.t 39) (.t 43)⟩, 510, []⟩, ⟨⟨none, .load 45 none (.t 44)⟩, 1022, []⟩, ⟨⟨none, .conv 46 .i64 (.t 45)⟩, 2046, []⟩, ⟨⟨none, .bin 47 .add (.t 35) (.t 46)⟩, 4095, []⟩, ⟨⟨none, .bin 48 .and (.t 47) (c6 255)⟩, 8191, []⟩, ⟨⟨none, .mov 3 (.t 48)⟩, 16383, []⟩]
abbrev r94_5 : List RO := [rM 49 0, rM 50 0, ro (.nilchk 51 (.t 50)), rF 52 1 51, rL 53 52, ro (.bin 54 .add (.t 53) (c6 1)), ro (.nilchk 55 (.t 49)), rF 56 1 55, ro (.store 1 [(.int .i64 0)] (.t 56) (.t 54))]
abbrev r94_6 : List RO := [rM 57 3, rM 2 57]
def i94 : IC := (.seq (.reg r94_0) (.seq (.reg r94_1) (.seq (.regd r94_2) (.seq (.seq (.regd r94_3) (.cond (.t 34) (.seq (.regd r94_4) (.reg r94_5)) .skip)) (.seq (.reg r94_6) .ret)))))
theorem o94 : (Try.f94.body.bind fun c => toIC Try.prog 58 c [[(0, []), (1, []), (3, []), (7, []), (15, []), (0, []), (32, []), (96, []), (224, []), (480, []), (1023, []), (2047, []), (4095, [])], [(0, []), (1, []), (3, []), (7, []), (0, []), (16, []), (48, []), (112, []), (240, []), (511, [])], [(0, []), (0, []), (2, []), (6, []), (14, []), (0, []), (32, []), (96, []), (224, []), (510, []), (1022, []), (2046, []), (4095, []), (8191, []), (16383, [])]]) = some (i94, []) := by kernel_rfl
theorem n94 : FCu Try.prog 58 i94 [.tmp 2] 94 := fc (by kernel_rfl) Try.func94 (by kernel_rfl) o94 (by kernel_rfl)
abbrev r50_0 : List RO := [ro (.mov 4 (c6 0))]
abbrev r50_1 : List RO := [rM 9 1, ro (.bin 10 .leq (.t 9) (c6 0))]
abbrev r50_2 : List RO := [ro (.mov 4 (c6 0))]
abbrev r50_3 : List RO := [rM 11 1, ro (.bin 12 .leq (.t 11) (c6 256))]
abbrev r50_4 : List RO := [rM 13 0, ro (.callv 14 (.c (.one (.fn 94 []))) [(.t 13)]), rM 15 1, ro (.bin 16 .rem (.t 14) (.t 15)), rM 4 16]
abbrev r50_5 : List RO := [rM 17 0, ro (.callv 18 (.c (.one (.fn 94 []))) [(.t 17)]), rM 5 18]
abbrev r50_6 : List RO := [rM 19 0, ro (.callv 20 (.c (.one (.fn 94 []))) [(.t 19)]), rM 6 20]
abbrev r50_7 : List RO := [rM 21 0, ro (.callv 22 (.c (.one (.fn 94 []))) [(.t 21)]), rM 7 22]
abbrev r50_8 : List RO := [rM 23 0, ro (.callv 24 (.c (.one (.fn 94 []))) [(.t 23)]), rM 8 24]
abbrev r50_9 : List RO := [rM 25 5, ro (.bin 26 .mul (.t 25) (c6 16777216)), rM 27 6, ro (.bin 28 .mul (.t 27) (c6 65536)), ro (.bin 29 .add (.t 26) (.t 28)), rM 30 7, ro (.bin 31 .mul (.t 30) (c6 256)), ro (.bin 32 .add (.t 29) (.t 31)), rM 33 8, ro (.bin 34 .add (.t 32) (.t 33)), rM 35 1, ro (.bin 36 .rem (.t 34) (.t 35)), rM 4 36]
def i50 : IC := (.seq (.reg r50_0) (.seq (.seq (.reg r50_1) (.cond (.t 10) (.seq (.reg r50_2) .ret) .skip)) (.seq (.seq (.reg r50_3) (.cond (.t 12) (.seq (.reg r50_4) .ret) .skip)) (.seq (.reg r50_5) (.seq (.reg r50_6) (.seq (.reg r50_7) (.seq (.reg r50_8) (.seq (.reg r50_9) .ret))))))))
theorem o50 : (Try.f50.body.bind fun c => toIC Try.prog 37 c []) = some (i50, []) := by kernel_rfl
theorem n50 : FCu Try.prog 37 i50 [.tmp 4] 50 := fc (by kernel_rfl) Try.func50 (by kernel_rfl) o50 (by kernel_rfl)
abbrev r83_0 : List RO := [ro (.mov 4 (cB false))]
abbrev r83_1 : List RO := [rM 5 0, rM 6 1, ro (.callv 7 (.c (.one (.fn 50 []))) [(.t 5), (.t 6)]), ro (.bin 8 .eql (.t 7) (c6 0)), rM 4 8]
def i83 : IC := (.seq (.reg r83_0) (.seq (.reg r83_1) .ret))
theorem o83 : (Try.f83.body.bind fun c => toIC Try.prog 9 c []) = some (i83, []) := by kernel_rfl
theorem n83 : FCu Try.prog 9 i83 [.tmp 4] 83 := fc (by kernel_rfl) Try.func83 (by kernel_rfl) o83 (by kernel_rfl)
abbrev r87_0 : List RO := [ro (.mov 6 (cB false))]
abbrev r87_1 : List RO := [rM 7 0, rM 8 1, ro (.bin 9 .geq (.t 7) (.t 8)), rM 10 9, rT 10 (.mov 11 (.t 0)), rT 10 (.mov 12 (.t 2)), rT 10 (.bin 13 .leq (.t 11) (.t 12)), ro (.pick 14 (.t 10) (.t 13) (cB false)), rM 6 14]
def i87 : IC := (.seq (.reg r87_0) (.seq (.reg r87_1) .ret))
theorem o87 : (Try.f87.body.bind fun c => toIC Try.prog 15 c []) = some (i87, []) := by kernel_rfl
theorem f87 : FI Try.prog 15 i87 [.tmp 6] 87 := fi (by kernel_rfl) Try.func87 (by kernel_rfl) o87 (by kernel_rfl)
abbrev r106_0 : List RO := [ro (.mov 2 (cB false))]
abbrev r106_1 : List RO := [rM 3 0, ro (.callv 4 (.c (.one (.fn 87 []))) [(.t 3), (c6 1), (c6 60)]), rM 2 4]
def i106 : IC := (.seq (.reg r106_0) (.seq (.reg r106_1) .ret))
theorem o106 : (Try.f106.body.bind fun c => toIC Try.prog 5 c []) = some (i106, []) := by kernel_rfl
theorem f106 : FI Try.prog 5 i106 [.tmp 2] 106 := fi (by kernel_rfl) Try.func106 (by kernel_rfl) o106 (by kernel_rfl)
abbrev r109_0 : List RO := [ro (.box 1 (.t 0)), ro (.var 2 [(dI 0), (dI 0)])]
abbrev r109_1 : List RO := [rF 3 1 1, rL 4 3, rF 5 2 1, rL 6 5, ro (.build 7 [(dI 0), (dI 0)] [(0, 1, (.t 4)), (1, 1, (.t 6))]), ro (.store 2 [(.int .i64 0), (.int .i64 0)] (.t 2) (.t 7))]
def i109 : IC := (.seq (.reg r109_0) (.seq (.reg r109_1) .ret))
theorem o109 : (Try.f109.body.bind fun c => toIC Try.prog 8 c []) = some (i109, []) := by kernel_rfl
theorem f109 : FI Try.prog 8 i109 [.cell 2 (some 2)] 109 := fi (by kernel_rfl) Try.func109 (by kernel_rfl) o109 (by kernel_rfl)
abbrev r90_0 : List RO := [ro (.box 1 (.t 0)), ro (.mov 2 (cB false))]
abbrev r90_1 : List RO := [rF 3 0 1, rL 4 3, ro (.bin 5 .geq (.t 4) (c6 0)), rM 6 5, rT 6 (.faddr 7 0 (.t 1)), rT 6 (.load 8 none (.t 7)), rT 6 (.faddr 9 1 (.t 1)), rT 6 (.load 10 none (.t 9)), rT 6 (.bin 11 .lss (.t 8) (.t 10)), ro (.pick 12 (.t 6) (.t 11) (cB false)), rM 13 12, rT 13 (.faddr 14 1 (.t 1)), rT 13 (.load 15 none (.t 14)), rT 13 (.bin 16 .leq (.t 15) (c6 1000)), ro (.pick 17 (.t 13) (.t 16) (cB false)), rM 2 17]
def i90 : IC := (.seq (.reg r90_0) (.seq (.reg r90_1) .ret))
theorem o90 : (Try.f90.body.bind fun c => toIC Try.prog 18 c []) = some (i90, []) := by kernel_rfl
theorem f90 : FI Try.prog 18 i90 [.tmp 2] 90 := fi (by kernel_rfl) Try.func90 (by kernel_rfl) o90 (by kernel_rfl)
abbrev r107_0 : List RO := [ro (.mov 2 (cB false))]
abbrev r107_1 : List RO := [rM 3 0, ro (.bin 4 .eql (.t 3) (c6 1)), rM 5 4, rN 5 (.mov 6 (.t 0)), rN 5 (.bin 7 .eql (.t 6) (c6 2)), ro (.pick 8 (.t 5) (cB true) (.t 7)), rM 2 8]
def i107 : IC := (.seq (.reg r107_0) (.seq (.reg r107_1) .ret))
theorem o107 : (Try.f107.body.bind fun c => toIC Try.prog 9 c []) = some (i107, []) := by kernel_rfl
theorem f107 : FI Try.prog 9 i107 [.tmp 2] 107 := fi (by kernel_rfl) Try.func107 (by kernel_rfl) o107 (by kernel_rfl)
abbrev r138_0 : List RO := [ro (.mov 4 (c6 0))]
abbrev r138_1 : List RO := [rM 5 0, rM 6 1, ro (.bin 7 .gtr (.t 5) (.t 6))]
abbrev r138_2 : List RO := [rM 8 0, rM 4 8]
abbrev r138_3 : List RO := [rM 9 1, rM 4 9]
def i138 : IC := (.seq (.reg r138_0) (.seq (.seq (.reg r138_1) (.cond (.t 7) (.seq (.reg r138_2) .ret) .skip)) (.seq (.reg r138_3) .ret)))
theorem o138 : (Try.f138.body.bind fun c => toIC Try.prog 10 c []) = some (i138, []) := by kernel_rfl
theorem f138 : FI Try.prog 10 i138 [.tmp 4] 138 := fi (by kernel_rfl) Try.func138 (by kernel_rfl) o138 (by kernel_rfl)
abbrev r99_0 : List RO := [ro (.mov 4 (c6 0))]
abbrev r99_1 : List RO := [rM 5 0, rM 6 1, ro (.bin 7 .lss (.t 5) (.t 6))]
abbrev r99_2 : List RO := [rM 8 0, rM 4 8]
abbrev r99_3 : List RO := [rM 9 1, rM 4 9]
def i99 : IC := (.seq (.reg r99_0) (.seq (.seq (.reg r99_1) (.cond (.t 7) (.seq (.reg r99_2) .ret) .skip)) (.seq (.reg r99_3) .ret)))
theorem o99 : (Try.f99.body.bind fun c => toIC Try.prog 10 c []) = some (i99, []) := by kernel_rfl
theorem f99 : FI Try.prog 10 i99 [.tmp 4] 99 := fi (by kernel_rfl) Try.func99 (by kernel_rfl) o99 (by kernel_rfl)
abbrev r130_0 : List RO := [ro (.box 2 (.t 0)), ro (.box 3 (.t 1)), ro (.var 4 [(dI 0), (dI 0)]), ro (.mov 5 (cB false))]
abbrev r130_1 : List RO := [rF 7 0 2, ⟨⟨none, .load 8 none (.t 7)⟩, 1, [6]⟩, rF 9 0 3, ⟨⟨none, .load 10 none (.t 9)⟩, 4, [6]⟩, ⟨⟨none, .callv 11 (.c (.one (.fn 138 []))) [(.t 8), (.t 10)]⟩, 15, [6]⟩, rF 12 1 2, ⟨⟨none, .load 13 none (.t 12)⟩, 32, [11, 6]⟩, rF 14 1 3, ⟨⟨none, .load 15 none (.t 14)⟩, 128, [11, 6]⟩, ⟨⟨none, .callv 16 (.c (.one (.fn 99 []))) [(.t 13), (.t 15)]⟩, 511, [6]⟩, ⟨⟨none, .build 17 [(dI 0), (dI 0)] [(0, 1, (.t 11)), (1, 1, (.t 16))]⟩, 1023, []⟩, ⟨⟨none, .var 6 [(dI 0), (dI 0)]⟩, 0, [11, 16]⟩, ⟨⟨none, .store 2 [(.int .i64 0), (.int .i64 0)] (.t 6) (.t 17)⟩, 4095, []⟩]
abbrev r130_2 : List RO := [ro (.load 18 (some 2) (.t 2)), ro (.callv 19 (.c (.one (.fn 90 []))) [(.t 18)]), ro (.inv 20 (.t 19)), rM 21 20, rN 21 (.load 22 (some 2) (.t 3)), rN 21 (.callv 23 (.c (.one (.fn 90 []))) [(.t 22)]), rN 21 (.inv 24 (.t 23)), ro (.pick 25 (.t 21) (cB true) (.t 24)), rM 26 25, rN 26 (.load 27 (some 2) (.t 6)), rN 26 (.callv 28 (.c (.one (.fn 90 []))) [(.t 27)]), rN 26 (.inv 29 (.t 28)), ro (.pick 30 (.t 26) (cB true) (.t 29))]
abbrev r130_3 : List RO := [ro (.build 31 [(dI 0), (dI 0)] []), ro (.store 2 [(.int .i64 0), (.int .i64 0)] (.t 4) (.t 31)), ro (.mov 5 (cB false))]
abbrev r130_4 : List RO := [ro (.load 32 (some 2) (.t 6)), ro (.store 2 [(.int .i64 0), (.int .i64 0)] (.t 4) (.t 32)), ro (.mov 5 (cB true))]
def i130 : IC := (.seq (.reg r130_0) (.seq (.regd r130_1) (.seq (.seq (.reg r130_2) (.cond (.t 30) (.seq (.reg r130_3) .ret) .skip)) (.seq (.reg r130_4) .ret))))
theorem o130 : (Try.f130.body.bind fun c => toIC Try.prog 33 c [[(0, []), (1, [6]), (0, []), (4, [6]), (15, [6]), (0, []), (32, [11, 6]), (0, []), (128, [11, 6]), (511, [6]), (1023, []), (0, [11, 16]), (4095, [])]]) = some (i130, []) := by kernel_rfl
theorem f130 : FI Try.prog 33 i130 [.cell 4 (some 2), .tmp 5] 130 := fi (by kernel_rfl) Try.func130 (by kernel_rfl) o130 (by kernel_rfl)
abbrev r110_0 : List RO := [ro (.box 2 (.t 0)), ro (.box 3 (.t 1)), ro (.mov 4 (cB false))]
abbrev r110_1 : List RO := [⟨⟨none, .load 8 (some 4) (.t 2)⟩, 0, [5]⟩, ⟨⟨none, .callv 9 (.c (.one (.fn 109 []))) [(.t 8)]⟩, 1, [5]⟩, ⟨⟨none, .load 10 (some 4) (.t 3)⟩, 0, [9, 5]⟩, ⟨⟨none, .callv 11 (.c (.one (.fn 109 []))) [(.t 10)]⟩, 7, [5]⟩, ⟨⟨none, .callv 12 (.c (.one (.fn 130 []))) [(.t 9), (.t 11)]⟩, 15, [5]⟩, ⟨⟨none, .mov 7 (.t 12)⟩, 31, []⟩, ⟨⟨none, .ext 13 (.t 7) 0⟩, 63, []⟩, ⟨⟨none, .ext 14 (.t 7) 1⟩, 63, []⟩, ⟨⟨none, .var 5 [(dI 0), (dI 0)]⟩, 0, [9, 11, 12]⟩, ⟨⟨none, .store 2 [(.int .i64 0), (.int .i64 0)] (.t 5) (.t 13)⟩, 383, []⟩, ⟨⟨none, .mov 6 (.t 14)⟩, 1023, []⟩]
abbrev r110_2 : List RO := [rM 15 6, rM 16 15, rT 16 (.faddr 17 0 (.t 2)), rT 16 (.load 18 none (.t 17)), rT 16 (.faddr 19 0 (.t 3)), rT 16 (.load 20 none (.t 19)), rT 16 (.bin 21 .neq (.t 18) (.t 20)), ro (.pick 22 (.t 16) (.t 21) (cB false)), rM 23 22, rT 23 (.faddr 24 3 (.t 2)), rT 23 (.load 25 none (.t 24)), rT 23 (.bin 26 .eql (.t 25) (c6 2)), rT 23 (.mov 27 (.t 26)), rN 27 (.faddr 28 3 (.t 3)), rN 27 (.load 29 none (.t 28)), rN 27 (.bin 30 .eql (.t 29) (c6 2)), rT 23 (.pick 31 (.t 27) (cB true) (.t 30)), ro (.pick 32 (.t 23) (.t 31) (cB false)), rM 4 32]
def i110 : IC := (.seq (.reg r110_0) (.seq (.regd r110_1) (.seq (.reg r110_2) .ret)))
theorem o110 : (Try.f110.body.bind fun c => toIC Try.prog 33 c [[(0, [5]), (1, [5]), (0, [9, 5]), (7, [5]), (15, [5]), (31, []), (63, []), (63, []), (0, [9, 11, 12]), (383, []), (1023, [])]]) = some (i110, []) := by kernel_rfl
theorem f110 : FI Try.prog 33 i110 [.tmp 4] 110 := fi (by kernel_rfl) Try.func110 (by kernel_rfl) o110 (by kernel_rfl)
abbrev r105_0 : List RO := [ro (.mov 2 (cB false))]
abbrev r105_1 : List RO := [rM 5 0, ro (.len 6 false (.t 5)), ro (.bin 7 .gtr (.t 6) (c6 40))]
abbrev r105_2 : List RO := [ro (.mov 2 (cB false))]
abbrev r105_3 : List RO := [ro (.mov 3 (c6 0))]
abbrev r105_4 : List RO := [rM 8 3, rM 9 0, ro (.len 10 false (.t 9)), ro (.bin 11 .lss (.t 8) (.t 10))]
abbrev r105_5 : List RO := [rM 14 0, rM 15 3, ro (.iaddr 16 4 (.t 14) (.t 15)), rF 17 0 16, rL 18 17, ro (.callv 19 (.c (.one (.fn 106 []))) [(.t 18)]), ro (.inv 20 (.t 19)), rM 21 20, rN 21 (.mov 22 (.t 0)), rN 21 (.mov 23 (.t 3)), rN 21 (.iaddr 24 4 (.t 22) (.t 23)), rN 21 (.load 25 (some 4) (.t 24)), rN 21 (.callv 26 (.c (.one (.fn 109 []))) [(.t 25)]), rN 21 (.callv 27 (.c (.one (.fn 90 []))) [(.t 26)]), rN 21 (.inv 28 (.t 27)), ro (.pick 29 (.t 21) (cB true) (.t 28)), rM 30 29, rN 30 (.mov 31 (.t 0)), rN 30 (.mov 32 (.t 3)), rN 30 (.iaddr 33 4 (.t 31) (.t 32)), rN 30 (.faddr 34 3 (.t 33)), rN 30 (.load 35 none (.t 34)), rN 30 (.callv 36 (.c (.one (.fn 107 []))) [(.t 35)]), rN 30 (.inv 37 (.t 36)), ro (.pick 38 (.t 30) (cB true) (.t 37))]
abbrev r105_6 : List RO := [ro (.mov 2 (cB false))]
abbrev r105_7 : List RO := [ro (.mov 4 (c6 0))]
abbrev r105_8 : List RO := [rM 39 4, rM 40 3, ro (.bin 41 .lss (.t 39) (.t 40))]
abbrev r105_9 : List RO := [rM 44 0, rM 45 3, ⟨⟨none, .iaddr 46 4 (.t 44) (.t 45)⟩, 3, []⟩, ⟨⟨none, .load 47 (some 4) (.t 46)⟩, 7, []⟩, rM 48 0, rM 49 4, ⟨⟨none, .iaddr 50 4 (.t 48) (.t 49)⟩, 48, []⟩, ⟨⟨none, .load 51 (some 4) (.t 50)⟩, 112, []⟩, ⟨⟨none, .callv 52 (.c (.one (.fn 110 []))) [(.t 47), (.t 51)]⟩, 255, []⟩]
abbrev r105_10 : List RO := [ro (.mov 2 (cB false))]
abbrev r105_11 : List RO := [rM 42 4, ro (.bin 43 .add (.t 42) (c6 1)), rM 4 43]
abbrev r105_12 : List RO := [rM 12 3, ro (.bin 13 .add (.t 12) (c6 1)), rM 3 13]
abbrev r105_13 : List RO := [ro (.mov 2 (cB true))]
def i105 : IC := (.seq (.reg r105_0) (.seq (.seq (.reg r105_1) (.cond (.t 7) (.seq (.reg r105_2) .ret) .skip)) (.seq (.seq (.reg r105_3) (.block 0 (.loop (.seq (.seq (.reg r105_4) (.cond (.t 11) .skip (.exit 0))) (.seq (.block 1 (.seq (.seq (.reg r105_5) (.cond (.t 38) (.seq (.reg r105_6) .ret) .skip)) (.seq (.reg r105_7) (.block 2 (.loop (.seq (.seq (.reg r105_8) (.cond (.t 41) .skip (.exit 2))) (.seq (.block 3 (.seq (.regd r105_9) (.cond (.t 52) (.seq (.reg r105_10) .ret) .skip))) (.reg r105_11)))))))) (.reg r105_12)))))) (.seq (.reg r105_13) .ret))))
theorem o105 : (Try.f105.body.bind fun c => toIC Try.prog 53 c [[(0, []), (0, []), (3, []), (7, []), (0, []), (0, []), (48, []), (112, []), (255, [])]]) = some (i105, []) := by kernel_rfl
theorem f105 : FI Try.prog 53 i105 [.tmp 2] 105 := fi (by kernel_rfl) Try.func105 (by kernel_rfl) o105 (by kernel_rfl)
abbrev r67_0 : List RO := [ro (.box 8 (.t 3)), ro (.mov 10 (cB false))]
abbrev r67_1 : List RO := [rM 11 0, ro (.callv 12 (.c (.one (.fn 105 []))) [(.t 11)]), rM 13 12, rT 13 (.mov 14 (.t 1)), rT 13 (.len 15 false (.t 14)), rT 13 (.bin 16 .leq (.t 15) (c6 60)), ro (.pick 17 (.t 13) (.t 16) (cB false)), rM 18 17, rT 18 (.mov 19 (.t 2)), rT 18 (.callv 20 (.c (.one (.fn 106 []))) [(.t 19)]), ro (.pick 21 (.t 18) (.t 20) (cB false)), rM 22 21, rT 22 (.load 23 (some 2) (.t 8)), rT 22 (.callv 24 (.c (.one (.fn 90 []))) [(.t 23)]), ro (.pick 25 (.t 22) (.t 24) (cB false)), rM 26 25, rT 26 (.mov 27 (.t 4)), rT 26 (.callv 28 (.c (.one (.fn 107 []))) [(.t 27)]), ro (.pick 29 (.t 26) (.t 28) (cB false)), rM 10 29]
def i67 : IC := (.seq (.reg r67_0) (.seq (.reg r67_1) .ret))
theorem o67 : (Try.f67.body.bind fun c => toIC Try.prog 30 c []) = some (i67, []) := by kernel_rfl
theorem f67 : FI Try.prog 30 i67 [.tmp 10] 67 := fi (by kernel_rfl) Try.func67 (by kernel_rfl) o67 (by kernel_rfl)
abbrev r108_0 : List RO := [ro (.box 2 (.t 0)), ro (.box 3 (.t 1)), ro (.mov 4 (cB false))]
abbrev r108_1 : List RO := [ro (.load 5 (some 2) (.t 2)), ro (.callv 6 (.c (.one (.fn 90 []))) [(.t 5)]), rM 7 6, rT 7 (.load 8 (some 2) (.t 3)), rT 7 (.callv 9 (.c (.one (.fn 90 []))) [(.t 8)]), ro (.pick 10 (.t 7) (.t 9) (cB false)), rM 11 10, rT 11 (.faddr 12 0 (.t 2)), rT 11 (.load 13 none (.t 12)), rT 11 (.faddr 14 0 (.t 3)), rT 11 (.load 15 none (.t 14)), rT 11 (.bin 16 .geq (.t 13) (.t 15)), ro (.pick 17 (.t 11) (.t 16) (cB false)), rM 18 17, rT 18 (.faddr 19 1 (.t 2)), rT 18 (.load 20 none (.t 19)), rT 18 (.faddr 21 1 (.t 3)), rT 18 (.load 22 none (.t 21)), rT 18 (.bin 23 .leq (.t 20) (.t 22)), ro (.pick 24 (.t 18) (.t 23) (cB false)), rM 4 24]
def i108 : IC := (.seq (.reg r108_0) (.seq (.reg r108_1) .ret))
theorem o108 : (Try.f108.body.bind fun c => toIC Try.prog 25 c []) = some (i108, []) := by kernel_rfl
theorem f108 : FI Try.prog 25 i108 [.tmp 4] 108 := fi (by kernel_rfl) Try.func108 (by kernel_rfl) o108 (by kernel_rfl)
abbrev r68_0 : List RO := [ro (.box 6 (.t 2)), ro (.mov 8 (cB false))]
abbrev r68_1 : List RO := [ro (.mov 9 (c6 0))]
abbrev r68_2 : List RO := [rM 10 9, rM 11 0, ro (.len 12 false (.t 11)), ro (.bin 13 .lss (.t 10) (.t 12))]
abbrev r68_3 : List RO := [rM 16 0, rM 17 9, ⟨⟨none, .iaddr 18 4 (.t 16) (.t 17)⟩, 3, []⟩, ⟨⟨none, .faddr 19 0 (.t 18)⟩, 7, []⟩, ⟨⟨none, .load 20 none (.t 19)⟩, 15, []⟩, rM 21 1, ⟨⟨none, .bin 22 .eql (.t 20) (.t 21)⟩, 63, []⟩, ⟨⟨none, .mov 23 (.t 22)⟩, 127, []⟩, ⟨⟨some (23, true), .load 24 (some 2) (.t 6)⟩, 255, [29]⟩, ⟨⟨some (23, true), .mov 25 (.t 0)⟩, 255, []⟩, ⟨⟨some (23, true), .mov 26 (.t 9)⟩, 255, []⟩, ⟨⟨some (23, true), .iaddr 27 4 (.t 25) (.t 26)⟩, 1791, []⟩, ⟨⟨some (23, true), .load 28 (some 4) (.t 27)⟩, 3839, []⟩, ⟨⟨some (23, true), .callv 29 (.c (.one (.fn 109 []))) [(.t 28)]⟩, 7935, []⟩, ⟨⟨some (23, true), .callv 30 (.c (.one (.fn 108 []))) [(.t 24), (.t 29)]⟩, 16383, []⟩, ⟨⟨none, .pick 31 (.t 23) (.t 30) (cB false)⟩, 32767, []⟩, ⟨⟨none, .mov 32 (.t 31)⟩, 65535, []⟩, ⟨⟨some (32, true), .mov 33 (.t 0)⟩, 131071, []⟩, ⟨⟨some (32, true), .mov 34 (.t 9)⟩, 131071, []⟩, ⟨⟨some (32, true), .iaddr 35 4 (.t 33) (.t 34)⟩, 524287, []⟩, ⟨⟨some (32, true), .faddr 36 3 (.t 35)⟩, 1048575, []⟩, ⟨⟨some (32, true), .load 37 none (.t 36)⟩, 2097151, []⟩, ⟨⟨some (32, true), .mov 38 (.t 3)⟩, 131071, []⟩, ⟨⟨some (32, true), .bin 39 .geq (.t 37) (.t 38)⟩, 8388607, []⟩, ⟨⟨none, .pick 40 (.t 32) (.t 39) (cB false)⟩, 16777215, []⟩]
abbrev r68_4 : List RO := [ro (.mov 8 (cB true))]
abbrev r68_5 : List RO := [rM 14 9, ro (.bin 15 .add (.t 14) (c6 1)), rM 9 15]
abbrev r68_6 : List RO := [ro (.mov 8 (cB false))]
def i68 : IC := (.seq (.reg r68_0) (.seq (.seq (.reg r68_1) (.block 0 (.loop (.seq (.seq (.reg r68_2) (.cond (.t 13) .skip (.exit 0))) (.seq (.block 1 (.seq (.regd r68_3) (.cond (.t 40) (.seq (.reg r68_4) .ret) .skip))) (.reg r68_5)))))) (.seq (.reg r68_6) .ret)))
theorem o68 : (Try.f68.body.bind fun c => toIC Try.prog 41 c [[(0, []), (0, []), (3, []), (7, []), (15, []), (0, []), (63, []), (127, []), (255, [29]), (255, []), (255, []), (1791, []), (3839, []), (7935, []), (16383, []), (32767, []), (65535, []), (131071, []), (131071, []), (524287, []), (1048575, []), (2097151, []), (131071, []), (8388607, []), (16777215, [])]]) = some (i68, []) := by kernel_rfl
theorem f68 : FI Try.prog 41 i68 [.tmp 8] 68 := fi (by kernel_rfl) Try.func68 (by kernel_rfl) o68 (by kernel_rfl)
abbrev r111_0 : List RO := [ro (.mov 4 (.c (.one .zs)))]
abbrev r111_1 : List RO := [ro (.bslice 8 1 [] []), rM 5 8]
abbrev r111_2 : List RO := [ro (.mov 6 (cB false))]
abbrev r111_3 : List RO := [ro (.mov 7 (c6 0))]
abbrev r111_4 : List RO := [rM 9 7, rM 10 0, ro (.len 11 false (.t 10)), ro (.bin 12 .lss (.t 9) (.t 11))]
abbrev r111_5 : List RO := [rM 15 6, ro (.inv 16 (.t 15)), rM 17 16, rT 17 (.mov 18 (.t 0)), rT 17 (.mov 19 (.t 7)), rT 17 (.iaddr 20 1 (.t 18) (.t 19)), rT 17 (.load 21 none (.t 20)), rT 17 (.mov 22 (.t 1)), rT 17 (.bin 23 .geq (.t 21) (.t 22)), ro (.pick 24 (.t 17) (.t 23) (cB false))]
abbrev r111_6 : List RO := [rM 25 5, rM 26 1, ro (.bslice 27 1 [(dI 0)] [(0, 1, (.t 26))]), ro (.app 28 1 8 [(.int .i64 0)] (.t 25) (.t 27)), rM 5 28]
abbrev r111_7 : List RO := [ro (.mov 6 (cB true))]
abbrev r111_8 : List RO := [rM 29 0, rM 30 7, ro (.iaddr 31 1 (.t 29) (.t 30)), rL 32 31, rM 33 1, ro (.bin 34 .neq (.t 32) (.t 33))]
abbrev r111_9 : List RO := [rM 35 5, rM 36 0, rM 37 7, ro (.iaddr 38 1 (.t 36) (.t 37)), rL 39 38, ro (.bslice 40 1 [(dI 0)] [(0, 1, (.t 39))]), ro (.app 41 1 8 [(.int .i64 0)] (.t 35) (.t 40)), rM 5 41]
abbrev r111_10 : List RO := [rM 13 7, ro (.bin 14 .add (.t 13) (c6 1)), rM 7 14]
abbrev r111_11 : List RO := [rM 42 6, ro (.inv 43 (.t 42))]
abbrev r111_12 : List RO := [rM 44 5, rM 45 1, ro (.bslice 46 1 [(dI 0)] [(0, 1, (.t 45))]), ro (.app 47 1 8 [(.int .i64 0)] (.t 44) (.t 46)), rM 5 47]
abbrev r111_13 : List RO := [rM 48 5, rM 4 48]
def i111 : IC := (.seq (.reg r111_0) (.seq (.reg r111_1) (.seq (.reg r111_2) (.seq (.seq (.reg r111_3) (.block 0 (.loop (.seq (.seq (.reg r111_4) (.cond (.t 12) .skip (.exit 0))) (.seq (.block 1 (.seq (.seq (.reg r111_5) (.cond (.t 24) (.seq (.reg r111_6) (.reg r111_7)) .skip)) (.seq (.reg r111_8) (.cond (.t 34) (.reg r111_9) .skip)))) (.reg r111_10)))))) (.seq (.seq (.reg r111_11) (.cond (.t 43) (.reg r111_12) .skip)) (.seq (.reg r111_13) .ret))))))
theorem o111 : (Try.f111.body.bind fun c => toIC Try.prog 49 c []) = some (i111, []) := by kernel_rfl
theorem f111 : FI Try.prog 49 i111 [.tmp 4] 111 := fi (by kernel_rfl) Try.func111 (by kernel_rfl) o111 (by kernel_rfl)
abbrev r69_0 : List RO := [ro (.box 3 (.t 1)), ro (.mov 4 (.c (.one .zs)))]
abbrev r69_1 : List RO := [ro (.bslice 7 1 [] []), rM 5 7]
abbrev r69_2 : List RO := [ro (.mov 6 (c6 0))]
abbrev r69_3 : List RO := [rM 8 6, rM 9 0, ro (.len 10 false (.t 9)), ro (.bin 11 .lss (.t 8) (.t 10))]
abbrev r69_4 : List RO := [rM 14 0, rM 15 6, ⟨⟨none, .iaddr 16 4 (.t 14) (.t 15)⟩, 3, []⟩, ⟨⟨none, .load 17 (some 4) (.t 16)⟩, 7, []⟩, ro (.load 18 (some 4) (.t 3)), ⟨⟨none, .callv 19 (.c (.one (.fn 110 []))) [(.t 17), (.t 18)]⟩, 31, []⟩]
abbrev r69_5 : List RO := [rM 20 5, rM 21 0, rM 22 6, ro (.iaddr 23 4 (.t 21) (.t 22)), rF 24 0 23, rL 25 24, ro (.callv 26 (.c (.one (.fn 111 []))) [(.t 20), (.t 25)]), rM 5 26]
abbrev r69_6 : List RO := [rM 12 6, ro (.bin 13 .add (.t 12) (c6 1)), rM 6 13]
abbrev r69_7 : List RO := [rM 27 5, rM 4 27]
def i69 : IC := (.seq (.reg r69_0) (.seq (.reg r69_1) (.seq (.seq (.reg r69_2) (.block 0 (.loop (.seq (.seq (.reg r69_3) (.cond (.t 11) .skip (.exit 0))) (.seq (.block 1 (.seq (.regd r69_4) (.cond (.t 19) (.reg r69_5) .skip))) (.reg r69_6)))))) (.seq (.reg r69_7) .ret))))
theorem o69 : (Try.f69.body.bind fun c => toIC Try.prog 28 c [[(0, []), (0, []), (3, []), (7, []), (0, []), (31, [])]]) = some (i69, []) := by kernel_rfl
theorem f69 : FI Try.prog 28 i69 [.tmp 4] 69 := fi (by kernel_rfl) Try.func69 (by kernel_rfl) o69 (by kernel_rfl)
abbrev r78_0 : List RO := [ro (.mov 4 (cB false))]
abbrev r78_1 : List RO := [ro (.mov 5 (c6 0))]
abbrev r78_2 : List RO := [rM 6 5, rM 7 0, ro (.len 8 false (.t 7)), ro (.bin 9 .lss (.t 6) (.t 8))]
abbrev r78_3 : List RO := [rM 12 0, rM 13 5, ro (.iaddr 14 1 (.t 12) (.t 13)), rL 15 14, rM 16 1, ro (.bin 17 .eql (.t 15) (.t 16))]
abbrev r78_4 : List RO := [ro (.mov 4 (cB true))]
abbrev r78_5 : List RO := [rM 10 5, ro (.bin 11 .add (.t 10) (c6 1)), rM 5 11]
abbrev r78_6 : List RO := [ro (.mov 4 (cB false))]
def i78 : IC := (.seq (.reg r78_0) (.seq (.seq (.reg r78_1) (.block 0 (.loop (.seq (.seq (.reg r78_2) (.cond (.t 9) .skip (.exit 0))) (.seq (.block 1 (.seq (.reg r78_3) (.cond (.t 17) (.seq (.reg r78_4) .ret) .skip))) (.reg r78_5)))))) (.seq (.reg r78_6) .ret)))
theorem o78 : (Try.f78.body.bind fun c => toIC Try.prog 18 c []) = some (i78, []) := by kernel_rfl
theorem f78 : FI Try.prog 18 i78 [.tmp 4] 78 := fi (by kernel_rfl) Try.func78 (by kernel_rfl) o78 (by kernel_rfl)
abbrev r35_0 : List RO := [ro (.box 8 (.t 3)), ro (.mov 10 (.c (.one .zs)))]
abbrev r35_1 : List RO := [ro (.bslice 14 1 [] []), rM 11 14]
abbrev r35_2 : List RO := [rM 15 0, rM 16 1, rM 17 2, ro (.load 18 (some 2) (.t 8)), rM 19 4, ro (.callv 20 (.c (.one (.fn 67 []))) [(.t 15), (.t 16), (.t 17), (.t 18), (.t 19)]), ro (.inv 21 (.t 20)), rM 22 21, rN 22 (.mov 23 (.t 0)), rN 22 (.mov 24 (.t 2)), rN 22 (.load 25 (some 2) (.t 8)), rN 22 (.mov 26 (.t 4)), rN 22 (.callv 27 (.c (.one (.fn 68 []))) [(.t 23), (.t 24), (.t 25), (.t 26)]), ro (.pick 28 (.t 22) (cB true) (.t 27))]
abbrev r35_3 : List RO := [rM 29 11, rM 10 29]
abbrev r35_4 : List RO := [rM 30 0, rM 31 2, rF 32 0 8, rL 33 32, rF 34 1 8, rL 35 34, rM 36 4, ro (.build 37 [(dI 0), (dI 0), (dI 0), (dI 0)] [(0, 1, (.t 31)), (1, 1, (.t 33)), (2, 1, (.t 35)), (3, 1, (.t 36))]), ro (.callv 38 (.c (.one (.fn 69 []))) [(.t 30), (.t 37)]), rM 12 38]
abbrev r35_5 : List RO := [ro (.mov 13 (c6 0))]
abbrev r35_6 : List RO := [rM 39 13, rM 40 12, ro (.len 41 false (.t 40)), ro (.bin 42 .lss (.t 39) (.t 41))]
abbrev r35_7 : List RO := [rM 45 12, rM 46 13, ro (.iaddr 47 1 (.t 45) (.t 46)), rL 48 47, rM 49 2, ro (.bin 50 .lss (.t 48) (.t 49)), rM 51 50, rN 51 (.mov 52 (.t 1)), rN 51 (.mov 53 (.t 12)), rN 51 (.mov 54 (.t 13)), rN 51 (.iaddr 55 1 (.t 53) (.t 54)), rN 51 (.load 56 none (.t 55)), rN 51 (.callv 57 (.c (.one (.fn 78 []))) [(.t 52), (.t 56)]), ro (.pick 58 (.t 51) (cB true) (.t 57))]
abbrev r35_8 : List RO := [rM 59 11, rM 60 12, rM 61 13, ro (.iaddr 62 1 (.t 60) (.t 61)), rL 63 62, ro (.bslice 64 1 [(dI 0)] [(0, 1, (.t 63))]), ro (.app 65 1 8 [(.int .i64 0)] (.t 59) (.t 64)), rM 11 65]
abbrev r35_9 : List RO := [rM 43 13, ro (.bin 44 .add (.t 43) (c6 1)), rM 13 44]
abbrev r35_10 : List RO := [rM 66 11, rM 10 66]
def i35 : IC := (.seq (.reg r35_0) (.seq (.reg r35_1) (.seq (.seq (.reg r35_2) (.cond (.t 28) (.seq (.reg r35_3) .ret) .skip)) (.seq (.reg r35_4) (.seq (.seq (.reg r35_5) (.block 0 (.loop (.seq (.seq (.reg r35_6) (.cond (.t 42) .skip (.exit 0))) (.seq (.block 1 (.seq (.reg r35_7) (.cond (.t 58) (.reg r35_8) .skip))) (.reg r35_9)))))) (.seq (.reg r35_10) .ret))))))
theorem o35 : (Try.f35.body.bind fun c => toIC Try.prog 67 c []) = some (i35, []) := by kernel_rfl
theorem f35 : FI Try.prog 67 i35 [.tmp 10] 35 := fi (by kernel_rfl) Try.func35 (by kernel_rfl) o35 (by kernel_rfl)
abbrev r70_0 : List RO := [ro (.mov 6 (.c (.one .zs)))]
abbrev r70_1 : List RO := [ro (.bslice 9 4 [] []), rM 7 9]
abbrev r70_2 : List RO := [ro (.mov 8 (c6 0))]
abbrev r70_3 : List RO := [rM 10 8, rM 11 0, ro (.len 12 false (.t 11)), ro (.bin 13 .lss (.t 10) (.t 12))]
abbrev r70_4 : List RO := [rM 16 0, rM 17 8, ro (.iaddr 18 4 (.t 16) (.t 17)), rF 19 0 18, rL 20 19, rM 21 1, ro (.bin 22 .eql (.t 20) (.t 21)), rM 23 2, ro (.beq 24 false (.t 22) (.t 23))]
abbrev r70_5 : List RO := [rM 25 7, rM 26 0, rM 27 8, ro (.iaddr 28 4 (.t 26) (.t 27)), ro (.load 29 (some 4) (.t 28)), ro (.bslice 30 4 [(dI 0), (dI 0), (dI 0), (dI 0)] [(0, 4, (.t 29))]), ro (.app 31 4 32 [(.int .i64 0), (.int .i64 0), (.int .i64 0), (.int .i64 0)] (.t 25) (.t 30)), rM 7 31]
abbrev r70_6 : List RO := [rM 14 8, ro (.bin 15 .add (.t 14) (c6 1)), rM 8 15]
abbrev r70_7 : List RO := [rM 32 7, rM 6 32]
def i70 : IC := (.seq (.reg r70_0) (.seq (.reg r70_1) (.seq (.seq (.reg r70_2) (.block 0 (.loop (.seq (.seq (.reg r70_3) (.cond (.t 13) .skip (.exit 0))) (.seq (.block 1 (.seq (.reg r70_4) (.cond (.t 24) (.reg r70_5) .skip))) (.reg r70_6)))))) (.seq (.reg r70_7) .ret))))
theorem o70 : (Try.f70.body.bind fun c => toIC Try.prog 33 c []) = some (i70, []) := by kernel_rfl
theorem f70 : FI Try.prog 33 i70 [.tmp 6] 70 := fi (by kernel_rfl) Try.func70 (by kernel_rfl) o70 (by kernel_rfl)
abbrev r25_0 : List RO := [ro (.box 8 (.t 3)), ro (.mov 10 (.c (.one .zs))), ro (.mov 11 (.c (.one .zs))), ro (.mov 12 (c6 0))]
abbrev r25_1 : List RO := [ro (.bslice 19 1 [] []), rM 13 19]
abbrev r25_2 : List RO := [rM 20 0, rM 21 1, rM 22 2, ro (.load 23 (some 2) (.t 8)), rM 24 4, ro (.callv 25 (.c (.one (.fn 67 []))) [(.t 20), (.t 21), (.t 22), (.t 23), (.t 24)]), ro (.inv 26 (.t 25))]
abbrev r25_3 : List RO := [ro (.bslice 27 4 [] []), rM 28 13, rM 10 27, rM 11 28, ro (.mov 12 (c6 1))]
abbrev r25_4 : List RO := [ro (.bslice 29 4 [] []), rM 30 0, ro (.app 31 4 32 [(.int .i64 0), (.int .i64 0), (.int .i64 0), (.int .i64 0)] (.t 29) (.t 30)), rM 14 31]
abbrev r25_5 : List RO := [rM 32 0, rM 33 2, ro (.load 34 (some 2) (.t 8)), rM 35 4, ro (.callv 36 (.c (.one (.fn 68 []))) [(.t 32), (.t 33), (.t 34), (.t 35)])]
abbrev r25_6 : List RO := [rM 37 14, rM 38 13, rM 10 37, rM 11 38, ro (.mov 12 (c6 0))]
abbrev r25_7 : List RO := [rM 39 0, rM 40 1, rM 41 2, ro (.load 42 (some 2) (.t 8)), rM 43 4, ro (.callv 44 (.c (.one (.fn 35 []))) [(.t 39), (.t 40), (.t 41), (.t 42), (.t 43)]), ro (.len 45 false (.t 44)), ro (.bin 46 .gtr (.t 45) (c6 0))]
abbrev r25_8 : List RO := [rM 47 14, rM 48 13, rM 10 47, rM 11 48, ro (.mov 12 (c6 2))]
abbrev r25_9 : List RO := [rM 49 2, rF 50 0 8, rL 51 50, rF 52 1 8, rL 53 52, rM 54 4, ro (.build 55 [(dI 0), (dI 0), (dI 0), (dI 0)] [(0, 1, (.t 49)), (1, 1, (.t 51)), (2, 1, (.t 53)), (3, 1, (.t 54))]), ro (.var 15 [(dI 0), (dI 0), (dI 0), (dI 0)]), ro (.store 4 [(.int .i64 0), (.int .i64 0), (.int .i64 0), (.int .i64 0)] (.t 15) (.t 55))]
abbrev r25_10 : List RO := [rM 56 0, ro (.load 57 (some 4) (.t 15)), ro (.callv 58 (.c (.one (.fn 69 []))) [(.t 56), (.t 57)]), rM 16 58]
abbrev r25_11 : List RO := [rM 59 14, rM 17 59]
abbrev r25_12 : List RO := [ro (.mov 18 (c6 0))]
abbrev r25_13 : List RO := [rM 60 18, rM 61 16, ro (.len 62 false (.t 61)), ro (.bin 63 .lss (.t 60) (.t 62))]
abbrev r25_14 : List RO := [rM 66 17, rM 67 16, rM 68 18, ro (.iaddr 69 1 (.t 67) (.t 68)), rL 70 69, ro (.callv 71 (.c (.one (.fn 70 []))) [(.t 66), (.t 70), (cB false)]), rM 17 71]
abbrev r25_15 : List RO := [rM 64 18, ro (.bin 65 .add (.t 64) (c6 1)), rM 18 65]
abbrev r25_16 : List RO := [rM 72 17, ro (.len 73 false (.t 72)), ro (.bin 74 .eql (.t 73) (c6 40))]
abbrev r25_17 : List RO := [ro (.bslice 75 4 [] []), rM 76 0, ro (.app 77 4 32 [(.int .i64 0), (.int .i64 0), (.int .i64 0), (.int .i64 0)] (.t 75) (.t 76)), rM 78 13, rM 10 77, rM 11 78, ro (.mov 12 (c6 3))]
abbrev r25_18 : List RO := [rM 79 17, ro (.load 80 (some 4) (.t 15)), ro (.bslice 81 4 [(dI 0), (dI 0), (dI 0), (dI 0)] [(0, 4, (.t 80))]), ro (.app 82 4 32 [(.int .i64 0), (.int .i64 0), (.int .i64 0), (.int .i64 0)] (.t 79) (.t 81)), rM 83 16, rM 10 82, rM 11 83, ro (.mov 12 (c6 0))]
def i25 : IC := (.seq (.reg r25_0) (.seq (.reg r25_1) (.seq (.seq (.reg r25_2) (.cond (.t 26) (.seq (.reg r25_3) .ret) .skip)) (.seq (.reg r25_4) (.seq (.seq (.reg r25_5) (.cond (.t 36) (.seq (.reg r25_6) .ret) .skip)) (.seq (.seq (.reg r25_7) (.cond (.t 46) (.seq (.reg r25_8) .ret) .skip)) (.seq (.reg r25_9) (.seq (.reg r25_10) (.seq (.reg r25_11) (.seq (.seq (.reg r25_12) (.block 0 (.loop (.seq (.seq (.reg r25_13) (.cond (.t 63) .skip (.exit 0))) (.seq (.block 1 (.reg r25_14)) (.reg r25_15)))))) (.seq (.seq (.reg r25_16) (.cond (.t 74) (.seq (.reg r25_17) .ret) .skip)) (.seq (.reg r25_18) .ret))))))))))))
theorem o25 : (Try.f25.body.bind fun c => toIC Try.prog 84 c []) = some (i25, []) := by kernel_rfl
theorem f25 : FI Try.prog 84 i25 [.tmp 10, .tmp 11, .tmp 12] 25 := fi (by kernel_rfl) Try.func25 (by kernel_rfl) o25 (by kernel_rfl)
abbrev r126_0 : List RO := [ro (.mov 4 (.c (.one .zs)))]
abbrev r126_1 : List RO := [ro (.bslice 12 4 [] []), rM 5 12]
abbrev r126_2 : List RO := [rM 13 0, rM 14 1, ro (.bin 15 .add (.t 14) (c6 1)), ro (.callv 16 (.c (.one (.fn 50 []))) [(.t 13), (.t 15)]), rM 6 16]
abbrev r126_3 : List RO := [rM 17 0, ro (.callv 18 (.c (.one (.fn 83 []))) [(.t 17), (c6 15)])]
abbrev r126_4 : List RO := [ro (.mov 6 (c6 120))]
abbrev r126_5 : List RO := [ro (.mov 7 (c6 0))]
abbrev r126_6 : List RO := [rM 19 7, rM 20 6, ro (.bin 21 .lss (.t 19) (.t 20))]
abbrev r126_7 : List RO := [rM 24 0, ro (.callv 25 (.c (.one (.fn 50 []))) [(.t 24), (c6 40)]), rM 8 25]
abbrev r126_8 : List RO := [rM 27 5, ro (.bslice 28 1 [(dI 0), (dI 0), (dI 0), (dI 0), (dI 0), (dI 0), (dI 0), (dI 0), (dI 0)] [(0, 1, (c6 1)), (1, 1, (c6 2)), (2, 1, (c6 3)), (3, 1, (c6 4)), (4, 1, (c6 5)), (5, 1, (c6 6)), (6, 1, (c6 7)), (7, 1, (c6 8)), (8, 1, (c6 9))]), rM 29 0, ro (.callv 30 (.c (.one (.fn 50 []))) [(.t 29), (c6 9)]), ro (.bin 31 .add (c6 1) (.t 30)), rM 32 8, rM 33 8, ro (.bin 34 .add (.t 33) (c6 1)), rM 35 0, ro (.callv 36 (.c (.one (.fn 50 []))) [(.t 35), (c6 6)]), ro (.bin 37 .add (.t 34) (.t 36)), ro (.build 38 [(dI 0), (dI 0)] [(0, 1, (.t 32)), (1, 1, (.t 37))]), rM 39 0, ro (.callv 40 (.c (.one (.fn 50 []))) [(.t 39), (c6 3)]), ro (.bin 41 .quo (.t 40) (c6 2)), ro (.bin 42 .add (c6 1) (.t 41)), ro (.callv 43 (.c (.one (.fn 25 []))) [(.t 27), (.t 28), (.t 31), (.t 38), (.t 42)]), rM 26 43, ro (.ext 44 (.t 26) 0), ro (.ext 45 (.t 26) 1), ro (.ext 46 (.t 26) 2), rM 9 44, rM 10 45, rM 11 46]
abbrev r126_9 : List RO := [rM 47 11, ro (.bin 48 .eql (.t 47) (c6 0))]
abbrev r126_10 : List RO := [rM 49 9, rM 5 49]
abbrev r126_11 : List RO := [rM 22 7, ro (.bin 23 .add (.t 22) (c6 1)), rM 7 23]
abbrev r126_12 : List RO := [rM 50 5, rM 4 50]
def i126 : IC := (.seq (.reg r126_0) (.seq (.reg r126_1) (.seq (.reg r126_2) (.seq (.seq (.reg r126_3) (.cond (.t 18) (.reg r126_4) .skip)) (.seq (.seq (.reg r126_5) (.block 0 (.loop (.seq (.seq (.reg r126_6) (.cond (.t 21) .skip (.exit 0))) (.seq (.block 1 (.seq (.reg r126_7) (.seq (.reg r126_8) (.seq (.reg r126_9) (.cond (.t 48) (.reg r126_10) .skip))))) (.reg r126_11)))))) (.seq (.reg r126_12) .ret))))))
theorem o126 : (Try.f126.body.bind fun c => toIC Try.prog 51 c []) = some (i126, []) := by kernel_rfl
theorem n126 : FCu Try.prog 51 i126 [.tmp 4] 126 := fc (by kernel_rfl) Try.func126 (by kernel_rfl) o126 (by kernel_rfl)
abbrev r80_0 : List RO := [ro (.mov 4 (c6 0))]
abbrev r80_1 : List RO := [rM 5 1, rM 6 0, rM 7 1, ro (.len 8 false (.t 7)), ro (.callv 9 (.c (.one (.fn 50 []))) [(.t 6), (.t 8)]), ro (.iaddr 10 1 (.t 5) (.t 9)), rL 11 10, rM 4 11]
def i80 : IC := (.seq (.reg r80_0) (.seq (.reg r80_1) .ret))
theorem o80 : (Try.f80.body.bind fun c => toIC Try.prog 12 c []) = some (i80, []) := by kernel_rfl
theorem n80 : FCu Try.prog 12 i80 [.tmp 4] 80 := fc (by kernel_rfl) Try.func80 (by kernel_rfl) o80 (by kernel_rfl)
abbrev r100_0 : List RO := [ro (.mov 4 (.c (.one .zs)))]
abbrev r100_1 : List RO := [rM 6 0, rM 7 1, ro (.callv 8 (.c (.one (.fn 126 []))) [(.t 6), (.t 7)]), rM 5 8]
abbrev r100_2 : List RO := [rM 9 0, ro (.callv 10 (.c (.one (.fn 50 []))) [(.t 9), (c6 25)])]
abbrev r100_3 : List RO := [ro (.bin 12 .eql (.t 10) (c6 0)), rM 11 12]
abbrev r100_4 : List RO := [rM 13 5, rM 14 0, ro (.bslice 15 1 [(dI 0), (dI 0), (dI 0)] [(0, 1, (c6 0)), (1, 1, (c6 60)), (2, 1, (c6 61))]), ro (.callv 16 (.c (.one (.fn 80 []))) [(.t 14), (.t 15)]), ro (.build 17 [(dI 0), (dI 0), (dI 0), (dI 0)] [(0, 1, (.t 16)), (1, 1, (c6 900)), (2, 1, (c6 901)), (3, 1, (c6 1))]), ro (.bslice 18 4 [(dI 0), (dI 0), (dI 0), (dI 0)] [(0, 4, (.t 17))]), ro (.app 19 4 32 [(.int .i64 0), (.int .i64 0), (.int .i64 0), (.int .i64 0)] (.t 13) (.t 18)), rM 5 19]
abbrev r100_5 : List RO := [ro (.bin 21 .eql (.t 10) (c6 1)), rM 20 21]
abbrev r100_6 : List RO := [rM 22 5, rM 23 0, ro (.bslice 24 1 [(dI 0), (dI 0)] [(0, 1, (c6 5)), (1, 1, (c6 30))]), ro (.callv 25 (.c (.one (.fn 80 []))) [(.t 23), (.t 24)]), rM 26 0, ro (.callv 27 (.c (.one (.fn 50 []))) [(.t 26), (c6 4)]), ro (.build 28 [(dI 0), (dI 0), (dI 0), (dI 0)] [(0, 1, (c6 1)), (1, 1, (c6 5)), (2, 1, (.t 25)), (3, 1, (.t 27))]), ro (.bslice 29 4 [(dI 0), (dI 0), (dI 0), (dI 0)] [(0, 4, (.t 28))]), ro (.app 30 4 32 [(.int .i64 0), (.int .i64 0), (.int .i64 0), (.int .i64 0)] (.t 22) (.t 29)), rM 5 30]
abbrev r100_7 : List RO := [rM 31 5, rM 4 31]
def i100 : IC := (.seq (.reg r100_0) (.seq (.reg r100_1) (.seq (.seq (.reg r100_2) (.block 0 (.seq (.reg r100_3) (.cond (.t 11) (.reg r100_4) (.seq (.reg r100_5) (.cond (.t 20) (.reg r100_6) .skip)))))) (.seq (.reg r100_7) .ret))))
theorem o100 : (Try.f100.body.bind fun c => toIC Try.prog 32 c []) = some (i100, []) := by kernel_rfl
theorem n100 : FCu Try.prog 32 i100 [.tmp 4] 100 := fc (by kernel_rfl) Try.func100 (by kernel_rfl) o100 (by kernel_rfl)
abbrev r101_0 : List RO := [ro (.var 2 [(dI 0), (dI 0)])]
abbrev r101_1 : List RO := [rM 5 0, ro (.callv 6 (.c (.one (.fn 50 []))) [(.t 5), (c6 30)]), rM 3 6]
abbrev r101_2 : List RO := [rM 7 3, rM 8 3, ro (.bin 9 .add (.t 8) (c6 1)), rM 10 0, ro (.callv 11 (.c (.one (.fn 50 []))) [(.t 10), (c6 12)]), ro (.bin 12 .add (.t 9) (.t 11)), ro (.build 13 [(dI 0), (dI 0)] [(0, 1, (.t 7)), (1, 1, (.t 12))]), ro (.var 4 [(dI 0), (dI 0)]), ro (.store 2 [(.int .i64 0), (.int .i64 0)] (.t 4) (.t 13))]
abbrev r101_3 : List RO := [rM 14 0, ro (.callv 15 (.c (.one (.fn 50 []))) [(.t 14), (c6 20)])]
abbrev r101_4 : List RO := [ro (.bin 17 .eql (.t 15) (c6 0)), rM 16 17]
abbrev r101_5 : List RO := [rF 18 0 4, rL 19 18, rM 20 0]
abbrev r101_6 : List RO := [ro (.callv 21 (.c (.one (.fn 50 []))) [(.t 20), (c6 2)])]
abbrev r101_7 : List RO := [ro (.bin 22 .sub (.t 19) (.t 21)), rF 23 1 4, ro (.store 1 [(.int .i64 0)] (.t 23) (.t 22))]
abbrev r101_8 : List RO := [ro (.bin 25 .eql (.t 15) (c6 1)), rM 24 25]
abbrev r101_9 : List RO := [rM 26 0, ro (.bslice 27 1 [(dI 0), (dI 0), (dI 0)] [(0, 1, (c6 (-1))), (1, 1, (c6 0)), (2, 1, (c6 990))]), ro (.callv 28 (.c (.one (.fn 80 []))) [(.t 26), (.t 27)]), rM 29 0, ro (.bslice 30 1 [(dI 0), (dI 0)] [(0, 1, (c6 1000)), (1, 1, (c6 1001))]), ro (.callv 31 (.c (.one (.fn 80 []))) [(.t 29), (.t 30)]), ro (.build 32 [(dI 0), (dI 0)] [(0, 1, (.t 28)), (1, 1, (.t 31))]), ro (.store 2 [(.int .i64 0), (.int .i64 0)] (.t 4) (.t 32))]
abbrev r101_10 : List RO := [ro (.load 33 (some 2) (.t 4)), ro (.store 2 [(.int .i64 0), (.int .i64 0)] (.t 2) (.t 33))]
def i101 : IC := (.seq (.reg r101_0) (.seq (.reg r101_1) (.seq (.reg r101_2) (.seq (.seq (.reg r101_3) (.block 0 (.seq (.reg r101_4) (.cond (.t 16) (.regp r101_5 r101_6 r101_7) (.seq (.reg r101_8) (.cond (.t 24) (.reg r101_9) .skip)))))) (.seq (.reg r101_10) .ret)))))
theorem o101 : (Try.f101.body.bind fun c => toIC Try.prog 34 c [[(0, [2000007]), (1, [2000007]), (0, [2000007]), (4, [2000008]), (15, [2000009]), (31, [2000009]), (63, [2000009])]]) = some (i101, []) := by kernel_rfl
theorem n101 : FCu Try.prog 34 i101 [.cell 2 (some 2)] 101 := fc (by kernel_rfl) Try.func101 (by kernel_rfl) o101 (by kernel_rfl)
abbrev r58_0 : List RO := [ro (.mov 2 (.c (.one .zs))), ro (.mov 3 (.c (.one .zs))), ro (.mov 4 (c6 0)), ro (.var 5 [(dI 0), (dI 0)]), ro (.mov 6 (c6 0))]
abbrev r58_1 : List RO := [rM 15 0, ro (.callv 16 (.c (.one (.fn 36 []))) [(.t 15)]), rM 7 16]
abbrev r58_2 : List RO := [rM 17 7, rM 18 0, ro (.callv 19 (.c (.one (.fn 38 []))) [(.t 18), (c6 20)]), ro (.callv 20 (.c (.one (.fn 100 []))) [(.t 17), (.t 19)]), rM 8 20]
abbrev r58_3 : List RO := [ro (.bslice 21 1 [] []), rM 9 21]
abbrev r58_4 : List RO := [ro (.mov 10 (c6 1))]
abbrev r58_5 : List RO := [rM 22 10, ro (.bin 23 .lss (.t 22) (c6 9))]
abbrev r58_6 : List RO := [rM 26 7, ro (.callv 27 (.c (.one (.fn 83 []))) [(.t 26), (c6 4)])]
abbrev r58_7 : List RO := [rM 28 9, rM 29 10, ro (.bslice 30 1 [(dI 0)] [(0, 1, (.t 29))]), ro (.app 31 1 8 [(.int .i64 0)] (.t 28) (.t 30)), rM 9 31]
abbrev r58_8 : List RO := [rM 24 10, ro (.bin 25 .add (.t 24) (c6 1)), rM 10 25]
abbrev r58_9 : List RO := [rM 32 7, ro (.callv 33 (.c (.one (.fn 83 []))) [(.t 32), (c6 30)])]
abbrev r58_10 : List RO := [rM 34 7, ro (.callv 35 (.c (.one (.fn 50 []))) [(.t 34), (c6 2)]), ro (.bin 36 .add (c6 60) (.t 35)), ro (.mksl 37 1 8 [(.int .i64 0)] (.t 36) (.t 36)), rM 9 37]
abbrev r58_11 : List RO := [rM 38 7, ro (.callv 39 (.c (.one (.fn 50 []))) [(.t 38), (c6 40)]), rM 11 39]
abbrev r58_12 : List RO := [rM 40 11, rM 41 11, ro (.bin 42 .add (.t 41) (c6 1)), rM 43 7, ro (.callv 44 (.c (.one (.fn 50 []))) [(.t 43), (c6 6)]), ro (.bin 45 .add (.t 42) (.t 44)), ro (.build 46 [(dI 0), (dI 0)] [(0, 1, (.t 40)), (1, 1, (.t 45))]), ro (.var 12 [(dI 0), (dI 0)]), ro (.store 2 [(.int .i64 0), (.int .i64 0)] (.t 12) (.t 46))]
abbrev r58_13 : List RO := [rM 47 7, ro (.callv 48 (.c (.one (.fn 83 []))) [(.t 47), (c6 15)])]
abbrev r58_14 : List RO := [rM 49 7, ro (.callv 50 (.c (.one (.fn 101 []))) [(.t 49)]), ro (.store 2 [(.int .i64 0), (.int .i64 0)] (.t 12) (.t 50))]
abbrev r58_15 : List RO := [rM 51 7, ro (.callv 52 (.c (.one (.fn 50 []))) [(.t 51), (c6 2)]), ro (.bin 53 .add (c6 1) (.t 52)), rM 13 53]
abbrev r58_16 : List RO := [rM 54 7, ro (.callv 55 (.c (.one (.fn 83 []))) [(.t 54), (c6 20)])]
abbrev r58_17 : List RO := [rM 56 7, ro (.callv 57 (.c (.one (.fn 50 []))) [(.t 56), (c6 4)]), rM 13 57]
abbrev r58_18 : List RO := [rM 58 7, ro (.callv 59 (.c (.one (.fn 50 []))) [(.t 58), (c6 10)]), ro (.bin 60 .add (c6 1) (.t 59)), rM 14 60]
abbrev r58_19 : List RO := [rM 61 7, ro (.callv 62 (.c (.one (.fn 83 []))) [(.t 61), (c6 20)])]
abbrev r58_20 : List RO := [rM 63 7, ro (.bslice 64 1 [(dI 0), (dI 0), (dI 0)] [(0, 1, (c6 0)), (1, 1, (c6 60)), (2, 1, (c6 61))]), ro (.callv 65 (.c (.one (.fn 80 []))) [(.t 63), (.t 64)]), rM 14 65]
abbrev r58_21 : List RO := [rM 66 8, rM 67 9, rM 68 14, ro (.load 69 (some 2) (.t 12)), rM 70 13, ⟨⟨none, .mov 2 (.t 66)⟩, 1, []⟩, ⟨⟨none, .mov 3 (.t 67)⟩, 35, []⟩, ⟨⟨none, .mov 4 (.t 68)⟩, 103, []⟩, ⟨⟨none, .store 2 [(.int .i64 0), (.int .i64 0)] (.t 5) (.t 69)⟩, 239, []⟩, ⟨⟨none, .mov 6 (.t 70)⟩, 511, []⟩]
def i58 : IC := (.seq (.reg r58_0) (.seq (.reg r58_1) (.seq (.reg r58_2) (.seq (.reg r58_3) (.seq (.seq (.reg r58_4) (.block 0 (.loop (.seq (.seq (.reg r58_5) (.cond (.t 23) .skip (.exit 0))) (.seq (.block 1 (.seq (.reg r58_6) (.cond (.t 27) (.reg r58_7) .skip))) (.reg r58_8)))))) (.seq (.seq (.reg r58_9) (.cond (.t 33) (.reg r58_10) .skip)) (.seq (.reg r58_11) (.seq (.reg r58_12) (.seq (.seq (.reg r58_13) (.cond (.t 48) (.reg r58_14) .skip)) (.seq (.reg r58_15) (.seq (.seq (.reg r58_16) (.cond (.t 55) (.reg r58_17) .skip)) (.seq (.reg r58_18) (.seq (.seq (.reg r58_19) (.cond (.t 62) (.reg r58_20) .skip)) (.seq (.regd r58_21) .ret))))))))))))))
theorem o58 : (Try.f58.body.bind fun c => toIC Try.prog 71 c [[(0, []), (0, []), (0, []), (0, []), (0, []), (1, []), (35, []), (103, []), (239, []), (511, [])]]) = some (i58, []) := by kernel_rfl
theorem n58 : FCu Try.prog 71 i58 [.tmp 2, .tmp 3, .tmp 4, .cell 5 (some 2), .tmp 6] 58 := fc (by kernel_rfl) Try.func58 (by kernel_rfl) o58 (by kernel_rfl)
abbrev r33_0 : List RO := [ro (.mov 2 (.c (.one .zs))), ro (.mov 3 (.c (.one .zs))), ro (.mov 4 (c6 0)), ro (.var 5 [(dI 0), (dI 0)]), ro (.mov 6 (c6 0))]
abbrev r33_1 : List RO := [rM 13 0, ro (.callv 14 (.c (.one (.fn 58 []))) [(.t 13)]), rM 12 14, ro (.ext 15 (.t 12) 0), ro (.ext 16 (.t 12) 1), ro (.ext 17 (.t 12) 2), ro (.ext 18 (.t 12) 3), ro (.ext 19 (.t 12) 4), ro (.var 10 [(dI 0), (dI 0)]), rM 7 15, rM 8 16, rM 9 17, ro (.store 2 [(.int .i64 0), (.int .i64 0)] (.t 10) (.t 18)), rM 11 19]
abbrev r33_2 : List RO := [rM 20 7, rM 21 8, rM 22 9, ro (.load 23 (some 2) (.t 10)), rM 24 11, ⟨⟨none, .mov 2 (.t 20)⟩, 1, []⟩, ⟨⟨none, .mov 3 (.t 21)⟩, 35, []⟩, ⟨⟨none, .mov 4 (.t 22)⟩, 103, []⟩, ⟨⟨none, .store 2 [(.int .i64 0), (.int .i64 0)] (.t 5) (.t 23)⟩, 239, []⟩, ⟨⟨none, .mov 6 (.t 24)⟩, 511, []⟩]
def i33 : IC := (.seq (.reg r33_0) (.seq (.reg r33_1) (.seq (.regd r33_2) .ret)))
theorem o33 : (Try.f33.body.bind fun c => toIC Try.prog 25 c [[(0, []), (0, []), (0, []), (0, []), (0, []), (1, []), (35, []), (103, []), (239, []), (511, [])]]) = some (i33, []) := by kernel_rfl
theorem n33 : FCu Try.prog 25 i33 [.tmp 2, .tmp 3, .tmp 4, .cell 5 (some 2), .tmp 6] 33 := fc (by kernel_rfl) Try.func33 (by kernel_rfl) o33 (by kernel_rfl)
abbrev r45_0 : List RO := [ro (.mov 6 (cB false))]
abbrev r45_1 : List RO := [rM 7 0, rM 8 1, ro (.bin 9 .geq (.t 7) (.t 8)), rM 10 9, rT 10 (.mov 11 (.t 0)), rT 10 (.mov 12 (.t 2)), rT 10 (.bin 13 .leq (.t 11) (.t 12)), ro (.pick 14 (.t 10) (.t 13) (cB false)), rM 6 14]
def i45 : IC := (.seq (.reg r45_0) (.seq (.reg r45_1) .ret))
theorem o45 : (Try.f45.body.bind fun c => toIC Try.prog 15 c []) = some (i45, []) := by kernel_rfl
theorem f45 : FI Try.prog 15 i45 [.tmp 6] 45 := fi (by kernel_rfl) Try.func45 (by kernel_rfl) o45 (by kernel_rfl)
abbrev r59_0 : List RO := [ro (.mov 2 (cB false))]
abbrev r59_1 : List RO := [rM 3 0, ro (.callv 4 (.c (.one (.fn 45 []))) [(.t 3), (c6 1), (c6 60)]), rM 2 4]
def i59 : IC := (.seq (.reg r59_0) (.seq (.reg r59_1) .ret))
theorem o59 : (Try.f59.body.bind fun c => toIC Try.prog 5 c []) = some (i59, []) := by kernel_rfl
theorem f59 : FI Try.prog 5 i59 [.tmp 2] 59 := fi (by kernel_rfl) Try.func59 (by kernel_rfl) o59 (by kernel_rfl)
abbrev r71_0 : List RO := [ro (.box 1 (.t 0)), ro (.var 2 [(dI 0), (dI 0)])]
abbrev r71_1 : List RO := [rF 3 1 1, rL 4 3, rF 5 2 1, rL 6 5, ro (.build 7 [(dI 0), (dI 0)] [(0, 1, (.t 4)), (1, 1, (.t 6))]), ro (.store 2 [(.int .i64 0), (.int .i64 0)] (.t 2) (.t 7))]
def i71 : IC := (.seq (.reg r71_0) (.seq (.reg r71_1) .ret))
theorem o71 : (Try.f71.body.bind fun c => toIC Try.prog 8 c []) = some (i71, []) := by kernel_rfl
theorem f71 : FI Try.prog 8 i71 [.cell 2 (some 2)] 71 := fi (by kernel_rfl) Try.func71 (by kernel_rfl) o71 (by kernel_rfl)
abbrev r60_0 : List RO := [ro (.box 1 (.t 0)), ro (.mov 2 (cB false))]
abbrev r60_1 : List RO := [rF 3 0 1, rL 4 3, ro (.bin 5 .geq (.t 4) (c6 0)), rM 6 5, rT 6 (.faddr 7 0 (.t 1)), rT 6 (.load 8 none (.t 7)), rT 6 (.faddr 9 1 (.t 1)), rT 6 (.load 10 none (.t 9)), rT 6 (.bin 11 .lss (.t 8) (.t 10)), ro (.pick 12 (.t 6) (.t 11) (cB false)), rM 13 12, rT 13 (.faddr 14 1 (.t 1)), rT 13 (.load 15 none (.t 14)), rT 13 (.bin 16 .leq (.t 15) (c6 1000)), ro (.pick 17 (.t 13) (.t 16) (cB false)), rM 2 17]
def i60 : IC := (.seq (.reg r60_0) (.seq (.reg r60_1) .ret))
theorem o60 : (Try.f60.body.bind fun c => toIC Try.prog 18 c []) = some (i60, []) := by kernel_rfl
theorem f60 : FI Try.prog 18 i60 [.tmp 2] 60 := fi (by kernel_rfl) Try.func60 (by kernel_rfl) o60 (by kernel_rfl)
abbrev r61_0 : List RO := [ro (.mov 2 (cB false))]
abbrev r61_1 : List RO := [rM 3 0, ro (.bin 4 .eql (.t 3) (c6 1)), rM 5 4, rN 5 (.mov 6 (.t 0)), rN 5 (.bin 7 .eql (.t 6) (c6 2)), ro (.pick 8 (.t 5) (cB true) (.t 7)), rM 2 8]
def i61 : IC := (.seq (.reg r61_0) (.seq (.reg r61_1) .ret))
theorem o61 : (Try.f61.body.bind fun c => toIC Try.prog 9 c []) = some (i61, []) := by kernel_rfl
theorem f61 : FI Try.prog 9 i61 [.tmp 2] 61 := fi (by kernel_rfl) Try.func61 (by kernel_rfl) o61 (by kernel_rfl)
abbrev r112_0 : List RO := [ro (.box 2 (.t 0)), ro (.box 3 (.t 1)), ro (.mov 4 (cB false))]
abbrev r112_1 : List RO := [rF 5 0 2, rL 6 5, rF 7 1 3, rL 8 7, ro (.bin 9 .lss (.t 6) (.t 8)), rM 10 9, rT 10 (.faddr 11 0 (.t 3)), rT 10 (.load 12 none (.t 11)), rT 10 (.faddr 13 1 (.t 2)), rT 10 (.load 14 none (.t 13)), rT 10 (.bin 15 .lss (.t 12) (.t 14)), ro (.pick 16 (.t 10) (.t 15) (cB false)), rM 4 16]
def i112 : IC := (.seq (.reg r112_0) (.seq (.reg r112_1) .ret))
theorem o112 : (Try.f112.body.bind fun c => toIC Try.prog 17 c []) = some (i112, []) := by kernel_rfl
theorem f112 : FI Try.prog 17 i112 [.tmp 4] 112 := fi (by kernel_rfl) Try.func112 (by kernel_rfl) o112 (by kernel_rfl)
abbrev r74_0 : List RO := [ro (.box 2 (.t 0)), ro (.box 3 (.t 1)), ro (.mov 4 (cB false))]
abbrev r74_1 : List RO := [rF 5 0 2, ⟨⟨none, .load 6 none (.t 5)⟩, 1, []⟩, rF 7 0 3, ⟨⟨none, .load 8 none (.t 7)⟩, 4, []⟩, ⟨⟨none, .bin 9 .neq (.t 6) (.t 8)⟩, 15, []⟩, ⟨⟨none, .mov 10 (.t 9)⟩, 31, []⟩, ⟨⟨some (10, true), .faddr 11 3 (.t 2)⟩, 63, []⟩, ⟨⟨some (10, true), .load 12 none (.t 11)⟩, 127, []⟩, ⟨⟨some (10, true), .bin 13 .eql (.t 12) (c6 2)⟩, 255, []⟩, ⟨⟨some (10, true), .mov 14 (.t 13)⟩, 511, []⟩, ⟨⟨some (14, false), .faddr 15 3 (.t 3)⟩, 1023, []⟩, ⟨⟨some (14, false), .load 16 none (.t 15)⟩, 2047, []⟩, ⟨⟨some (14, false), .bin 17 .eql (.t 16) (c6 2)⟩, 4095, []⟩, ⟨⟨some (10, true), .pick 18 (.t 14) (cB true) (.t 17)⟩, 8191, []⟩, ⟨⟨none, .pick 19 (.t 10) (.t 18) (cB false)⟩, 16383, []⟩, ⟨⟨none, .mov 20 (.t 19)⟩, 32767, []⟩, ⟨⟨some (20, true), .load 21 (some 4) (.t 2)⟩, 65535, []⟩, ⟨⟨some (20, true), .callv 22 (.c (.one (.fn 71 []))) [(.t 21)]⟩, 131071, []⟩, ⟨⟨some (20, true), .load 23 (some 4) (.t 3)⟩, 65535, [22]⟩, ⟨⟨some (20, true), .callv 24 (.c (.one (.fn 71 []))) [(.t 23)]⟩, 524287, []⟩, ⟨⟨some (20, true), .callv 25 (.c (.one (.fn 112 []))) [(.t 22), (.t 24)]⟩, 1048575, []⟩, ⟨⟨none, .pick 26 (.t 20) (.t 25) (cB false)⟩, 2097151, []⟩, ⟨⟨none, .mov 4 (.t 26)⟩, 4194303, []⟩]
def i74 : IC := (.seq (.reg r74_0) (.seq (.regd r74_1) .ret))
theorem o74 : (Try.f74.body.bind fun c => toIC Try.prog 27 c [[(0, []), (1, []), (0, []), (4, []), (15, []), (31, []), (63, []), (127, []), (255, []), (511, []), (1023, []), (2047, []), (4095, []), (8191, []), (16383, []), (32767, []), (65535, []), (131071, []), (65535, [22]), (524287, []), (1048575, []), (2097151, []), (4194303, [])]]) = some (i74, []) := by kernel_rfl
theorem f74 : FI Try.prog 27 i74 [.tmp 4] 74 := fi (by kernel_rfl) Try.func74 (by kernel_rfl) o74 (by kernel_rfl)
abbrev r73_0 : List RO := [ro (.box 2 (.t 0)), ro (.mov 3 (cB false))]
abbrev r73_1 : List RO := [ro (.load 4 (some 4) (.t 1)), ro (.load 5 (some 4) (.t 2)), ro (.callv 6 (.c (.one (.fn 74 []))) [(.t 4), (.t 5)]), rM 3 6]
def i73 : IC := (.seq (.reg r73_0) (.seq (.reg r73_1) .ret))
theorem o73 : (Try.f73.body.bind fun c => toIC Try.prog 7 c []) = some (i73, []) := by kernel_rfl
theorem f73 : FI Try.prog 7 i73 [.tmp 3] 73 := fi (by kernel_rfl) Try.func73 (by kernel_rfl) o73 (by kernel_rfl)
abbrev r103_0 : List RO := [ro (.mov 4 (c6 0))]
abbrev r103_1 : List RO := [rM 6 0, ro (.len 7 false (.t 6)), ro (.mov 8 (c6 0))]
abbrev r103_2 : List RO := [ro (.bin 9 .lss (.t 8) (.t 7))]
abbrev r103_3 : List RO := [rM 10 8, rM 5 10]
abbrev r103_4 : List RO := [rM 11 1, rM 12 0, rM 13 5, ro (.iaddr 14 4 (.t 12) (.t 13)), ro (.load 15 (some 4) (.t 14)), ro (.callv 16 (.t 11) [(.t 15)])]
abbrev r103_5 : List RO := [rM 17 5, rM 4 17]
abbrev r103_6 : List RO := [ro (.bin 18 .add (.t 8) (c6 1)), rM 8 18]
abbrev r103_7 : List RO := [ro (.mov 4 (c6 (-1)))]
def i103 : IC := (.seq (.reg r103_0) (.seq (.seq (.reg r103_1) (.block 0 (.loop (.seq (.reg r103_2) (.seq (.cond (.t 9) .skip (.exit 0)) (.seq (.block 1 (.seq (.reg r103_3) (.seq (.reg r103_4) (.cond (.t 16) (.seq (.reg r103_5) .ret) .skip)))) (.reg r103_6))))))) (.seq (.reg r103_7) .ret)))
theorem o103 : (Try.f103.body.bind fun c => toIC Try.prog 19 c []) = some (i103, []) := by kernel_rfl
theorem f103 : FI Try.prog 19 i103 [.tmp 4] 103 := fi (by kernel_rfl) Try.func103 (by kernel_rfl) o103 (by kernel_rfl)
abbrev r72_0 : List RO := [ro (.mov 4 (cB false))]
abbrev r72_1 : List RO := [rM 5 0, rM 6 1, ro (.callv 7 (.c (.one (.fn 103 []))) [(.t 5), (.t 6)]), ro (.bin 8 .geq (.t 7) (c6 0)), rM 4 8]
def i72 : IC := (.seq (.reg r72_0) (.seq (.reg r72_1) .ret))
theorem o72 : (Try.f72.body.bind fun c => toIC Try.prog 9 c []) = some (i72, []) := by kernel_rfl
theorem f72 : FI Try.prog 9 i72 [.tmp 4] 72 := fi (by kernel_rfl) Try.func72 (by kernel_rfl) o72 (by kernel_rfl)
abbrev r27_0 : List RO := [ro (.mov 2 (cB false))]
abbrev r27_1 : List RO := [rM 5 0, ro (.len 6 false (.t 5)), ro (.mov 7 (c6 0))]
abbrev r27_2 : List RO := [ro (.bin 8 .lss (.t 7) (.t 6))]
abbrev r27_3 : List RO := [rM 9 7, ro (.iaddr 10 4 (.t 5) (.t 7)), ro (.load 11 (some 4) (.t 10)), ro (.var 4 [(dI 0), (dI 0), (dI 0), (dI 0)]), rM 3 9, ro (.store 4 [(.int .i64 0), (.int .i64 0), (.int .i64 0), (.int .i64 0)] (.t 4) (.t 11))]
abbrev r27_4 : List RO := [rF 12 0 4, rL 13 12, ro (.callv 14 (.c (.one (.fn 59 []))) [(.t 13)]), ro (.inv 15 (.t 14)), rM 16 15, rN 16 (.load 17 (some 4) (.t 4)), rN 16 (.callv 18 (.c (.one (.fn 71 []))) [(.t 17)]), rN 16 (.callv 19 (.c (.one (.fn 60 []))) [(.t 18)]), rN 16 (.inv 20 (.t 19)), ro (.pick 21 (.t 16) (cB true) (.t 20)), rM 22 21, rN 22 (.faddr 23 3 (.t 4)), rN 22 (.load 24 none (.t 23)), rN 22 (.callv 25 (.c (.one (.fn 61 []))) [(.t 24)]), rN 22 (.inv 26 (.t 25)), ro (.pick 27 (.t 22) (cB true) (.t 26)), rM 28 27, rN 28 (.mov 29 (.t 0)), rN 28 (.mov 30 (.t 3)), rN 28 (.slice 31 4 (.t 29) none (some (.t 30)) none), rN 28 (.mkfn 32 73 [(.t 4)]), rN 28 (.callv 33 (.c (.one (.fn 72 []))) [(.t 31), (.t 32)]), ro (.pick 34 (.t 28) (cB true) (.t 33))]
abbrev r27_5 : List RO := [ro (.mov 2 (cB false))]
abbrev r27_6 : List RO := [ro (.bin 35 .add (.t 7) (c6 1)), rM 7 35]
abbrev r27_7 : List RO := [rM 36 0, ro (.len 37 false (.t 36)), ro (.bin 38 .leq (.t 37) (c6 40)), rM 2 38]
def i27 : IC := (.seq (.reg r27_0) (.seq (.seq (.reg r27_1) (.block 0 (.loop (.seq (.reg r27_2) (.seq (.cond (.t 8) .skip (.exit 0)) (.seq (.block 1 (.seq (.reg r27_3) (.seq (.reg r27_4) (.cond (.t 34) (.seq (.reg r27_5) .ret) .skip)))) (.reg r27_6))))))) (.seq (.reg r27_7) .ret)))
theorem o27 : (Try.f27.body.bind fun c => toIC Try.prog 39 c []) = some (i27, []) := by kernel_rfl
theorem f27 : FI Try.prog 39 i27 [.tmp 2] 27 := fi (by kernel_rfl) Try.func27 (by kernel_rfl) o27 (by kernel_rfl)
abbrev r62_0 : List RO := [ro (.mov 2 (.c (.one .zs)))]
abbrev r62_1 : List RO := [rM 3 0, ro (.isnil 4 false (.t 3))]
abbrev r62_2 : List RO := [ro (.mov 2 (.c (.one .zs)))]
abbrev r62_3 : List RO := [ro (.bslice 5 4 [] []), rM 6 0, ro (.app 7 4 32 [(.int .i64 0), (.int .i64 0), (.int .i64 0), (.int .i64 0)] (.t 5) (.t 6)), rM 2 7]
def i62 : IC := (.seq (.reg r62_0) (.seq (.seq (.reg r62_1) (.cond (.t 4) (.seq (.reg r62_2) .ret) .skip)) (.seq (.reg r62_3) .ret)))
theorem o62 : (Try.f62.body.bind fun c => toIC Try.prog 8 c []) = some (i62, []) := by kernel_rfl
theorem f62 : FI Try.prog 8 i62 [.tmp 2] 62 := fi (by kernel_rfl) Try.func62 (by kernel_rfl) o62 (by kernel_rfl)
abbrev r75_0 : List RO := [ro (.box 4 (.t 0)), ro (.mov 5 (cB false))]
abbrev r75_1 : List RO := [rF 6 0 4, rL 7 6, rL 8 1, ro (.bin 9 .eql (.t 7) (.t 8)), rM 10 9, rT 10 (.faddr 11 3 (.t 4)), rT 10 (.load 12 none (.t 11)), rT 10 (.load 13 none (.t 2)), rT 10 (.bin 14 .eql (.t 12) (.t 13)), rT 10 (.mov 15 (.t 14)), rN 15 (.faddr 16 3 (.t 4)), rN 15 (.load 17 none (.t 16)), rN 15 (.bin 18 .eql (.t 17) (c6 2)), rT 10 (.pick 19 (.t 15) (cB true) (.t 18)), ro (.pick 20 (.t 10) (.t 19) (cB false)), rM 21 20, rT 21 (.faddr 22 1 (.t 4)), rT 21 (.load 23 none (.t 22)), rT 21 (.faddr 24 0 (.t 3)), rT 21 (.load 25 none (.t 24)), rT 21 (.bin 26 .leq (.t 23) (.t 25)), ro (.pick 27 (.t 21) (.t 26) (cB false)), rM 28 27, rT 28 (.faddr 29 1 (.t 3)), rT 28 (.load 30 none (.t 29)), rT 28 (.faddr 31 2 (.t 4)), rT 28 (.load 32 none (.t 31)), rT 28 (.bin 33 .leq (.t 30) (.t 32)), ro (.pick 34 (.t 28) (.t 33) (cB false)), rM 5 34]
def i75 : IC := (.seq (.reg r75_0) (.seq (.reg r75_1) .ret))
theorem o75 : (Try.f75.body.bind fun c => toIC Try.prog 35 c []) = some (i75, []) := by kernel_rfl
theorem f75 : FI Try.prog 35 i75 [.tmp 5] 75 := fi (by kernel_rfl) Try.func75 (by kernel_rfl) o75 (by kernel_rfl)
abbrev r29_0 : List RO := [ro (.box 5 (.t 1)), ro (.box 6 (.t 2)), ro (.box 7 (.t 3)), ro (.mov 8 (cB false))]
abbrev r29_1 : List RO := [rM 9 0, ro (.callv 10 (.c (.one (.fn 27 []))) [(.t 9)]), rM 11 10, rT 11 (.load 12 (some 2) (.t 6)), rT 11 (.callv 13 (.c (.one (.fn 60 []))) [(.t 12)]), ro (.pick 14 (.t 11) (.t 13) (cB false)), rM 15 14, rT 15 (.load 16 none (.t 7)), rT 15 (.callv 17 (.c (.one (.fn 61 []))) [(.t 16)]), ro (.pick 18 (.t 15) (.t 17) (cB false)), rM 19 18, rT 19 (.mov 20 (.t 0)), rT 19 (.mkfn 21 75 [(.t 5), (.t 7), (.t 6)]), rT 19 (.callv 22 (.c (.one (.fn 72 []))) [(.t 20), (.t 21)]), ro (.pick 23 (.t 19) (.t 22) (cB false)), rM 8 23]
def i29 : IC := (.seq (.reg r29_0) (.seq (.reg r29_1) .ret))
theorem o29 : (Try.f29.body.bind fun c => toIC Try.prog 24 c []) = some (i29, []) := by kernel_rfl
theorem f29 : FI Try.prog 24 i29 [.tmp 8] 29 := fi (by kernel_rfl) Try.func29 (by kernel_rfl) o29 (by kernel_rfl)
abbrev r140_0 : List RO := [ro (.mov 2 (cB false))]
abbrev r140_1 : List RO := [rM 3 0, rM 4 0, ro (.bin 5 .neq (.t 3) (.t 4)), rM 2 5]
def i140 : IC := (.seq (.reg r140_0) (.seq (.reg r140_1) .ret))
theorem o140 : (Try.f140.body.bind fun c => toIC Try.prog 6 c []) = some (i140, []) := by kernel_rfl
theorem f140 : FI Try.prog 6 i140 [.tmp 2] 140 := fi (by kernel_rfl) Try.func140 (by kernel_rfl) o140 (by kernel_rfl)
abbrev r134_0 : List RO := [ro (.mov 4 (cB false))]
abbrev r134_1 : List RO := [rM 5 0, ro (.callv 6 (.c (.one (.fn 140 []))) [(.t 5)]), rM 7 6, rT 7 (.mov 8 (.t 1)), rT 7 (.callv 9 (.c (.one (.fn 140 []))) [(.t 8)]), rT 7 (.inv 10 (.t 9)), ro (.pick 11 (.t 7) (.t 10) (cB false)), rM 12 11, rN 12 (.mov 13 (.t 0)), rN 12 (.mov 14 (.t 1)), rN 12 (.bin 15 .lss (.t 13) (.t 14)), ro (.pick 16 (.t 12) (cB true) (.t 15)), rM 4 16]
def i134 : IC := (.seq (.reg r134_0) (.seq (.reg r134_1) .ret))
theorem o134 : (Try.f134.body.bind fun c => toIC Try.prog 17 c []) = some (i134, []) := by kernel_rfl
theorem f134 : FI Try.prog 17 i134 [.tmp 4] 134 := fi (by kernel_rfl) Try.func134 (by kernel_rfl) o134 (by kernel_rfl)
abbrev r135_0 : List RO := [ro (.mov 2 (cB false))]
abbrev r135_1 : List RO := [rM 3 0, rM 4 0, ro (.bin 5 .neq (.t 3) (.t 4)), rM 2 5]
def i135 : IC := (.seq (.reg r135_0) (.seq (.reg r135_1) .ret))
theorem o135 : (Try.f135.body.bind fun c => toIC Try.prog 6 c []) = some (i135, []) := by kernel_rfl
theorem f135 : FI Try.prog 6 i135 [.tmp 2] 135 := fi (by kernel_rfl) Try.func135 (by kernel_rfl) o135 (by kernel_rfl)
abbrev r127_0 : List RO := [ro (.mov 4 (c6 0)), ro (.mov 5 (cB false))]
abbrev r127_1 : List RO := [rM 10 0, ro (.len 11 false (.t 10)), rM 6 11]
abbrev r127_2 : List RO := [rM 12 6, ro (.mov 7 (c6 0)), rM 8 12]
abbrev r127_3 : List RO := [rM 13 7, rM 14 8, ro (.bin 15 .lss (.t 13) (.t 14))]
abbrev r127_4 : List RO := [rM 16 7, rM 17 8, ro (.bin 18 .add (.t 16) (.t 17)), ro (.conv 19 .u64 (.t 18)), ro (.bin 20 .shr (.t 19) (.c (.one (.d (.int .u64 1))))), ro (.conv 21 .i64 (.t 20)), rM 9 21]
abbrev r127_5 : List RO := [rM 22 0, rM 23 9, ro (.iaddr 24 1 (.t 22) (.t 23)), rL 25 24, rM 26 1, ro (.callv 27 (.c (.one (.fn 134 []))) [(.t 25), (.t 26)])]
abbrev r127_6 : List RO := [rM 28 9, ro (.bin 29 .add (.t 28) (c6 1)), rM 7 29]
abbrev r127_7 : List RO := [rM 30 9, rM 8 30]
abbrev r127_8 : List RO := [rM 31 7, rM 32 7, rM 33 6, ro (.bin 34 .lss (.t 32) (.t 33)), rM 35 34, rT 35 (.mov 36 (.t 0)), rT 35 (.mov 37 (.t 7)), rT 35 (.iaddr 38 1 (.t 36) (.t 37)), rT 35 (.load 39 none (.t 38)), rT 35 (.mov 40 (.t 1)), rT 35 (.bin 41 .eql (.t 39) (.t 40)), rT 35 (.mov 42 (.t 41)), rN 42 (.mov 43 (.t 0)), rN 42 (.mov 44 (.t 7)), rN 42 (.iaddr 45 1 (.t 43) (.t 44)), rN 42 (.load 46 none (.t 45)), rN 42 (.callv 47 (.c (.one (.fn 135 []))) [(.t 46)]), rN 42 (.mov 48 (.t 47)), rT 48 (.mov 49 (.t 1)), rT 48 (.callv 50 (.c (.one (.fn 135 []))) [(.t 49)]), rN 42 (.pick 51 (.t 48) (.t 50) (cB false)), rT 35 (.pick 52 (.t 42) (cB true) (.t 51)), ro (.pick 53 (.t 35) (.t 52) (cB false)), rM 4 31, rM 5 53]
def i127 : IC := (.seq (.reg r127_0) (.seq (.reg r127_1) (.seq (.reg r127_2) (.seq (.block 0 (.loop (.seq (.seq (.reg r127_3) (.cond (.t 15) .skip (.exit 0))) (.block 1 (.seq (.reg r127_4) (.seq (.reg r127_5) (.cond (.t 27) (.reg r127_6) (.reg r127_7)))))))) (.seq (.reg r127_8) .ret)))))
theorem o127 : (Try.f127.body.bind fun c => toIC Try.prog 54 c []) = some (i127, []) := by kernel_rfl
theorem f127 : FI Try.prog 54 i127 [.tmp 4, .tmp 5] 127 := fi (by kernel_rfl) Try.func127 (by kernel_rfl) o127 (by kernel_rfl)
abbrev r129_0 : List RO := [ro (.mov 2 (.c (.one .zs)))]
abbrev r129_1 : List RO := [rM 3 0, ro (.isnil 4 false (.t 3))]
abbrev r129_2 : List RO := [ro (.mov 2 (.c (.one .zs)))]
abbrev r129_3 : List RO := [ro (.bslice 5 1 [] []), rM 6 0, ro (.app 7 1 8 [(.int .i64 0)] (.t 5) (.t 6)), rM 2 7]
def i129 : IC := (.seq (.reg r129_0) (.seq (.seq (.reg r129_1) (.cond (.t 4) (.seq (.reg r129_2) .ret) .skip)) (.seq (.reg r129_3) .ret)))
theorem o129 : (Try.f129.body.bind fun c => toIC Try.prog 8 c []) = some (i129, []) := by kernel_rfl
theorem f129 : FI Try.prog 8 i129 [.tmp 2] 129 := fi (by kernel_rfl) Try.func129 (by kernel_rfl) o129 (by kernel_rfl)
abbrev r128_0 : List RO := [ro (.mov 6 (.c (.one .zs)))]
abbrev r128_1 : List RO := [rM 10 0, rM 11 1, ro (.slice 12 1 (.t 10) (some (.t 11)) none none)]
abbrev r128_2 : List RO := [rM 13 2, ro (.len 14 false (.t 13)), rM 7 14]
abbrev r128_3 : List RO := [rM 15 7, ro (.bin 16 .eql (.t 15) (c6 0))]
abbrev r128_4 : List RO := [rM 17 0, rM 6 17]
abbrev r128_5 : List RO := [rM 18 0, ro (.len 19 false (.t 18)), rM 8 19]
abbrev r128_6 : List RO := [rM 20 1, rM 21 8, ro (.bin 22 .eql (.t 20) (.t 21))]
abbrev r128_7 : List RO := [rM 23 0, rM 24 2, ro (.app 25 1 8 [(.int .i64 0)] (.t 23) (.t 24)), rM 6 25]
abbrev r128_8 : List RO := [rM 26 8, rM 27 7, ro (.bin 28 .add (.t 26) (.t 27)), rM 29 0, ro (.cap 30 (.t 29)), ro (.bin 31 .gtr (.t 28) (.t 30))]
abbrev r128_9 : List RO := [rM 32 0, rM 33 1, ro (.slice 34 1 (.t 32) none (some (.t 33)) none), rM 35 8, rM 36 7, ro (.bin 37 .add (.t 35) (.t 36)), rM 38 1, ro (.bin 39 .sub (.t 37) (.t 38)), ro (.apm 40 1 8 [(.int .i64 0)] (.t 34) (.t 39)), rM 9 40]
abbrev r128_10 : List RO := [rM 41 9, rM 42 1, ro (.slice 43 1 (.t 41) (some (.t 42)) none none), rM 44 2, ro (.copy 45 1 (.t 43) (.t 44))]
abbrev r128_11 : List RO := [rM 46 9, rM 47 1, rM 48 7, ⟨⟨none, .bin 49 .add (.t 47) (.t 48)⟩, 6, []⟩, ⟨⟨none, .slice 50 1 (.t 46) (some (.t 49)) none none⟩, 15, []⟩, rM 51 0, rM 52 1, ⟨⟨none, .slice 53 1 (.t 51) (some (.t 52)) none none⟩, 96, []⟩, ⟨⟨none, .copy 54 1 (.t 50) (.t 53)⟩, 255, []⟩]
abbrev r128_12 : List RO := [rM 55 9, rM 6 55]
abbrev r128_13 : List RO := [rM 56 0, rM 57 8, rM 58 7, ro (.bin 59 .add (.t 57) (.t 58)), ro (.slice 60 1 (.t 56) none (some (.t 59)) none), rM 0 60]
abbrev r128_14 : List RO := [rM 61 2, rM 62 0, rM 63 1, rM 64 7, ro (.bin 65 .add (.t 63) (.t 64)), ro (.slice 66 1 (.t 62) (some (.t 65)) none none), ro (.callv 67 (.c (.one (.fn 136 []))) [(.t 61), (.t 66)]), ro (.inv 68 (.t 67))]
abbrev r128_15 : List RO := [rM 69 0, rM 70 1, rM 71 7, ⟨⟨none, .bin 72 .add (.t 70) (.t 71)⟩, 6, []⟩, ⟨⟨none, .slice 73 1 (.t 69) (some (.t 72)) none none⟩, 15, []⟩, rM 74 0, rM 75 1, ⟨⟨none, .slice 76 1 (.t 74) (some (.t 75)) none none⟩, 96, []⟩, ⟨⟨none, .copy 77 1 (.t 73) (.t 76)⟩, 255, []⟩]
abbrev r128_16 : List RO := [rM 78 0, rM 79 1, ro (.slice 80 1 (.t 78) (some (.t 79)) none none), rM 81 2, ro (.copy 82 1 (.t 80) (.t 81))]
abbrev r128_17 : List RO := [rM 83 0, rM 6 83]
abbrev r128_18 : List RO := [rM 84 0, rM 85 8, ro (.slice 86 1 (.t 84) (some (.t 85)) none none), rM 87 2, ro (.copy 88 1 (.t 86) (.t 87))]
abbrev r128_19 : List RO := [rM 89 0, rM 90 1, ro (.slice 91 1 (.t 89) (some (.t 90)) none none), rM 92 7, ro (.callv 93 (.c (.one (.fn 137 []))) [(.t 91), (.t 92)])]
abbrev r128_20 : List RO := [rM 94 0, rM 6 94]
def i128 : IC := (.seq (.reg r128_0) (.seq (.reg r128_1) (.seq (.reg r128_2) (.seq (.seq (.reg r128_3) (.cond (.t 16) (.seq (.reg r128_4) .ret) .skip)) (.seq (.reg r128_5) (.seq (.seq (.reg r128_6) (.cond (.t 22) (.seq (.reg r128_7) .ret) .skip)) (.seq (.seq (.reg r128_8) (.cond (.t 31) (.seq (.reg r128_9) (.seq (.reg r128_10) (.seq (.regd r128_11) (.seq (.reg r128_12) .ret)))) .skip)) (.seq (.reg r128_13) (.seq (.seq (.reg r128_14) (.cond (.t 68) (.seq (.regd r128_15) (.seq (.reg r128_16) (.seq (.reg r128_17) .ret))) .skip)) (.seq (.reg r128_18) (.seq (.reg r128_19) (.seq (.reg r128_20) .ret))))))))))))
theorem o128 : (Try.f128.body.bind fun c => toIC Try.prog 95 c [[(0, []), (0, []), (0, []), (6, []), (15, []), (0, []), (0, []), (96, []), (255, [])], [(0, []), (0, []), (0, []), (6, []), (15, []), (0, []), (0, []), (96, []), (255, [])]]) = some (i128, []) := by kernel_rfl
theorem m128 : FM Try.prog 95 i128 [.tmp 6] 128 := fm (by kernel_rfl) Try.func128 (by kernel_rfl) o128 (by kernel_rfl)
abbrev r102_0 : List RO := [ro (.mov 4 (.c (.one .zs)))]
abbrev r102_1 : List RO := [rM 8 0, rM 9 1, ro (.callv 10 (.c (.one (.fn 127 []))) [(.t 8), (.t 9)]), rM 7 10, ro (.ext 11 (.t 7) 0), ro (.ext 12 (.t 7) 1), rM 5 11, rM 6 12]
abbrev r102_2 : List RO := [rM 13 6]
abbrev r102_3 : List RO := [rM 14 0, rM 4 14]
abbrev r102_4 : List RO := [rM 15 0, ro (.callv 16 (.c (.one (.fn 129 []))) [(.t 15)]), rM 17 5, rM 18 1, ro (.bslice 19 1 [(dI 0)] [(0, 1, (.t 18))]), ro (.callv 20 (.c (.one (.fn 128 []))) [(.t 16), (.t 17), (.t 19)]), rM 4 20]
def i102 : IC := (.seq (.reg r102_0) (.seq (.reg r102_1) (.seq (.seq (.reg r102_2) (.cond (.t 13) (.seq (.reg r102_3) .ret) .skip)) (.seq (.reg r102_4) .ret))))
theorem o102 : (Try.f102.body.bind fun c => toIC Try.prog 21 c []) = some (i102, []) := by kernel_rfl
theorem m102 : FM Try.prog 21 i102 [.tmp 4] 102 := fm (by kernel_rfl) Try.func102 (by kernel_rfl) o102 (by kernel_rfl)
abbrev r104_0 : List RO := [ro (.mov 4 (c6 0))]
abbrev r104_1 : List RO := [rM 6 0, ro (.len 7 false (.t 6)), ro (.mov 8 (c6 0))]
abbrev r104_2 : List RO := [ro (.bin 9 .lss (.t 8) (.t 7))]
abbrev r104_3 : List RO := [rM 10 8, rM 5 10]
abbrev r104_4 : List RO := [rM 11 1, rM 12 0, rM 13 5, ro (.iaddr 14 1 (.t 12) (.t 13)), rL 15 14, ro (.bin 16 .eql (.t 11) (.t 15))]
abbrev r104_5 : List RO := [rM 17 5, rM 4 17]
abbrev r104_6 : List RO := [ro (.bin 18 .add (.t 8) (c6 1)), rM 8 18]
abbrev r104_7 : List RO := [ro (.mov 4 (c6 (-1)))]
def i104 : IC := (.seq (.reg r104_0) (.seq (.seq (.reg r104_1) (.block 0 (.loop (.seq (.reg r104_2) (.seq (.cond (.t 9) .skip (.exit 0)) (.seq (.block 1 (.seq (.reg r104_3) (.seq (.reg r104_4) (.cond (.t 16) (.seq (.reg r104_5) .ret) .skip)))) (.reg r104_6))))))) (.seq (.reg r104_7) .ret)))
theorem o104 : (Try.f104.body.bind fun c => toIC Try.prog 19 c []) = some (i104, []) := by kernel_rfl
theorem f104 : FI Try.prog 19 i104 [.tmp 4] 104 := fi (by kernel_rfl) Try.func104 (by kernel_rfl) o104 (by kernel_rfl)
abbrev r66_0 : List RO := [ro (.mov 4 (cB false))]
abbrev r66_1 : List RO := [rM 5 0, rM 6 1, ro (.callv 7 (.c (.one (.fn 104 []))) [(.t 5), (.t 6)]), ro (.bin 8 .geq (.t 7) (c6 0)), rM 4 8]
def i66 : IC := (.seq (.reg r66_0) (.seq (.reg r66_1) .ret))
theorem o66 : (Try.f66.body.bind fun c => toIC Try.prog 9 c []) = some (i66, []) := by kernel_rfl
theorem f66 : FI Try.prog 9 i66 [.tmp 4] 66 := fi (by kernel_rfl) Try.func66 (by kernel_rfl) o66 (by kernel_rfl)
abbrev r63_0 : List RO := [ro (.box 5 (.t 2)), ro (.mov 6 (.c (.one .zs))), ro (.mov 7 (.c (.one .zs)))]
abbrev r63_1 : List RO := [ro (.bslice 12 1 [] []), ro (.bslice 13 1 [] []), rM 8 12, rM 9 13]
abbrev r63_2 : List RO := [rM 14 0, ro (.len 15 false (.t 14)), ro (.mov 16 (c6 0))]
abbrev r63_3 : List RO := [ro (.bin 17 .lss (.t 16) (.t 15))]
abbrev r63_4 : List RO := [ro (.iaddr 18 4 (.t 14) (.t 16)), ro (.load 19 (some 4) (.t 18)), ro (.var 11 [(dI 0), (dI 0), (dI 0), (dI 0)]), ro (.store 4 [(.int .i64 0), (.int .i64 0), (.int .i64 0), (.int .i64 0)] (.t 11) (.t 19))]
abbrev r63_5 : List RO := [ro (.load 20 (some 4) (.t 5)), ro (.load 21 (some 4) (.t 11)), ro (.callv 22 (.c (.one (.fn 74 []))) [(.t 20), (.t 21)]), ro (.inv 23 (.t 22))]
abbrev r63_6 : List RO := [rM 24 8, rF 25 0 11, rL 26 25, ro (.callv 27 (.c (.one (.fn 102 []))) [(.t 24), (.t 26)]), rM 8 27]
abbrev r63_7 : List RO := [rF 28 0 11, rL 29 28, rF 30 0 5, rL 31 30, ro (.bin 32 .lss (.t 29) (.t 31)), rM 33 32, rN 33 (.mov 34 (.t 1)), rN 33 (.faddr 35 0 (.t 11)), rN 33 (.load 36 none (.t 35)), rN 33 (.callv 37 (.c (.one (.fn 66 []))) [(.t 34), (.t 36)]), ro (.pick 38 (.t 33) (cB true) (.t 37))]
abbrev r63_8 : List RO := [rM 39 9, rF 40 0 11, rL 41 40, ro (.callv 42 (.c (.one (.fn 102 []))) [(.t 39), (.t 41)]), rM 9 42]
abbrev r63_9 : List RO := [ro (.bin 43 .add (.t 16) (c6 1)), rM 16 43]
abbrev r63_10 : List RO := [rM 44 8, rM 45 9, rM 6 44, rM 7 45]
def i63 : IC := (.seq (.reg r63_0) (.seq (.reg r63_1) (.seq (.seq (.reg r63_2) (.block 0 (.loop (.seq (.reg r63_3) (.seq (.cond (.t 17) .skip (.exit 0)) (.seq (.block 1 (.seq (.reg r63_4) (.seq (.seq (.reg r63_5) (.cond (.t 23) (.exit 1) .skip)) (.seq (.reg r63_6) (.seq (.reg r63_7) (.cond (.t 38) (.reg r63_8) .skip)))))) (.reg r63_9))))))) (.seq (.reg r63_10) .ret))))
theorem o63 : (Try.f63.body.bind fun c => toIC Try.prog 46 c []) = some (i63, []) := by kernel_rfl
theorem f63 : FI Try.prog 46 i63 [.tmp 6, .tmp 7] 63 := fi (by kernel_rfl) Try.func63 (by kernel_rfl) o63 (by kernel_rfl)
abbrev r65_0 : List RO := [ro (.box 2 (.t 0)), ro (.mov 3 (cB false))]
abbrev r65_1 : List RO := [rL 4 1, rF 5 0 2, rL 6 5, ro (.callv 7 (.c (.one (.fn 66 []))) [(.t 4), (.t 6)]), rM 3 7]
def i65 : IC := (.seq (.reg r65_0) (.seq (.reg r65_1) .ret))
theorem o65 : (Try.f65.body.bind fun c => toIC Try.prog 8 c []) = some (i65, []) := by kernel_rfl
theorem f65 : FI Try.prog 8 i65 [.tmp 3] 65 := fi (by kernel_rfl) Try.func65 (by kernel_rfl) o65 (by kernel_rfl)
abbrev r64_0 : List RO := [ro (.mov 4 (.c (.one .zs)))]
abbrev r64_1 : List RO := [rM 8 0, rM 9 1, ro (.callv 10 (.c (.one (.fn 103 []))) [(.t 8), (.t 9)]), rM 5 10]
abbrev r64_2 : List RO := [rM 11 5, ro (.bin 12 .eql (.t 11) (c6 (-1)))]
abbrev r64_3 : List RO := [rM 13 0, rM 4 13]
abbrev r64_4 : List RO := [rM 14 5, ro (.bin 15 .add (.t 14) (c6 1)), rM 6 15]
abbrev r64_5 : List RO := [rM 16 6, rM 17 0, ro (.len 18 false (.t 17)), ro (.bin 19 .lss (.t 16) (.t 18))]
abbrev r64_6 : List RO := [rM 22 0, rM 23 6, ro (.iaddr 24 4 (.t 22) (.t 23)), ro (.load 25 (some 4) (.t 24)), ro (.var 7 [(dI 0), (dI 0), (dI 0), (dI 0)]), ro (.store 4 [(.int .i64 0), (.int .i64 0), (.int .i64 0), (.int .i64 0)] (.t 7) (.t 25))]
abbrev r64_7 : List RO := [rM 26 1, ro (.load 27 (some 4) (.t 7)), ro (.callv 28 (.t 26) [(.t 27)]), ro (.inv 29 (.t 28))]
abbrev r64_8 : List RO := [rM 30 0, rM 31 5, ro (.load 32 (some 4) (.t 7)), ro (.iaddr 33 4 (.t 30) (.t 31)), ro (.store 4 [(.int .i64 0), (.int .i64 0), (.int .i64 0), (.int .i64 0)] (.t 33) (.t 32))]
abbrev r64_9 : List RO := [rM 34 5, ro (.bin 35 .add (.t 34) (c6 1)), rM 5 35]
abbrev r64_10 : List RO := [rM 20 6, ro (.bin 21 .add (.t 20) (c6 1)), rM 6 21]
abbrev r64_11 : List RO := [rM 36 0, rM 37 5, ro (.slice 38 4 (.t 36) (some (.t 37)) none none), ro (.clear 4 [(.int .i64 0), (.int .i64 0), (.int .i64 0), (.int .i64 0)] (.t 38))]
abbrev r64_12 : List RO := [rM 39 0, rM 40 5, ro (.slice 41 4 (.t 39) none (some (.t 40)) none), rM 4 41]
def i64 : IC := (.seq (.reg r64_0) (.seq (.reg r64_1) (.seq (.seq (.reg r64_2) (.cond (.t 12) (.seq (.reg r64_3) .ret) .skip)) (.seq (.seq (.reg r64_4) (.block 0 (.loop (.seq (.seq (.reg r64_5) (.cond (.t 19) .skip (.exit 0))) (.seq (.block 1 (.seq (.reg r64_6) (.seq (.reg r64_7) (.cond (.t 29) (.seq (.reg r64_8) (.reg r64_9)) .skip)))) (.reg r64_10)))))) (.seq (.reg r64_11) (.seq (.reg r64_12) .ret))))))
theorem o64 : (Try.f64.body.bind fun c => toIC Try.prog 42 c []) = some (i64, []) := by kernel_rfl
theorem m64 : FM Try.prog 42 i64 [.tmp 4] 64 := fm (by kernel_rfl) Try.func64 (by kernel_rfl) o64 (by kernel_rfl)
abbrev r24_0 : List RO := [ro (.box 8 (.t 3)), ro (.mov 10 (.c (.one .zs))), ro (.mov 11 (.c (.one .zs))), ro (.mov 12 (c6 0))]
abbrev r24_1 : List RO := [rM 18 0, ro (.callv 19 (.c (.one (.fn 27 []))) [(.t 18)]), ro (.inv 20 (.t 19)), rM 21 20, rN 21 (.mov 22 (.t 1)), rN 21 (.len 23 false (.t 22)), rN 21 (.bin 24 .gtr (.t 23) (c6 60)), ro (.pick 25 (.t 21) (cB true) (.t 24)), rM 26 25, rN 26 (.mov 27 (.t 2)), rN 26 (.callv 28 (.c (.one (.fn 59 []))) [(.t 27)]), rN 26 (.inv 29 (.t 28)), ro (.pick 30 (.t 26) (cB true) (.t 29)), rM 31 30, rN 31 (.load 32 (some 2) (.t 8)), rN 31 (.callv 33 (.c (.one (.fn 60 []))) [(.t 32)]), rN 31 (.inv 34 (.t 33)), ro (.pick 35 (.t 31) (cB true) (.t 34)), rM 36 35, rN 36 (.mov 37 (.t 4)), rN 36 (.callv 38 (.c (.one (.fn 61 []))) [(.t 37)]), rN 36 (.inv 39 (.t 38)), ro (.pick 40 (.t 36) (cB true) (.t 39))]
abbrev r24_2 : List RO := [ro (.mov 10 (.c (.one .zs))), ro (.mov 11 (.c (.one .zs))), ro (.mov 12 (c6 1))]
abbrev r24_3 : List RO := [rM 41 0, ro (.callv 42 (.c (.one (.fn 62 []))) [(.t 41)]), rM 13 42]
abbrev r24_4 : List RO := [rM 43 0, rM 44 2, ro (.load 45 (some 2) (.t 8)), rM 46 4, ro (.callv 47 (.c (.one (.fn 29 []))) [(.t 43), (.t 44), (.t 45), (.t 46)])]
abbrev r24_5 : List RO := [rM 48 13, rM 10 48, ro (.mov 11 (.c (.one .zs))), ro (.mov 12 (c6 0))]
abbrev r24_6 : List RO := [rM 49 2, rF 50 0 8, rL 51 50, rF 52 1 8, rL 53 52, rM 54 4, ro (.build 55 [(dI 0), (dI 0), (dI 0), (dI 0)] [(0, 1, (.t 49)), (1, 1, (.t 51)), (2, 1, (.t 53)), (3, 1, (.t 54))]), ro (.var 14 [(dI 0), (dI 0), (dI 0), (dI 0)]), ro (.store 4 [(.int .i64 0), (.int .i64 0), (.int .i64 0), (.int .i64 0)] (.t 14) (.t 55))]
abbrev r24_7 : List RO := [rM 57 0, rM 58 1, ro (.load 59 (some 4) (.t 14)), ro (.callv 60 (.c (.one (.fn 63 []))) [(.t 57), (.t 58), (.t 59)]), rM 56 60, ro (.ext 61 (.t 56) 0), ro (.ext 62 (.t 56) 1), ro (.var 15 [.zs]), ro (.store 1 [(.sl 1 [])] (.t 15) (.t 61)), rM 16 62]
abbrev r24_8 : List RO := [rM 63 16, ro (.len 64 false (.t 63)), ro (.bin 65 .gtr (.t 64) (c6 0))]
abbrev r24_9 : List RO := [rM 66 13, rM 10 66, ro (.mov 11 (.c (.one .zs))), ro (.mov 12 (c6 2))]
abbrev r24_10 : List RO := [rM 67 0, ro (.callv 68 (.c (.one (.fn 62 []))) [(.t 67)]), ro (.mkfn 69 65 [(.t 15)]), ro (.callv 70 (.c (.one (.fn 64 []))) [(.t 68), (.t 69)]), rM 17 70]
abbrev r24_11 : List RO := [rM 71 17, ro (.len 72 false (.t 71)), ro (.bin 73 .eql (.t 72) (c6 40))]
abbrev r24_12 : List RO := [rM 74 13, rM 10 74, ro (.mov 11 (.c (.one .zs))), ro (.mov 12 (c6 3))]
abbrev r24_13 : List RO := [rM 75 17, ro (.load 76 (some 4) (.t 14)), ⟨⟨none, .bslice 77 4 [(dI 0), (dI 0), (dI 0), (dI 0)] [(0, 4, (.t 76))]⟩, 2, []⟩, ⟨⟨none, .app 78 4 32 [(.int .i64 0), (.int .i64 0), (.int .i64 0), (.int .i64 0)] (.t 75) (.t 77)⟩, 7, []⟩, ⟨⟨none, .load 79 none (.t 15)⟩, 0, [77, 78, 2000003]⟩, ⟨⟨none, .mov 10 (.t 78)⟩, 15, []⟩, ⟨⟨none, .mov 11 (.t 79)⟩, 63, []⟩, ⟨⟨none, .mov 12 (c6 0)⟩, 127, []⟩]
def i24 : IC := (.seq (.reg r24_0) (.seq (.seq (.reg r24_1) (.cond (.t 40) (.seq (.reg r24_2) .ret) .skip)) (.seq (.reg r24_3) (.seq (.seq (.reg r24_4) (.cond (.t 47) (.seq (.reg r24_5) .ret) .skip)) (.seq (.reg r24_6) (.seq (.reg r24_7) (.seq (.seq (.reg r24_8) (.cond (.t 65) (.seq (.reg r24_9) .ret) .skip)) (.seq (.reg r24_10) (.seq (.seq (.reg r24_11) (.cond (.t 73) (.seq (.reg r24_12) .ret) .skip)) (.seq (.regl r24_13) .ret))))))))))
theorem o24 : (Try.f24.body.bind fun c => toIC Try.prog 80 c [[(0, []), (0, []), (2, []), (7, []), (0, [77, 78, 2000003]), (15, []), (63, []), (127, [])]]) = some (i24, []) := by kernel_rfl
theorem f24 : FI Try.prog 80 i24 [.tmp 10, .tmp 11, .tmp 12] 24 := fi (by kernel_rfl) Try.func24 (by kernel_rfl) o24 (by kernel_rfl)
abbrev r34_0 : List RO := [ro (.box 8 (.t 3)), ro (.mov 10 (.c (.one .zs)))]
abbrev r34_1 : List RO := [rM 17 0, rM 18 1, rM 19 2, ro (.load 20 (some 2) (.t 8)), rM 21 4, ro (.callv 22 (.c (.one (.fn 24 []))) [(.t 17), (.t 18), (.t 19), (.t 20), (.t 21)]), rM 16 22, ro (.ext 23 (.t 16) 0), ro (.ext 24 (.t 16) 1), ro (.ext 25 (.t 16) 2), rM 11 23, rM 12 24, rM 13 25]
abbrev r34_2 : List RO := [rM 26 13, ro (.bin 27 .neq (.t 26) (c6 2))]
abbrev r34_3 : List RO := [ro (.mov 10 (.c (.one .zs)))]
abbrev r34_4 : List RO := [rM 29 0, rM 30 1, rM 31 2, rF 32 0 8, rL 33 32, rF 34 1 8, rL 35 34, rM 36 4, ro (.build 37 [(dI 0), (dI 0), (dI 0), (dI 0)] [(0, 1, (.t 31)), (1, 1, (.t 33)), (2, 1, (.t 35)), (3, 1, (.t 36))]), ro (.callv 38 (.c (.one (.fn 63 []))) [(.t 29), (.t 30), (.t 37)]), rM 28 38, ro (.ext 39 (.t 28) 0), ro (.ext 40 (.t 28) 1), rM 14 39, rM 15 40]
abbrev r34_5 : List RO := [rM 41 15, rM 10 41]
def i34 : IC := (.seq (.reg r34_0) (.seq (.seq (.reg r34_1) (.seq (.reg r34_2) (.cond (.t 27) (.seq (.reg r34_3) .ret) .skip))) (.seq (.reg r34_4) (.seq (.reg r34_5) .ret))))
theorem o34 : (Try.f34.body.bind fun c => toIC Try.prog 42 c []) = some (i34, []) := by kernel_rfl
theorem f34 : FI Try.prog 42 i34 [.tmp 10] 34 := fi (by kernel_rfl) Try.func34 (by kernel_rfl) o34 (by kernel_rfl)
abbrev r26_0 : List RO := [ro (.mov 4 (cB false))]
abbrev r26_1 : List RO := [rM 6 0, ro (.len 7 false (.t 6)), rM 8 1, ro (.len 9 false (.t 8)), ro (.bin 10 .neq (.t 7) (.t 9))]
abbrev r26_2 : List RO := [ro (.mov 4 (cB false))]
abbrev r26_3 : List RO := [ro (.mov 5 (c6 0))]
abbrev r26_4 : List RO := [rM 11 5, rM 12 0, ro (.len 13 false (.t 12)), ro (.bin 14 .lss (.t 11) (.t 13))]
abbrev r26_5 : List RO := [rM 17 0, rM 18 5, ⟨⟨none, .iaddr 19 1 (.t 17) (.t 18)⟩, 3, []⟩, ⟨⟨none, .load 20 none (.t 19)⟩, 7, []⟩, rM 21 1, rM 22 5, ⟨⟨none, .iaddr 23 1 (.t 21) (.t 22)⟩, 48, []⟩, ⟨⟨none, .load 24 none (.t 23)⟩, 112, []⟩, ⟨⟨none, .bin 25 .neq (.t 20) (.t 24)⟩, 255, []⟩]
abbrev r26_6 : List RO := [ro (.mov 4 (cB false))]
abbrev r26_7 : List RO := [rM 15 5, ro (.bin 16 .add (.t 15) (c6 1)), rM 5 16]
abbrev r26_8 : List RO := [ro (.mov 4 (cB true))]
def i26 : IC := (.seq (.reg r26_0) (.seq (.seq (.reg r26_1) (.cond (.t 10) (.seq (.reg r26_2) .ret) .skip)) (.seq (.seq (.reg r26_3) (.block 0 (.loop (.seq (.seq (.reg r26_4) (.cond (.t 14) .skip (.exit 0))) (.seq (.block 1 (.seq (.regd r26_5) (.cond (.t 25) (.seq (.reg r26_6) .ret) .skip))) (.reg r26_7)))))) (.seq (.reg r26_8) .ret))))
theorem o26 : (Try.f26.body.bind fun c => toIC Try.prog 26 c [[(0, []), (0, []), (3, []), (7, []), (0, []), (0, []), (48, []), (112, []), (255, [])]]) = some (i26, []) := by kernel_rfl
theorem f26 : FI Try.prog 26 i26 [.tmp 4] 26 := fi (by kernel_rfl) Try.func26 (by kernel_rfl) o26 (by kernel_rfl)
abbrev r30_0 : List RO := [ro (.mov 4 (cB false))]
abbrev r30_1 : List RO := [ro (.mov 5 (c6 0))]
abbrev r30_2 : List RO := [rM 6 5, rM 7 0, ro (.len 8 false (.t 7)), ro (.bin 9 .lss (.t 6) (.t 8))]
abbrev r30_3 : List RO := [rM 12 0, rM 13 5, ro (.iaddr 14 1 (.t 12) (.t 13)), rL 15 14, rM 16 1, ro (.bin 17 .eql (.t 15) (.t 16))]
abbrev r30_4 : List RO := [ro (.mov 4 (cB true))]
abbrev r30_5 : List RO := [rM 10 5, ro (.bin 11 .add (.t 10) (c6 1)), rM 5 11]
abbrev r30_6 : List RO := [ro (.mov 4 (cB false))]
def i30 : IC := (.seq (.reg r30_0) (.seq (.seq (.reg r30_1) (.block 0 (.loop (.seq (.seq (.reg r30_2) (.cond (.t 9) .skip (.exit 0))) (.seq (.block 1 (.seq (.reg r30_3) (.cond (.t 17) (.seq (.reg r30_4) .ret) .skip))) (.reg r30_5)))))) (.seq (.reg r30_6) .ret)))
theorem o30 : (Try.f30.body.bind fun c => toIC Try.prog 18 c []) = some (i30, []) := by kernel_rfl
theorem f30 : FI Try.prog 18 i30 [.tmp 4] 30 := fi (by kernel_rfl) Try.func30 (by kernel_rfl) o30 (by kernel_rfl)
abbrev r76_0 : List RO := [ro (.box 2 (.t 0)), ro (.mov 3 (cB false))]
abbrev r76_1 : List RO := [rF 4 0 2, rL 5 4, rL 6 1, ro (.bin 7 .neq (.t 5) (.t 6)), rM 3 7]
def i76 : IC := (.seq (.reg r76_0) (.seq (.reg r76_1) .ret))
theorem o76 : (Try.f76.body.bind fun c => toIC Try.prog 8 c []) = some (i76, []) := by kernel_rfl
theorem f76 : FI Try.prog 8 i76 [.tmp 3] 76 := fi (by kernel_rfl) Try.func76 (by kernel_rfl) o76 (by kernel_rfl)
abbrev r31_0 : List RO := [ro (.box 3 (.t 1)), ro (.mov 4 (.c (.one .zs)))]
abbrev r31_1 : List RO := [rM 5 0, ro (.callv 6 (.c (.one (.fn 27 []))) [(.t 5)]), ro (.inv 7 (.t 6))]
abbrev r31_2 : List RO := [ro (.mov 4 (.c (.one .zs)))]
abbrev r31_3 : List RO := [rM 8 0, ro (.callv 9 (.c (.one (.fn 62 []))) [(.t 8)]), ro (.mkfn 10 76 [(.t 3)]), ro (.callv 11 (.c (.one (.fn 64 []))) [(.t 9), (.t 10)]), rM 4 11]
def i31 : IC := (.seq (.reg r31_0) (.seq (.seq (.reg r31_1) (.cond (.t 7) (.seq (.reg r31_2) .ret) .skip)) (.seq (.reg r31_3) .ret)))
theorem o31 : (Try.f31.body.bind fun c => toIC Try.prog 12 c []) = some (i31, []) := by kernel_rfl
theorem f31 : FI Try.prog 12 i31 [.tmp 4] 31 := fi (by kernel_rfl) Try.func31 (by kernel_rfl) o31 (by kernel_rfl)
abbrev r6_0 : List RO := [ro (.mov 2 (cB false))]
abbrev r6_1 : List RO := [rM 17 0, ro (.callv 18 (.c (.one (.fn 7 []))) [(.t 17)])]
abbrev r6_2 : List RO := [ro (.mov 2 (cB true))]
abbrev r6_3 : List RO := [rM 20 0, ro (.callv 21 (.c (.one (.fn 33 []))) [(.t 20)]), rM 19 21, ro (.ext 22 (.t 19) 0), ro (.ext 23 (.t 19) 1), ro (.ext 24 (.t 19) 2), ro (.ext 25 (.t 19) 3), ro (.ext 26 (.t 19) 4), ro (.var 6 [(dI 0), (dI 0)]), rM 3 22, rM 4 23, rM 5 24, ro (.store 2 [(.int .i64 0), (.int .i64 0)] (.t 6) (.t 25)), rM 7 26]
abbrev r6_4 : List RO := [rM 27 3, rM 28 4, rM 29 5, ro (.load 30 (some 2) (.t 6)), rM 31 7, ro (.callv 32 (.c (.one (.fn 34 []))) [(.t 27), (.t 28), (.t 29), (.t 30), (.t 31)]), rM 8 32]
abbrev r6_5 : List RO := [rM 34 3, rM 35 4, rM 36 5, ro (.load 37 (some 2) (.t 6)), rM 38 7, ro (.callv 39 (.c (.one (.fn 24 []))) [(.t 34), (.t 35), (.t 36), (.t 37), (.t 38)]), rM 33 39, ro (.ext 40 (.t 33) 0), ro (.ext 41 (.t 33) 1), ro (.ext 42 (.t 33) 2), rM 9 40, rM 10 41, rM 11 42]
abbrev r6_6 : List RO := [rM 43 3, rM 44 4, rM 45 5, ro (.load 46 (some 2) (.t 6)), rM 47 7, ro (.callv 48 (.c (.one (.fn 35 []))) [(.t 43), (.t 44), (.t 45), (.t 46), (.t 47)]), rM 12 48]
abbrev r6_7 : List RO := [rM 49 8, rM 50 12, ro (.callv 51 (.c (.one (.fn 26 []))) [(.t 49), (.t 50)]), ro (.inv 52 (.t 51)), rM 53 52, rN 53 (.mov 54 (.t 11)), rN 53 (.bin 55 .eql (.t 54) (c6 2)), rN 53 (.mov 56 (.t 12)), rN 53 (.len 57 false (.t 56)), rN 53 (.bin 58 .gtr (.t 57) (c6 0)), rN 53 (.beq 59 true (.t 55) (.t 58)), ro (.pick 60 (.t 53) (cB true) (.t 59))]
abbrev r6_8 : List RO := [ro (.mov 2 (cB false))]
abbrev r6_9 : List RO := [ro (.mov 13 (c6 0))]
abbrev r6_10 : List RO := [rM 61 13, rM 62 8, ro (.len 63 false (.t 62)), ro (.bin 64 .lss (.t 61) (.t 63))]
abbrev r6_11 : List RO := [rM 67 8, rM 68 13, ro (.iaddr 69 1 (.t 67) (.t 68)), rL 70 69, rM 71 5, ro (.bin 72 .eql (.t 70) (.t 71)), rM 73 72, rN 73 (.mov 74 (.t 8)), rN 73 (.mov 75 (.t 13)), rN 73 (.iaddr 76 1 (.t 74) (.t 75)), rN 73 (.load 77 none (.t 76)), rN 73 (.mov 78 (.t 5)), rN 73 (.bin 79 .gtr (.t 77) (.t 78)), rN 73 (.mov 80 (.t 79)), rT 80 (.mov 81 (.t 4)), rT 80 (.mov 82 (.t 8)), rT 80 (.mov 83 (.t 13)), rT 80 (.iaddr 84 1 (.t 82) (.t 83)), rT 80 (.load 85 none (.t 84)), rT 80 (.callv 86 (.c (.one (.fn 30 []))) [(.t 81), (.t 85)]), rT 80 (.inv 87 (.t 86)), rN 73 (.pick 88 (.t 80) (.t 87) (cB false)), ro (.pick 89 (.t 73) (cB true) (.t 88))]
abbrev r6_12 : List RO := [ro (.mov 2 (cB false))]
abbrev r6_13 : List RO := [rM 90 3, rM 91 8, rM 92 13, ro (.iaddr 93 1 (.t 91) (.t 92)), rL 94 93, ro (.callv 95 (.c (.one (.fn 31 []))) [(.t 90), (.t 94)]), rM 14 95]
abbrev r6_14 : List RO := [ro (.mov 15 (cB false))]
abbrev r6_15 : List RO := [ro (.mov 16 (c6 0))]
abbrev r6_16 : List RO := [rM 96 16, rM 97 14, ro (.len 98 false (.t 97)), ro (.bin 99 .lss (.t 96) (.t 98))]
abbrev r6_17 : List RO := [rM 102 15, ⟨⟨none, .mov 103 (.t 102)⟩, 1, []⟩, ⟨⟨some (103, false), .mov 104 (.t 14)⟩, 3, []⟩, ⟨⟨some (103, false), .mov 105 (.t 16)⟩, 3, []⟩, ⟨⟨some (103, false), .iaddr 106 4 (.t 104) (.t 105)⟩, 15, []⟩, ⟨⟨some (103, false), .faddr 107 1 (.t 106)⟩, 31, []⟩, ⟨⟨some (103, false), .load 108 none (.t 107)⟩, 63, []⟩, ⟨⟨some (103, false), .faddr 109 1 (.t 6)⟩, 3, []⟩, ⟨⟨some (103, false), .load 110 none (.t 109)⟩, 131, []⟩, ⟨⟨some (103, false), .bin 111 .lss (.t 108) (.t 110)⟩, 511, []⟩, ⟨⟨some (103, false), .mov 112 (.t 111)⟩, 1023, []⟩, ⟨⟨some (112, true), .faddr 113 0 (.t 6)⟩, 2047, []⟩, ⟨⟨some (112, true), .load 114 none (.t 113)⟩, 4095, []⟩, ⟨⟨some (112, true), .mov 115 (.t 14)⟩, 2047, []⟩, ⟨⟨some (112, true), .mov 116 (.t 16)⟩, 2047, []⟩, ⟨⟨some (112, true), .iaddr 117 4 (.t 115) (.t 116)⟩, 26623, []⟩, ⟨⟨some (112, true), .faddr 118 2 (.t 117)⟩, 59391, []⟩, ⟨⟨some (112, true), .load 119 none (.t 118)⟩, 124927, []⟩, ⟨⟨some (112, true), .bin 120 .lss (.t 114) (.t 119)⟩, 262143, []⟩, ⟨⟨some (103, false), .pick 121 (.t 112) (.t 120) (cB false)⟩, 524287, []⟩, ⟨⟨none, .pick 122 (.t 103) (cB true) (.t 121)⟩, 1048575, []⟩, ⟨⟨none, .mov 15 (.t 122)⟩, 2097151, []⟩]
abbrev r6_18 : List RO := [rM 100 16, ro (.bin 101 .add (.t 100) (c6 1)), rM 16 101]
abbrev r6_19 : List RO := [rM 123 15, ro (.inv 124 (.t 123))]
abbrev r6_20 : List RO := [ro (.mov 2 (cB false))]
abbrev r6_21 : List RO := [rM 65 13, ro (.bin 66 .add (.t 65) (c6 1)), rM 13 66]
abbrev r6_22 : List RO := [ro (.mov 2 (cB true))]
def i6 : IC := (.seq (.reg r6_0) (.seq (.seq (.reg r6_1) (.cond (.t 18) (.seq (.reg r6_2) .ret) .skip)) (.seq (.reg r6_3) (.seq (.reg r6_4) (.seq (.reg r6_5) (.seq (.reg r6_6) (.seq (.seq (.reg r6_7) (.cond (.t 60) (.seq (.reg r6_8) .ret) .skip)) (.seq (.seq (.reg r6_9) (.block 0 (.loop (.seq (.seq (.reg r6_10) (.cond (.t 64) .skip (.exit 0))) (.seq (.block 1 (.seq (.seq (.reg r6_11) (.cond (.t 89) (.seq (.reg r6_12) .ret) .skip)) (.seq (.reg r6_13) (.seq (.reg r6_14) (.seq (.seq (.reg r6_15) (.block 2 (.loop (.seq (.seq (.reg r6_16) (.cond (.t 99) .skip (.exit 2))) (.seq (.block 3 (.regd r6_17)) (.reg r6_18)))))) (.seq (.reg r6_19) (.cond (.t 124) (.seq (.reg r6_20) .ret) .skip))))))) (.reg r6_21)))))) (.seq (.reg r6_22) .ret)))))))))
theorem o6 : (Try.f6.body.bind fun c => toIC Try.prog 125 c [[(0, []), (1, []), (3, []), (3, []), (15, []), (31, []), (63, []), (3, []), (131, []), (511, []), (1023, []), (2047, []), (4095, []), (2047, []), (2047, []), (26623, []), (59391, []), (124927, []), (262143, []), (524287, []), (1048575, []), (2097151, [])]]) = some (i6, []) := by kernel_rfl
theorem f6 : FI Try.prog 125 i6 [.tmp 2] 6 := fi (by kernel_rfl) Try.func6 (by kernel_rfl) o6 (by kernel_rfl)
end Go.AW
