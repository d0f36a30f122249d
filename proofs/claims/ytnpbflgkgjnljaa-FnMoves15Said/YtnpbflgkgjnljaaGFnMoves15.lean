/- The compact code of functions of the program, and that it is the program's. Conditions: none. -/
import Derived.Test.YtnpbflgkgjnljaaYi
import Derived.Test.YtnpbflgkgjnljaaRows
import Derived.KernelRfl
set_option linter.unusedVariables false
set_option maxRecDepth 100000
namespace Go.AW
open Go.Proofs
abbrev r7_0:List RO:=[ro (.mov 2 (cB false))]
abbrev r7_1:List RO:=[rM 3 0,ro (.len 4 false (.t 3)),ro (.bin 5 .gtr (.t 4) (c6 1048576)),rM 2 5]
def i7:IC:=(.seq (.reg r7_0) (.seq (.reg r7_1) .ret))
theorem o7:(Try.f7.body.bind fun c=>toIC Try.prog 6 c [])=some (i7,[]):=by kernel_rfl
theorem f7:FI Try.prog 6 i7 [.tmp 2] 7:=fi (by kernel_rfl) Try.func7 (by kernel_rfl) o7 (by kernel_rfl)
abbrev r36_0:List RO:=[ro (.mov 2 (.c (.one .nilp)))]
abbrev r36_1:List RO:=[rM 5 0,ro (.len 6 false (.t 5)),ro (.bin 7 .add (c6 97097) (.t 6)),rM 3 7]
abbrev r36_2:List RO:=[ro (.mov 4 (c6 0))]
abbrev r36_3:List RO:=[rM 8 4,rM 9 0,ro (.len 10 false (.t 9)),ro (.bin 11 .lss (.t 8) (.t 10)),rM 12 11,rT 12 (.mov 13 (.t 4)),rT 12 (.bin 14 .lss (.t 13) (c6 4000)),ro (.pick 15 (.t 12) (.t 14) (cB false))]
abbrev r36_4:List RO:=[rM 18 3,ro (.bin 19 .mul (.t 18) (c6 131)),rM 20 0,rM 21 4,ro (.iaddr 22 1 (.t 20) (.t 21)),rL 23 22,ro (.conv 24 .i64 (.t 23)),ro (.bin 25 .add (.t 19) (.t 24)),ro (.bin 26 .add (.t 25) (c6 7)),ro (.bin 27 .and (.t 26) (c6 1073741823)),rM 3 27]
abbrev r36_5:List RO:=[rM 16 4,ro (.bin 17 .add (.t 16) (c6 1)),rM 4 17]
abbrev r36_6:List RO:=[rM 28 0,rM 29 3,ro (.build 30 [.zs,(dI 0),(dI 0)] [(0,1,(.t 28)),(2,1,(.t 29))]),ro (.box 31 (.t 30)),rM 2 31]
def i36:IC:=(.seq (.reg r36_0) (.seq (.reg r36_1) (.seq (.seq (.reg r36_2) (.block 0 (.loop (.seq (.seq (.reg r36_3) (.cond (.t 15) .skip (.exit 0))) (.seq (.block 1 (.reg r36_4)) (.reg r36_5)))))) (.seq (.reg r36_6) .ret))))
theorem o36:(Try.f36.body.bind fun c=>toIC Try.prog 32 c [])=some (i36,[]):=by kernel_rfl
theorem n36:FCu Try.prog 32 i36 [.tmp 2] 36:=fc (by kernel_rfl) Try.func36 (by kernel_rfl) o36 (by kernel_rfl)
abbrev r38_0:List RO:=[ro (.mov 4 (c6 0))]
abbrev r38_1:List RO:=[rM 6 0,ro (.len 7 false (.t 6)),ro (.bin 8 .quo (.t 7) (c6 20)),ro (.bin 9 .add (c6 2) (.t 8)),rM 5 9]
abbrev r38_2:List RO:=[rM 10 5,rM 11 1,ro (.bin 12 .gtr (.t 10) (.t 11))]
abbrev r38_3:List RO:=[rM 13 1,rM 4 13]
abbrev r38_4:List RO:=[rM 14 5,rM 4 14]
def i38:IC:=(.seq (.reg r38_0) (.seq (.reg r38_1) (.seq (.seq (.reg r38_2) (.cond (.t 12) (.seq (.reg r38_3) .ret) .skip)) (.seq (.reg r38_4) .ret))))
theorem o38:(Try.f38.body.bind fun c=>toIC Try.prog 15 c [])=some (i38,[]):=by kernel_rfl
theorem n38:FCu Try.prog 15 i38 [.tmp 4] 38:=fc (by kernel_rfl) Try.func38 (by kernel_rfl) o38 (by kernel_rfl)
abbrev r94_0:List RO:=[ro (.mov 2 (c6 0))]
abbrev r94_1:List RO:=[rM 4 0,rM 5 0,ro (.nilchk 6 (.t 5)),rF 7 2 6,rL 8 7,ro (.bin 9 .mul (.t 8) (c6 6364136223846793005)),ro (.bin 10 .add (.t 9) (c6 1442695040888963407)),ro (.nilchk 11 (.t 4)),rF 12 2 11,ro (.store 1 [(.int .i64 0)] (.t 12) (.t 10))]
abbrev r94_2:List RO:=[rM 13 0,⟨⟨none,.nilchk 14 (.t 13)⟩,1,[]⟩,⟨⟨none,.faddr 15 2 (.t 14)⟩,3,[]⟩,⟨⟨none,.load 16 none (.t 15)⟩,7,[]⟩,⟨⟨none,.bin 17 .shr (.t 16) (.c (.one (.d (.int .u64 33))))⟩,15,[]⟩,rM 18 0,⟨⟨none,.nilchk 19 (.t 18)⟩,32,[]⟩,⟨⟨none,.faddr 20 2 (.t 19)⟩,96,[]⟩,⟨⟨none,.load 21 none (.t 20)⟩,224,[]⟩,⟨⟨none,.bin 22 .shr (.t 21) (.c (.one (.d (.int .u64 45))))⟩,480,[]⟩,⟨⟨none,.bin 23 .xor (.t 17) (.t 22)⟩,1023,[]⟩,⟨⟨none,.bin 24 .and (.t 23) (c6 255)⟩,2047,[]⟩,⟨⟨none,.mov 3 (.t 24)⟩,4095,[]⟩]
abbrev r94_3:List RO:=[rM 25 0,⟨⟨none,.nilchk 26 (.t 25)⟩,1,[]⟩,⟨⟨none,.faddr 27 1 (.t 26)⟩,3,[]⟩,⟨⟨none,.load 28 none (.t 27)⟩,7,[]⟩,rM 29 0,⟨⟨none,.nilchk 30 (.t 29)⟩,16,[]⟩,⟨⟨none,.faddr 31 0 (.t 30)⟩,48,[]⟩,⟨⟨none,.load 32 none (.t 31)⟩,112,[]⟩,⟨⟨none,.len 33 false (.t 32)⟩,240,[]⟩,⟨⟨none,.bin 34 .lss (.t 28) (.t 33)⟩,511,[]⟩]
abbrev r94_4:List RO:=[rM 35 3,rM 36 0,⟨⟨none,.nilchk 37 (.t 36)⟩,2,[]⟩,⟨⟨none,.faddr 38 0 (.t 37)⟩,6,[]⟩,⟨⟨none,.load 39 none (.t 38)⟩,14,[]⟩,rM 40 0,⟨⟨none,.nilchk 41 (.t 40)⟩,32,[]⟩,⟨⟨none,.faddr 42 1 (.t 41)⟩,96,[]⟩,⟨⟨none,.load 43 none (.t 42)⟩,224,[]⟩,⟨⟨none,.iaddr 44 1 (.t 39) (.t 43)⟩,510,[]⟩,⟨⟨none,.load 45 none (.t 44)⟩,1022,[]⟩,⟨⟨none,.conv 46 .i64 (.t 45)⟩,2046,[]⟩,⟨⟨none,.bin 47 .add (.t 35) (.t 46)⟩,4095,[]⟩,⟨⟨none,.bin 48 .and (.t 47) (c6 255)⟩,8191,[]⟩,⟨⟨none,.mov 3 (.t 48)⟩,16383,[]⟩]
abbrev r94_5:List RO:=[rM 49 0,rM 50 0,ro (.nilchk 51 (.t 50)),rF 52 1 51,rL 53 52,ro (.bin 54 .add (.t 53) (c6 1)),ro (.nilchk 55 (.t 49)),rF 56 1 55,ro (.store 1 [(.int .i64 0)] (.t 56) (.t 54))]
abbrev r94_6:List RO:=[rM 57 3,rM 2 57]
def i94:IC:=(.seq (.reg r94_0) (.seq (.reg r94_1) (.seq (.regd r94_2) (.seq (.seq (.regd r94_3) (.cond (.t 34) (.seq (.regd r94_4) (.reg r94_5)) .skip)) (.seq (.reg r94_6) .ret)))))
theorem o94:(Try.f94.body.bind fun c=>toIC Try.prog 58 c [[(0,[]),(1,[]),(3,[]),(7,[]),(15,[]),(0,[]),(32,[]),(96,[]),(224,[]),(480,[]),(1023,[]),(2047,[]),(4095,[])],[(0,[]),(1,[]),(3,[]),(7,[]),(0,[]),(16,[]),(48,[]),(112,[]),(240,[]),(511,[])],[(0,[]),(0,[]),(2,[]),(6,[]),(14,[]),(0,[]),(32,[]),(96,[]),(224,[]),(510,[]),(1022,[]),(2046,[]),(4095,[]),(8191,[]),(16383,[])]])=some (i94,[]):=by kernel_rfl
theorem n94:FCu Try.prog 58 i94 [.tmp 2] 94:=fc (by kernel_rfl) Try.func94 (by kernel_rfl) o94 (by kernel_rfl)
abbrev r50_0:List RO:=[ro (.mov 4 (c6 0))]
abbrev r50_1:List RO:=[rM 9 1,ro (.bin 10 .leq (.t 9) (c6 0))]
abbrev r50_2:List RO:=[ro (.mov 4 (c6 0))]
abbrev r50_3:List RO:=[rM 11 1,ro (.bin 12 .leq (.t 11) (c6 256))]
abbrev r50_4:List RO:=[rM 13 0,ro (.callv 14 (.c (.one (.fn 94 []))) [(.t 13)]),rM 15 1,ro (.bin 16 .rem (.t 14) (.t 15)),rM 4 16]
abbrev r50_5:List RO:=[rM 17 0,ro (.callv 18 (.c (.one (.fn 94 []))) [(.t 17)]),rM 5 18]
abbrev r50_6:List RO:=[rM 19 0,ro (.callv 20 (.c (.one (.fn 94 []))) [(.t 19)]),rM 6 20]
abbrev r50_7:List RO:=[rM 21 0,ro (.callv 22 (.c (.one (.fn 94 []))) [(.t 21)]),rM 7 22]
abbrev r50_8:List RO:=[rM 23 0,ro (.callv 24 (.c (.one (.fn 94 []))) [(.t 23)]),rM 8 24]
abbrev r50_9:List RO:=[rM 25 5,ro (.bin 26 .mul (.t 25) (c6 16777216)),rM 27 6,ro (.bin 28 .mul (.t 27) (c6 65536)),ro (.bin 29 .add (.t 26) (.t 28)),rM 30 7,ro (.bin 31 .mul (.t 30) (c6 256)),ro (.bin 32 .add (.t 29) (.t 31)),rM 33 8,ro (.bin 34 .add (.t 32) (.t 33)),rM 35 1,ro (.bin 36 .rem (.t 34) (.t 35)),rM 4 36]
def i50:IC:=(.seq (.reg r50_0) (.seq (.seq (.reg r50_1) (.cond (.t 10) (.seq (.reg r50_2) .ret) .skip)) (.seq (.seq (.reg r50_3) (.cond (.t 12) (.seq (.reg r50_4) .ret) .skip)) (.seq (.reg r50_5) (.seq (.reg r50_6) (.seq (.reg r50_7) (.seq (.reg r50_8) (.seq (.reg r50_9) .ret))))))))
theorem o50:(Try.f50.body.bind fun c=>toIC Try.prog 37 c [])=some (i50,[]):=by kernel_rfl
theorem n50:FCu Try.prog 37 i50 [.tmp 4] 50:=fc (by kernel_rfl) Try.func50 (by kernel_rfl) o50 (by kernel_rfl)
abbrev r83_0:List RO:=[ro (.mov 4 (cB false))]
abbrev r83_1:List RO:=[rM 5 0,rM 6 1,ro (.callv 7 (.c (.one (.fn 50 []))) [(.t 5),(.t 6)]),ro (.bin 8 .eql (.t 7) (c6 0)),rM 4 8]
def i83:IC:=(.seq (.reg r83_0) (.seq (.reg r83_1) .ret))
theorem o83:(Try.f83.body.bind fun c=>toIC Try.prog 9 c [])=some (i83,[]):=by kernel_rfl
theorem n83:FCu Try.prog 9 i83 [.tmp 4] 83:=fc (by kernel_rfl) Try.func83 (by kernel_rfl) o83 (by kernel_rfl)
abbrev r87_0:List RO:=[ro (.mov 6 (cB false))]
abbrev r87_1:List RO:=[rM 7 0,rM 8 1,ro (.bin 9 .geq (.t 7) (.t 8)),rM 10 9,rT 10 (.mov 11 (.t 0)),rT 10 (.mov 12 (.t 2)),rT 10 (.bin 13 .leq (.t 11) (.t 12)),ro (.pick 14 (.t 10) (.t 13) (cB false)),rM 6 14]
def i87:IC:=(.seq (.reg r87_0) (.seq (.reg r87_1) .ret))
theorem o87:(Try.f87.body.bind fun c=>toIC Try.prog 15 c [])=some (i87,[]):=by kernel_rfl
theorem f87:FI Try.prog 15 i87 [.tmp 6] 87:=fi (by kernel_rfl) Try.func87 (by kernel_rfl) o87 (by kernel_rfl)
abbrev r88_0:List RO:=[ro (.mov 2 (cB false))]
abbrev r88_1:List RO:=[rM 6 0,ro (.len 7 false (.t 6)),rM 3 7]
abbrev r88_2:List RO:=[rM 8 3,ro (.callv 9 (.c (.one (.fn 87 []))) [(.t 8),(c6 1),(c6 16)]),ro (.inv 10 (.t 9)),rM 11 10,rN 11 (.mov 12 (.t 0)),rN 11 (.iaddr 13 3 (.t 12) (c6 0)),rN 11 (.faddr 14 0 (.t 13)),rN 11 (.load 15 none (.t 14)),rN 11 (.bin 16 .neq (.t 15) (c6 0)),ro (.pick 17 (.t 11) (cB true) (.t 16)),rM 18 17,rN 18 (.mov 19 (.t 0)),rN 18 (.mov 20 (.t 3)),rN 18 (.bin 21 .sub (.t 20) (c6 1)),rN 18 (.iaddr 22 3 (.t 19) (.t 21)),rN 18 (.faddr 23 1 (.t 22)),rN 18 (.load 24 none (.t 23)),rN 18 (.bin 25 .neq (.t 24) (c6 1000)),ro (.pick 26 (.t 18) (cB true) (.t 25))]
abbrev r88_3:List RO:=[ro (.mov 2 (cB false))]
abbrev r88_4:List RO:=[ro (.mov 4 (c6 0))]
abbrev r88_5:List RO:=[rM 27 4,rM 28 3,ro (.bin 29 .lss (.t 27) (.t 28))]
abbrev r88_6:List RO:=[rM 32 0,rM 33 4,ro (.iaddr 34 3 (.t 32) (.t 33)),ro (.load 35 (some 3) (.t 34)),ro (.var 5 [(dI 0),(dI 0),(dI 0)]),ro (.store 3 [(.int .i64 0),(.int .i64 0),(.int .i64 0)] (.t 5) (.t 35))]
abbrev r88_7:List RO:=[rF 36 0 5,⟨⟨none,.load 37 none (.t 36)⟩,1,[]⟩,rF 38 1 5,⟨⟨none,.load 39 none (.t 38)⟩,4,[]⟩,⟨⟨none,.bin 40 .geq (.t 37) (.t 39)⟩,15,[]⟩,⟨⟨none,.mov 41 (.t 40)⟩,31,[]⟩,⟨⟨some (41,false),.faddr 42 0 (.t 5)⟩,63,[]⟩,⟨⟨some (41,false),.load 43 none (.t 42)⟩,127,[]⟩,⟨⟨some (41,false),.bin 44 .lss (.t 43) (c6 0)⟩,255,[]⟩,⟨⟨none,.pick 45 (.t 41) (cB true) (.t 44)⟩,511,[]⟩,⟨⟨none,.mov 46 (.t 45)⟩,1023,[]⟩,⟨⟨some (46,false),.faddr 47 1 (.t 5)⟩,2047,[]⟩,⟨⟨some (46,false),.load 48 none (.t 47)⟩,4095,[]⟩,⟨⟨some (46,false),.bin 49 .gtr (.t 48) (c6 1000)⟩,8191,[]⟩,⟨⟨none,.pick 50 (.t 46) (cB true) (.t 49)⟩,16383,[]⟩,⟨⟨none,.mov 51 (.t 50)⟩,32767,[]⟩,⟨⟨some (51,false),.faddr 52 2 (.t 5)⟩,65535,[]⟩,⟨⟨some (51,false),.load 53 none (.t 52)⟩,131071,[]⟩,⟨⟨some (51,false),.callv 54 (.c (.one (.fn 87 []))) [(.t 53),(c6 0),(c6 3)]⟩,262143,[]⟩,⟨⟨some (51,false),.inv 55 (.t 54)⟩,524287,[]⟩,⟨⟨none,.pick 56 (.t 51) (cB true) (.t 55)⟩,1048575,[]⟩,⟨⟨none,.mov 57 (.t 56)⟩,2097151,[]⟩,⟨⟨some (57,false),.mov 58 (.t 4)⟩,4194303,[]⟩,⟨⟨some (57,false),.bin 59 .gtr (.t 58) (c6 0)⟩,8388607,[]⟩,⟨⟨some (57,false),.mov 60 (.t 59)⟩,16777215,[]⟩,⟨⟨some (60,true),.mov 61 (.t 0)⟩,33554431,[]⟩,⟨⟨some (60,true),.mov 62 (.t 4)⟩,33554431,[]⟩,⟨⟨some (60,true),.bin 63 .sub (.t 62) (c6 1)⟩,100663295,[]⟩,⟨⟨some (60,true),.iaddr 64 3 (.t 61) (.t 63)⟩,268435455,[]⟩,⟨⟨some (60,true),.faddr 65 1 (.t 64)⟩,536870911,[]⟩,⟨⟨some (60,true),.load 66 none (.t 65)⟩,1073741823,[]⟩,⟨⟨some (60,true),.faddr 67 0 (.t 5)⟩,33554431,[]⟩,⟨⟨some (60,true),.load 68 none (.t 67)⟩,2181038079,[]⟩,⟨⟨some (60,true),.bin 69 .neq (.t 66) (.t 68)⟩,8589934591,[]⟩,⟨⟨some (57,false),.pick 70 (.t 60) (.t 69) (cB false)⟩,17179869183,[]⟩,⟨⟨none,.pick 71 (.t 57) (cB true) (.t 70)⟩,34359738367,[]⟩]
abbrev r88_8:List RO:=[ro (.mov 2 (cB false))]
abbrev r88_9:List RO:=[rM 30 4,ro (.bin 31 .add (.t 30) (c6 1)),rM 4 31]
abbrev r88_10:List RO:=[ro (.mov 2 (cB true))]
def i88:IC:=(.seq (.reg r88_0) (.seq (.reg r88_1) (.seq (.seq (.reg r88_2) (.cond (.t 26) (.seq (.reg r88_3) .ret) .skip)) (.seq (.seq (.reg r88_4) (.block 0 (.loop (.seq (.seq (.reg r88_5) (.cond (.t 29) .skip (.exit 0))) (.seq (.block 1 (.seq (.reg r88_6) (.seq (.regd r88_7) (.cond (.t 71) (.seq (.reg r88_8) .ret) .skip)))) (.reg r88_9)))))) (.seq (.reg r88_10) .ret)))))
theorem o88:(Try.f88.body.bind fun c=>toIC Try.prog 72 c [[(0,[]),(1,[]),(0,[]),(4,[]),(15,[]),(31,[]),(63,[]),(127,[]),(255,[]),(511,[]),(1023,[]),(2047,[]),(4095,[]),(8191,[]),(16383,[]),(32767,[]),(65535,[]),(131071,[]),(262143,[]),(524287,[]),(1048575,[]),(2097151,[]),(4194303,[]),(8388607,[]),(16777215,[]),(33554431,[]),(33554431,[]),(100663295,[]),(268435455,[]),(536870911,[]),(1073741823,[]),(33554431,[]),(2181038079,[]),(8589934591,[]),(17179869183,[]),(34359738367,[])]])=some (i88,[]):=by kernel_rfl
theorem f88:FI Try.prog 72 i88 [.tmp 2] 88:=fi (by kernel_rfl) Try.func88 (by kernel_rfl) o88 (by kernel_rfl)
abbrev r49_0:List RO:=[ro (.mov 4 (c6 0))]
abbrev r49_1:List RO:=[ro (.mov 5 (c6 0))]
abbrev r49_2:List RO:=[rM 6 5,rM 7 0,ro (.len 8 false (.t 7)),ro (.bin 9 .lss (.t 6) (.t 8)),rM 10 9,rT 10 (.mov 11 (.t 0)),rT 10 (.callv 12 (.c (.one (.fn 88 []))) [(.t 11)]),ro (.pick 13 (.t 10) (.t 12) (cB false))]
abbrev r49_3:List RO:=[rM 16 0,rM 17 5,ro (.iaddr 18 3 (.t 16) (.t 17)),rF 19 0 18,rL 20 19,rM 21 1,ro (.bin 22 .leq (.t 20) (.t 21)),rM 23 22,rT 23 (.mov 24 (.t 1)),rT 23 (.mov 25 (.t 0)),rT 23 (.mov 26 (.t 5)),rT 23 (.iaddr 27 3 (.t 25) (.t 26)),rT 23 (.faddr 28 1 (.t 27)),rT 23 (.load 29 none (.t 28)),rT 23 (.bin 30 .lss (.t 24) (.t 29)),ro (.pick 31 (.t 23) (.t 30) (cB false))]
abbrev r49_4:List RO:=[rM 32 5,rM 4 32]
abbrev r49_5:List RO:=[rM 14 5,ro (.bin 15 .add (.t 14) (c6 1)),rM 5 15]
abbrev r49_6:List RO:=[ro (.mov 4 (c6 (-1)))]
def i49:IC:=(.seq (.reg r49_0) (.seq (.seq (.reg r49_1) (.block 0 (.loop (.seq (.seq (.reg r49_2) (.cond (.t 13) .skip (.exit 0))) (.seq (.block 1 (.seq (.reg r49_3) (.cond (.t 31) (.seq (.reg r49_4) .ret) .skip))) (.reg r49_5)))))) (.seq (.reg r49_6) .ret)))
theorem o49:(Try.f49.body.bind fun c=>toIC Try.prog 33 c [])=some (i49,[]):=by kernel_rfl
theorem f49:FI Try.prog 33 i49 [.tmp 4] 49:=fi (by kernel_rfl) Try.func49 (by kernel_rfl) o49 (by kernel_rfl)
abbrev r44_0:List RO:=[ro (.mov 4 (.c (.one .zs))),ro (.mov 5 (cB false))]
abbrev r44_1:List RO:=[rM 10 0,rM 11 1,ro (.callv 12 (.c (.one (.fn 49 []))) [(.t 10),(.t 11)]),rM 6 12]
abbrev r44_2:List RO:=[ro (.bslice 13 3 [] []),rM 7 13]
abbrev r44_3:List RO:=[rM 14 6,ro (.bin 15 .lss (.t 14) (c6 0)),rM 16 15,rN 16 (.mov 17 (.t 0)),rN 16 (.mov 18 (.t 6)),rN 16 (.iaddr 19 3 (.t 17) (.t 18)),rN 16 (.faddr 20 0 (.t 19)),rN 16 (.load 21 none (.t 20)),rN 16 (.mov 22 (.t 1)),rN 16 (.bin 23 .eql (.t 21) (.t 22)),ro (.pick 24 (.t 16) (cB true) (.t 23)),rM 25 24,rN 25 (.mov 26 (.t 0)),rN 25 (.len 27 false (.t 26)),rN 25 (.bin 28 .eql (.t 27) (c6 16)),ro (.pick 29 (.t 25) (cB true) (.t 28))]
abbrev r44_4:List RO:=[rM 30 7,rM 4 30,ro (.mov 5 (cB false))]
abbrev r44_5:List RO:=[ro (.mov 8 (c6 0))]
abbrev r44_6:List RO:=[rM 31 8,rM 32 0,ro (.len 33 false (.t 32)),ro (.bin 34 .lss (.t 31) (.t 33))]
abbrev r44_7:List RO:=[rM 37 0,rM 38 8,ro (.iaddr 39 3 (.t 37) (.t 38)),ro (.load 40 (some 3) (.t 39)),ro (.var 9 [(dI 0),(dI 0),(dI 0)]),ro (.store 3 [(.int .i64 0),(.int .i64 0),(.int .i64 0)] (.t 9) (.t 40))]
abbrev r44_8:List RO:=[rM 41 8,rM 42 6,ro (.bin 43 .eql (.t 41) (.t 42))]
abbrev r44_9:List RO:=[rM 44 7,rF 45 0 9,rL 46 45,rM 47 1,rF 48 2 9,rL 49 48,ro (.build 50 [(dI 0),(dI 0),(dI 0)] [(0,1,(.t 46)),(1,1,(.t 47)),(2,1,(.t 49))]),ro (.bslice 51 3 [(dI 0),(dI 0),(dI 0)] [(0,3,(.t 50))]),ro (.app 52 3 24 [(.int .i64 0),(.int .i64 0),(.int .i64 0)] (.t 44) (.t 51)),rM 7 52]
abbrev r44_10:List RO:=[rM 53 1,rF 54 0 9,ro (.store 1 [(.int .i64 0)] (.t 54) (.t 53))]
abbrev r44_11:List RO:=[rM 55 7,ro (.load 56 (some 3) (.t 9)),ro (.bslice 57 3 [(dI 0),(dI 0),(dI 0)] [(0,3,(.t 56))]),ro (.app 58 3 24 [(.int .i64 0),(.int .i64 0),(.int .i64 0)] (.t 55) (.t 57)),rM 7 58]
abbrev r44_12:List RO:=[rM 35 8,ro (.bin 36 .add (.t 35) (c6 1)),rM 8 36]
abbrev r44_13:List RO:=[rM 59 7,rM 4 59,ro (.mov 5 (cB true))]
def i44:IC:=(.seq (.reg r44_0) (.seq (.reg r44_1) (.seq (.reg r44_2) (.seq (.seq (.reg r44_3) (.cond (.t 29) (.seq (.reg r44_4) .ret) .skip)) (.seq (.seq (.reg r44_5) (.block 0 (.loop (.seq (.seq (.reg r44_6) (.cond (.t 34) .skip (.exit 0))) (.seq (.block 1 (.seq (.reg r44_7) (.seq (.seq (.reg r44_8) (.cond (.t 43) (.seq (.reg r44_9) (.reg r44_10)) .skip)) (.reg r44_11)))) (.reg r44_12)))))) (.seq (.reg r44_13) .ret))))))
theorem o44:(Try.f44.body.bind fun c=>toIC Try.prog 60 c [])=some (i44,[]):=by kernel_rfl
theorem f44:FI Try.prog 60 i44 [.tmp 4,.tmp 5] 44:=fi (by kernel_rfl) Try.func44 (by kernel_rfl) o44 (by kernel_rfl)
abbrev r131_0:List RO:=[ro (.mov 6 (.c (.one .zs))),ro (.mov 7 (cB false))]
abbrev r131_1:List RO:=[rM 10 0,rM 11 1,ro (.callv 12 (.c (.one (.fn 49 []))) [(.t 10),(.t 11)]),rM 8 12]
abbrev r131_2:List RO:=[rM 13 8,ro (.bin 14 .lss (.t 13) (c6 0)),rM 15 14,rN 15 (.mov 16 (.t 2)),rN 15 (.callv 17 (.c (.one (.fn 87 []))) [(.t 16),(c6 0),(c6 3)]),rN 15 (.inv 18 (.t 17)),ro (.pick 19 (.t 15) (cB true) (.t 18))]
abbrev r131_3:List RO:=[ro (.bslice 20 3 [] []),rM 6 20,ro (.mov 7 (cB false))]
abbrev r131_4:List RO:=[ro (.bslice 21 3 [] []),rM 22 0,ro (.app 23 3 24 [(.int .i64 0),(.int .i64 0),(.int .i64 0)] (.t 21) (.t 22)),rM 9 23]
abbrev r131_5:List RO:=[rM 24 9,rM 25 8,rM 26 2,ro (.iaddr 27 3 (.t 24) (.t 25)),rF 28 2 27,ro (.store 1 [(.int .i64 0)] (.t 28) (.t 26))]
abbrev r131_6:List RO:=[rM 29 9,rM 6 29,ro (.mov 7 (cB true))]
def i131:IC:=(.seq (.reg r131_0) (.seq (.reg r131_1) (.seq (.seq (.reg r131_2) (.cond (.t 19) (.seq (.reg r131_3) .ret) .skip)) (.seq (.reg r131_4) (.seq (.reg r131_5) (.seq (.reg r131_6) .ret))))))
theorem o131:(Try.f131.body.bind fun c=>toIC Try.prog 30 c [])=some (i131,[]):=by kernel_rfl
theorem f131:FI Try.prog 30 i131 [.tmp 6,.tmp 7] 131:=fi (by kernel_rfl) Try.func131 (by kernel_rfl) o131 (by kernel_rfl)
abbrev r114_0:List RO:=[ro (.mov 2 (.c (.one .zs)))]
abbrev r114_1:List RO:=[rM 9 0,ro (.callv 10 (.c (.one (.fn 50 []))) [(.t 9),(c6 4)]),ro (.build 11 [(dI 0),(dI 0),(dI 0)] [(0,1,(c6 0)),(1,1,(c6 1000)),(2,1,(.t 10))]),ro (.bslice 12 3 [(dI 0),(dI 0),(dI 0)] [(0,3,(.t 11))]),rM 3 12]
abbrev r114_2:List RO:=[rM 13 0,ro (.callv 14 (.c (.one (.fn 50 []))) [(.t 13),(c6 6)]),rM 4 14]
abbrev r114_3:List RO:=[rM 15 0,ro (.callv 16 (.c (.one (.fn 83 []))) [(.t 15),(c6 20)])]
abbrev r114_4:List RO:=[ro (.mov 4 (c6 40))]
abbrev r114_5:List RO:=[ro (.mov 5 (c6 0))]
abbrev r114_6:List RO:=[rM 17 5,rM 18 4,ro (.bin 19 .lss (.t 17) (.t 18))]
abbrev r114_7:List RO:=[rM 22 0,ro (.callv 23 (.c (.one (.fn 50 []))) [(.t 22),(c6 40)]),rM 6 23]
abbrev r114_8:List RO:=[rM 25 3,rM 26 6,ro (.callv 27 (.c (.one (.fn 44 []))) [(.t 25),(.t 26)]),rM 24 27,ro (.ext 28 (.t 24) 0),ro (.ext 29 (.t 24) 1),rM 7 28,rM 8 29]
abbrev r114_9:List RO:=[rM 30 8]
abbrev r114_10:List RO:=[rM 31 7,rM 3 31]
abbrev r114_11:List RO:=[rM 33 3,rM 34 6,rM 35 0,ro (.callv 36 (.c (.one (.fn 50 []))) [(.t 35),(c6 4)]),ro (.callv 37 (.c (.one (.fn 131 []))) [(.t 33),(.t 34),(.t 36)]),rM 32 37,ro (.ext 38 (.t 32) 0),ro (.ext 39 (.t 32) 1),rM 3 38]
abbrev r114_12:List RO:=[rM 20 5,ro (.bin 21 .add (.t 20) (c6 1)),rM 5 21]
abbrev r114_13:List RO:=[rM 40 3,rM 2 40]
def i114:IC:=(.seq (.reg r114_0) (.seq (.reg r114_1) (.seq (.reg r114_2) (.seq (.seq (.reg r114_3) (.cond (.t 16) (.reg r114_4) .skip)) (.seq (.seq (.reg r114_5) (.block 0 (.loop (.seq (.seq (.reg r114_6) (.cond (.t 19) .skip (.exit 0))) (.seq (.block 1 (.seq (.reg r114_7) (.seq (.reg r114_8) (.seq (.seq (.reg r114_9) (.cond (.t 30) (.reg r114_10) .skip)) (.reg r114_11))))) (.reg r114_12)))))) (.seq (.reg r114_13) .ret))))))
theorem o114:(Try.f114.body.bind fun c=>toIC Try.prog 41 c [])=some (i114,[]):=by kernel_rfl
theorem n114:FCu Try.prog 41 i114 [.tmp 2] 114:=fc (by kernel_rfl) Try.func114 (by kernel_rfl) o114 (by kernel_rfl)
abbrev r121_0:List RO:=[ro (.mov 2 (cB false))]
abbrev r121_1:List RO:=[rM 3 0,ro (.callv 4 (.c (.one (.fn 87 []))) [(.t 3),(c6 0),(c6 999)]),rM 2 4]
def i121:IC:=(.seq (.reg r121_0) (.seq (.reg r121_1) .ret))
theorem o121:(Try.f121.body.bind fun c=>toIC Try.prog 5 c [])=some (i121,[]):=by kernel_rfl
theorem f121:FI Try.prog 5 i121 [.tmp 2] 121:=fi (by kernel_rfl) Try.func121 (by kernel_rfl) o121 (by kernel_rfl)
abbrev r122_0:List RO:=[ro (.mov 2 (cB false))]
abbrev r122_1:List RO:=[rM 3 0,ro (.callv 4 (.c (.one (.fn 87 []))) [(.t 3),(c6 0),(c6 1000000000)]),rM 2 4]
def i122:IC:=(.seq (.reg r122_0) (.seq (.reg r122_1) .ret))
theorem o122:(Try.f122.body.bind fun c=>toIC Try.prog 5 c [])=some (i122,[]):=by kernel_rfl
theorem f122:FI Try.prog 5 i122 [.tmp 2] 122:=fi (by kernel_rfl) Try.func122 (by kernel_rfl) o122 (by kernel_rfl)
abbrev r89_0:List RO:=[ro (.mov 2 (cB false))]
abbrev r89_1:List RO:=[rM 4 0,ro (.len 5 false (.t 4)),ro (.bin 6 .gtr (.t 5) (c6 60))]
abbrev r89_2:List RO:=[ro (.mov 2 (cB false))]
abbrev r89_3:List RO:=[ro (.mov 3 (c6 0))]
abbrev r89_4:List RO:=[rM 7 3,rM 8 0,ro (.len 9 false (.t 8)),ro (.bin 10 .lss (.t 7) (.t 9))]
abbrev r89_5:List RO:=[rM 13 0,rM 14 3,⟨⟨none,.iaddr 15 2 (.t 13) (.t 14)⟩,3,[]⟩,⟨⟨none,.faddr 16 0 (.t 15)⟩,7,[]⟩,⟨⟨none,.load 17 none (.t 16)⟩,15,[]⟩,⟨⟨none,.callv 18 (.c (.one (.fn 121 []))) [(.t 17)]⟩,31,[]⟩,⟨⟨none,.inv 19 (.t 18)⟩,63,[]⟩,⟨⟨none,.mov 20 (.t 19)⟩,127,[]⟩,⟨⟨some (20,false),.mov 21 (.t 0)⟩,255,[]⟩,⟨⟨some (20,false),.mov 22 (.t 3)⟩,255,[]⟩,⟨⟨some (20,false),.iaddr 23 2 (.t 21) (.t 22)⟩,1023,[]⟩,⟨⟨some (20,false),.faddr 24 1 (.t 23)⟩,2047,[]⟩,⟨⟨some (20,false),.load 25 none (.t 24)⟩,4095,[]⟩,⟨⟨some (20,false),.callv 26 (.c (.one (.fn 122 []))) [(.t 25)]⟩,8191,[]⟩,⟨⟨some (20,false),.inv 27 (.t 26)⟩,16383,[]⟩,⟨⟨none,.pick 28 (.t 20) (cB true) (.t 27)⟩,32767,[]⟩,⟨⟨none,.mov 29 (.t 28)⟩,65535,[]⟩,⟨⟨some (29,false),.mov 30 (.t 3)⟩,131071,[]⟩,⟨⟨some (29,false),.bin 31 .gtr (.t 30) (c6 0)⟩,262143,[]⟩,⟨⟨some (29,false),.mov 32 (.t 31)⟩,524287,[]⟩,⟨⟨some (32,true),.mov 33 (.t 0)⟩,1048575,[]⟩,⟨⟨some (32,true),.mov 34 (.t 3)⟩,1048575,[]⟩,⟨⟨some (32,true),.bin 35 .sub (.t 34) (c6 1)⟩,3145727,[]⟩,⟨⟨some (32,true),.iaddr 36 2 (.t 33) (.t 35)⟩,8388607,[]⟩,⟨⟨some (32,true),.faddr 37 0 (.t 36)⟩,16777215,[]⟩,⟨⟨some (32,true),.load 38 none (.t 37)⟩,33554431,[]⟩,⟨⟨some (32,true),.mov 39 (.t 0)⟩,1048575,[]⟩,⟨⟨some (32,true),.mov 40 (.t 3)⟩,1048575,[]⟩,⟨⟨some (32,true),.iaddr 41 2 (.t 39) (.t 40)⟩,202375167,[]⟩,⟨⟨some (32,true),.faddr 42 0 (.t 41)⟩,470810623,[]⟩,⟨⟨some (32,true),.load 43 none (.t 42)⟩,1007681535,[]⟩,⟨⟨some (32,true),.bin 44 .geq (.t 38) (.t 43)⟩,2147483647,[]⟩,⟨⟨some (29,false),.pick 45 (.t 32) (.t 44) (cB false)⟩,4294967295,[]⟩,⟨⟨none,.pick 46 (.t 29) (cB true) (.t 45)⟩,8589934591,[]⟩]
abbrev r89_6:List RO:=[ro (.mov 2 (cB false))]
abbrev r89_7:List RO:=[rM 11 3,ro (.bin 12 .add (.t 11) (c6 1)),rM 3 12]
abbrev r89_8:List RO:=[ro (.mov 2 (cB true))]
def i89:IC:=(.seq (.reg r89_0) (.seq (.seq (.reg r89_1) (.cond (.t 6) (.seq (.reg r89_2) .ret) .skip)) (.seq (.seq (.reg r89_3) (.block 0 (.loop (.seq (.seq (.reg r89_4) (.cond (.t 10) .skip (.exit 0))) (.seq (.block 1 (.seq (.regd r89_5) (.cond (.t 46) (.seq (.reg r89_6) .ret) .skip))) (.reg r89_7)))))) (.seq (.reg r89_8) .ret))))
theorem o89:(Try.f89.body.bind fun c=>toIC Try.prog 47 c [[(0,[]),(0,[]),(3,[]),(7,[]),(15,[]),(31,[]),(63,[]),(127,[]),(255,[]),(255,[]),(1023,[]),(2047,[]),(4095,[]),(8191,[]),(16383,[]),(32767,[]),(65535,[]),(131071,[]),(262143,[]),(524287,[]),(1048575,[]),(1048575,[]),(3145727,[]),(8388607,[]),(16777215,[]),(33554431,[]),(1048575,[]),(1048575,[]),(202375167,[]),(470810623,[]),(1007681535,[]),(2147483647,[]),(4294967295,[]),(8589934591,[])]])=some (i89,[]):=by kernel_rfl
theorem f89:FI Try.prog 47 i89 [.tmp 2] 89:=fi (by kernel_rfl) Try.func89 (by kernel_rfl) o89 (by kernel_rfl)
abbrev r90_0:List RO:=[ro (.box 1 (.t 0)),ro (.mov 2 (cB false))]
abbrev r90_1:List RO:=[rF 3 0 1,rL 4 3,ro (.bin 5 .geq (.t 4) (c6 0)),rM 6 5,rT 6 (.faddr 7 0 (.t 1)),rT 6 (.load 8 none (.t 7)),rT 6 (.faddr 9 1 (.t 1)),rT 6 (.load 10 none (.t 9)),rT 6 (.bin 11 .lss (.t 8) (.t 10)),ro (.pick 12 (.t 6) (.t 11) (cB false)),rM 13 12,rT 13 (.faddr 14 1 (.t 1)),rT 13 (.load 15 none (.t 14)),rT 13 (.bin 16 .leq (.t 15) (c6 1000)),ro (.pick 17 (.t 13) (.t 16) (cB false)),rM 2 17]
def i90:IC:=(.seq (.reg r90_0) (.seq (.reg r90_1) .ret))
theorem o90:(Try.f90.body.bind fun c=>toIC Try.prog 18 c [])=some (i90,[]):=by kernel_rfl
theorem f90:FI Try.prog 18 i90 [.tmp 2] 90:=fi (by kernel_rfl) Try.func90 (by kernel_rfl) o90 (by kernel_rfl)
abbrev r52_0:List RO:=[ro (.mov 2 (cB false))]
abbrev r52_1:List RO:=[rM 3 0,ro (.callv 4 (.c (.one (.fn 87 []))) [(.t 3),(c6 0),(c6 3)]),rM 2 4]
def i52:IC:=(.seq (.reg r52_0) (.seq (.reg r52_1) .ret))
theorem o52:(Try.f52.body.bind fun c=>toIC Try.prog 5 c [])=some (i52,[]):=by kernel_rfl
theorem f52:FI Try.prog 5 i52 [.tmp 2] 52:=fi (by kernel_rfl) Try.func52 (by kernel_rfl) o52 (by kernel_rfl)
abbrev r91_0:List RO:=[ro (.box 3 (.t 1)),ro (.mov 4 (cB false))]
abbrev r91_1:List RO:=[ro (.mov 5 (c6 0))]
abbrev r91_2:List RO:=[rM 6 5,rM 7 0,ro (.len 8 false (.t 7)),ro (.bin 9 .lss (.t 6) (.t 8))]
abbrev r91_3:List RO:=[rM 12 0,rM 13 5,⟨⟨none,.iaddr 14 2 (.t 12) (.t 13)⟩,3,[]⟩,⟨⟨none,.faddr 15 0 (.t 14)⟩,7,[]⟩,⟨⟨none,.load 16 none (.t 15)⟩,15,[]⟩,rF 17 2 3,⟨⟨none,.load 18 none (.t 17)⟩,32,[]⟩,rF 19 3 3,⟨⟨none,.load 20 none (.t 19)⟩,128,[]⟩,⟨⟨none,.bin 21 .sub (.t 20) (c6 1)⟩,384,[]⟩,⟨⟨none,.callv 22 (.c (.one (.fn 87 []))) [(.t 16),(.t 18),(.t 21)]⟩,1023,[]⟩,⟨⟨none,.inv 23 (.t 22)⟩,2047,[]⟩]
abbrev r91_4:List RO:=[ro (.mov 4 (cB false))]
abbrev r91_5:List RO:=[rM 10 5,ro (.bin 11 .add (.t 10) (c6 1)),rM 5 11]
abbrev r91_6:List RO:=[ro (.mov 4 (cB true))]
def i91:IC:=(.seq (.reg r91_0) (.seq (.seq (.reg r91_1) (.block 0 (.loop (.seq (.seq (.reg r91_2) (.cond (.t 9) .skip (.exit 0))) (.seq (.block 1 (.seq (.regd r91_3) (.cond (.t 23) (.seq (.reg r91_4) .ret) .skip))) (.reg r91_5)))))) (.seq (.reg r91_6) .ret)))
theorem o91:(Try.f91.body.bind fun c=>toIC Try.prog 24 c [[(0,[]),(0,[]),(3,[]),(7,[]),(15,[]),(0,[]),(32,[]),(0,[]),(128,[]),(384,[]),(1023,[]),(2047,[])]])=some (i91,[]):=by kernel_rfl
theorem f91:FI Try.prog 24 i91 [.tmp 4] 91:=fi (by kernel_rfl) Try.func91 (by kernel_rfl) o91 (by kernel_rfl)
abbrev r42_0:List RO:=[ro (.box 1 (.t 0)),ro (.mov 2 (cB false))]
abbrev r42_1:List RO:=[rF 4 2 1,ro (.load 5 (some 7) (.t 4)),ro (.var 3 [(dI 0),(dI 0),(dI 0),(dI 0),(dI 0),(dI 0),.zs]),ro (.store 7 [(.int .i64 0),(.int .i64 0),(.int .i64 0),(.int .i64 0),(.int .i64 0),(.int .i64 0),(.sl 2 [])] (.t 3) (.t 5))]
abbrev r42_2:List RO:=[rF 6 0 1,rL 7 6,ro (.callv 8 (.c (.one (.fn 87 []))) [(.t 7),(c6 0),(c6 1000000)]),ro (.inv 9 (.t 8)),rM 10 9,rN 10 (.faddr 11 1 (.t 1)),rN 10 (.load 12 none (.t 11)),rN 10 (.callv 13 (.c (.one (.fn 88 []))) [(.t 12)]),rN 10 (.inv 14 (.t 13)),ro (.pick 15 (.t 10) (cB true) (.t 14)),rM 16 15,rN 16 (.faddr 17 0 (.t 3)),rN 16 (.load 18 none (.t 17)),rN 16 (.callv 19 (.c (.one (.fn 87 []))) [(.t 18),(c6 0),(c6 300000)]),rN 16 (.inv 20 (.t 19)),ro (.pick 21 (.t 16) (cB true) (.t 20)),rM 22 21,rN 22 (.faddr 23 1 (.t 3)),rN 22 (.load 24 none (.t 23)),rN 22 (.callv 25 (.c (.one (.fn 87 []))) [(.t 24),(c6 0),(c6 4)]),rN 22 (.inv 26 (.t 25)),ro (.pick 27 (.t 22) (cB true) (.t 26)),rM 28 27,rN 28 (.faddr 29 6 (.t 3)),rN 28 (.load 30 none (.t 29)),rN 28 (.callv 31 (.c (.one (.fn 89 []))) [(.t 30)]),rN 28 (.inv 32 (.t 31)),ro (.pick 33 (.t 28) (cB true) (.t 32))]
abbrev r42_3:List RO:=[ro (.mov 2 (cB false))]
abbrev r42_4:List RO:=[rF 34 1 3,rL 35 34,ro (.bin 36 .eql (.t 35) (c6 0))]
abbrev r42_5:List RO:=[rF 37 2 3,rL 38 37,ro (.bin 39 .eql (.t 38) (c6 0)),rM 40 39,rT 40 (.faddr 41 3 (.t 3)),rT 40 (.load 42 none (.t 41)),rT 40 (.bin 43 .eql (.t 42) (c6 0)),ro (.pick 44 (.t 40) (.t 43) (cB false)),rM 45 44,rT 45 (.faddr 46 4 (.t 3)),rT 45 (.load 47 none (.t 46)),rT 45 (.bin 48 .eql (.t 47) (c6 0)),ro (.pick 49 (.t 45) (.t 48) (cB false)),rM 50 49,rT 50 (.faddr 51 5 (.t 3)),rT 50 (.load 52 none (.t 51)),rT 50 (.bin 53 .eql (.t 52) (c6 0)),ro (.pick 54 (.t 50) (.t 53) (cB false)),rM 55 54,rT 55 (.faddr 56 6 (.t 3)),rT 55 (.load 57 none (.t 56)),rT 55 (.len 58 false (.t 57)),rT 55 (.bin 59 .eql (.t 58) (c6 0)),ro (.pick 60 (.t 55) (.t 59) (cB false)),rM 2 60]
abbrev r42_6:List RO:=[rF 61 0 3,rL 62 61,ro (.bin 63 .lss (.t 62) (c6 1)),rM 64 63,rN 64 (.faddr 65 2 (.t 3)),rN 64 (.load 66 none (.t 65)),rN 64 (.faddr 67 3 (.t 3)),rN 64 (.load 68 none (.t 67)),rN 64 (.build 69 [(dI 0),(dI 0)] [(0,1,(.t 66)),(1,1,(.t 68))]),rN 64 (.callv 70 (.c (.one (.fn 90 []))) [(.t 69)]),rN 64 (.inv 71 (.t 70)),ro (.pick 72 (.t 64) (cB true) (.t 71)),rM 73 72,rN 73 (.faddr 74 4 (.t 3)),rN 73 (.load 75 none (.t 74)),rN 73 (.callv 76 (.c (.one (.fn 52 []))) [(.t 75)]),rN 73 (.inv 77 (.t 76)),ro (.pick 78 (.t 73) (cB true) (.t 77)),rM 79 78,rN 79 (.faddr 80 5 (.t 3)),rN 79 (.load 81 none (.t 80)),rN 79 (.callv 82 (.c (.one (.fn 52 []))) [(.t 81)]),rN 79 (.inv 83 (.t 82)),ro (.pick 84 (.t 79) (cB true) (.t 83)),rM 85 84,rN 85 (.faddr 86 4 (.t 3)),rN 85 (.load 87 none (.t 86)),rN 85 (.faddr 88 5 (.t 3)),rN 85 (.load 89 none (.t 88)),rN 85 (.bin 90 .eql (.t 87) (.t 89)),ro (.pick 91 (.t 85) (cB true) (.t 90))]
abbrev r42_7:List RO:=[ro (.mov 2 (cB false))]
abbrev r42_8:List RO:=[rF 92 6 3,rL 93 92,ro (.load 94 (some 7) (.t 3)),ro (.callv 95 (.c (.one (.fn 91 []))) [(.t 93),(.t 94)]),rM 96 95,rT 96 (.faddr 97 1 (.t 3)),rT 96 (.load 98 none (.t 97)),rT 96 (.bin 99 .eql (.t 98) (c6 2)),rT 96 (.mov 100 (.t 99)),rN 100 (.faddr 101 6 (.t 3)),rN 100 (.load 102 none (.t 101)),rN 100 (.len 103 false (.t 102)),rN 100 (.bin 104 .eql (.t 103) (c6 0)),rT 96 (.pick 105 (.t 100) (cB true) (.t 104)),ro (.pick 106 (.t 96) (.t 105) (cB false)),rM 2 106]
def i42:IC:=(.seq (.reg r42_0) (.seq (.reg r42_1) (.seq (.seq (.reg r42_2) (.cond (.t 33) (.seq (.reg r42_3) .ret) .skip)) (.seq (.seq (.reg r42_4) (.cond (.t 36) (.seq (.reg r42_5) .ret) .skip)) (.seq (.seq (.reg r42_6) (.cond (.t 91) (.seq (.reg r42_7) .ret) .skip)) (.seq (.reg r42_8) .ret))))))
theorem o42:(Try.f42.body.bind fun c=>toIC Try.prog 107 c [])=some (i42,[]):=by kernel_rfl
theorem f42:FI Try.prog 107 i42 [.tmp 2] 42:=fi (by kernel_rfl) Try.func42 (by kernel_rfl) o42 (by kernel_rfl)
abbrev r113_0:List RO:=[ro (.var 2 [(dI 0),.zs,(dI 0),(dI 0),(dI 0),(dI 0),(dI 0),(dI 0),.zs])]
abbrev r113_1:List RO:=[ro (.bslice 4 3 [] []),rM 5 0,ro (.app 6 3 24 [(.int .i64 0),(.int .i64 0),(.int .i64 0)] (.t 4) (.t 5)),ro (.build 7 [(dI 0),.zs,(dI 0),(dI 0),(dI 0),(dI 0),(dI 0),(dI 0),.zs] [(1,1,(.t 6))]),ro (.var 3 [(dI 0),.zs,(dI 0),(dI 0),(dI 0),(dI 0),(dI 0),(dI 0),.zs]),ro (.store 9 [(.int .i64 0),(.sl 3 []),(.int .i64 0),(.int .i64 0),(.int .i64 0),(.int .i64 0),(.int .i64 0),(.int .i64 0),(.sl 2 [])] (.t 3) (.t 7))]
abbrev r113_2:List RO:=[ro (.load 8 (some 9) (.t 3)),ro (.callv 9 (.c (.one (.fn 42 []))) [(.t 8)]),ro (.inv 10 (.t 9))]
abbrev r113_3:List RO:=[ro (.build 11 [(dI 0),.zs,(dI 0),(dI 0),(dI 0),(dI 0),(dI 0),(dI 0),.zs] []),ro (.store 9 [(.int .i64 0),(.sl 3 []),(.int .i64 0),(.int .i64 0),(.int .i64 0),(.int .i64 0),(.int .i64 0),(.int .i64 0),(.sl 2 [])] (.t 2) (.t 11))]
abbrev r113_4:List RO:=[ro (.load 12 (some 9) (.t 3)),ro (.store 9 [(.int .i64 0),(.sl 3 []),(.int .i64 0),(.int .i64 0),(.int .i64 0),(.int .i64 0),(.int .i64 0),(.int .i64 0),(.sl 2 [])] (.t 2) (.t 12))]
def i113:IC:=(.seq (.reg r113_0) (.seq (.reg r113_1) (.seq (.seq (.reg r113_2) (.cond (.t 10) (.seq (.reg r113_3) .ret) .skip)) (.seq (.reg r113_4) .ret))))
theorem o113:(Try.f113.body.bind fun c=>toIC Try.prog 13 c [])=some (i113,[]):=by kernel_rfl
theorem f113:FI Try.prog 13 i113 [.cell 2 (some 9)] 113:=fi (by kernel_rfl) Try.func113 (by kernel_rfl) o113 (by kernel_rfl)
abbrev r99_0:List RO:=[ro (.mov 4 (c6 0))]
abbrev r99_1:List RO:=[rM 5 0,rM 6 1,ro (.bin 7 .lss (.t 5) (.t 6))]
abbrev r99_2:List RO:=[rM 8 0,rM 4 8]
abbrev r99_3:List RO:=[rM 9 1,rM 4 9]
def i99:IC:=(.seq (.reg r99_0) (.seq (.seq (.reg r99_1) (.cond (.t 7) (.seq (.reg r99_2) .ret) .skip)) (.seq (.reg r99_3) .ret)))
theorem o99:(Try.f99.body.bind fun c=>toIC Try.prog 10 c [])=some (i99,[]):=by kernel_rfl
theorem f99:FI Try.prog 10 i99 [.tmp 4] 99:=fi (by kernel_rfl) Try.func99 (by kernel_rfl) o99 (by kernel_rfl)
abbrev r57_0:List RO:=[ro (.box 1 (.t 0)),ro (.mov 2 (c6 0))]
abbrev r57_1:List RO:=[rF 3 0 1,rL 4 3,ro (.callv 5 (.c (.one (.fn 87 []))) [(.t 4),(c6 1),(c6 300000)]),ro (.inv 6 (.t 5)),rM 7 6,rN 7 (.faddr 8 1 (.t 1)),rN 7 (.load 9 none (.t 8)),rN 7 (.callv 10 (.c (.one (.fn 87 []))) [(.t 9),(c6 1),(c6 4)]),rN 7 (.inv 11 (.t 10)),ro (.pick 12 (.t 7) (cB true) (.t 11))]
abbrev r57_2:List RO:=[ro (.mov 2 (c6 0))]
abbrev r57_3:List RO:=[rF 13 0 1,⟨⟨none,.load 14 none (.t 13)⟩,1,[19]⟩,⟨⟨none,.bin 15 .sub (.t 14) (c6 1)⟩,3,[]⟩,⟨⟨none,.bin 16 .mul (c6 3) (.t 15)⟩,7,[]⟩,rF 17 1 1,⟨⟨none,.load 18 none (.t 17)⟩,16,[]⟩,⟨⟨none,.callv 19 (.c (.one (.fn 99 []))) [(.t 18),(c6 3)]⟩,48,[]⟩,⟨⟨none,.bin 20 .add (.t 16) (.t 19)⟩,127,[]⟩,⟨⟨none,.mov 2 (.t 20)⟩,255,[]⟩]
def i57:IC:=(.seq (.reg r57_0) (.seq (.seq (.reg r57_1) (.cond (.t 12) (.seq (.reg r57_2) .ret) .skip)) (.seq (.regd r57_3) .ret)))
theorem o57:(Try.f57.body.bind fun c=>toIC Try.prog 21 c [[(0,[]),(1,[19]),(3,[]),(7,[]),(0,[]),(16,[]),(48,[]),(127,[]),(255,[])]])=some (i57,[]):=by kernel_rfl
theorem f57:FI Try.prog 21 i57 [.tmp 2] 57:=fi (by kernel_rfl) Try.func57 (by kernel_rfl) o57 (by kernel_rfl)
abbrev r43_0:List RO:=[ro (.box 1 (.t 0)),ro (.var 2 [(dI 0),.zs,(dI 0),(dI 0),(dI 0),(dI 0),(dI 0),(dI 0),.zs])]
abbrev r43_1:List RO:=[ro (.bslice 3 3 [] []),rF 4 1 1,rL 5 4,ro (.app 6 3 24 [(.int .i64 0),(.int .i64 0),(.int .i64 0)] (.t 3) (.t 5)),rF 7 1 1,ro (.store 1 [(.sl 3 [])] (.t 7) (.t 6))]
abbrev r43_2:List RO:=[ro (.bslice 8 2 [] []),rF 9 2 1,rF 10 6 9,rL 11 10,ro (.app 12 2 16 [(.int .i64 0),(.int .i64 0)] (.t 8) (.t 11)),rF 13 2 1,rF 14 6 13,ro (.store 1 [(.sl 2 [])] (.t 14) (.t 12))]
abbrev r43_3:List RO:=[ro (.load 15 (some 9) (.t 1)),ro (.store 9 [(.int .i64 0),(.sl 3 []),(.int .i64 0),(.int .i64 0),(.int .i64 0),(.int .i64 0),(.int .i64 0),(.int .i64 0),(.sl 2 [])] (.t 2) (.t 15))]
def i43:IC:=(.seq (.reg r43_0) (.seq (.reg r43_1) (.seq (.reg r43_2) (.seq (.reg r43_3) .ret))))
theorem o43:(Try.f43.body.bind fun c=>toIC Try.prog 16 c [])=some (i43,[]):=by kernel_rfl
theorem f43:FI Try.prog 16 i43 [.cell 2 (some 9)] 43:=fi (by kernel_rfl) Try.func43 (by kernel_rfl) o43 (by kernel_rfl)
abbrev r10_0:List RO:=[ro (.box 2 (.t 0)),ro (.var 4 [(dI 0),.zs,(dI 0),(dI 0),(dI 0),(dI 0),(dI 0),(dI 0),.zs]),ro (.mov 5 (c6 0))]
abbrev r10_1:List RO:=[ro (.load 9 (some 9) (.t 2)),ro (.callv 10 (.c (.one (.fn 42 []))) [(.t 9)]),ro (.inv 11 (.t 10))]
abbrev r10_2:List RO:=[ro (.build 12 [(dI 0),.zs,(dI 0),(dI 0),(dI 0),(dI 0),(dI 0),(dI 0),.zs] []),ro (.store 9 [(.int .i64 0),(.sl 3 []),(.int .i64 0),(.int .i64 0),(.int .i64 0),(.int .i64 0),(.int .i64 0),(.int .i64 0),(.sl 2 [])] (.t 4) (.t 12)),ro (.mov 5 (c6 1))]
abbrev r10_3:List RO:=[ro (.load 13 (some 9) (.t 2)),ro (.callv 14 (.c (.one (.fn 43 []))) [(.t 13)]),ro (.var 6 [(dI 0),.zs,(dI 0),(dI 0),(dI 0),(dI 0),(dI 0),(dI 0),.zs]),ro (.store 9 [(.int .i64 0),(.sl 3 []),(.int .i64 0),(.int .i64 0),(.int .i64 0),(.int .i64 0),(.int .i64 0),(.int .i64 0),(.sl 2 [])] (.t 6) (.t 14))]
abbrev r10_4:List RO:=[rF 16 1 2,rL 17 16,rM 18 1,ro (.callv 19 (.c (.one (.fn 44 []))) [(.t 17),(.t 18)]),rM 15 19,ro (.ext 20 (.t 15) 0),ro (.ext 21 (.t 15) 1),rM 7 20,rM 8 21]
abbrev r10_5:List RO:=[rM 22 8,ro (.inv 23 (.t 22)),rM 24 23,rN 24 (.faddr 25 0 (.t 2)),rN 24 (.load 26 none (.t 25)),rN 24 (.bin 27 .eql (.t 26) (c6 1000000)),ro (.pick 28 (.t 24) (cB true) (.t 27))]
abbrev r10_6:List RO:=[ro (.load 29 (some 9) (.t 6)),ro (.store 9 [(.int .i64 0),(.sl 3 []),(.int .i64 0),(.int .i64 0),(.int .i64 0),(.int .i64 0),(.int .i64 0),(.int .i64 0),(.sl 2 [])] (.t 4) (.t 29)),ro (.mov 5 (c6 3))]
abbrev r10_7:List RO:=[rM 30 7,rF 31 1 6,ro (.store 1 [(.sl 3 [])] (.t 31) (.t 30))]
abbrev r10_8:List RO:=[rF 32 0 6,rL 33 32,ro (.bin 34 .add (.t 33) (c6 1)),rF 35 0 6,ro (.store 1 [(.int .i64 0)] (.t 35) (.t 34))]
abbrev r10_9:List RO:=[ro (.load 36 (some 9) (.t 6)),ro (.store 9 [(.int .i64 0),(.sl 3 []),(.int .i64 0),(.int .i64 0),(.int .i64 0),(.int .i64 0),(.int .i64 0),(.int .i64 0),(.sl 2 [])] (.t 4) (.t 36)),ro (.mov 5 (c6 0))]
def i10:IC:=(.seq (.reg r10_0) (.seq (.seq (.reg r10_1) (.cond (.t 11) (.seq (.reg r10_2) .ret) .skip)) (.seq (.reg r10_3) (.seq (.reg r10_4) (.seq (.seq (.reg r10_5) (.cond (.t 28) (.seq (.reg r10_6) .ret) .skip)) (.seq (.reg r10_7) (.seq (.reg r10_8) (.seq (.reg r10_9) .ret))))))))
theorem o10:(Try.f10.body.bind fun c=>toIC Try.prog 37 c [])=some (i10,[]):=by kernel_rfl
theorem f10:FI Try.prog 37 i10 [.cell 4 (some 9),.tmp 5] 10:=fi (by kernel_rfl) Try.func10 (by kernel_rfl) o10 (by kernel_rfl)
abbrev r16_0:List RO:=[ro (.box 3 (.t 0)),ro (.var 6 [(dI 0),.zs,(dI 0),(dI 0),(dI 0),(dI 0),(dI 0),(dI 0),.zs]),ro (.mov 7 (c6 0))]
abbrev r16_1:List RO:=[ro (.load 11 (some 9) (.t 3)),ro (.callv 12 (.c (.one (.fn 42 []))) [(.t 11)]),ro (.inv 13 (.t 12))]
abbrev r16_2:List RO:=[ro (.build 14 [(dI 0),.zs,(dI 0),(dI 0),(dI 0),(dI 0),(dI 0),(dI 0),.zs] []),ro (.store 9 [(.int .i64 0),(.sl 3 []),(.int .i64 0),(.int .i64 0),(.int .i64 0),(.int .i64 0),(.int .i64 0),(.int .i64 0),(.sl 2 [])] (.t 6) (.t 14)),ro (.mov 7 (c6 1))]
abbrev r16_3:List RO:=[ro (.load 15 (some 9) (.t 3)),ro (.callv 16 (.c (.one (.fn 43 []))) [(.t 15)]),ro (.var 8 [(dI 0),.zs,(dI 0),(dI 0),(dI 0),(dI 0),(dI 0),(dI 0),.zs]),ro (.store 9 [(.int .i64 0),(.sl 3 []),(.int .i64 0),(.int .i64 0),(.int .i64 0),(.int .i64 0),(.int .i64 0),(.int .i64 0),(.sl 2 [])] (.t 8) (.t 16))]
abbrev r16_4:List RO:=[rF 17 2 3,rF 18 1 17,rL 19 18,ro (.bin 20 .neq (.t 19) (c6 0))]
abbrev r16_5:List RO:=[ro (.load 21 (some 9) (.t 8)),ro (.store 9 [(.int .i64 0),(.sl 3 []),(.int .i64 0),(.int .i64 0),(.int .i64 0),(.int .i64 0),(.int .i64 0),(.int .i64 0),(.sl 2 [])] (.t 6) (.t 21)),ro (.mov 7 (c6 2))]
abbrev r16_6:List RO:=[rF 22 1 3,rL 23 22,rM 24 1,ro (.callv 25 (.c (.one (.fn 49 []))) [(.t 23),(.t 24)]),rM 9 25]
abbrev r16_7:List RO:=[rM 26 9,ro (.bin 27 .lss (.t 26) (c6 0)),rM 28 27,rN 28 (.mov 29 (.t 2)),rN 28 (.callv 30 (.c (.one (.fn 52 []))) [(.t 29)]),rN 28 (.inv 31 (.t 30)),ro (.pick 32 (.t 28) (cB true) (.t 31)),rM 33 32,rN 33 (.faddr 34 1 (.t 3)),rN 33 (.load 35 none (.t 34)),rN 33 (.mov 36 (.t 9)),rN 33 (.iaddr 37 3 (.t 35) (.t 36)),rN 33 (.faddr 38 2 (.t 37)),rN 33 (.load 39 none (.t 38)),rN 33 (.mov 40 (.t 2)),rN 33 (.bin 41 .eql (.t 39) (.t 40)),ro (.pick 42 (.t 33) (cB true) (.t 41)),rM 43 42,rN 43 (.faddr 44 2 (.t 3)),rN 43 (.faddr 45 0 (.t 44)),rN 43 (.load 46 none (.t 45)),rN 43 (.bin 47 .eql (.t 46) (c6 300000)),ro (.pick 48 (.t 43) (cB true) (.t 47))]
abbrev r16_8:List RO:=[ro (.load 49 (some 9) (.t 8)),ro (.store 9 [(.int .i64 0),(.sl 3 []),(.int .i64 0),(.int .i64 0),(.int .i64 0),(.int .i64 0),(.int .i64 0),(.int .i64 0),(.sl 2 [])] (.t 6) (.t 49)),ro (.mov 7 (c6 3))]
abbrev r16_9:List RO:=[rF 50 1 3,rL 51 50,rM 52 9,ro (.iaddr 53 3 (.t 51) (.t 52)),ro (.load 54 (some 3) (.t 53)),ro (.var 10 [(dI 0),(dI 0),(dI 0)]),ro (.store 3 [(.int .i64 0),(.int .i64 0),(.int .i64 0)] (.t 10) (.t 54))]
abbrev r16_10:List RO:=[rF 55 2 3,rF 56 0 55,rL 57 56,ro (.bin 58 .add (.t 57) (c6 1)),rF 59 0 10,rL 60 59,rF 61 1 10,rL 62 61,rF 63 2 10,rL 64 63,rM 65 2,ro (.build 66 [(dI 0),(dI 0),(dI 0),(dI 0),(dI 0),(dI 0),.zs] [(0,1,(.t 58)),(1,1,(c6 1)),(2,1,(.t 60)),(3,1,(.t 62)),(4,1,(.t 64)),(5,1,(.t 65))]),rF 67 2 8,ro (.store 7 [(.int .i64 0),(.int .i64 0),(.int .i64 0),(.int .i64 0),(.int .i64 0),(.int .i64 0),(.sl 2 [])] (.t 67) (.t 66))]
abbrev r16_11:List RO:=[ro (.load 68 (some 9) (.t 8)),ro (.store 9 [(.int .i64 0),(.sl 3 []),(.int .i64 0),(.int .i64 0),(.int .i64 0),(.int .i64 0),(.int .i64 0),(.int .i64 0),(.sl 2 [])] (.t 6) (.t 68)),ro (.mov 7 (c6 0))]
def i16:IC:=(.seq (.reg r16_0) (.seq (.seq (.reg r16_1) (.cond (.t 13) (.seq (.reg r16_2) .ret) .skip)) (.seq (.reg r16_3) (.seq (.seq (.reg r16_4) (.cond (.t 20) (.seq (.reg r16_5) .ret) .skip)) (.seq (.reg r16_6) (.seq (.seq (.reg r16_7) (.cond (.t 48) (.seq (.reg r16_8) .ret) .skip)) (.seq (.reg r16_9) (.seq (.reg r16_10) (.seq (.reg r16_11) .ret)))))))))
theorem o16:(Try.f16.body.bind fun c=>toIC Try.prog 69 c [])=some (i16,[]):=by kernel_rfl
theorem f16:FI Try.prog 69 i16 [.cell 6 (some 9),.tmp 7] 16:=fi (by kernel_rfl) Try.func16 (by kernel_rfl) o16 (by kernel_rfl)
abbrev r117_0:List RO:=[ro (.mov 4 (.c (.one .zs)))]
abbrev r117_1:List RO:=[ro (.bslice 9 2 [] []),rM 5 9]
abbrev r117_2:List RO:=[rM 10 0,rM 11 1,ro (.bin 12 .add (.t 11) (c6 1)),ro (.callv 13 (.c (.one (.fn 50 []))) [(.t 10),(.t 12)]),rM 6 13]
abbrev r117_3:List RO:=[rM 14 0,ro (.callv 15 (.c (.one (.fn 83 []))) [(.t 14),(c6 20)])]
abbrev r117_4:List RO:=[ro (.mov 6 (c6 60))]
abbrev r117_5:List RO:=[rM 16 0,ro (.callv 17 (.c (.one (.fn 50 []))) [(.t 16),(c6 4)]),rM 7 17]
abbrev r117_6:List RO:=[ro (.mov 8 (c6 0))]
abbrev r117_7:List RO:=[rM 18 8,rM 19 6,ro (.bin 20 .lss (.t 18) (.t 19))]
abbrev r117_8:List RO:=[rM 23 5,rM 24 7,rM 25 0,ro (.callv 26 (.c (.one (.fn 50 []))) [(.t 25),(c6 99)]),ro (.build 27 [(dI 0),(dI 0)] [(0,1,(.t 24)),(1,1,(.t 26))]),ro (.bslice 28 2 [(dI 0),(dI 0)] [(0,2,(.t 27))]),ro (.app 29 2 16 [(.int .i64 0),(.int .i64 0)] (.t 23) (.t 28)),rM 5 29]
abbrev r117_9:List RO:=[rM 30 7,ro (.bin 31 .add (.t 30) (c6 1)),rM 32 0,ro (.callv 33 (.c (.one (.fn 50 []))) [(.t 32),(c6 3)]),ro (.bin 34 .add (.t 31) (.t 33)),rM 7 34]
abbrev r117_10:List RO:=[rM 21 8,ro (.bin 22 .add (.t 21) (c6 1)),rM 8 22]
abbrev r117_11:List RO:=[rM 35 5,rM 4 35]
def i117:IC:=(.seq (.reg r117_0) (.seq (.reg r117_1) (.seq (.reg r117_2) (.seq (.seq (.reg r117_3) (.cond (.t 15) (.reg r117_4) .skip)) (.seq (.reg r117_5) (.seq (.seq (.reg r117_6) (.block 0 (.loop (.seq (.seq (.reg r117_7) (.cond (.t 20) .skip (.exit 0))) (.seq (.block 1 (.seq (.reg r117_8) (.reg r117_9))) (.reg r117_10)))))) (.seq (.reg r117_11) .ret)))))))
theorem o117:(Try.f117.body.bind fun c=>toIC Try.prog 36 c [])=some (i117,[]):=by kernel_rfl
theorem n117:FCu Try.prog 36 i117 [.tmp 4] 117:=fc (by kernel_rfl) Try.func117 (by kernel_rfl) o117 (by kernel_rfl)
abbrev r132_0:List RO:=[ro (.box 4 (.t 1)),ro (.mov 6 (.c (.one .zs)))]
abbrev r132_1:List RO:=[ro (.bslice 9 2 [] []),rM 7 9]
abbrev r132_2:List RO:=[ro (.mov 8 (c6 0))]
abbrev r132_3:List RO:=[rM 10 8,rM 11 0,ro (.len 12 false (.t 11)),ro (.bin 13 .lss (.t 10) (.t 12)),rM 14 13,rT 14 (.mov 15 (.t 0)),rT 14 (.callv 16 (.c (.one (.fn 89 []))) [(.t 15)]),ro (.pick 17 (.t 14) (.t 16) (cB false)),rM 18 17,rT 18 (.load 19 (some 2) (.t 4)),rT 18 (.callv 20 (.c (.one (.fn 90 []))) [(.t 19)]),ro (.pick 21 (.t 18) (.t 20) (cB false))]
abbrev r132_4:List RO:=[rM 24 0,rM 25 8,⟨⟨none,.iaddr 26 2 (.t 24) (.t 25)⟩,3,[]⟩,⟨⟨none,.faddr 27 0 (.t 26)⟩,7,[]⟩,⟨⟨none,.load 28 none (.t 27)⟩,15,[]⟩,rF 29 0 4,⟨⟨none,.load 30 none (.t 29)⟩,32,[]⟩,rF 31 1 4,⟨⟨none,.load 32 none (.t 31)⟩,128,[]⟩,⟨⟨none,.bin 33 .sub (.t 32) (c6 1)⟩,384,[]⟩,⟨⟨none,.callv 34 (.c (.one (.fn 87 []))) [(.t 28),(.t 30),(.t 33)]⟩,1023,[]⟩,rM 35 2,⟨⟨none,.beq 36 false (.t 34) (.t 35)⟩,4095,[]⟩]
abbrev r132_5:List RO:=[rM 37 7,rM 38 0,rM 39 8,ro (.iaddr 40 2 (.t 38) (.t 39)),ro (.load 41 (some 2) (.t 40)),ro (.bslice 42 2 [(dI 0),(dI 0)] [(0,2,(.t 41))]),ro (.app 43 2 16 [(.int .i64 0),(.int .i64 0)] (.t 37) (.t 42)),rM 7 43]
abbrev r132_6:List RO:=[rM 22 8,ro (.bin 23 .add (.t 22) (c6 1)),rM 8 23]
abbrev r132_7:List RO:=[rM 44 7,rM 6 44]
def i132:IC:=(.seq (.reg r132_0) (.seq (.reg r132_1) (.seq (.seq (.reg r132_2) (.block 0 (.loop (.seq (.seq (.reg r132_3) (.cond (.t 21) .skip (.exit 0))) (.seq (.block 1 (.seq (.regd r132_4) (.cond (.t 36) (.reg r132_5) .skip))) (.reg r132_6)))))) (.seq (.reg r132_7) .ret))))
theorem o132:(Try.f132.body.bind fun c=>toIC Try.prog 45 c [[(0,[]),(0,[]),(3,[]),(7,[]),(15,[]),(0,[]),(32,[]),(0,[]),(128,[]),(384,[]),(1023,[]),(0,[]),(4095,[])]])=some (i132,[]):=by kernel_rfl
theorem f132:FI Try.prog 45 i132 [.tmp 6] 132:=fi (by kernel_rfl) Try.func132 (by kernel_rfl) o132 (by kernel_rfl)
abbrev r116_0:List RO:=[ro (.box 3 (.t 1)),ro (.mov 4 (.c (.one .zs)))]
abbrev r116_1:List RO:=[rM 5 0,ro (.load 6 (some 2) (.t 3)),ro (.callv 7 (.c (.one (.fn 132 []))) [(.t 5),(.t 6),(cB true)]),rM 4 7]
def i116:IC:=(.seq (.reg r116_0) (.seq (.reg r116_1) .ret))
theorem o116:(Try.f116.body.bind fun c=>toIC Try.prog 8 c [])=some (i116,[]):=by kernel_rfl
theorem f116:FI Try.prog 8 i116 [.tmp 4] 116:=fi (by kernel_rfl) Try.func116 (by kernel_rfl) o116 (by kernel_rfl)
abbrev r115_0:List RO:=[ro (.box 3 (.t 0)),ro (.var 6 [(dI 0),.zs,(dI 0),(dI 0),(dI 0),(dI 0),(dI 0),(dI 0),.zs]),ro (.mov 7 (c6 0))]
abbrev r115_1:List RO:=[ro (.load 9 (some 9) (.t 3)),ro (.callv 10 (.c (.one (.fn 42 []))) [(.t 9)]),ro (.inv 11 (.t 10))]
abbrev r115_2:List RO:=[ro (.build 12 [(dI 0),.zs,(dI 0),(dI 0),(dI 0),(dI 0),(dI 0),(dI 0),.zs] []),ro (.store 9 [(.int .i64 0),(.sl 3 []),(.int .i64 0),(.int .i64 0),(.int .i64 0),(.int .i64 0),(.int .i64 0),(.int .i64 0),(.sl 2 [])] (.t 6) (.t 12)),ro (.mov 7 (c6 1))]
abbrev r115_3:List RO:=[ro (.load 13 (some 9) (.t 3)),ro (.callv 14 (.c (.one (.fn 43 []))) [(.t 13)]),ro (.var 8 [(dI 0),.zs,(dI 0),(dI 0),(dI 0),(dI 0),(dI 0),(dI 0),.zs]),ro (.store 9 [(.int .i64 0),(.sl 3 []),(.int .i64 0),(.int .i64 0),(.int .i64 0),(.int .i64 0),(.int .i64 0),(.int .i64 0),(.sl 2 [])] (.t 8) (.t 14))]
abbrev r115_4:List RO:=[rF 15 2 3,rF 16 1 15,rL 17 16,ro (.bin 18 .neq (.t 17) (c6 1)),rM 19 18,rN 19 (.faddr 20 2 (.t 3)),rN 19 (.load 21 (some 7) (.t 20)),rN 19 (.callv 22 (.c (.one (.fn 57 []))) [(.t 21)]),rN 19 (.mov 23 (.t 1)),rN 19 (.bin 24 .neq (.t 22) (.t 23)),ro (.pick 25 (.t 19) (cB true) (.t 24)),rM 26 25,rN 26 (.mov 27 (.t 2)),rN 26 (.callv 28 (.c (.one (.fn 89 []))) [(.t 27)]),rN 26 (.inv 29 (.t 28)),ro (.pick 30 (.t 26) (cB true) (.t 29)),rM 31 30,rN 31 (.mov 32 (.t 2)),rN 31 (.faddr 33 2 (.t 3)),rN 31 (.load 34 (some 7) (.t 33)),rN 31 (.callv 35 (.c (.one (.fn 91 []))) [(.t 32),(.t 34)]),rN 31 (.inv 36 (.t 35)),ro (.pick 37 (.t 31) (cB true) (.t 36))]
abbrev r115_5:List RO:=[ro (.load 38 (some 9) (.t 8)),ro (.store 9 [(.int .i64 0),(.sl 3 []),(.int .i64 0),(.int .i64 0),(.int .i64 0),(.int .i64 0),(.int .i64 0),(.int .i64 0),(.sl 2 [])] (.t 6) (.t 38)),ro (.mov 7 (c6 3))]
abbrev r115_6:List RO:=[rF 39 2 8,rF 40 1 39,ro (.store 1 [(.int .i64 0)] (.t 40) (c6 2))]
abbrev r115_7:List RO:=[ro (.bslice 41 2 [] []),rM 42 2,ro (.app 43 2 16 [(.int .i64 0),(.int .i64 0)] (.t 41) (.t 42)),rF 44 2 8,rF 45 6 44,ro (.store 1 [(.sl 2 [])] (.t 45) (.t 43))]
abbrev r115_8:List RO:=[ro (.load 46 (some 9) (.t 8)),ro (.store 9 [(.int .i64 0),(.sl 3 []),(.int .i64 0),(.int .i64 0),(.int .i64 0),(.int .i64 0),(.int .i64 0),(.int .i64 0),(.sl 2 [])] (.t 6) (.t 46)),ro (.mov 7 (c6 0))]
def i115:IC:=(.seq (.reg r115_0) (.seq (.seq (.reg r115_1) (.cond (.t 11) (.seq (.reg r115_2) .ret) .skip)) (.seq (.reg r115_3) (.seq (.seq (.reg r115_4) (.cond (.t 37) (.seq (.reg r115_5) .ret) .skip)) (.seq (.reg r115_6) (.seq (.reg r115_7) (.seq (.reg r115_8) .ret)))))))
theorem o115:(Try.f115.body.bind fun c=>toIC Try.prog 47 c [])=some (i115,[]):=by kernel_rfl
theorem f115:FI Try.prog 47 i115 [.cell 6 (some 9),.tmp 7] 115:=fi (by kernel_rfl) Try.func115 (by kernel_rfl) o115 (by kernel_rfl)
abbrev r21_0:List RO:=[ro (.box 3 (.t 0)),ro (.var 6 [(dI 0),.zs,(dI 0),(dI 0),(dI 0),(dI 0),(dI 0),(dI 0),.zs]),ro (.mov 7 (c6 0))]
abbrev r21_1:List RO:=[ro (.load 10 (some 9) (.t 3)),ro (.callv 11 (.c (.one (.fn 42 []))) [(.t 10)]),ro (.inv 12 (.t 11))]
abbrev r21_2:List RO:=[ro (.build 13 [(dI 0),.zs,(dI 0),(dI 0),(dI 0),(dI 0),(dI 0),(dI 0),.zs] []),ro (.store 9 [(.int .i64 0),(.sl 3 []),(.int .i64 0),(.int .i64 0),(.int .i64 0),(.int .i64 0),(.int .i64 0),(.int .i64 0),(.sl 2 [])] (.t 6) (.t 13)),ro (.mov 7 (c6 1))]
abbrev r21_3:List RO:=[ro (.load 14 (some 9) (.t 3)),ro (.callv 15 (.c (.one (.fn 43 []))) [(.t 14)]),ro (.var 8 [(dI 0),.zs,(dI 0),(dI 0),(dI 0),(dI 0),(dI 0),(dI 0),.zs]),ro (.store 9 [(.int .i64 0),(.sl 3 []),(.int .i64 0),(.int .i64 0),(.int .i64 0),(.int .i64 0),(.int .i64 0),(.int .i64 0),(.sl 2 [])] (.t 8) (.t 15))]
abbrev r21_4:List RO:=[rF 16 2 3,rF 17 1 16,rL 18 17,ro (.bin 19 .neq (.t 18) (c6 2)),rM 20 19,rN 20 (.faddr 21 2 (.t 3)),rN 20 (.load 22 (some 7) (.t 21)),rN 20 (.callv 23 (.c (.one (.fn 57 []))) [(.t 22)]),rN 20 (.mov 24 (.t 1)),rN 20 (.bin 25 .neq (.t 23) (.t 24)),ro (.pick 26 (.t 20) (cB true) (.t 25)),rM 27 26,rN 27 (.mov 28 (.t 2)),rN 27 (.mov 29 (.t 28)),rT 29 (.faddr 30 0 (.t 3)),rT 29 (.load 31 none (.t 30)),rT 29 (.bin 32 .eql (.t 31) (c6 1000000)),rN 27 (.pick 33 (.t 29) (.t 32) (cB false)),ro (.pick 34 (.t 27) (cB true) (.t 33))]
abbrev r21_5:List RO:=[ro (.load 35 (some 9) (.t 8)),ro (.store 9 [(.int .i64 0),(.sl 3 []),(.int .i64 0),(.int .i64 0),(.int .i64 0),(.int .i64 0),(.int .i64 0),(.int .i64 0),(.sl 2 [])] (.t 6) (.t 35)),ro (.mov 7 (c6 3))]
abbrev r21_6:List RO:=[rF 36 2 8,rF 37 6 36,ro (.store 1 [(.sl 2 [])] (.t 37) (.c (.one .zs)))]
abbrev r21_7:List RO:=[rF 38 2 8,rF 39 1 38,ro (.store 1 [(.int .i64 0)] (.t 39) (c6 4))]
abbrev r21_8:List RO:=[rM 40 2,ro (.inv 41 (.t 40))]
abbrev r21_9:List RO:=[ro (.load 42 (some 9) (.t 8)),ro (.store 9 [(.int .i64 0),(.sl 3 []),(.int .i64 0),(.int .i64 0),(.int .i64 0),(.int .i64 0),(.int .i64 0),(.int .i64 0),(.sl 2 [])] (.t 6) (.t 42)),ro (.mov 7 (c6 0))]
abbrev r21_10:List RO:=[rF 43 2 8,rF 44 1 43,ro (.store 1 [(.int .i64 0)] (.t 44) (c6 3))]
abbrev r21_11:List RO:=[rF 45 0 8,rL 46 45,ro (.bin 47 .add (.t 46) (c6 1)),rF 48 0 8,ro (.store 1 [(.int .i64 0)] (.t 48) (.t 47))]
abbrev r21_12:List RO:=[ro (.mov 9 (c6 0))]
abbrev r21_13:List RO:=[rM 49 9,rF 50 1 8,rL 51 50,ro (.len 52 false (.t 51)),ro (.bin 53 .lss (.t 49) (.t 52))]
abbrev r21_14:List RO:=[rF 56 1 8,⟨⟨none,.load 57 none (.t 56)⟩,1,[]⟩,rM 58 9,⟨⟨none,.iaddr 59 3 (.t 57) (.t 58)⟩,7,[]⟩,⟨⟨none,.faddr 60 0 (.t 59)⟩,15,[]⟩,⟨⟨none,.load 61 none (.t 60)⟩,31,[]⟩,rF 62 2 3,⟨⟨none,.faddr 63 2 (.t 62)⟩,64,[]⟩,⟨⟨none,.load 64 none (.t 63)⟩,192,[]⟩,⟨⟨none,.bin 65 .geq (.t 61) (.t 64)⟩,511,[]⟩,⟨⟨none,.mov 66 (.t 65)⟩,1023,[]⟩,⟨⟨some (66,true),.faddr 67 1 (.t 8)⟩,2047,[]⟩,⟨⟨some (66,true),.load 68 none (.t 67)⟩,4095,[]⟩,⟨⟨some (66,true),.mov 69 (.t 9)⟩,2047,[]⟩,⟨⟨some (66,true),.iaddr 70 3 (.t 68) (.t 69)⟩,16383,[]⟩,⟨⟨some (66,true),.faddr 71 1 (.t 70)⟩,32767,[]⟩,⟨⟨some (66,true),.load 72 none (.t 71)⟩,65535,[]⟩,⟨⟨some (66,true),.faddr 73 2 (.t 3)⟩,2047,[]⟩,⟨⟨some (66,true),.faddr 74 3 (.t 73)⟩,133119,[]⟩,⟨⟨some (66,true),.load 75 none (.t 74)⟩,395263,[]⟩,⟨⟨some (66,true),.bin 76 .leq (.t 72) (.t 75)⟩,1048575,[]⟩,⟨⟨none,.pick 77 (.t 66) (.t 76) (cB false)⟩,2097151,[]⟩]
abbrev r21_15:List RO:=[rF 78 1 8,rL 79 78,rM 80 9,rF 81 2 3,rF 82 5 81,rL 83 82,ro (.iaddr 84 3 (.t 79) (.t 80)),rF 85 2 84,ro (.store 1 [(.int .i64 0)] (.t 85) (.t 83))]
abbrev r21_16:List RO:=[rM 54 9,ro (.bin 55 .add (.t 54) (c6 1)),rM 9 55]
abbrev r21_17:List RO:=[ro (.load 86 (some 9) (.t 8)),ro (.store 9 [(.int .i64 0),(.sl 3 []),(.int .i64 0),(.int .i64 0),(.int .i64 0),(.int .i64 0),(.int .i64 0),(.int .i64 0),(.sl 2 [])] (.t 6) (.t 86)),ro (.mov 7 (c6 0))]
def i21:IC:=(.seq (.reg r21_0) (.seq (.seq (.reg r21_1) (.cond (.t 12) (.seq (.reg r21_2) .ret) .skip)) (.seq (.reg r21_3) (.seq (.seq (.reg r21_4) (.cond (.t 34) (.seq (.reg r21_5) .ret) .skip)) (.seq (.reg r21_6) (.seq (.reg r21_7) (.seq (.seq (.reg r21_8) (.cond (.t 41) (.seq (.reg r21_9) .ret) .skip)) (.seq (.reg r21_10) (.seq (.reg r21_11) (.seq (.seq (.reg r21_12) (.block 0 (.loop (.seq (.seq (.reg r21_13) (.cond (.t 53) .skip (.exit 0))) (.seq (.block 1 (.seq (.regd r21_14) (.cond (.t 77) (.reg r21_15) .skip))) (.reg r21_16)))))) (.seq (.reg r21_17) .ret)))))))))))
theorem o21:(Try.f21.body.bind fun c=>toIC Try.prog 87 c [[(0,[]),(1,[]),(0,[]),(7,[]),(15,[]),(31,[]),(0,[]),(64,[]),(192,[]),(511,[]),(1023,[]),(2047,[]),(4095,[]),(2047,[]),(16383,[]),(32767,[]),(65535,[]),(2047,[]),(133119,[]),(395263,[]),(1048575,[]),(2097151,[])]])=some (i21,[]):=by kernel_rfl
theorem f21:FI Try.prog 87 i21 [.cell 6 (some 9),.tmp 7] 21:=fi (by kernel_rfl) Try.func21 (by kernel_rfl) o21 (by kernel_rfl)
abbrev r118_0:List RO:=[ro (.box 2 (.t 0)),ro (.var 4 [(dI 0),.zs,(dI 0),(dI 0),(dI 0),(dI 0),(dI 0),(dI 0),.zs]),ro (.mov 5 (c6 0))]
abbrev r118_1:List RO:=[ro (.load 7 (some 9) (.t 2)),ro (.callv 8 (.c (.one (.fn 42 []))) [(.t 7)]),ro (.inv 9 (.t 8))]
abbrev r118_2:List RO:=[ro (.build 10 [(dI 0),.zs,(dI 0),(dI 0),(dI 0),(dI 0),(dI 0),(dI 0),.zs] []),ro (.store 9 [(.int .i64 0),(.sl 3 []),(.int .i64 0),(.int .i64 0),(.int .i64 0),(.int .i64 0),(.int .i64 0),(.int .i64 0),(.sl 2 [])] (.t 4) (.t 10)),ro (.mov 5 (c6 1))]
abbrev r118_3:List RO:=[ro (.load 11 (some 9) (.t 2)),ro (.callv 12 (.c (.one (.fn 43 []))) [(.t 11)]),ro (.var 6 [(dI 0),.zs,(dI 0),(dI 0),(dI 0),(dI 0),(dI 0),(dI 0),.zs]),ro (.store 9 [(.int .i64 0),(.sl 3 []),(.int .i64 0),(.int .i64 0),(.int .i64 0),(.int .i64 0),(.int .i64 0),(.int .i64 0),(.sl 2 [])] (.t 6) (.t 12))]
abbrev r118_4:List RO:=[rF 13 2 2,rF 14 1 13,rL 15 14,ro (.bin 16 .lss (.t 15) (c6 3)),rM 17 16,rN 17 (.faddr 18 2 (.t 2)),rN 17 (.load 19 (some 7) (.t 18)),rN 17 (.callv 20 (.c (.one (.fn 57 []))) [(.t 19)]),rN 17 (.mov 21 (.t 1)),rN 17 (.bin 22 .neq (.t 20) (.t 21)),ro (.pick 23 (.t 17) (cB true) (.t 22))]
abbrev r118_5:List RO:=[ro (.load 24 (some 9) (.t 6)),ro (.store 9 [(.int .i64 0),(.sl 3 []),(.int .i64 0),(.int .i64 0),(.int .i64 0),(.int .i64 0),(.int .i64 0),(.int .i64 0),(.sl 2 [])] (.t 4) (.t 24)),ro (.mov 5 (c6 3))]
abbrev r118_6:List RO:=[rF 25 2 2,rF 26 0 25,rL 27 26,ro (.build 28 [(dI 0),(dI 0),(dI 0),(dI 0),(dI 0),(dI 0),.zs] [(0,1,(.t 27))]),rF 29 2 6,ro (.store 7 [(.int .i64 0),(.int .i64 0),(.int .i64 0),(.int .i64 0),(.int .i64 0),(.int .i64 0),(.sl 2 [])] (.t 29) (.t 28))]
abbrev r118_7:List RO:=[ro (.load 30 (some 9) (.t 6)),ro (.store 9 [(.int .i64 0),(.sl 3 []),(.int .i64 0),(.int .i64 0),(.int .i64 0),(.int .i64 0),(.int .i64 0),(.int .i64 0),(.sl 2 [])] (.t 4) (.t 30)),ro (.mov 5 (c6 0))]
def i118:IC:=(.seq (.reg r118_0) (.seq (.seq (.reg r118_1) (.cond (.t 9) (.seq (.reg r118_2) .ret) .skip)) (.seq (.reg r118_3) (.seq (.seq (.reg r118_4) (.cond (.t 23) (.seq (.reg r118_5) .ret) .skip)) (.seq (.reg r118_6) (.seq (.reg r118_7) .ret))))))
theorem o118:(Try.f118.body.bind fun c=>toIC Try.prog 31 c [])=some (i118,[]):=by kernel_rfl
theorem f118:FI Try.prog 31 i118 [.cell 4 (some 9),.tmp 5] 118:=fi (by kernel_rfl) Try.func118 (by kernel_rfl) o118 (by kernel_rfl)
abbrev r79_0:List RO:=[ro (.var 4 [(dI 0),.zs,(dI 0),(dI 0),(dI 0),(dI 0),(dI 0),(dI 0),.zs])]
abbrev r79_1:List RO:=[rM 11 0,ro (.callv 12 (.c (.one (.fn 114 []))) [(.t 11)]),ro (.callv 13 (.c (.one (.fn 113 []))) [(.t 12)]),ro (.var 5 [(dI 0),.zs,(dI 0),(dI 0),(dI 0),(dI 0),(dI 0),(dI 0),.zs]),ro (.store 9 [(.int .i64 0),(.sl 3 []),(.int .i64 0),(.int .i64 0),(.int .i64 0),(.int .i64 0),(.int .i64 0),(.int .i64 0),(.sl 2 [])] (.t 5) (.t 13))]
abbrev r79_2:List RO:=[rM 14 0,rM 15 1,ro (.bin 16 .add (.t 15) (c6 1)),ro (.callv 17 (.c (.one (.fn 50 []))) [(.t 14),(.t 16)]),rM 6 17]
abbrev r79_3:List RO:=[ro (.mov 7 (c6 0))]
abbrev r79_4:List RO:=[rM 18 7,rM 19 6,ro (.bin 20 .lss (.t 18) (.t 19))]
abbrev r79_5:List RO:=[ro (.load 23 (some 9) (.t 5)),ro (.var 8 [(dI 0),.zs,(dI 0),(dI 0),(dI 0),(dI 0),(dI 0),(dI 0),.zs]),ro (.store 9 [(.int .i64 0),(.sl 3 []),(.int .i64 0),(.int .i64 0),(.int .i64 0),(.int .i64 0),(.int .i64 0),(.int .i64 0),(.sl 2 [])] (.t 8) (.t 23)),ro (.mov 9 (c6 1))]
abbrev r79_6:List RO:=[rF 24 2 5,ro (.load 25 (some 7) (.t 24)),ro (.callv 26 (.c (.one (.fn 57 []))) [(.t 25)]),rM 10 26]
abbrev r79_7:List RO:=[rM 27 0,ro (.callv 28 (.c (.one (.fn 50 []))) [(.t 27),(c6 6)])]
abbrev r79_8:List RO:=[ro (.bin 36 .eql (.t 28) (c6 0)),rM 35 36]
abbrev r79_9:List RO:=[ro (.load 38 (some 9) (.t 5)),rM 39 0]
abbrev r79_10:List RO:=[ro (.callv 40 (.c (.one (.fn 50 []))) [(.t 39),(c6 60)])]
abbrev r79_11:List RO:=[ro (.callv 41 (.c (.one (.fn 10 []))) [(.t 38),(.t 40)]),rM 37 41,ro (.ext 42 (.t 37) 0),ro (.ext 43 (.t 37) 1),ro (.store 9 [(.int .i64 0),(.sl 3 []),(.int .i64 0),(.int .i64 0),(.int .i64 0),(.int .i64 0),(.int .i64 0),(.int .i64 0),(.sl 2 [])] (.t 8) (.t 42)),rM 9 43]
abbrev r79_12:List RO:=[ro (.bin 45 .eql (.t 28) (c6 1)),rM 44 45]
abbrev r79_13:List RO:=[ro (.bin 46 .eql (.t 28) (c6 2)),rM 44 46]
abbrev r79_14:List RO:=[ro (.load 48 (some 9) (.t 5)),rM 49 0,rM 51 0]
abbrev r79_15:List RO:=[ro (.callv 50 (.c (.one (.fn 50 []))) [(.t 49),(c6 60)]),ro (.callv 52 (.c (.one (.fn 50 []))) [(.t 51),(c6 4)])]
abbrev r79_16:List RO:=[ro (.callv 53 (.c (.one (.fn 16 []))) [(.t 48),(.t 50),(.t 52)]),rM 47 53,ro (.ext 54 (.t 47) 0),ro (.ext 55 (.t 47) 1),ro (.store 9 [(.int .i64 0),(.sl 3 []),(.int .i64 0),(.int .i64 0),(.int .i64 0),(.int .i64 0),(.int .i64 0),(.int .i64 0),(.sl 2 [])] (.t 8) (.t 54)),rM 9 55]
abbrev r79_17:List RO:=[ro (.bin 57 .eql (.t 28) (c6 3)),rM 56 57]
abbrev r79_18:List RO:=[ro (.load 59 (some 9) (.t 5)),rM 60 10,rM 61 0,rF 63 2 5,rF 64 2 63,rL 65 64,rF 66 2 5,rF 67 3 66,rL 68 67,ro (.build 69 [(dI 0),(dI 0)] [(0,1,(.t 65)),(1,1,(.t 68))])]
abbrev r79_19:List RO:=[ro (.callv 62 (.c (.one (.fn 117 []))) [(.t 61),(c6 20)]),ro (.callv 70 (.c (.one (.fn 116 []))) [(.t 62),(.t 69)])]
abbrev r79_20:List RO:=[ro (.callv 71 (.c (.one (.fn 115 []))) [(.t 59),(.t 60),(.t 70)]),rM 58 71,ro (.ext 72 (.t 58) 0),ro (.ext 73 (.t 58) 1),ro (.store 9 [(.int .i64 0),(.sl 3 []),(.int .i64 0),(.int .i64 0),(.int .i64 0),(.int .i64 0),(.int .i64 0),(.int .i64 0),(.sl 2 [])] (.t 8) (.t 72)),rM 9 73]
abbrev r79_21:List RO:=[ro (.bin 75 .eql (.t 28) (c6 4)),rM 74 75]
abbrev r79_22:List RO:=[ro (.load 77 (some 9) (.t 5)),rM 78 10,rM 79 0]
abbrev r79_23:List RO:=[ro (.callv 80 (.c (.one (.fn 83 []))) [(.t 79),(c6 3)])]
abbrev r79_24:List RO:=[ro (.inv 81 (.t 80)),ro (.callv 82 (.c (.one (.fn 21 []))) [(.t 77),(.t 78),(.t 81)]),rM 76 82,ro (.ext 83 (.t 76) 0),ro (.ext 84 (.t 76) 1),ro (.store 9 [(.int .i64 0),(.sl 3 []),(.int .i64 0),(.int .i64 0),(.int .i64 0),(.int .i64 0),(.int .i64 0),(.int .i64 0),(.sl 2 [])] (.t 8) (.t 83)),rM 9 84]
abbrev r79_25:List RO:=[ro (.load 30 (some 9) (.t 5)),rM 31 10,ro (.callv 32 (.c (.one (.fn 118 []))) [(.t 30),(.t 31)]),rM 29 32,ro (.ext 33 (.t 29) 0),ro (.ext 34 (.t 29) 1),ro (.store 9 [(.int .i64 0),(.sl 3 []),(.int .i64 0),(.int .i64 0),(.int .i64 0),(.int .i64 0),(.int .i64 0),(.int .i64 0),(.sl 2 [])] (.t 8) (.t 33)),rM 9 34]
abbrev r79_26:List RO:=[rM 85 9,ro (.bin 86 .neq (.t 85) (c6 1))]
abbrev r79_27:List RO:=[ro (.load 87 (some 9) (.t 8)),ro (.store 9 [(.int .i64 0),(.sl 3 []),(.int .i64 0),(.int .i64 0),(.int .i64 0),(.int .i64 0),(.int .i64 0),(.int .i64 0),(.sl 2 [])] (.t 5) (.t 87))]
abbrev r79_28:List RO:=[rM 21 7,ro (.bin 22 .add (.t 21) (c6 1)),rM 7 22]
abbrev r79_29:List RO:=[ro (.load 88 (some 9) (.t 5)),ro (.store 9 [(.int .i64 0),(.sl 3 []),(.int .i64 0),(.int .i64 0),(.int .i64 0),(.int .i64 0),(.int .i64 0),(.int .i64 0),(.sl 2 [])] (.t 4) (.t 88))]
def i79:IC:=(.seq (.reg r79_0) (.seq (.reg r79_1) (.seq (.reg r79_2) (.seq (.seq (.reg r79_3) (.block 0 (.loop (.seq (.seq (.reg r79_4) (.cond (.t 20) .skip (.exit 0))) (.seq (.block 1 (.seq (.reg r79_5) (.seq (.reg r79_6) (.seq (.seq (.reg r79_7) (.block 2 (.seq (.reg r79_8) (.cond (.t 35) (.regp r79_9 r79_10 r79_11) (.seq (.seq (.reg r79_12) (.cond (.t 44) .skip (.reg r79_13))) (.cond (.t 44) (.regp r79_14 r79_15 r79_16) (.seq (.reg r79_17) (.cond (.t 56) (.regp r79_18 r79_19 r79_20) (.seq (.reg r79_21) (.cond (.t 74) (.regp r79_22 r79_23 r79_24) (.reg r79_25))))))))))) (.seq (.reg r79_26) (.cond (.t 86) (.reg r79_27) .skip)))))) (.reg r79_28)))))) (.seq (.reg r79_29) .ret)))))
theorem o79:(Try.f79.body.bind fun c=>toIC Try.prog 89 c [[(0,[2000007]),(0,[2000007]),(2,[2000008]),(7,[2000009]),(15,[2000009]),(31,[2000009]),(31,[2000009]),(63,[2000009]),(255,[2000009])],[(0,[2000007]),(0,[2000007]),(2,[2000008]),(0,[2000007]),(14,[2000008]),(31,[2000009]),(63,[2000009]),(127,[2000009]),(127,[2000009]),(255,[2000009]),(1023,[2000009])],[(0,[2000007]),(0,[2000007]),(0,[2000007]),(4,[2000008]),(0,[2000007]),(16,[2000007]),(48,[2000007]),(0,[2000007]),(128,[2000007]),(384,[2000007]),(1008,[2000007]),(2044,[2000008]),(4095,[2000009]),(8191,[2000009]),(16383,[2000009]),(16383,[2000009]),(32767,[2000009]),(131071,[2000009])],[(0,[2000007]),(0,[2000007]),(0,[2000007]),(4,[2000008]),(12,[2000009]),(31,[2000009]),(63,[2000009]),(127,[2000009]),(127,[2000009]),(255,[2000009]),(1023,[2000009])]])=some (i79,[]):=by kernel_rfl
theorem n79:FCu Try.prog 89 i79 [.cell 4 (some 9)] 79:=fc (by kernel_rfl) Try.func79 (by kernel_rfl) o79 (by kernel_rfl)
abbrev r80_0:List RO:=[ro (.mov 4 (c6 0))]
abbrev r80_1:List RO:=[rM 5 1,rM 6 0,rM 7 1,ro (.len 8 false (.t 7)),ro (.callv 9 (.c (.one (.fn 50 []))) [(.t 6),(.t 8)]),ro (.iaddr 10 1 (.t 5) (.t 9)),rL 11 10,rM 4 11]
def i80:IC:=(.seq (.reg r80_0) (.seq (.reg r80_1) .ret))
theorem o80:(Try.f80.body.bind fun c=>toIC Try.prog 12 c [])=some (i80,[]):=by kernel_rfl
theorem n80:FCu Try.prog 12 i80 [.tmp 4] 80:=fc (by kernel_rfl) Try.func80 (by kernel_rfl) o80 (by kernel_rfl)
abbrev r81_0:List RO:=[ro (.mov 2 (.c (.one .zs)))]
abbrev r81_1:List RO:=[rM 5 0,ro (.callv 6 (.c (.one (.fn 114 []))) [(.t 5)]),rM 3 6]
abbrev r81_2:List RO:=[rM 7 0,rM 8 3,ro (.len 9 false (.t 8)),ro (.callv 10 (.c (.one (.fn 50 []))) [(.t 7),(.t 9)]),rM 4 10]
abbrev r81_3:List RO:=[rM 11 0,ro (.callv 12 (.c (.one (.fn 50 []))) [(.t 11),(c6 25)])]
abbrev r81_4:List RO:=[ro (.bin 14 .eql (.t 12) (c6 0)),rM 13 14]
abbrev r81_5:List RO:=[rM 15 3,rM 16 4,rM 17 3,rM 18 4,ro (.iaddr 19 3 (.t 17) (.t 18)),rF 20 0 19,rL 21 20,ro (.bin 22 .add (.t 21) (c6 1)),ro (.iaddr 23 3 (.t 15) (.t 16)),rF 24 0 23,ro (.store 1 [(.int .i64 0)] (.t 24) (.t 22))]
abbrev r81_6:List RO:=[ro (.bin 26 .eql (.t 12) (c6 1)),rM 25 26]
abbrev r81_7:List RO:=[rM 27 3,rM 28 4,rM 29 0,ro (.bslice 30 1 [(dI 0),(dI 0)] [(0,1,(c6 (-1))),(1,1,(c6 4))]),ro (.callv 31 (.c (.one (.fn 80 []))) [(.t 29),(.t 30)]),ro (.iaddr 32 3 (.t 27) (.t 28)),rF 33 2 32,ro (.store 1 [(.int .i64 0)] (.t 33) (.t 31))]
abbrev r81_8:List RO:=[ro (.bin 35 .eql (.t 12) (c6 2)),rM 34 35]
abbrev r81_9:List RO:=[rM 36 3,rM 37 4,ro (.slice 38 3 (.t 36) none (some (.t 37)) none),rM 3 38]
abbrev r81_10:List RO:=[ro (.bin 40 .eql (.t 12) (c6 3)),rM 39 40]
abbrev r81_11:List RO:=[rM 41 3,rM 42 4,rM 43 3,rM 44 4,ro (.iaddr 45 3 (.t 43) (.t 44)),rF 46 0 45,rL 47 46,ro (.iaddr 48 3 (.t 41) (.t 42)),rF 49 1 48,ro (.store 1 [(.int .i64 0)] (.t 49) (.t 47))]
abbrev r81_12:List RO:=[rM 50 3,rM 2 50]
def i81:IC:=(.seq (.reg r81_0) (.seq (.reg r81_1) (.seq (.reg r81_2) (.seq (.seq (.reg r81_3) (.block 0 (.seq (.reg r81_4) (.cond (.t 13) (.reg r81_5) (.seq (.reg r81_6) (.cond (.t 25) (.reg r81_7) (.seq (.reg r81_8) (.cond (.t 34) (.reg r81_9) (.seq (.reg r81_10) (.cond (.t 39) (.reg r81_11) .skip)))))))))) (.seq (.reg r81_12) .ret)))))
theorem o81:(Try.f81.body.bind fun c=>toIC Try.prog 51 c [])=some (i81,[]):=by kernel_rfl
theorem n81:FCu Try.prog 51 i81 [.tmp 2] 81:=fc (by kernel_rfl) Try.func81 (by kernel_rfl) o81 (by kernel_rfl)
abbrev r82_0:List RO:=[ro (.mov 4 (.c (.one .zs)))]
abbrev r82_1:List RO:=[rM 6 0,rM 7 1,ro (.callv 8 (.c (.one (.fn 117 []))) [(.t 6),(.t 7)]),rM 5 8]
abbrev r82_2:List RO:=[rM 9 0,ro (.callv 10 (.c (.one (.fn 50 []))) [(.t 9),(c6 25)])]
abbrev r82_3:List RO:=[ro (.bin 12 .eql (.t 10) (c6 0)),rM 11 12]
abbrev r82_4:List RO:=[rM 13 5,rM 14 0,ro (.bslice 15 1 [(dI 0),(dI 0),(dI 0),(dI 0)] [(0,1,(c6 (-1))),(1,1,(c6 0)),(2,1,(c6 999)),(3,1,(c6 1000))]),ro (.callv 16 (.c (.one (.fn 80 []))) [(.t 14),(.t 15)]),ro (.build 17 [(dI 0),(dI 0)] [(0,1,(.t 16))]),ro (.bslice 18 2 [(dI 0),(dI 0)] [(0,2,(.t 17))]),ro (.app 19 2 16 [(.int .i64 0),(.int .i64 0)] (.t 13) (.t 18)),rM 5 19]
abbrev r82_5:List RO:=[ro (.bin 21 .eql (.t 10) (c6 1)),rM 20 21]
abbrev r82_6:List RO:=[rM 22 5,rM 23 0,ro (.bslice 24 1 [(dI 0),(dI 0),(dI 0)] [(0,1,(c6 (-1))),(1,1,(c6 1000000000)),(2,1,(c6 1000000001))]),ro (.callv 25 (.c (.one (.fn 80 []))) [(.t 23),(.t 24)]),ro (.build 26 [(dI 0),(dI 0)] [(0,1,(c6 900)),(1,1,(.t 25))]),ro (.bslice 27 2 [(dI 0),(dI 0)] [(0,2,(.t 26))]),ro (.app 28 2 16 [(.int .i64 0),(.int .i64 0)] (.t 22) (.t 27)),rM 5 28]
abbrev r82_7:List RO:=[rM 29 5,rM 4 29]
def i82:IC:=(.seq (.reg r82_0) (.seq (.reg r82_1) (.seq (.seq (.reg r82_2) (.block 0 (.seq (.reg r82_3) (.cond (.t 11) (.reg r82_4) (.seq (.reg r82_5) (.cond (.t 20) (.reg r82_6) .skip)))))) (.seq (.reg r82_7) .ret))))
theorem o82:(Try.f82.body.bind fun c=>toIC Try.prog 30 c [])=some (i82,[]):=by kernel_rfl
theorem n82:FCu Try.prog 30 i82 [.tmp 4] 82:=fc (by kernel_rfl) Try.func82 (by kernel_rfl) o82 (by kernel_rfl)
abbrev r37_0:List RO:=[ro (.var 4 [(dI 0),.zs,(dI 0),(dI 0),(dI 0),(dI 0),(dI 0),(dI 0),.zs])]
abbrev r37_1:List RO:=[rM 6 0,rM 7 1,ro (.callv 8 (.c (.one (.fn 79 []))) [(.t 6),(.t 7)]),ro (.var 5 [(dI 0),.zs,(dI 0),(dI 0),(dI 0),(dI 0),(dI 0),(dI 0),.zs]),ro (.store 9 [(.int .i64 0),(.sl 3 []),(.int .i64 0),(.int .i64 0),(.int .i64 0),(.int .i64 0),(.int .i64 0),(.int .i64 0),(.sl 2 [])] (.t 5) (.t 8))]
abbrev r37_2:List RO:=[rM 9 0,ro (.callv 10 (.c (.one (.fn 50 []))) [(.t 9),(c6 30)])]
abbrev r37_3:List RO:=[ro (.bin 12 .eql (.t 10) (c6 0)),rM 11 12]
abbrev r37_4:List RO:=[rM 13 0,ro (.bslice 14 1 [(dI 0),(dI 0),(dI 0)] [(0,1,(c6 (-1))),(1,1,(c6 1000000)),(2,1,(c6 1000001))]),ro (.callv 15 (.c (.one (.fn 80 []))) [(.t 13),(.t 14)]),rF 16 0 5,ro (.store 1 [(.int .i64 0)] (.t 16) (.t 15))]
abbrev r37_5:List RO:=[ro (.bin 18 .eql (.t 10) (c6 1)),rM 17 18]
abbrev r37_6:List RO:=[rM 19 0,ro (.callv 20 (.c (.one (.fn 81 []))) [(.t 19)]),rF 21 1 5,ro (.store 1 [(.sl 3 [])] (.t 21) (.t 20))]
abbrev r37_7:List RO:=[ro (.bin 23 .eql (.t 10) (c6 2)),rM 22 23]
abbrev r37_8:List RO:=[rM 24 0,ro (.bslice 25 1 [(dI 0),(dI 0),(dI 0),(dI 0)] [(0,1,(c6 (-1))),(1,1,(c6 0)),(2,1,(c6 300000)),(3,1,(c6 300001))]),ro (.callv 26 (.c (.one (.fn 80 []))) [(.t 24),(.t 25)]),rF 27 2 5,rF 28 0 27,ro (.store 1 [(.int .i64 0)] (.t 28) (.t 26))]
abbrev r37_9:List RO:=[ro (.bin 30 .eql (.t 10) (c6 3)),rM 29 30]
abbrev r37_10:List RO:=[rM 31 0,ro (.callv 32 (.c (.one (.fn 50 []))) [(.t 31),(c6 7)]),ro (.bin 33 .sub (.t 32) (c6 1)),rF 34 2 5,rF 35 1 34,ro (.store 1 [(.int .i64 0)] (.t 35) (.t 33))]
abbrev r37_11:List RO:=[ro (.bin 37 .eql (.t 10) (c6 4)),rM 36 37]
abbrev r37_12:List RO:=[rM 38 0,ro (.callv 39 (.c (.one (.fn 82 []))) [(.t 38),(c6 4)]),rF 40 2 5,rF 41 6 40,ro (.store 1 [(.sl 2 [])] (.t 41) (.t 39))]
abbrev r37_13:List RO:=[ro (.bin 43 .eql (.t 10) (c6 5)),rM 42 43]
abbrev r37_14:List RO:=[rM 44 0,ro (.callv 45 (.c (.one (.fn 50 []))) [(.t 44),(c6 6)]),ro (.bin 46 .sub (.t 45) (c6 1)),rF 47 2 5,rF 48 5 47,ro (.store 1 [(.int .i64 0)] (.t 48) (.t 46))]
abbrev r37_15:List RO:=[ro (.load 49 (some 9) (.t 5)),ro (.store 9 [(.int .i64 0),(.sl 3 []),(.int .i64 0),(.int .i64 0),(.int .i64 0),(.int .i64 0),(.int .i64 0),(.int .i64 0),(.sl 2 [])] (.t 4) (.t 49))]
def i37:IC:=(.seq (.reg r37_0) (.seq (.reg r37_1) (.seq (.seq (.reg r37_2) (.block 0 (.seq (.reg r37_3) (.cond (.t 11) (.reg r37_4) (.seq (.reg r37_5) (.cond (.t 17) (.reg r37_6) (.seq (.reg r37_7) (.cond (.t 22) (.reg r37_8) (.seq (.reg r37_9) (.cond (.t 29) (.reg r37_10) (.seq (.reg r37_11) (.cond (.t 36) (.reg r37_12) (.seq (.reg r37_13) (.cond (.t 42) (.reg r37_14) .skip)))))))))))))) (.seq (.reg r37_15) .ret))))
theorem o37:(Try.f37.body.bind fun c=>toIC Try.prog 50 c [])=some (i37,[]):=by kernel_rfl
theorem n37:FCu Try.prog 50 i37 [.cell 4 (some 9)] 37:=fc (by kernel_rfl) Try.func37 (by kernel_rfl) o37 (by kernel_rfl)
abbrev r39_0:List RO:=[ro (.mov 2 (c6 0))]
abbrev r39_1:List RO:=[rM 3 0,ro (.callv 4 (.c (.one (.fn 83 []))) [(.t 3),(c6 12)])]
abbrev r39_2:List RO:=[rM 5 0,ro (.bslice 6 1 [(dI 0),(dI 0),(dI 0),(dI 0)] [(0,1,(c6 (-1))),(1,1,(c6 0)),(2,1,(c6 999)),(3,1,(c6 1000))]),ro (.callv 7 (.c (.one (.fn 80 []))) [(.t 5),(.t 6)]),rM 2 7]
abbrev r39_3:List RO:=[rM 8 0,ro (.callv 9 (.c (.one (.fn 50 []))) [(.t 8),(c6 45)]),rM 2 9]
def i39:IC:=(.seq (.reg r39_0) (.seq (.seq (.reg r39_1) (.cond (.t 4) (.seq (.reg r39_2) .ret) .skip)) (.seq (.reg r39_3) .ret)))
theorem o39:(Try.f39.body.bind fun c=>toIC Try.prog 10 c [])=some (i39,[]):=by kernel_rfl
theorem n39:FCu Try.prog 10 i39 [.tmp 2] 39:=fc (by kernel_rfl) Try.func39 (by kernel_rfl) o39 (by kernel_rfl)
abbrev r14_0:List RO:=[ro (.var 2 [(dI 0),.zs,(dI 0),(dI 0),(dI 0),(dI 0),(dI 0),(dI 0),.zs]),ro (.mov 3 (c6 0)),ro (.mov 4 (c6 0))]
abbrev r14_1:List RO:=[rM 8 0,ro (.callv 9 (.c (.one (.fn 36 []))) [(.t 8)]),rM 5 9]
abbrev r14_2:List RO:=[rM 10 5,rM 11 0,ro (.callv 12 (.c (.one (.fn 38 []))) [(.t 11),(c6 20)]),ro (.callv 13 (.c (.one (.fn 37 []))) [(.t 10),(.t 12)]),ro (.var 6 [(dI 0),.zs,(dI 0),(dI 0),(dI 0),(dI 0),(dI 0),(dI 0),.zs]),ro (.store 9 [(.int .i64 0),(.sl 3 []),(.int .i64 0),(.int .i64 0),(.int .i64 0),(.int .i64 0),(.int .i64 0),(.int .i64 0),(.sl 2 [])] (.t 6) (.t 13))]
abbrev r14_3:List RO:=[rM 14 5,ro (.callv 15 (.c (.one (.fn 39 []))) [(.t 14)]),rM 7 15]
abbrev r14_4:List RO:=[ro (.load 16 (some 9) (.t 6)),rM 17 7,rM 18 5]
abbrev r14_5:List RO:=[ro (.callv 19 (.c (.one (.fn 50 []))) [(.t 18),(c6 6)])]
abbrev r14_6:List RO:=[ro (.bin 20 .sub (.t 19) (c6 1)),ro (.store 9 [(.int .i64 0),(.sl 3 []),(.int .i64 0),(.int .i64 0),(.int .i64 0),(.int .i64 0),(.int .i64 0),(.int .i64 0),(.sl 2 [])] (.t 2) (.t 16)),rM 3 17,rM 4 20]
def i14:IC:=(.seq (.reg r14_0) (.seq (.reg r14_1) (.seq (.reg r14_2) (.seq (.reg r14_3) (.seq (.regp r14_4 r14_5 r14_6) .ret)))))
theorem o14:(Try.f14.body.bind fun c=>toIC Try.prog 21 c [[(0,[2000007]),(0,[2000007]),(0,[2000007]),(4,[2000008]),(12,[2000009]),(13,[2000009]),(47,[2000009]),(127,[2000009])]])=some (i14,[]):=by kernel_rfl
theorem n14:FCu Try.prog 21 i14 [.cell 2 (some 9),.tmp 3,.tmp 4] 14:=fc (by kernel_rfl) Try.func14 (by kernel_rfl) o14 (by kernel_rfl)
abbrev r45_0:List RO:=[ro (.mov 6 (cB false))]
abbrev r45_1:List RO:=[rM 7 0,rM 8 1,ro (.bin 9 .geq (.t 7) (.t 8)),rM 10 9,rT 10 (.mov 11 (.t 0)),rT 10 (.mov 12 (.t 2)),rT 10 (.bin 13 .leq (.t 11) (.t 12)),ro (.pick 14 (.t 10) (.t 13) (cB false)),rM 6 14]
def i45:IC:=(.seq (.reg r45_0) (.seq (.reg r45_1) .ret))
theorem o45:(Try.f45.body.bind fun c=>toIC Try.prog 15 c [])=some (i45,[]):=by kernel_rfl
theorem f45:FI Try.prog 15 i45 [.tmp 6] 45:=fi (by kernel_rfl) Try.func45 (by kernel_rfl) o45 (by kernel_rfl)
abbrev r51_0:List RO:=[ro (.mov 2 (cB false))]
abbrev r51_1:List RO:=[rM 3 0,ro (.callv 4 (.c (.one (.fn 45 []))) [(.t 3),(c6 0),(c6 3)]),rM 2 4]
def i51:IC:=(.seq (.reg r51_0) (.seq (.reg r51_1) .ret))
theorem o51:(Try.f51.body.bind fun c=>toIC Try.prog 5 c [])=some (i51,[]):=by kernel_rfl
theorem f51:FI Try.prog 5 i51 [.tmp 2] 51:=fi (by kernel_rfl) Try.func51 (by kernel_rfl) o51 (by kernel_rfl)
abbrev r46_0:List RO:=[ro (.mov 2 (cB false))]
abbrev r46_1:List RO:=[ro (.mov 3 (c6 0))]
abbrev r46_2:List RO:=[rM 6 0,ro (.len 7 false (.t 6)),ro (.mov 8 (c6 0))]
abbrev r46_3:List RO:=[ro (.bin 9 .lss (.t 8) (.t 7))]
abbrev r46_4:List RO:=[ro (.iaddr 10 3 (.t 6) (.t 8)),ro (.load 11 (some 3) (.t 10)),ro (.var 5 [(dI 0),(dI 0),(dI 0)]),ro (.store 3 [(.int .i64 0),(.int .i64 0),(.int .i64 0)] (.t 5) (.t 11))]
abbrev r46_5:List RO:=[rF 12 0 5,rL 13 12,rM 14 3,ro (.bin 15 .neq (.t 13) (.t 14)),rM 16 15,rN 16 (.faddr 17 1 (.t 5)),rN 16 (.load 18 none (.t 17)),rN 16 (.faddr 19 0 (.t 5)),rN 16 (.load 20 none (.t 19)),rN 16 (.bin 21 .leq (.t 18) (.t 20)),ro (.pick 22 (.t 16) (cB true) (.t 21)),rM 23 22,rN 23 (.faddr 24 2 (.t 5)),rN 23 (.load 25 none (.t 24)),rN 23 (.callv 26 (.c (.one (.fn 51 []))) [(.t 25)]),rN 23 (.inv 27 (.t 26)),ro (.pick 28 (.t 23) (cB true) (.t 27))]
abbrev r46_6:List RO:=[ro (.mov 2 (cB false))]
abbrev r46_7:List RO:=[rF 29 1 5,rL 30 29,rM 3 30]
abbrev r46_8:List RO:=[ro (.bin 31 .add (.t 8) (c6 1)),rM 8 31]
abbrev r46_9:List RO:=[rM 32 0,ro (.len 33 false (.t 32)),ro (.callv 34 (.c (.one (.fn 45 []))) [(.t 33),(c6 1),(c6 16)]),rM 35 34,rT 35 (.mov 36 (.t 3)),rT 35 (.bin 37 .eql (.t 36) (c6 1000)),ro (.pick 38 (.t 35) (.t 37) (cB false)),rM 2 38]
def i46:IC:=(.seq (.reg r46_0) (.seq (.reg r46_1) (.seq (.seq (.reg r46_2) (.block 0 (.loop (.seq (.reg r46_3) (.seq (.cond (.t 9) .skip (.exit 0)) (.seq (.block 1 (.seq (.reg r46_4) (.seq (.seq (.reg r46_5) (.cond (.t 28) (.seq (.reg r46_6) .ret) .skip)) (.reg r46_7)))) (.reg r46_8))))))) (.seq (.reg r46_9) .ret))))
theorem o46:(Try.f46.body.bind fun c=>toIC Try.prog 39 c [])=some (i46,[]):=by kernel_rfl
theorem f46:FI Try.prog 39 i46 [.tmp 2] 46:=fi (by kernel_rfl) Try.func46 (by kernel_rfl) o46 (by kernel_rfl)
abbrev r54_0:List RO:=[ro (.box 1 (.t 0)),ro (.var 2 [(dI 0),(dI 0)])]
abbrev r54_1:List RO:=[rF 3 2 1,rL 4 3,rF 5 3 1,rL 6 5,ro (.build 7 [(dI 0),(dI 0)] [(0,1,(.t 4)),(1,1,(.t 6))]),ro (.store 2 [(.int .i64 0),(.int .i64 0)] (.t 2) (.t 7))]
def i54:IC:=(.seq (.reg r54_0) (.seq (.reg r54_1) .ret))
theorem o54:(Try.f54.body.bind fun c=>toIC Try.prog 8 c [])=some (i54,[]):=by kernel_rfl
theorem f54:FI Try.prog 8 i54 [.cell 2 (some 2)] 54:=fi (by kernel_rfl) Try.func54 (by kernel_rfl) o54 (by kernel_rfl)
abbrev r60_0:List RO:=[ro (.box 1 (.t 0)),ro (.mov 2 (cB false))]
abbrev r60_1:List RO:=[rF 3 0 1,rL 4 3,ro (.bin 5 .geq (.t 4) (c6 0)),rM 6 5,rT 6 (.faddr 7 0 (.t 1)),rT 6 (.load 8 none (.t 7)),rT 6 (.faddr 9 1 (.t 1)),rT 6 (.load 10 none (.t 9)),rT 6 (.bin 11 .lss (.t 8) (.t 10)),ro (.pick 12 (.t 6) (.t 11) (cB false)),rM 13 12,rT 13 (.faddr 14 1 (.t 1)),rT 13 (.load 15 none (.t 14)),rT 13 (.bin 16 .leq (.t 15) (c6 1000)),ro (.pick 17 (.t 13) (.t 16) (cB false)),rM 2 17]
def i60:IC:=(.seq (.reg r60_0) (.seq (.reg r60_1) .ret))
theorem o60:(Try.f60.body.bind fun c=>toIC Try.prog 18 c [])=some (i60,[]):=by kernel_rfl
theorem f60:FI Try.prog 18 i60 [.tmp 2] 60:=fi (by kernel_rfl) Try.func60 (by kernel_rfl) o60 (by kernel_rfl)
abbrev r123_0:List RO:=[ro (.mov 2 (cB false))]
abbrev r123_1:List RO:=[rM 3 0,ro (.callv 4 (.c (.one (.fn 45 []))) [(.t 3),(c6 0),(c6 999)]),rM 2 4]
def i123:IC:=(.seq (.reg r123_0) (.seq (.reg r123_1) .ret))
theorem o123:(Try.f123.body.bind fun c=>toIC Try.prog 5 c [])=some (i123,[]):=by kernel_rfl
theorem f123:FI Try.prog 5 i123 [.tmp 2] 123:=fi (by kernel_rfl) Try.func123 (by kernel_rfl) o123 (by kernel_rfl)
abbrev r124_0:List RO:=[ro (.mov 2 (cB false))]
abbrev r124_1:List RO:=[rM 3 0,ro (.callv 4 (.c (.one (.fn 45 []))) [(.t 3),(c6 0),(c6 1000000000)]),rM 2 4]
def i124:IC:=(.seq (.reg r124_0) (.seq (.reg r124_1) .ret))
theorem o124:(Try.f124.body.bind fun c=>toIC Try.prog 5 c [])=some (i124,[]):=by kernel_rfl
theorem f124:FI Try.prog 5 i124 [.tmp 2] 124:=fi (by kernel_rfl) Try.func124 (by kernel_rfl) o124 (by kernel_rfl)
abbrev r95_0:List RO:=[ro (.mov 2 (cB false))]
abbrev r95_1:List RO:=[rM 5 0,ro (.len 6 false (.t 5)),ro (.mov 7 (c6 0))]
abbrev r95_2:List RO:=[ro (.bin 8 .lss (.t 7) (.t 6))]
abbrev r95_3:List RO:=[rM 9 7,ro (.iaddr 10 2 (.t 5) (.t 7)),ro (.load 11 (some 2) (.t 10)),ro (.var 4 [(dI 0),(dI 0)]),rM 3 9,ro (.store 2 [(.int .i64 0),(.int .i64 0)] (.t 4) (.t 11))]
abbrev r95_4:List RO:=[rF 12 0 4,⟨⟨none,.load 13 none (.t 12)⟩,1,[]⟩,⟨⟨none,.callv 14 (.c (.one (.fn 123 []))) [(.t 13)]⟩,3,[]⟩,⟨⟨none,.inv 15 (.t 14)⟩,7,[]⟩,⟨⟨none,.mov 16 (.t 15)⟩,15,[]⟩,⟨⟨some (16,false),.faddr 17 1 (.t 4)⟩,31,[]⟩,⟨⟨some (16,false),.load 18 none (.t 17)⟩,63,[]⟩,⟨⟨some (16,false),.callv 19 (.c (.one (.fn 124 []))) [(.t 18)]⟩,127,[]⟩,⟨⟨some (16,false),.inv 20 (.t 19)⟩,255,[]⟩,⟨⟨none,.pick 21 (.t 16) (cB true) (.t 20)⟩,511,[]⟩,⟨⟨none,.mov 22 (.t 21)⟩,1023,[]⟩,⟨⟨some (22,false),.mov 23 (.t 3)⟩,2047,[]⟩,⟨⟨some (22,false),.bin 24 .gtr (.t 23) (c6 0)⟩,4095,[]⟩,⟨⟨some (22,false),.mov 25 (.t 24)⟩,8191,[]⟩,⟨⟨some (25,true),.mov 26 (.t 0)⟩,16383,[]⟩,⟨⟨some (25,true),.mov 27 (.t 3)⟩,16383,[]⟩,⟨⟨some (25,true),.bin 28 .sub (.t 27) (c6 1)⟩,49151,[]⟩,⟨⟨some (25,true),.iaddr 29 2 (.t 26) (.t 28)⟩,131071,[]⟩,⟨⟨some (25,true),.faddr 30 0 (.t 29)⟩,262143,[]⟩,⟨⟨some (25,true),.load 31 none (.t 30)⟩,524287,[]⟩,⟨⟨some (25,true),.faddr 32 0 (.t 4)⟩,16383,[]⟩,⟨⟨some (25,true),.load 33 none (.t 32)⟩,1064959,[]⟩,⟨⟨some (25,true),.bin 34 .geq (.t 31) (.t 33)⟩,4194303,[]⟩,⟨⟨some (22,false),.pick 35 (.t 25) (.t 34) (cB false)⟩,8388607,[]⟩,⟨⟨none,.pick 36 (.t 22) (cB true) (.t 35)⟩,16777215,[]⟩]
abbrev r95_5:List RO:=[ro (.mov 2 (cB false))]
abbrev r95_6:List RO:=[ro (.bin 37 .add (.t 7) (c6 1)),rM 7 37]
abbrev r95_7:List RO:=[rM 38 0,ro (.len 39 false (.t 38)),ro (.bin 40 .leq (.t 39) (c6 60)),rM 2 40]
def i95:IC:=(.seq (.reg r95_0) (.seq (.seq (.reg r95_1) (.block 0 (.loop (.seq (.reg r95_2) (.seq (.cond (.t 8) .skip (.exit 0)) (.seq (.block 1 (.seq (.reg r95_3) (.seq (.regd r95_4) (.cond (.t 36) (.seq (.reg r95_5) .ret) .skip)))) (.reg r95_6))))))) (.seq (.reg r95_7) .ret)))
theorem o95:(Try.f95.body.bind fun c=>toIC Try.prog 41 c [[(0,[]),(1,[]),(3,[]),(7,[]),(15,[]),(31,[]),(63,[]),(127,[]),(255,[]),(511,[]),(1023,[]),(2047,[]),(4095,[]),(8191,[]),(16383,[]),(16383,[]),(49151,[]),(131071,[]),(262143,[]),(524287,[]),(16383,[]),(1064959,[]),(4194303,[]),(8388607,[]),(16777215,[])]])=some (i95,[]):=by kernel_rfl
theorem f95:FI Try.prog 41 i95 [.tmp 2] 95:=fi (by kernel_rfl) Try.func95 (by kernel_rfl) o95 (by kernel_rfl)
abbrev r98_0:List RO:=[ro (.box 2 (.t 0)),ro (.mov 4 (cB false))]
abbrev r98_1:List RO:=[rM 5 1,rF 6 0 2,rL 7 6,rF 8 1 2,rL 9 8,ro (.bin 10 .sub (.t 9) (c6 1)),ro (.callv 11 (.c (.one (.fn 45 []))) [(.t 5),(.t 7),(.t 10)]),rM 4 11]
def i98:IC:=(.seq (.reg r98_0) (.seq (.reg r98_1) .ret))
theorem o98:(Try.f98.body.bind fun c=>toIC Try.prog 12 c [])=some (i98,[]):=by kernel_rfl
theorem f98:FI Try.prog 12 i98 [.tmp 4] 98:=fi (by kernel_rfl) Try.func98 (by kernel_rfl) o98 (by kernel_rfl)
abbrev r97_0:List RO:=[ro (.box 2 (.t 0)),ro (.mov 3 (cB false))]
abbrev r97_1:List RO:=[ro (.load 4 (some 2) (.t 1)),rF 5 0 2,rL 6 5,ro (.callv 7 (.c (.one (.fn 98 []))) [(.t 4),(.t 6)]),ro (.inv 8 (.t 7)),rM 3 8]
def i97:IC:=(.seq (.reg r97_0) (.seq (.reg r97_1) .ret))
theorem o97:(Try.f97.body.bind fun c=>toIC Try.prog 9 c [])=some (i97,[]):=by kernel_rfl
theorem f97:FI Try.prog 9 i97 [.tmp 3] 97:=fi (by kernel_rfl) Try.func97 (by kernel_rfl) o97 (by kernel_rfl)
abbrev r125_0:List RO:=[ro (.mov 4 (c6 0))]
abbrev r125_1:List RO:=[rM 6 0,ro (.len 7 false (.t 6)),ro (.mov 8 (c6 0))]
abbrev r125_2:List RO:=[ro (.bin 9 .lss (.t 8) (.t 7))]
abbrev r125_3:List RO:=[rM 10 8,rM 5 10]
abbrev r125_4:List RO:=[rM 11 1,rM 12 0,rM 13 5,ro (.iaddr 14 2 (.t 12) (.t 13)),ro (.load 15 (some 2) (.t 14)),ro (.callv 16 (.t 11) [(.t 15)])]
abbrev r125_5:List RO:=[rM 17 5,rM 4 17]
abbrev r125_6:List RO:=[ro (.bin 18 .add (.t 8) (c6 1)),rM 8 18]
abbrev r125_7:List RO:=[ro (.mov 4 (c6 (-1)))]
def i125:IC:=(.seq (.reg r125_0) (.seq (.seq (.reg r125_1) (.block 0 (.loop (.seq (.reg r125_2) (.seq (.cond (.t 9) .skip (.exit 0)) (.seq (.block 1 (.seq (.reg r125_3) (.seq (.reg r125_4) (.cond (.t 16) (.seq (.reg r125_5) .ret) .skip)))) (.reg r125_6))))))) (.seq (.reg r125_7) .ret)))
theorem o125:(Try.f125.body.bind fun c=>toIC Try.prog 19 c [])=some (i125,[]):=by kernel_rfl
theorem f125:FI Try.prog 19 i125 [.tmp 4] 125:=fi (by kernel_rfl) Try.func125 (by kernel_rfl) o125 (by kernel_rfl)
abbrev r96_0:List RO:=[ro (.mov 4 (cB false))]
abbrev r96_1:List RO:=[rM 5 0,rM 6 1,ro (.callv 7 (.c (.one (.fn 125 []))) [(.t 5),(.t 6)]),ro (.bin 8 .geq (.t 7) (c6 0)),rM 4 8]
def i96:IC:=(.seq (.reg r96_0) (.seq (.reg r96_1) .ret))
theorem o96:(Try.f96.body.bind fun c=>toIC Try.prog 9 c [])=some (i96,[]):=by kernel_rfl
theorem f96:FI Try.prog 9 i96 [.tmp 4] 96:=fi (by kernel_rfl) Try.func96 (by kernel_rfl) o96 (by kernel_rfl)
abbrev r55_0:List RO:=[ro (.box 3 (.t 1)),ro (.mov 4 (cB false))]
abbrev r55_1:List RO:=[rM 5 0,ro (.callv 6 (.c (.one (.fn 95 []))) [(.t 5)]),rM 7 6,rT 7 (.mov 8 (.t 0)),rT 7 (.mkfn 9 97 [(.t 3)]),rT 7 (.callv 10 (.c (.one (.fn 96 []))) [(.t 8),(.t 9)]),rT 7 (.inv 11 (.t 10)),ro (.pick 12 (.t 7) (.t 11) (cB false)),rM 4 12]
def i55:IC:=(.seq (.reg r55_0) (.seq (.reg r55_1) .ret))
theorem o55:(Try.f55.body.bind fun c=>toIC Try.prog 13 c [])=some (i55,[]):=by kernel_rfl
theorem f55:FI Try.prog 13 i55 [.tmp 4] 55:=fi (by kernel_rfl) Try.func55 (by kernel_rfl) o55 (by kernel_rfl)
abbrev r47_0:List RO:=[ro (.box 1 (.t 0)),ro (.mov 2 (cB false))]
abbrev r47_1:List RO:=[rF 3 0 1,rL 4 3,ro (.callv 5 (.c (.one (.fn 45 []))) [(.t 4),(c6 0),(c6 300000)]),ro (.inv 6 (.t 5)),rM 7 6,rN 7 (.faddr 8 1 (.t 1)),rN 7 (.load 9 none (.t 8)),rN 7 (.callv 10 (.c (.one (.fn 45 []))) [(.t 9),(c6 0),(c6 4)]),rN 7 (.inv 11 (.t 10)),ro (.pick 12 (.t 7) (cB true) (.t 11))]
abbrev r47_2:List RO:=[ro (.mov 2 (cB false))]
abbrev r47_3:List RO:=[rF 13 1 1,rL 14 13,ro (.bin 15 .eql (.t 14) (c6 0))]
abbrev r47_4:List RO:=[rF 16 2 1,rL 17 16,ro (.bin 18 .eql (.t 17) (c6 0)),rM 19 18,rT 19 (.faddr 20 3 (.t 1)),rT 19 (.load 21 none (.t 20)),rT 19 (.bin 22 .eql (.t 21) (c6 0)),ro (.pick 23 (.t 19) (.t 22) (cB false)),rM 24 23,rT 24 (.faddr 25 4 (.t 1)),rT 24 (.load 26 none (.t 25)),rT 24 (.bin 27 .eql (.t 26) (c6 0)),ro (.pick 28 (.t 24) (.t 27) (cB false)),rM 29 28,rT 29 (.faddr 30 5 (.t 1)),rT 29 (.load 31 none (.t 30)),rT 29 (.bin 32 .eql (.t 31) (c6 0)),ro (.pick 33 (.t 29) (.t 32) (cB false)),rM 34 33,rT 34 (.faddr 35 6 (.t 1)),rT 34 (.load 36 none (.t 35)),rT 34 (.len 37 false (.t 36)),rT 34 (.bin 38 .eql (.t 37) (c6 0)),ro (.pick 39 (.t 34) (.t 38) (cB false)),rM 2 39]
abbrev r47_5:List RO:=[rF 40 0 1,⟨⟨none,.load 41 none (.t 40)⟩,1,[]⟩,⟨⟨none,.bin 42 .geq (.t 41) (c6 1)⟩,3,[]⟩,⟨⟨none,.mov 43 (.t 42)⟩,7,[]⟩,⟨⟨some (43,true),.load 44 (some 7) (.t 1)⟩,15,[]⟩,⟨⟨some (43,true),.callv 45 (.c (.one (.fn 54 []))) [(.t 44)]⟩,31,[]⟩,⟨⟨some (43,true),.callv 46 (.c (.one (.fn 60 []))) [(.t 45)]⟩,63,[]⟩,⟨⟨none,.pick 47 (.t 43) (.t 46) (cB false)⟩,127,[]⟩,⟨⟨none,.mov 48 (.t 47)⟩,255,[]⟩,⟨⟨some (48,true),.faddr 49 4 (.t 1)⟩,511,[]⟩,⟨⟨some (48,true),.load 50 none (.t 49)⟩,1023,[]⟩,⟨⟨some (48,true),.callv 51 (.c (.one (.fn 51 []))) [(.t 50)]⟩,2047,[]⟩,⟨⟨none,.pick 52 (.t 48) (.t 51) (cB false)⟩,4095,[]⟩,⟨⟨none,.mov 53 (.t 52)⟩,8191,[]⟩,⟨⟨some (53,true),.faddr 54 5 (.t 1)⟩,16383,[]⟩,⟨⟨some (53,true),.load 55 none (.t 54)⟩,32767,[]⟩,⟨⟨some (53,true),.callv 56 (.c (.one (.fn 51 []))) [(.t 55)]⟩,65535,[]⟩,⟨⟨none,.pick 57 (.t 53) (.t 56) (cB false)⟩,131071,[]⟩,⟨⟨none,.mov 58 (.t 57)⟩,262143,[]⟩,⟨⟨some (58,true),.faddr 59 4 (.t 1)⟩,524287,[]⟩,⟨⟨some (58,true),.load 60 none (.t 59)⟩,1048575,[]⟩,⟨⟨some (58,true),.faddr 61 5 (.t 1)⟩,524287,[]⟩,⟨⟨some (58,true),.load 62 none (.t 61)⟩,2621439,[]⟩,⟨⟨some (58,true),.bin 63 .neq (.t 60) (.t 62)⟩,8388607,[]⟩,⟨⟨none,.pick 64 (.t 58) (.t 63) (cB false)⟩,16777215,[]⟩,⟨⟨none,.mov 65 (.t 64)⟩,33554431,[]⟩,⟨⟨some (65,true),.faddr 66 6 (.t 1)⟩,67108863,[]⟩,⟨⟨some (65,true),.load 67 none (.t 66)⟩,134217727,[69]⟩,⟨⟨some (65,true),.load 68 (some 7) (.t 1)⟩,67108863,[]⟩,⟨⟨some (65,true),.callv 69 (.c (.one (.fn 54 []))) [(.t 68)]⟩,335544319,[]⟩,⟨⟨some (65,true),.callv 70 (.c (.one (.fn 55 []))) [(.t 67),(.t 69)]⟩,1073741823,[]⟩,⟨⟨none,.pick 71 (.t 65) (.t 70) (cB false)⟩,2147483647,[]⟩,⟨⟨none,.mov 72 (.t 71)⟩,4294967295,[]⟩,⟨⟨some (72,true),.faddr 73 1 (.t 1)⟩,8589934591,[]⟩,⟨⟨some (72,true),.load 74 none (.t 73)⟩,17179869183,[]⟩,⟨⟨some (72,true),.bin 75 .eql (.t 74) (c6 2)⟩,34359738367,[]⟩,⟨⟨some (72,true),.mov 76 (.t 75)⟩,68719476735,[]⟩,⟨⟨some (76,false),.faddr 77 6 (.t 1)⟩,137438953471,[]⟩,⟨⟨some (76,false),.load 78 none (.t 77)⟩,274877906943,[]⟩,⟨⟨some (76,false),.len 79 false (.t 78)⟩,549755813887,[]⟩,⟨⟨some (76,false),.bin 80 .eql (.t 79) (c6 0)⟩,1099511627775,[]⟩,⟨⟨some (72,true),.pick 81 (.t 76) (cB true) (.t 80)⟩,2199023255551,[]⟩,⟨⟨none,.pick 82 (.t 72) (.t 81) (cB false)⟩,4398046511103,[]⟩,⟨⟨none,.mov 2 (.t 82)⟩,8796093022207,[]⟩]
def i47:IC:=(.seq (.reg r47_0) (.seq (.seq (.reg r47_1) (.cond (.t 12) (.seq (.reg r47_2) .ret) .skip)) (.seq (.seq (.reg r47_3) (.cond (.t 15) (.seq (.reg r47_4) .ret) .skip)) (.seq (.regd r47_5) .ret))))
theorem o47:(Try.f47.body.bind fun c=>toIC Try.prog 83 c [[(0,[]),(1,[]),(3,[]),(7,[]),(15,[]),(31,[]),(63,[]),(127,[]),(255,[]),(511,[]),(1023,[]),(2047,[]),(4095,[]),(8191,[]),(16383,[]),(32767,[]),(65535,[]),(131071,[]),(262143,[]),(524287,[]),(1048575,[]),(524287,[]),(2621439,[]),(8388607,[]),(16777215,[]),(33554431,[]),(67108863,[]),(134217727,[69]),(67108863,[]),(335544319,[]),(1073741823,[]),(2147483647,[]),(4294967295,[]),(8589934591,[]),(17179869183,[]),(34359738367,[]),(68719476735,[]),(137438953471,[]),(274877906943,[]),(549755813887,[]),(1099511627775,[]),(2199023255551,[]),(4398046511103,[]),(8796093022207,[])]])=some (i47,[]):=by kernel_rfl
theorem f47:FI Try.prog 83 i47 [.tmp 2] 47:=fi (by kernel_rfl) Try.func47 (by kernel_rfl) o47 (by kernel_rfl)
abbrev r11_0:List RO:=[ro (.box 1 (.t 0)),ro (.mov 2 (cB false))]
abbrev r11_1:List RO:=[rF 3 0 1,rL 4 3,ro (.callv 5 (.c (.one (.fn 45 []))) [(.t 4),(c6 0),(c6 1000000)]),rM 6 5,rT 6 (.faddr 7 1 (.t 1)),rT 6 (.load 8 none (.t 7)),rT 6 (.callv 9 (.c (.one (.fn 46 []))) [(.t 8)]),ro (.pick 10 (.t 6) (.t 9) (cB false)),rM 11 10,rT 11 (.faddr 12 2 (.t 1)),rT 11 (.load 13 (some 7) (.t 12)),rT 11 (.callv 14 (.c (.one (.fn 47 []))) [(.t 13)]),ro (.pick 15 (.t 11) (.t 14) (cB false)),rM 2 15]
def i11:IC:=(.seq (.reg r11_0) (.seq (.reg r11_1) .ret))
theorem o11:(Try.f11.body.bind fun c=>toIC Try.prog 16 c [])=some (i11,[]):=by kernel_rfl
theorem f11:FI Try.prog 16 i11 [.tmp 2] 11:=fi (by kernel_rfl) Try.func11 (by kernel_rfl) o11 (by kernel_rfl)
abbrev r84_0:List RO:=[ro (.mov 2 (.c (.one .zs)))]
abbrev r84_1:List RO:=[rM 3 0,ro (.isnil 4 false (.t 3))]
abbrev r84_2:List RO:=[ro (.mov 2 (.c (.one .zs)))]
abbrev r84_3:List RO:=[ro (.bslice 5 3 [] []),rM 6 0,ro (.app 7 3 24 [(.int .i64 0),(.int .i64 0),(.int .i64 0)] (.t 5) (.t 6)),rM 2 7]
def i84:IC:=(.seq (.reg r84_0) (.seq (.seq (.reg r84_1) (.cond (.t 4) (.seq (.reg r84_2) .ret) .skip)) (.seq (.reg r84_3) .ret)))
theorem o84:(Try.f84.body.bind fun c=>toIC Try.prog 8 c [])=some (i84,[]):=by kernel_rfl
theorem f84:FI Try.prog 8 i84 [.tmp 2] 84:=fi (by kernel_rfl) Try.func84 (by kernel_rfl) o84 (by kernel_rfl)
abbrev r56_0:List RO:=[ro (.mov 2 (.c (.one .zs)))]
abbrev r56_1:List RO:=[rM 3 0,ro (.isnil 4 false (.t 3))]
abbrev r56_2:List RO:=[ro (.mov 2 (.c (.one .zs)))]
abbrev r56_3:List RO:=[ro (.bslice 5 2 [] []),rM 6 0,ro (.app 7 2 16 [(.int .i64 0),(.int .i64 0)] (.t 5) (.t 6)),rM 2 7]
def i56:IC:=(.seq (.reg r56_0) (.seq (.seq (.reg r56_1) (.cond (.t 4) (.seq (.reg r56_2) .ret) .skip)) (.seq (.reg r56_3) .ret)))
theorem o56:(Try.f56.body.bind fun c=>toIC Try.prog 8 c [])=some (i56,[]):=by kernel_rfl
theorem f56:FI Try.prog 8 i56 [.tmp 2] 56:=fi (by kernel_rfl) Try.func56 (by kernel_rfl) o56 (by kernel_rfl)
abbrev r40_0:List RO:=[ro (.box 1 (.t 0)),ro (.var 2 [(dI 0),.zs,(dI 0),(dI 0),(dI 0),(dI 0),(dI 0),(dI 0),.zs])]
abbrev r40_1:List RO:=[rF 3 1 1,rL 4 3,ro (.callv 5 (.c (.one (.fn 84 []))) [(.t 4)]),rF 6 1 1,ro (.store 1 [(.sl 3 [])] (.t 6) (.t 5))]
abbrev r40_2:List RO:=[rF 7 2 1,rF 8 6 7,rL 9 8,ro (.callv 10 (.c (.one (.fn 56 []))) [(.t 9)]),rF 11 2 1,rF 12 6 11,ro (.store 1 [(.sl 2 [])] (.t 12) (.t 10))]
abbrev r40_3:List RO:=[ro (.load 13 (some 9) (.t 1)),ro (.store 9 [(.int .i64 0),(.sl 3 []),(.int .i64 0),(.int .i64 0),(.int .i64 0),(.int .i64 0),(.int .i64 0),(.int .i64 0),(.sl 2 [])] (.t 2) (.t 13))]
def i40:IC:=(.seq (.reg r40_0) (.seq (.reg r40_1) (.seq (.reg r40_2) (.seq (.reg r40_3) .ret))))
theorem o40:(Try.f40.body.bind fun c=>toIC Try.prog 14 c [])=some (i40,[]):=by kernel_rfl
theorem f40:FI Try.prog 14 i40 [.cell 2 (some 9)] 40:=fi (by kernel_rfl) Try.func40 (by kernel_rfl) o40 (by kernel_rfl)
abbrev r93_0:List RO:=[ro (.box 2 (.t 0)),ro (.mov 3 (cB false))]
abbrev r93_1:List RO:=[rL 4 1,rF 5 0 2,rL 6 5,rF 7 1 2,rL 8 7,ro (.bin 9 .sub (.t 8) (c6 1)),ro (.callv 10 (.c (.one (.fn 45 []))) [(.t 4),(.t 6),(.t 9)]),rM 3 10]
def i93:IC:=(.seq (.reg r93_0) (.seq (.reg r93_1) .ret))
theorem o93:(Try.f93.body.bind fun c=>toIC Try.prog 11 c [])=some (i93,[]):=by kernel_rfl
theorem f93:FI Try.prog 11 i93 [.tmp 3] 93:=fi (by kernel_rfl) Try.func93 (by kernel_rfl) o93 (by kernel_rfl)
abbrev r92_0:List RO:=[ro (.mov 4 (c6 0))]
abbrev r92_1:List RO:=[rM 6 0,ro (.len 7 false (.t 6)),ro (.mov 8 (c6 0))]
abbrev r92_2:List RO:=[ro (.bin 9 .lss (.t 8) (.t 7))]
abbrev r92_3:List RO:=[rM 10 8,rM 5 10]
abbrev r92_4:List RO:=[rM 11 1,rM 12 0,rM 13 5,ro (.iaddr 14 3 (.t 12) (.t 13)),ro (.load 15 (some 3) (.t 14)),ro (.callv 16 (.t 11) [(.t 15)])]
abbrev r92_5:List RO:=[rM 17 5,rM 4 17]
abbrev r92_6:List RO:=[ro (.bin 18 .add (.t 8) (c6 1)),rM 8 18]
abbrev r92_7:List RO:=[ro (.mov 4 (c6 (-1)))]
def i92:IC:=(.seq (.reg r92_0) (.seq (.seq (.reg r92_1) (.block 0 (.loop (.seq (.reg r92_2) (.seq (.cond (.t 9) .skip (.exit 0)) (.seq (.block 1 (.seq (.reg r92_3) (.seq (.reg r92_4) (.cond (.t 16) (.seq (.reg r92_5) .ret) .skip)))) (.reg r92_6))))))) (.seq (.reg r92_7) .ret)))
theorem o92:(Try.f92.body.bind fun c=>toIC Try.prog 19 c [])=some (i92,[]):=by kernel_rfl
theorem f92:FI Try.prog 19 i92 [.tmp 4] 92:=fi (by kernel_rfl) Try.func92 (by kernel_rfl) o92 (by kernel_rfl)
abbrev r48_0:List RO:=[ro (.box 3 (.t 1)),ro (.mov 4 (c6 0))]
abbrev r48_1:List RO:=[rM 5 0,ro (.mkfn 6 93 [(.t 3)]),ro (.callv 7 (.c (.one (.fn 92 []))) [(.t 5),(.t 6)]),rM 4 7]
def i48:IC:=(.seq (.reg r48_0) (.seq (.reg r48_1) .ret))
theorem o48:(Try.f48.body.bind fun c=>toIC Try.prog 8 c [])=some (i48,[]):=by kernel_rfl
theorem f48:FI Try.prog 8 i48 [.tmp 4] 48:=fi (by kernel_rfl) Try.func48 (by kernel_rfl) o48 (by kernel_rfl)
abbrev r15_0:List RO:=[ro (.box 3 (.t 0)),ro (.var 6 [(dI 0),.zs,(dI 0),(dI 0),(dI 0),(dI 0),(dI 0),(dI 0),.zs]),ro (.mov 7 (c6 0))]
abbrev r15_1:List RO:=[ro (.load 11 (some 9) (.t 3)),ro (.callv 12 (.c (.one (.fn 11 []))) [(.t 11)]),ro (.inv 13 (.t 12))]
abbrev r15_2:List RO:=[ro (.build 14 [(dI 0),.zs,(dI 0),(dI 0),(dI 0),(dI 0),(dI 0),(dI 0),.zs] []),ro (.store 9 [(.int .i64 0),(.sl 3 []),(.int .i64 0),(.int .i64 0),(.int .i64 0),(.int .i64 0),(.int .i64 0),(.int .i64 0),(.sl 2 [])] (.t 6) (.t 14)),ro (.mov 7 (c6 1))]
abbrev r15_3:List RO:=[ro (.load 15 (some 9) (.t 3)),ro (.callv 16 (.c (.one (.fn 40 []))) [(.t 15)]),ro (.var 8 [(dI 0),.zs,(dI 0),(dI 0),(dI 0),(dI 0),(dI 0),(dI 0),.zs]),ro (.store 9 [(.int .i64 0),(.sl 3 []),(.int .i64 0),(.int .i64 0),(.int .i64 0),(.int .i64 0),(.int .i64 0),(.int .i64 0),(.sl 2 [])] (.t 8) (.t 16))]
abbrev r15_4:List RO:=[rF 17 1 3,rL 18 17,rM 19 1,ro (.callv 20 (.c (.one (.fn 48 []))) [(.t 18),(.t 19)]),rM 9 20]
abbrev r15_5:List RO:=[rF 22 2 3,rF 23 1 22,rL 24 23,ro (.bin 25 .neq (.t 24) (c6 0)),rM 21 25]
abbrev r15_6:List RO:=[ro (.load 26 (some 9) (.t 8)),ro (.store 9 [(.int .i64 0),(.sl 3 []),(.int .i64 0),(.int .i64 0),(.int .i64 0),(.int .i64 0),(.int .i64 0),(.int .i64 0),(.sl 2 [])] (.t 6) (.t 26)),ro (.mov 7 (c6 2))]
abbrev r15_7:List RO:=[rM 28 9,ro (.bin 29 .lss (.t 28) (c6 0)),rM 30 29,rN 30 (.mov 31 (.t 2)),rN 30 (.callv 32 (.c (.one (.fn 51 []))) [(.t 31)]),rN 30 (.inv 33 (.t 32)),ro (.pick 34 (.t 30) (cB true) (.t 33)),rM 35 34,rN 35 (.mov 36 (.t 2)),rN 35 (.faddr 37 1 (.t 3)),rN 35 (.load 38 none (.t 37)),rN 35 (.mov 39 (.t 9)),rN 35 (.iaddr 40 3 (.t 38) (.t 39)),rN 35 (.faddr 41 2 (.t 40)),rN 35 (.load 42 none (.t 41)),rN 35 (.bin 43 .eql (.t 36) (.t 42)),ro (.pick 44 (.t 35) (cB true) (.t 43)),rM 45 44,rN 45 (.faddr 46 2 (.t 3)),rN 45 (.faddr 47 0 (.t 46)),rN 45 (.load 48 none (.t 47)),rN 45 (.bin 49 .eql (.t 48) (c6 300000)),ro (.pick 50 (.t 45) (cB true) (.t 49)),rM 27 50]
abbrev r15_8:List RO:=[ro (.load 51 (some 9) (.t 8)),ro (.store 9 [(.int .i64 0),(.sl 3 []),(.int .i64 0),(.int .i64 0),(.int .i64 0),(.int .i64 0),(.int .i64 0),(.int .i64 0),(.sl 2 [])] (.t 6) (.t 51)),ro (.mov 7 (c6 3))]
abbrev r15_9:List RO:=[rF 52 1 3,rL 53 52,rM 54 9,ro (.iaddr 55 3 (.t 53) (.t 54)),ro (.load 56 (some 3) (.t 55)),ro (.var 10 [(dI 0),(dI 0),(dI 0)]),ro (.store 3 [(.int .i64 0),(.int .i64 0),(.int .i64 0)] (.t 10) (.t 56))]
abbrev r15_10:List RO:=[rF 57 2 3,rF 58 0 57,rL 59 58,ro (.bin 60 .add (.t 59) (c6 1)),rF 61 0 10,rL 62 61,rF 63 1 10,rL 64 63,rF 65 2 10,rL 66 65,rM 67 2,ro (.build 68 [(dI 0),(dI 0),(dI 0),(dI 0),(dI 0),(dI 0),.zs] [(0,1,(.t 60)),(1,1,(c6 1)),(2,1,(.t 62)),(3,1,(.t 64)),(4,1,(.t 66)),(5,1,(.t 67))]),rF 69 2 8,ro (.store 7 [(.int .i64 0),(.int .i64 0),(.int .i64 0),(.int .i64 0),(.int .i64 0),(.int .i64 0),(.sl 2 [])] (.t 69) (.t 68))]
abbrev r15_11:List RO:=[ro (.load 70 (some 9) (.t 8)),ro (.store 9 [(.int .i64 0),(.sl 3 []),(.int .i64 0),(.int .i64 0),(.int .i64 0),(.int .i64 0),(.int .i64 0),(.int .i64 0),(.sl 2 [])] (.t 6) (.t 70)),ro (.mov 7 (c6 0))]
def i15:IC:=(.seq (.reg r15_0) (.seq (.seq (.reg r15_1) (.cond (.t 13) (.seq (.reg r15_2) .ret) .skip)) (.seq (.reg r15_3) (.seq (.reg r15_4) (.seq (.block 0 (.seq (.reg r15_5) (.cond (.t 21) (.seq (.reg r15_6) .ret) (.seq (.reg r15_7) (.cond (.t 27) (.seq (.reg r15_8) .ret) .skip))))) (.seq (.reg r15_9) (.seq (.reg r15_10) (.seq (.reg r15_11) .ret))))))))
theorem o15:(Try.f15.body.bind fun c=>toIC Try.prog 71 c [])=some (i15,[]):=by kernel_rfl
theorem f15:FI Try.prog 71 i15 [.cell 6 (some 9),.tmp 7] 15:=fi (by kernel_rfl) Try.func15 (by kernel_rfl) o15 (by kernel_rfl)
abbrev r17_0:List RO:=[ro (.box 1 (.t 0)),ro (.mov 2 (c6 0))]
abbrev r17_1:List RO:=[rF 3 0 1,rL 4 3,ro (.callv 5 (.c (.one (.fn 45 []))) [(.t 4),(c6 1),(c6 300000)]),ro (.inv 6 (.t 5)),rM 7 6,rN 7 (.faddr 8 1 (.t 1)),rN 7 (.load 9 none (.t 8)),rN 7 (.callv 10 (.c (.one (.fn 45 []))) [(.t 9),(c6 1),(c6 4)]),rN 7 (.inv 11 (.t 10)),ro (.pick 12 (.t 7) (cB true) (.t 11))]
abbrev r17_2:List RO:=[ro (.mov 2 (c6 0))]
abbrev r17_3:List RO:=[rF 13 0 1,rL 14 13,ro (.bin 15 .sub (.t 14) (c6 1)),ro (.bin 16 .mul (c6 3) (.t 15)),rF 17 1 1,rL 18 17,ro (.mm 19 false (.t 18) (c6 3)),ro (.bin 20 .add (.t 16) (.t 19)),rM 2 20]
def i17:IC:=(.seq (.reg r17_0) (.seq (.seq (.reg r17_1) (.cond (.t 12) (.seq (.reg r17_2) .ret) .skip)) (.seq (.reg r17_3) .ret)))
theorem o17:(Try.f17.body.bind fun c=>toIC Try.prog 21 c [])=some (i17,[]):=by kernel_rfl
theorem f17:FI Try.prog 21 i17 [.tmp 2] 17:=fi (by kernel_rfl) Try.func17 (by kernel_rfl) o17 (by kernel_rfl)
abbrev r53_0:List RO:=[ro (.box 2 (.t 0)),ro (.box 3 (.t 1)),ro (.mov 4 (cB false))]
abbrev r53_1:List RO:=[ro (.load 5 (some 2) (.t 2)),ro (.callv 6 (.c (.one (.fn 60 []))) [(.t 5)]),rM 7 6,rT 7 (.load 8 (some 2) (.t 3)),rT 7 (.callv 9 (.c (.one (.fn 60 []))) [(.t 8)]),ro (.pick 10 (.t 7) (.t 9) (cB false)),rM 11 10,rT 11 (.faddr 12 0 (.t 2)),rT 11 (.load 13 none (.t 12)),rT 11 (.faddr 14 0 (.t 3)),rT 11 (.load 15 none (.t 14)),rT 11 (.bin 16 .geq (.t 13) (.t 15)),ro (.pick 17 (.t 11) (.t 16) (cB false)),rM 18 17,rT 18 (.faddr 19 1 (.t 2)),rT 18 (.load 20 none (.t 19)),rT 18 (.faddr 21 1 (.t 3)),rT 18 (.load 22 none (.t 21)),rT 18 (.bin 23 .leq (.t 20) (.t 22)),ro (.pick 24 (.t 18) (.t 23) (cB false)),rM 4 24]
def i53:IC:=(.seq (.reg r53_0) (.seq (.reg r53_1) .ret))
theorem o53:(Try.f53.body.bind fun c=>toIC Try.prog 25 c [])=some (i53,[]):=by kernel_rfl
theorem f53:FI Try.prog 25 i53 [.tmp 4] 53:=fi (by kernel_rfl) Try.func53 (by kernel_rfl) o53 (by kernel_rfl)
abbrev r18_0:List RO:=[ro (.box 3 (.t 0)),ro (.var 6 [(dI 0),.zs,(dI 0),(dI 0),(dI 0),(dI 0),(dI 0),(dI 0),.zs]),ro (.mov 7 (c6 0))]
abbrev r18_1:List RO:=[ro (.load 11 (some 9) (.t 3)),ro (.callv 12 (.c (.one (.fn 11 []))) [(.t 11)]),ro (.inv 13 (.t 12))]
abbrev r18_2:List RO:=[ro (.build 14 [(dI 0),.zs,(dI 0),(dI 0),(dI 0),(dI 0),(dI 0),(dI 0),.zs] []),ro (.store 9 [(.int .i64 0),(.sl 3 []),(.int .i64 0),(.int .i64 0),(.int .i64 0),(.int .i64 0),(.int .i64 0),(.int .i64 0),(.sl 2 [])] (.t 6) (.t 14)),ro (.mov 7 (c6 1))]
abbrev r18_3:List RO:=[ro (.load 15 (some 9) (.t 3)),ro (.callv 16 (.c (.one (.fn 40 []))) [(.t 15)]),ro (.var 8 [(dI 0),.zs,(dI 0),(dI 0),(dI 0),(dI 0),(dI 0),(dI 0),.zs]),ro (.store 9 [(.int .i64 0),(.sl 3 []),(.int .i64 0),(.int .i64 0),(.int .i64 0),(.int .i64 0),(.int .i64 0),(.int .i64 0),(.sl 2 [])] (.t 8) (.t 16))]
abbrev r18_4:List RO:=[rF 17 2 3,rF 18 1 17,rL 19 18,ro (.bin 20 .neq (.t 19) (c6 2)),rM 21 20,rN 21 (.faddr 22 2 (.t 3)),rN 21 (.load 23 (some 7) (.t 22)),rN 21 (.callv 24 (.c (.one (.fn 17 []))) [(.t 23)]),rN 21 (.mov 25 (.t 1)),rN 21 (.bin 26 .neq (.t 24) (.t 25)),ro (.pick 27 (.t 21) (cB true) (.t 26)),rM 28 27,rN 28 (.mov 29 (.t 2)),rN 28 (.mov 30 (.t 29)),rT 30 (.faddr 31 0 (.t 3)),rT 30 (.load 32 none (.t 31)),rT 30 (.bin 33 .eql (.t 32) (c6 1000000)),rN 28 (.pick 34 (.t 30) (.t 33) (cB false)),ro (.pick 35 (.t 28) (cB true) (.t 34))]
abbrev r18_5:List RO:=[ro (.load 36 (some 9) (.t 8)),ro (.store 9 [(.int .i64 0),(.sl 3 []),(.int .i64 0),(.int .i64 0),(.int .i64 0),(.int .i64 0),(.int .i64 0),(.int .i64 0),(.sl 2 [])] (.t 6) (.t 36)),ro (.mov 7 (c6 3))]
abbrev r18_6:List RO:=[rF 37 2 8,rF 38 6 37,ro (.store 1 [(.sl 2 [])] (.t 38) (.c (.one .zs)))]
abbrev r18_7:List RO:=[rF 39 2 8,rF 40 1 39,ro (.store 1 [(.int .i64 0)] (.t 40) (c6 4))]
abbrev r18_8:List RO:=[rM 41 2,ro (.inv 42 (.t 41))]
abbrev r18_9:List RO:=[ro (.load 43 (some 9) (.t 8)),ro (.store 9 [(.int .i64 0),(.sl 3 []),(.int .i64 0),(.int .i64 0),(.int .i64 0),(.int .i64 0),(.int .i64 0),(.int .i64 0),(.sl 2 [])] (.t 6) (.t 43)),ro (.mov 7 (c6 0))]
abbrev r18_10:List RO:=[rF 44 2 8,rF 45 1 44,ro (.store 1 [(.int .i64 0)] (.t 45) (c6 3))]
abbrev r18_11:List RO:=[rF 46 0 8,rL 47 46,ro (.bin 48 .add (.t 47) (c6 1)),rF 49 0 8,ro (.store 1 [(.int .i64 0)] (.t 49) (.t 48))]
abbrev r18_12:List RO:=[rF 50 1 8,rL 51 50,ro (.len 52 false (.t 51)),ro (.mov 53 (c6 0))]
abbrev r18_13:List RO:=[ro (.bin 54 .lss (.t 53) (.t 52))]
abbrev r18_14:List RO:=[rM 55 53,ro (.iaddr 56 3 (.t 51) (.t 53)),ro (.load 57 (some 3) (.t 56)),ro (.var 10 [(dI 0),(dI 0),(dI 0)]),rM 9 55,ro (.store 3 [(.int .i64 0),(.int .i64 0),(.int .i64 0)] (.t 10) (.t 57))]
abbrev r18_15:List RO:=[rF 58 0 10,⟨⟨none,.load 59 none (.t 58)⟩,1,[65]⟩,rF 60 1 10,⟨⟨none,.load 61 none (.t 60)⟩,4,[65]⟩,⟨⟨none,.build 62 [(dI 0),(dI 0)] [(0,1,(.t 59)),(1,1,(.t 61))]⟩,15,[]⟩,rF 63 2 3,⟨⟨none,.load 64 (some 7) (.t 63)⟩,32,[]⟩,⟨⟨none,.callv 65 (.c (.one (.fn 54 []))) [(.t 64)]⟩,96,[]⟩,⟨⟨none,.callv 66 (.c (.one (.fn 53 []))) [(.t 62),(.t 65)]⟩,255,[]⟩]
abbrev r18_16:List RO:=[rF 67 1 8,rL 68 67,rM 69 9,rF 70 2 3,rF 71 5 70,rL 72 71,ro (.iaddr 73 3 (.t 68) (.t 69)),rF 74 2 73,ro (.store 1 [(.int .i64 0)] (.t 74) (.t 72))]
abbrev r18_17:List RO:=[ro (.bin 75 .add (.t 53) (c6 1)),rM 53 75]
abbrev r18_18:List RO:=[ro (.load 76 (some 9) (.t 8)),ro (.store 9 [(.int .i64 0),(.sl 3 []),(.int .i64 0),(.int .i64 0),(.int .i64 0),(.int .i64 0),(.int .i64 0),(.int .i64 0),(.sl 2 [])] (.t 6) (.t 76)),ro (.mov 7 (c6 0))]
def i18:IC:=(.seq (.reg r18_0) (.seq (.seq (.reg r18_1) (.cond (.t 13) (.seq (.reg r18_2) .ret) .skip)) (.seq (.reg r18_3) (.seq (.seq (.reg r18_4) (.cond (.t 35) (.seq (.reg r18_5) .ret) .skip)) (.seq (.reg r18_6) (.seq (.reg r18_7) (.seq (.seq (.reg r18_8) (.cond (.t 42) (.seq (.reg r18_9) .ret) .skip)) (.seq (.reg r18_10) (.seq (.reg r18_11) (.seq (.seq (.reg r18_12) (.block 0 (.loop (.seq (.reg r18_13) (.seq (.cond (.t 54) .skip (.exit 0)) (.seq (.block 1 (.seq (.reg r18_14) (.seq (.regd r18_15) (.cond (.t 66) (.reg r18_16) .skip)))) (.reg r18_17))))))) (.seq (.reg r18_18) .ret)))))))))))
theorem o18:(Try.f18.body.bind fun c=>toIC Try.prog 77 c [[(0,[]),(1,[65]),(0,[]),(4,[65]),(15,[]),(0,[]),(32,[]),(96,[]),(255,[])]])=some (i18,[]):=by kernel_rfl
theorem f18:FI Try.prog 77 i18 [.cell 6 (some 9),.tmp 7] 18:=fi (by kernel_rfl) Try.func18 (by kernel_rfl) o18 (by kernel_rfl)
abbrev r19_0:List RO:=[ro (.box 3 (.t 0)),ro (.var 6 [(dI 0),.zs,(dI 0),(dI 0),(dI 0),(dI 0),(dI 0),(dI 0),.zs]),ro (.mov 7 (c6 0))]
abbrev r19_1:List RO:=[ro (.load 9 (some 9) (.t 3)),ro (.callv 10 (.c (.one (.fn 11 []))) [(.t 9)]),ro (.inv 11 (.t 10))]
abbrev r19_2:List RO:=[ro (.build 12 [(dI 0),.zs,(dI 0),(dI 0),(dI 0),(dI 0),(dI 0),(dI 0),.zs] []),ro (.store 9 [(.int .i64 0),(.sl 3 []),(.int .i64 0),(.int .i64 0),(.int .i64 0),(.int .i64 0),(.int .i64 0),(.int .i64 0),(.sl 2 [])] (.t 6) (.t 12)),ro (.mov 7 (c6 1))]
abbrev r19_3:List RO:=[ro (.load 13 (some 9) (.t 3)),ro (.callv 14 (.c (.one (.fn 40 []))) [(.t 13)]),ro (.var 8 [(dI 0),.zs,(dI 0),(dI 0),(dI 0),(dI 0),(dI 0),(dI 0),.zs]),ro (.store 9 [(.int .i64 0),(.sl 3 []),(.int .i64 0),(.int .i64 0),(.int .i64 0),(.int .i64 0),(.int .i64 0),(.int .i64 0),(.sl 2 [])] (.t 8) (.t 14))]
abbrev r19_4:List RO:=[rF 15 2 3,rF 16 1 15,rL 17 16,ro (.bin 18 .neq (.t 17) (c6 1)),rM 19 18,rN 19 (.faddr 20 2 (.t 3)),rN 19 (.load 21 (some 7) (.t 20)),rN 19 (.callv 22 (.c (.one (.fn 17 []))) [(.t 21)]),rN 19 (.mov 23 (.t 1)),rN 19 (.bin 24 .neq (.t 22) (.t 23)),ro (.pick 25 (.t 19) (cB true) (.t 24)),rM 26 25,rN 26 (.mov 27 (.t 2)),rN 26 (.faddr 28 2 (.t 3)),rN 26 (.load 29 (some 7) (.t 28)),rN 26 (.callv 30 (.c (.one (.fn 54 []))) [(.t 29)]),rN 26 (.callv 31 (.c (.one (.fn 55 []))) [(.t 27),(.t 30)]),rN 26 (.inv 32 (.t 31)),ro (.pick 33 (.t 26) (cB true) (.t 32))]
abbrev r19_5:List RO:=[ro (.load 34 (some 9) (.t 8)),ro (.store 9 [(.int .i64 0),(.sl 3 []),(.int .i64 0),(.int .i64 0),(.int .i64 0),(.int .i64 0),(.int .i64 0),(.int .i64 0),(.sl 2 [])] (.t 6) (.t 34)),ro (.mov 7 (c6 3))]
abbrev r19_6:List RO:=[rF 35 2 8,rF 36 1 35,ro (.store 1 [(.int .i64 0)] (.t 36) (c6 2))]
abbrev r19_7:List RO:=[rM 37 2,ro (.callv 38 (.c (.one (.fn 56 []))) [(.t 37)]),rF 39 2 8,rF 40 6 39,ro (.store 1 [(.sl 2 [])] (.t 40) (.t 38))]
abbrev r19_8:List RO:=[ro (.load 41 (some 9) (.t 8)),ro (.store 9 [(.int .i64 0),(.sl 3 []),(.int .i64 0),(.int .i64 0),(.int .i64 0),(.int .i64 0),(.int .i64 0),(.int .i64 0),(.sl 2 [])] (.t 6) (.t 41)),ro (.mov 7 (c6 0))]
def i19:IC:=(.seq (.reg r19_0) (.seq (.seq (.reg r19_1) (.cond (.t 11) (.seq (.reg r19_2) .ret) .skip)) (.seq (.reg r19_3) (.seq (.seq (.reg r19_4) (.cond (.t 33) (.seq (.reg r19_5) .ret) .skip)) (.seq (.reg r19_6) (.seq (.reg r19_7) (.seq (.reg r19_8) .ret)))))))
theorem o19:(Try.f19.body.bind fun c=>toIC Try.prog 42 c [])=some (i19,[]):=by kernel_rfl
theorem f19:FI Try.prog 42 i19 [.cell 6 (some 9),.tmp 7] 19:=fi (by kernel_rfl) Try.func19 (by kernel_rfl) o19 (by kernel_rfl)
abbrev r20_0:List RO:=[ro (.mov 4 (c6 0))]
abbrev r20_1:List RO:=[rM 5 1,rM 6 0,ro (.len 7 false (.t 6)),ro (.bin 8 .lss (.t 5) (.t 7))]
abbrev r20_2:List RO:=[rM 9 0,rM 10 1,ro (.iaddr 11 1 (.t 9) (.t 10)),rL 12 11,ro (.conv 13 .i64 (.t 12)),rM 4 13]
abbrev r20_3:List RO:=[rM 14 1,ro (.bin 15 .mul (.t 14) (c6 7)),rM 16 0,ro (.len 17 false (.t 16)),ro (.bin 18 .add (.t 15) (.t 17)),ro (.bin 19 .rem (.t 18) (c6 256)),rM 4 19]
def i20:IC:=(.seq (.reg r20_0) (.seq (.seq (.reg r20_1) (.cond (.t 8) (.seq (.reg r20_2) .ret) .skip)) (.seq (.reg r20_3) .ret)))
theorem o20:(Try.f20.body.bind fun c=>toIC Try.prog 20 c [])=some (i20,[]):=by kernel_rfl
theorem f20:FI Try.prog 20 i20 [.tmp 4] 20:=fi (by kernel_rfl) Try.func20 (by kernel_rfl) o20 (by kernel_rfl)
abbrev r22_0:List RO:=[ro (.box 2 (.t 0)),ro (.var 4 [(dI 0),.zs,(dI 0),(dI 0),(dI 0),(dI 0),(dI 0),(dI 0),.zs]),ro (.mov 5 (c6 0))]
abbrev r22_1:List RO:=[ro (.load 7 (some 9) (.t 2)),ro (.callv 8 (.c (.one (.fn 11 []))) [(.t 7)]),ro (.inv 9 (.t 8))]
abbrev r22_2:List RO:=[ro (.build 10 [(dI 0),.zs,(dI 0),(dI 0),(dI 0),(dI 0),(dI 0),(dI 0),.zs] []),ro (.store 9 [(.int .i64 0),(.sl 3 []),(.int .i64 0),(.int .i64 0),(.int .i64 0),(.int .i64 0),(.int .i64 0),(.int .i64 0),(.sl 2 [])] (.t 4) (.t 10)),ro (.mov 5 (c6 1))]
abbrev r22_3:List RO:=[ro (.load 11 (some 9) (.t 2)),ro (.callv 12 (.c (.one (.fn 40 []))) [(.t 11)]),ro (.var 6 [(dI 0),.zs,(dI 0),(dI 0),(dI 0),(dI 0),(dI 0),(dI 0),.zs]),ro (.store 9 [(.int .i64 0),(.sl 3 []),(.int .i64 0),(.int .i64 0),(.int .i64 0),(.int .i64 0),(.int .i64 0),(.int .i64 0),(.sl 2 [])] (.t 6) (.t 12))]
abbrev r22_4:List RO:=[rF 13 2 2,rF 14 1 13,rL 15 14,ro (.bin 16 .neq (.t 15) (c6 3)),rM 17 16,rT 17 (.faddr 18 2 (.t 2)),rT 17 (.faddr 19 1 (.t 18)),rT 17 (.load 20 none (.t 19)),rT 17 (.bin 21 .neq (.t 20) (c6 4)),ro (.pick 22 (.t 17) (.t 21) (cB false)),rM 23 22,rN 23 (.faddr 24 2 (.t 2)),rN 23 (.load 25 (some 7) (.t 24)),rN 23 (.callv 26 (.c (.one (.fn 17 []))) [(.t 25)]),rN 23 (.mov 27 (.t 1)),rN 23 (.bin 28 .neq (.t 26) (.t 27)),ro (.pick 29 (.t 23) (cB true) (.t 28))]
abbrev r22_5:List RO:=[ro (.load 30 (some 9) (.t 6)),ro (.store 9 [(.int .i64 0),(.sl 3 []),(.int .i64 0),(.int .i64 0),(.int .i64 0),(.int .i64 0),(.int .i64 0),(.int .i64 0),(.sl 2 [])] (.t 4) (.t 30)),ro (.mov 5 (c6 3))]
abbrev r22_6:List RO:=[rF 31 2 2,rF 32 0 31,rL 33 32,ro (.build 34 [(dI 0),(dI 0),(dI 0),(dI 0),(dI 0),(dI 0),.zs] [(0,1,(.t 33))]),rF 35 2 6,ro (.store 7 [(.int .i64 0),(.int .i64 0),(.int .i64 0),(.int .i64 0),(.int .i64 0),(.int .i64 0),(.sl 2 [])] (.t 35) (.t 34))]
abbrev r22_7:List RO:=[ro (.load 36 (some 9) (.t 6)),ro (.store 9 [(.int .i64 0),(.sl 3 []),(.int .i64 0),(.int .i64 0),(.int .i64 0),(.int .i64 0),(.int .i64 0),(.int .i64 0),(.sl 2 [])] (.t 4) (.t 36)),ro (.mov 5 (c6 0))]
def i22:IC:=(.seq (.reg r22_0) (.seq (.seq (.reg r22_1) (.cond (.t 9) (.seq (.reg r22_2) .ret) .skip)) (.seq (.reg r22_3) (.seq (.seq (.reg r22_4) (.cond (.t 29) (.seq (.reg r22_5) .ret) .skip)) (.seq (.reg r22_6) (.seq (.reg r22_7) .ret))))))
theorem o22:(Try.f22.body.bind fun c=>toIC Try.prog 37 c [])=some (i22,[]):=by kernel_rfl
theorem f22:FI Try.prog 37 i22 [.cell 4 (some 9),.tmp 5] 22:=fi (by kernel_rfl) Try.func22 (by kernel_rfl) o22 (by kernel_rfl)
abbrev r12_0:List RO:=[ro (.box 2 (.t 0)),ro (.mov 4 (c6 0))]
abbrev r12_1:List RO:=[ro (.load 6 (some 9) (.t 2)),ro (.callv 7 (.c (.one (.fn 11 []))) [(.t 6)]),ro (.inv 8 (.t 7))]
abbrev r12_2:List RO:=[ro (.mov 4 (c6 (-1)))]
abbrev r12_3:List RO:=[rF 9 1 2,rL 10 9,rM 11 1,ro (.callv 12 (.c (.one (.fn 48 []))) [(.t 10),(.t 11)]),rM 5 12]
abbrev r12_4:List RO:=[rM 13 5,ro (.bin 14 .lss (.t 13) (c6 0))]
abbrev r12_5:List RO:=[ro (.mov 4 (c6 (-1)))]
abbrev r12_6:List RO:=[rF 15 1 2,rL 16 15,rM 17 5,ro (.iaddr 18 3 (.t 16) (.t 17)),rF 19 2 18,rL 20 19,rM 4 20]
def i12:IC:=(.seq (.reg r12_0) (.seq (.seq (.reg r12_1) (.cond (.t 8) (.seq (.reg r12_2) .ret) .skip)) (.seq (.reg r12_3) (.seq (.seq (.reg r12_4) (.cond (.t 14) (.seq (.reg r12_5) .ret) .skip)) (.seq (.reg r12_6) .ret)))))
theorem o12:(Try.f12.body.bind fun c=>toIC Try.prog 21 c [])=some (i12,[]):=by kernel_rfl
theorem f12:FI Try.prog 21 i12 [.tmp 4] 12:=fi (by kernel_rfl) Try.func12 (by kernel_rfl) o12 (by kernel_rfl)
abbrev r13_0:List RO:=[ro (.box 2 (.t 0)),ro (.mov 4 (c6 0))]
abbrev r13_1:List RO:=[rF 6 1 2,rL 7 6,rM 8 1,ro (.callv 9 (.c (.one (.fn 49 []))) [(.t 7),(.t 8)]),rM 5 9]
abbrev r13_2:List RO:=[ro (.load 10 (some 9) (.t 2)),ro (.callv 11 (.c (.one (.fn 42 []))) [(.t 10)]),ro (.inv 12 (.t 11)),rM 13 12,rN 13 (.mov 14 (.t 5)),rN 13 (.bin 15 .lss (.t 14) (c6 0)),ro (.pick 16 (.t 13) (cB true) (.t 15))]
abbrev r13_3:List RO:=[ro (.mov 4 (c6 (-1)))]
abbrev r13_4:List RO:=[rF 17 1 2,rL 18 17,rM 19 5,ro (.iaddr 20 3 (.t 18) (.t 19)),rF 21 2 20,rL 22 21,rM 4 22]
def i13:IC:=(.seq (.reg r13_0) (.seq (.reg r13_1) (.seq (.seq (.reg r13_2) (.cond (.t 16) (.seq (.reg r13_3) .ret) .skip)) (.seq (.reg r13_4) .ret))))
theorem o13:(Try.f13.body.bind fun c=>toIC Try.prog 23 c [])=some (i13,[]):=by kernel_rfl
theorem f13:FI Try.prog 23 i13 [.tmp 4] 13:=fi (by kernel_rfl) Try.func13 (by kernel_rfl) o13 (by kernel_rfl)
abbrev r4_0:List RO:=[ro (.mov 2 (cB false))]
abbrev r4_1:List RO:=[rM 26 0,ro (.callv 27 (.c (.one (.fn 7 []))) [(.t 26)])]
abbrev r4_2:List RO:=[ro (.mov 2 (cB true))]
abbrev r4_3:List RO:=[rM 29 0,ro (.callv 30 (.c (.one (.fn 14 []))) [(.t 29)]),rM 28 30,ro (.ext 31 (.t 28) 0),ro (.ext 32 (.t 28) 1),ro (.ext 33 (.t 28) 2),ro (.var 3 [(dI 0),.zs,(dI 0),(dI 0),(dI 0),(dI 0),(dI 0),(dI 0),.zs]),ro (.store 9 [(.int .i64 0),(.sl 3 []),(.int .i64 0),(.int .i64 0),(.int .i64 0),(.int .i64 0),(.int .i64 0),(.int .i64 0),(.sl 2 [])] (.t 3) (.t 31)),rM 4 32,rM 5 33]
abbrev r4_4:List RO:=[ro (.load 35 (some 9) (.t 3)),rM 36 4,rM 37 5,ro (.callv 38 (.c (.one (.fn 15 []))) [(.t 35),(.t 36),(.t 37)]),rM 34 38,ro (.ext 39 (.t 34) 0),ro (.ext 40 (.t 34) 1),ro (.var 6 [(dI 0),.zs,(dI 0),(dI 0),(dI 0),(dI 0),(dI 0),(dI 0),.zs]),ro (.store 9 [(.int .i64 0),(.sl 3 []),(.int .i64 0),(.int .i64 0),(.int .i64 0),(.int .i64 0),(.int .i64 0),(.int .i64 0),(.sl 2 [])] (.t 6) (.t 39)),rM 7 40]
abbrev r4_5:List RO:=[ro (.load 42 (some 9) (.t 3)),rM 43 4,rM 44 5,ro (.callv 45 (.c (.one (.fn 16 []))) [(.t 42),(.t 43),(.t 44)]),rM 41 45,ro (.ext 46 (.t 41) 0),ro (.ext 47 (.t 41) 1),ro (.var 8 [(dI 0),.zs,(dI 0),(dI 0),(dI 0),(dI 0),(dI 0),(dI 0),.zs]),ro (.store 9 [(.int .i64 0),(.sl 3 []),(.int .i64 0),(.int .i64 0),(.int .i64 0),(.int .i64 0),(.int .i64 0),(.int .i64 0),(.sl 2 [])] (.t 8) (.t 46)),rM 9 47]
abbrev r4_6:List RO:=[rM 48 7,rM 49 9,ro (.bin 50 .neq (.t 48) (.t 49))]
abbrev r4_7:List RO:=[ro (.mov 2 (cB false))]
abbrev r4_8:List RO:=[rM 51 7,ro (.bin 52 .neq (.t 51) (c6 0))]
abbrev r4_9:List RO:=[rM 53 7,ro (.bin 54 .eql (.t 53) (c6 1)),rM 55 54,rN 55 (.faddr 56 2 (.t 6)),rN 55 (.faddr 57 0 (.t 56)),rN 55 (.load 58 none (.t 57)),rN 55 (.faddr 59 2 (.t 3)),rN 55 (.faddr 60 0 (.t 59)),rN 55 (.load 61 none (.t 60)),rN 55 (.bin 62 .eql (.t 58) (.t 61)),rN 55 (.mov 63 (.t 62)),rT 63 (.faddr 64 2 (.t 6)),rT 63 (.faddr 65 1 (.t 64)),rT 63 (.load 66 none (.t 65)),rT 63 (.faddr 67 2 (.t 3)),rT 63 (.faddr 68 1 (.t 67)),rT 63 (.load 69 none (.t 68)),rT 63 (.bin 70 .eql (.t 66) (.t 69)),rN 55 (.pick 71 (.t 63) (.t 70) (cB false)),ro (.pick 72 (.t 55) (cB true) (.t 71)),rM 2 72]
abbrev r4_10:List RO:=[rF 73 2 6,ro (.load 74 (some 7) (.t 73)),ro (.callv 75 (.c (.one (.fn 17 []))) [(.t 74)]),rM 10 75]
abbrev r4_11:List RO:=[ro (.load 77 (some 9) (.t 6)),rM 78 10,ro (.callv 79 (.c (.one (.fn 18 []))) [(.t 77),(.t 78),(cB true)]),rM 76 79,ro (.ext 80 (.t 76) 0),ro (.ext 81 (.t 76) 1),ro (.var 11 [(dI 0),.zs,(dI 0),(dI 0),(dI 0),(dI 0),(dI 0),(dI 0),.zs]),ro (.store 9 [(.int .i64 0),(.sl 3 []),(.int .i64 0),(.int .i64 0),(.int .i64 0),(.int .i64 0),(.int .i64 0),(.int .i64 0),(.sl 2 [])] (.t 11) (.t 80)),rM 12 81]
abbrev r4_12:List RO:=[ro (.load 83 (some 9) (.t 6)),rM 84 10,ro (.bin 85 .add (.t 84) (c6 1)),ro (.callv 86 (.c (.one (.fn 19 []))) [(.t 83),(.t 85),(.c (.one .zs))]),rM 82 86,ro (.ext 87 (.t 82) 0),ro (.ext 88 (.t 82) 1),ro (.var 13 [(dI 0),.zs,(dI 0),(dI 0),(dI 0),(dI 0),(dI 0),(dI 0),.zs]),ro (.store 9 [(.int .i64 0),(.sl 3 []),(.int .i64 0),(.int .i64 0),(.int .i64 0),(.int .i64 0),(.int .i64 0),(.int .i64 0),(.sl 2 [])] (.t 13) (.t 87)),rM 14 88]
abbrev r4_13:List RO:=[ro (.load 90 (some 9) (.t 6)),rM 91 10,ro (.callv 92 (.c (.one (.fn 19 []))) [(.t 90),(.t 91),(.c (.one .zs))]),rM 89 92,ro (.ext 93 (.t 89) 0),ro (.ext 94 (.t 89) 1),ro (.var 15 [(dI 0),.zs,(dI 0),(dI 0),(dI 0),(dI 0),(dI 0),(dI 0),.zs]),ro (.store 9 [(.int .i64 0),(.sl 3 []),(.int .i64 0),(.int .i64 0),(.int .i64 0),(.int .i64 0),(.int .i64 0),(.int .i64 0),(.sl 2 [])] (.t 15) (.t 93)),rM 16 94]
abbrev r4_14:List RO:=[rM 95 0,ro (.callv 96 (.c (.one (.fn 20 []))) [(.t 95),(c6 1)]),ro (.bin 97 .rem (.t 96) (c6 2)),ro (.bin 98 .eql (.t 97) (c6 0)),rM 17 98]
abbrev r4_15:List RO:=[ro (.load 100 (some 9) (.t 15)),rM 101 10,ro (.bin 102 .add (.t 101) (c6 1)),rM 103 17,ro (.callv 104 (.c (.one (.fn 18 []))) [(.t 100),(.t 102),(.t 103)]),rM 99 104,ro (.ext 105 (.t 99) 0),ro (.ext 106 (.t 99) 1),ro (.var 18 [(dI 0),.zs,(dI 0),(dI 0),(dI 0),(dI 0),(dI 0),(dI 0),.zs]),ro (.store 9 [(.int .i64 0),(.sl 3 []),(.int .i64 0),(.int .i64 0),(.int .i64 0),(.int .i64 0),(.int .i64 0),(.int .i64 0),(.sl 2 [])] (.t 18) (.t 105)),rM 19 106]
abbrev r4_16:List RO:=[ro (.load 108 (some 9) (.t 15)),rM 109 10,ro (.bin 110 .add (.t 109) (c6 1)),rM 111 17,ro (.callv 112 (.c (.one (.fn 21 []))) [(.t 108),(.t 110),(.t 111)]),rM 107 112,ro (.ext 113 (.t 107) 0),ro (.ext 114 (.t 107) 1),ro (.var 20 [(dI 0),.zs,(dI 0),(dI 0),(dI 0),(dI 0),(dI 0),(dI 0),.zs]),ro (.store 9 [(.int .i64 0),(.sl 3 []),(.int .i64 0),(.int .i64 0),(.int .i64 0),(.int .i64 0),(.int .i64 0),(.int .i64 0),(.sl 2 [])] (.t 20) (.t 113)),rM 21 114]
abbrev r4_17:List RO:=[rM 115 10,ro (.bin 116 .lss (.t 115) (c6 1)),rM 117 116,rN 117 (.mov 118 (.t 12)),rN 117 (.bin 119 .neq (.t 118) (c6 3)),ro (.pick 120 (.t 117) (cB true) (.t 119)),rM 121 120,rN 121 (.mov 122 (.t 14)),rN 121 (.bin 123 .neq (.t 122) (c6 3)),ro (.pick 124 (.t 121) (cB true) (.t 123)),rM 125 124,rN 125 (.mov 126 (.t 16)),rN 125 (.bin 127 .neq (.t 126) (c6 0)),ro (.pick 128 (.t 125) (cB true) (.t 127)),rM 129 128,rN 129 (.faddr 130 2 (.t 15)),rN 129 (.load 131 (some 7) (.t 130)),rN 129 (.callv 132 (.c (.one (.fn 17 []))) [(.t 131)]),rN 129 (.mov 133 (.t 10)),rN 129 (.bin 134 .add (.t 133) (c6 1)),rN 129 (.bin 135 .neq (.t 132) (.t 134)),ro (.pick 136 (.t 129) (cB true) (.t 135)),rM 137 136,rN 137 (.mov 138 (.t 19)),rN 137 (.mov 139 (.t 21)),rN 137 (.bin 140 .neq (.t 138) (.t 139)),ro (.pick 141 (.t 137) (cB true) (.t 140))]
abbrev r4_18:List RO:=[ro (.mov 2 (cB false))]
abbrev r4_19:List RO:=[rM 142 19,ro (.bin 143 .neq (.t 142) (c6 0))]
abbrev r4_20:List RO:=[rF 144 0 3,rL 145 144,ro (.bin 146 .eql (.t 145) (c6 1000000)),rM 2 146]
abbrev r4_21:List RO:=[ro (.load 148 (some 9) (.t 18)),rM 149 10,ro (.bin 150 .add (.t 149) (c6 2)),ro (.callv 151 (.c (.one (.fn 22 []))) [(.t 148),(.t 150)]),rM 147 151,ro (.ext 152 (.t 147) 0),ro (.ext 153 (.t 147) 1),ro (.var 22 [(dI 0),.zs,(dI 0),(dI 0),(dI 0),(dI 0),(dI 0),(dI 0),.zs]),ro (.store 9 [(.int .i64 0),(.sl 3 []),(.int .i64 0),(.int .i64 0),(.int .i64 0),(.int .i64 0),(.int .i64 0),(.int .i64 0),(.sl 2 [])] (.t 22) (.t 152)),rM 23 153]
abbrev r4_22:List RO:=[ro (.load 155 (some 9) (.t 22)),rM 156 10,ro (.bin 157 .add (.t 156) (c6 2)),ro (.callv 158 (.c (.one (.fn 22 []))) [(.t 155),(.t 157)]),rM 154 158,ro (.ext 159 (.t 154) 0),ro (.ext 160 (.t 154) 1),ro (.var 24 [(dI 0),.zs,(dI 0),(dI 0),(dI 0),(dI 0),(dI 0),(dI 0),.zs]),ro (.store 9 [(.int .i64 0),(.sl 3 []),(.int .i64 0),(.int .i64 0),(.int .i64 0),(.int .i64 0),(.int .i64 0),(.int .i64 0),(.sl 2 [])] (.t 24) (.t 159)),rM 25 160]
abbrev r4_23:List RO:=[rF 161 2 18,ro (.load 162 (some 7) (.t 161)),ro (.callv 163 (.c (.one (.fn 17 []))) [(.t 162)]),rM 164 10,ro (.bin 165 .add (.t 164) (c6 2)),ro (.bin 166 .neq (.t 163) (.t 165)),rM 167 166,rN 167 (.mov 168 (.t 23)),rN 167 (.bin 169 .neq (.t 168) (c6 0)),ro (.pick 170 (.t 167) (cB true) (.t 169)),rM 171 170,rN 171 (.mov 172 (.t 25)),rN 171 (.bin 173 .neq (.t 172) (c6 3)),ro (.pick 174 (.t 171) (cB true) (.t 173)),rM 175 174,rN 175 (.faddr 176 2 (.t 22)),rN 175 (.faddr 177 1 (.t 176)),rN 175 (.load 178 none (.t 177)),rN 175 (.bin 179 .neq (.t 178) (c6 0)),ro (.pick 180 (.t 175) (cB true) (.t 179)),rM 181 180,rN 181 (.load 182 (some 9) (.t 22)),rN 181 (.callv 183 (.c (.one (.fn 11 []))) [(.t 182)]),rN 181 (.inv 184 (.t 183)),ro (.pick 185 (.t 181) (cB true) (.t 184))]
abbrev r4_24:List RO:=[ro (.mov 2 (cB false))]
abbrev r4_25:List RO:=[rM 186 17]
abbrev r4_26:List RO:=[ro (.load 187 (some 9) (.t 22)),rM 188 4,ro (.callv 189 (.c (.one (.fn 12 []))) [(.t 187),(.t 188)]),rM 190 5,ro (.bin 191 .eql (.t 189) (.t 190)),rM 192 191,rT 192 (.faddr 193 0 (.t 22)),rT 192 (.load 194 none (.t 193)),rT 192 (.faddr 195 0 (.t 3)),rT 192 (.load 196 none (.t 195)),rT 192 (.bin 197 .add (.t 196) (c6 1)),rT 192 (.bin 198 .eql (.t 194) (.t 197)),ro (.pick 199 (.t 192) (.t 198) (cB false)),rM 2 199]
abbrev r4_27:List RO:=[ro (.load 200 (some 9) (.t 22)),rM 201 4,⟨⟨none,.callv 202 (.c (.one (.fn 12 []))) [(.t 200),(.t 201)]⟩,3,[]⟩,⟨⟨none,.load 203 (some 9) (.t 3)⟩,0,[202]⟩,rM 204 4,⟨⟨none,.callv 205 (.c (.one (.fn 13 []))) [(.t 203),(.t 204)]⟩,31,[]⟩,⟨⟨none,.bin 206 .eql (.t 202) (.t 205)⟩,63,[]⟩,⟨⟨none,.mov 207 (.t 206)⟩,127,[]⟩,⟨⟨some (207,true),.faddr 208 0 (.t 22)⟩,255,[]⟩,⟨⟨some (207,true),.load 209 none (.t 208)⟩,511,[]⟩,⟨⟨some (207,true),.faddr 210 0 (.t 3)⟩,255,[]⟩,⟨⟨some (207,true),.load 211 none (.t 210)⟩,1279,[]⟩,⟨⟨some (207,true),.bin 212 .eql (.t 209) (.t 211)⟩,4095,[]⟩,⟨⟨none,.pick 213 (.t 207) (.t 212) (cB false)⟩,8191,[]⟩,⟨⟨none,.mov 2 (.t 213)⟩,16383,[]⟩]
def i4:IC:=(.seq (.reg r4_0) (.seq (.seq (.reg r4_1) (.cond (.t 27) (.seq (.reg r4_2) .ret) .skip)) (.seq (.reg r4_3) (.seq (.reg r4_4) (.seq (.reg r4_5) (.seq (.seq (.reg r4_6) (.cond (.t 50) (.seq (.reg r4_7) .ret) .skip)) (.seq (.seq (.reg r4_8) (.cond (.t 52) (.seq (.reg r4_9) .ret) .skip)) (.seq (.reg r4_10) (.seq (.reg r4_11) (.seq (.reg r4_12) (.seq (.reg r4_13) (.seq (.reg r4_14) (.seq (.reg r4_15) (.seq (.reg r4_16) (.seq (.seq (.reg r4_17) (.cond (.t 141) (.seq (.reg r4_18) .ret) .skip)) (.seq (.seq (.reg r4_19) (.cond (.t 143) (.seq (.reg r4_20) .ret) .skip)) (.seq (.reg r4_21) (.seq (.reg r4_22) (.seq (.seq (.reg r4_23) (.cond (.t 185) (.seq (.reg r4_24) .ret) .skip)) (.seq (.seq (.reg r4_25) (.cond (.t 186) (.seq (.reg r4_26) .ret) .skip)) (.seq (.regd r4_27) .ret)))))))))))))))))))))
theorem o4:(Try.f4.body.bind fun c=>toIC Try.prog 214 c [[(0,[]),(0,[]),(3,[]),(0,[202]),(0,[]),(31,[]),(63,[]),(127,[]),(255,[]),(511,[]),(255,[]),(1279,[]),(4095,[]),(8191,[]),(16383,[])]])=some (i4,[]):=by kernel_rfl
theorem f4:FI Try.prog 214 i4 [.tmp 2] 4:=fi (by kernel_rfl) Try.func4 (by kernel_rfl) o4 (by kernel_rfl)
end Go.AW
