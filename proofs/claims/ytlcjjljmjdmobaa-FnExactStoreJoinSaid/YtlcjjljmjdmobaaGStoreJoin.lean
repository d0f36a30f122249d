/- The compact code of functions of the program, and that it is the program's. Conditions: none. -/
import Derived.Test.YtlcjjljmjdmobaaYi
import Derived.Test.YtlcjjljmjdmobaaRows
import Derived.KernelRfl
set_option linter.unusedVariables false
set_option maxRecDepth 100000
namespace Go.AW
open Go.Proofs
abbrev r8_0:List RO:=[ro (.mov 4 (c6 0))]
abbrev r8_1:List RO:=[rM 5 1,rM 6 0,ro (.len 7 false (.t 6)),ro (.bin 8 .sub (.t 5) (.t 7)),rM 1 8]
abbrev r8_2:List RO:=[rM 9 1,ro (.bin 10 .lss (.t 9) (c6 0))]
abbrev r8_3:List RO:=[ro (.mov 4 (c6 (-1)))]
abbrev r8_4:List RO:=[rM 11 1,rM 4 11]
def i8:IC:=(.seq (.reg r8_0) (.seq (.reg r8_1) (.seq (.seq (.reg r8_2) (.cond (.t 10) (.seq (.reg r8_3) .ret) .skip)) (.seq (.reg r8_4) .ret))))
theorem o8:(Try.f8.body.bind fun c=>toIC Try.prog 12 c [])=some (i8,[]):=by kernel_rfl
theorem f8:FI Try.prog 12 i8 [.tmp 4] 8:=fi (by kernel_rfl) Try.func8 (by kernel_rfl) o8 (by kernel_rfl)
abbrev r51_0:List RO:=[ro (.box 1 (.t 0)),ro (.var 2 [(dI 0),(dI 0)])]
abbrev r51_1:List RO:=[ro (.var 3 [(dI 0),(dI 0)])]
abbrev r51_2:List RO:=[rF 4 0 1,rL 5 4,rF 6 0 3,ro (.store 1 [(.int .i64 0)] (.t 6) (.t 5))]
abbrev r51_3:List RO:=[rF 7 1 1,rL 8 7,rF 9 1 3,ro (.store 1 [(.int .i64 0)] (.t 9) (.t 8))]
abbrev r51_4:List RO:=[ro (.load 10 (some 2) (.t 3)),ro (.store 2 [(.int .i64 0),(.int .i64 0)] (.t 2) (.t 10))]
def i51:IC:=(.seq (.reg r51_0) (.seq (.reg r51_1) (.seq (.reg r51_2) (.seq (.reg r51_3) (.seq (.reg r51_4) .ret)))))
theorem o51:(Try.f51.body.bind fun c=>toIC Try.prog 11 c [])=some (i51,[]):=by kernel_rfl
theorem f51:FI Try.prog 11 i51 [.cell 2 (some 2)] 51:=fi (by kernel_rfl) Try.func51 (by kernel_rfl) o51 (by kernel_rfl)
abbrev r10_0:List RO:=[ro (.mov 2 (.c (.one .zs)))]
abbrev r10_1:List RO:=[rM 5 0,ro (.len 6 false (.t 5)),ro (.mksl 7 2 16 [(.int .i64 0),(.int .i64 0)] (.t 6) (.t 6)),rM 3 7]
abbrev r10_2:List RO:=[ro (.mov 4 (c6 0))]
abbrev r10_3:List RO:=[rM 8 4,rM 9 0,ro (.len 10 false (.t 9)),ro (.bin 11 .lss (.t 8) (.t 10))]
abbrev r10_4:List RO:=[rM 14 3,rM 15 4,rM 16 0,rM 17 4,ro (.iaddr 18 2 (.t 16) (.t 17)),ro (.load 19 (some 2) (.t 18)),ro (.callv 20 (.c (.one (.fn 51 []))) [(.t 19)]),ro (.iaddr 21 2 (.t 14) (.t 15)),ro (.store 2 [(.int .i64 0),(.int .i64 0)] (.t 21) (.t 20))]
abbrev r10_5:List RO:=[rM 12 4,ro (.bin 13 .add (.t 12) (c6 1)),rM 4 13]
abbrev r10_6:List RO:=[rM 22 3,rM 2 22]
def i10:IC:=(.seq (.reg r10_0) (.seq (.reg r10_1) (.seq (.seq (.reg r10_2) (.block 0 (.loop (.seq (.seq (.reg r10_3) (.cond (.t 11) .skip (.exit 0))) (.seq (.block 1 (.reg r10_4)) (.reg r10_5)))))) (.seq (.reg r10_6) .ret))))
theorem o10:(Try.f10.body.bind fun c=>toIC Try.prog 23 c [])=some (i10,[]):=by kernel_rfl
theorem f10:FI Try.prog 23 i10 [.tmp 2] 10:=fi (by kernel_rfl) Try.func10 (by kernel_rfl) o10 (by kernel_rfl)
abbrev r64_0:List RO:=[ro (.mov 6 (cB false))]
abbrev r64_1:List RO:=[rM 7 0,rM 8 1,ro (.bin 9 .geq (.t 7) (.t 8)),rM 10 9,rT 10 (.mov 11 (.t 0)),rT 10 (.mov 12 (.t 2)),rT 10 (.bin 13 .leq (.t 11) (.t 12)),ro (.pick 14 (.t 10) (.t 13) (cB false)),rM 6 14]
def i64:IC:=(.seq (.reg r64_0) (.seq (.reg r64_1) .ret))
theorem o64:(Try.f64.body.bind fun c=>toIC Try.prog 15 c [])=some (i64,[]):=by kernel_rfl
theorem f64:FI Try.prog 15 i64 [.tmp 6] 64:=fi (by kernel_rfl) Try.func64 (by kernel_rfl) o64 (by kernel_rfl)
abbrev r99_0:List RO:=[ro (.mov 2 (cB false))]
abbrev r99_1:List RO:=[rM 3 0,ro (.callv 4 (.c (.one (.fn 64 []))) [(.t 3),(c6 0),(c6 999)]),rM 2 4]
def i99:IC:=(.seq (.reg r99_0) (.seq (.reg r99_1) .ret))
theorem o99:(Try.f99.body.bind fun c=>toIC Try.prog 5 c [])=some (i99,[]):=by kernel_rfl
theorem f99:FI Try.prog 5 i99 [.tmp 2] 99:=fi (by kernel_rfl) Try.func99 (by kernel_rfl) o99 (by kernel_rfl)
abbrev r63_0:List RO:=[ro (.mov 2 (cB false))]
abbrev r63_1:List RO:=[rM 3 0,ro (.callv 4 (.c (.one (.fn 64 []))) [(.t 3),(c6 0),(c6 1000000000)]),rM 2 4]
def i63:IC:=(.seq (.reg r63_0) (.seq (.reg r63_1) .ret))
theorem o63:(Try.f63.body.bind fun c=>toIC Try.prog 5 c [])=some (i63,[]):=by kernel_rfl
theorem f63:FI Try.prog 5 i63 [.tmp 2] 63:=fi (by kernel_rfl) Try.func63 (by kernel_rfl) o63 (by kernel_rfl)
abbrev r41_0:List RO:=[ro (.mov 2 (cB false))]
abbrev r41_1:List RO:=[rM 4 0,ro (.len 5 false (.t 4)),ro (.bin 6 .gtr (.t 5) (c6 60))]
abbrev r41_2:List RO:=[ro (.mov 2 (cB false))]
abbrev r41_3:List RO:=[ro (.mov 3 (c6 0))]
abbrev r41_4:List RO:=[rM 7 3,rM 8 0,ro (.len 9 false (.t 8)),ro (.bin 10 .lss (.t 7) (.t 9))]
abbrev r41_5:List RO:=[rM 13 0,rM 14 3,⟨⟨none,.iaddr 15 2 (.t 13) (.t 14)⟩,3,[]⟩,⟨⟨none,.faddr 16 0 (.t 15)⟩,7,[]⟩,⟨⟨none,.load 17 none (.t 16)⟩,15,[]⟩,⟨⟨none,.callv 18 (.c (.one (.fn 99 []))) [(.t 17)]⟩,31,[]⟩,⟨⟨none,.inv 19 (.t 18)⟩,63,[]⟩,⟨⟨none,.mov 20 (.t 19)⟩,127,[]⟩,⟨⟨some (20,false),.mov 21 (.t 0)⟩,255,[]⟩,⟨⟨some (20,false),.mov 22 (.t 3)⟩,255,[]⟩,⟨⟨some (20,false),.iaddr 23 2 (.t 21) (.t 22)⟩,1023,[]⟩,⟨⟨some (20,false),.faddr 24 1 (.t 23)⟩,2047,[]⟩,⟨⟨some (20,false),.load 25 none (.t 24)⟩,4095,[]⟩,⟨⟨some (20,false),.callv 26 (.c (.one (.fn 63 []))) [(.t 25)]⟩,8191,[]⟩,⟨⟨some (20,false),.inv 27 (.t 26)⟩,16383,[]⟩,⟨⟨none,.pick 28 (.t 20) (cB true) (.t 27)⟩,32767,[]⟩,⟨⟨none,.mov 29 (.t 28)⟩,65535,[]⟩,⟨⟨some (29,false),.mov 30 (.t 3)⟩,131071,[]⟩,⟨⟨some (29,false),.bin 31 .gtr (.t 30) (c6 0)⟩,262143,[]⟩,⟨⟨some (29,false),.mov 32 (.t 31)⟩,524287,[]⟩,⟨⟨some (32,true),.mov 33 (.t 0)⟩,1048575,[]⟩,⟨⟨some (32,true),.mov 34 (.t 3)⟩,1048575,[]⟩,⟨⟨some (32,true),.bin 35 .sub (.t 34) (c6 1)⟩,3145727,[]⟩,⟨⟨some (32,true),.iaddr 36 2 (.t 33) (.t 35)⟩,8388607,[]⟩,⟨⟨some (32,true),.faddr 37 0 (.t 36)⟩,16777215,[]⟩,⟨⟨some (32,true),.load 38 none (.t 37)⟩,33554431,[]⟩,⟨⟨some (32,true),.mov 39 (.t 0)⟩,1048575,[]⟩,⟨⟨some (32,true),.mov 40 (.t 3)⟩,1048575,[]⟩,⟨⟨some (32,true),.iaddr 41 2 (.t 39) (.t 40)⟩,202375167,[]⟩,⟨⟨some (32,true),.faddr 42 0 (.t 41)⟩,470810623,[]⟩,⟨⟨some (32,true),.load 43 none (.t 42)⟩,1007681535,[]⟩,⟨⟨some (32,true),.bin 44 .geq (.t 38) (.t 43)⟩,2147483647,[]⟩,⟨⟨some (29,false),.pick 45 (.t 32) (.t 44) (cB false)⟩,4294967295,[]⟩,⟨⟨none,.pick 46 (.t 29) (cB true) (.t 45)⟩,8589934591,[]⟩]
abbrev r41_6:List RO:=[ro (.mov 2 (cB false))]
abbrev r41_7:List RO:=[rM 11 3,ro (.bin 12 .add (.t 11) (c6 1)),rM 3 12]
abbrev r41_8:List RO:=[ro (.mov 2 (cB true))]
def i41:IC:=(.seq (.reg r41_0) (.seq (.seq (.reg r41_1) (.cond (.t 6) (.seq (.reg r41_2) .ret) .skip)) (.seq (.seq (.reg r41_3) (.block 0 (.loop (.seq (.seq (.reg r41_4) (.cond (.t 10) .skip (.exit 0))) (.seq (.block 1 (.seq (.regd r41_5) (.cond (.t 46) (.seq (.reg r41_6) .ret) .skip))) (.reg r41_7)))))) (.seq (.reg r41_8) .ret))))
theorem o41:(Try.f41.body.bind fun c=>toIC Try.prog 47 c [[(0,[]),(0,[]),(3,[]),(7,[]),(15,[]),(31,[]),(63,[]),(127,[]),(255,[]),(255,[]),(1023,[]),(2047,[]),(4095,[]),(8191,[]),(16383,[]),(32767,[]),(65535,[]),(131071,[]),(262143,[]),(524287,[]),(1048575,[]),(1048575,[]),(3145727,[]),(8388607,[]),(16777215,[]),(33554431,[]),(1048575,[]),(1048575,[]),(202375167,[]),(470810623,[]),(1007681535,[]),(2147483647,[]),(4294967295,[]),(8589934591,[])]])=some (i41,[]):=by kernel_rfl
theorem f41:FI Try.prog 47 i41 [.tmp 2] 41:=fi (by kernel_rfl) Try.func41 (by kernel_rfl) o41 (by kernel_rfl)
abbrev r49_0:List RO:=[ro (.mov 4 (c6 0))]
abbrev r49_1:List RO:=[ro (.mov 5 (c6 0))]
abbrev r49_2:List RO:=[rM 6 5,rM 7 0,ro (.len 8 false (.t 7)),ro (.bin 9 .lss (.t 6) (.t 8))]
abbrev r49_3:List RO:=[rM 12 0,rM 13 5,ro (.iaddr 14 2 (.t 12) (.t 13)),rF 15 0 14,rL 16 15,rM 17 1,ro (.bin 18 .eql (.t 16) (.t 17))]
abbrev r49_4:List RO:=[rM 19 0,rM 20 5,ro (.iaddr 21 2 (.t 19) (.t 20)),rF 22 1 21,rL 23 22,rM 4 23]
abbrev r49_5:List RO:=[rM 10 5,ro (.bin 11 .add (.t 10) (c6 1)),rM 5 11]
abbrev r49_6:List RO:=[ro (.mov 4 (c6 (-1)))]
def i49:IC:=(.seq (.reg r49_0) (.seq (.seq (.reg r49_1) (.block 0 (.loop (.seq (.seq (.reg r49_2) (.cond (.t 9) .skip (.exit 0))) (.seq (.block 1 (.seq (.reg r49_3) (.cond (.t 18) (.seq (.reg r49_4) .ret) .skip))) (.reg r49_5)))))) (.seq (.reg r49_6) .ret)))
theorem o49:(Try.f49.body.bind fun c=>toIC Try.prog 24 c [])=some (i49,[]):=by kernel_rfl
theorem f49:FI Try.prog 24 i49 [.tmp 4] 49:=fi (by kernel_rfl) Try.func49 (by kernel_rfl) o49 (by kernel_rfl)
abbrev r50_0:List RO:=[ro (.mov 8 (.c (.one .zs)))]
abbrev r50_1:List RO:=[ro (.bslice 12 2 [] []),rM 9 12]
abbrev r50_2:List RO:=[rM 13 3,ro (.inv 14 (.t 13)),rM 10 14]
abbrev r50_3:List RO:=[ro (.mov 11 (c6 0))]
abbrev r50_4:List RO:=[rM 15 11,rM 16 0,ro (.len 17 false (.t 16)),ro (.bin 18 .lss (.t 15) (.t 17))]
abbrev r50_5:List RO:=[rM 21 10,ro (.inv 22 (.t 21)),rM 23 22,rT 23 (.mov 24 (.t 0)),rT 23 (.mov 25 (.t 11)),rT 23 (.iaddr 26 2 (.t 24) (.t 25)),rT 23 (.faddr 27 0 (.t 26)),rT 23 (.load 28 none (.t 27)),rT 23 (.mov 29 (.t 1)),rT 23 (.bin 30 .geq (.t 28) (.t 29)),ro (.pick 31 (.t 23) (.t 30) (cB false))]
abbrev r50_6:List RO:=[rM 32 9,rM 33 1,rM 34 2,ro (.build 35 [(dI 0),(dI 0)] [(0,1,(.t 33)),(1,1,(.t 34))]),ro (.bslice 36 2 [(dI 0),(dI 0)] [(0,2,(.t 35))]),ro (.app 37 2 16 [(.int .i64 0),(.int .i64 0)] (.t 32) (.t 36)),rM 9 37]
abbrev r50_7:List RO:=[ro (.mov 10 (cB true))]
abbrev r50_8:List RO:=[rM 38 0,rM 39 11,ro (.iaddr 40 2 (.t 38) (.t 39)),rF 41 0 40,rL 42 41,rM 43 1,ro (.bin 44 .neq (.t 42) (.t 43))]
abbrev r50_9:List RO:=[rM 45 9,rM 46 0,rM 47 11,ro (.iaddr 48 2 (.t 46) (.t 47)),ro (.load 49 (some 2) (.t 48)),ro (.bslice 50 2 [(dI 0),(dI 0)] [(0,2,(.t 49))]),ro (.app 51 2 16 [(.int .i64 0),(.int .i64 0)] (.t 45) (.t 50)),rM 9 51]
abbrev r50_10:List RO:=[rM 19 11,ro (.bin 20 .add (.t 19) (c6 1)),rM 11 20]
abbrev r50_11:List RO:=[rM 52 10,ro (.inv 53 (.t 52))]
abbrev r50_12:List RO:=[rM 54 9,rM 55 1,rM 56 2,ro (.build 57 [(dI 0),(dI 0)] [(0,1,(.t 55)),(1,1,(.t 56))]),ro (.bslice 58 2 [(dI 0),(dI 0)] [(0,2,(.t 57))]),ro (.app 59 2 16 [(.int .i64 0),(.int .i64 0)] (.t 54) (.t 58)),rM 9 59]
abbrev r50_13:List RO:=[rM 60 9,rM 8 60]
def i50:IC:=(.seq (.reg r50_0) (.seq (.reg r50_1) (.seq (.reg r50_2) (.seq (.seq (.reg r50_3) (.block 0 (.loop (.seq (.seq (.reg r50_4) (.cond (.t 18) .skip (.exit 0))) (.seq (.block 1 (.seq (.seq (.reg r50_5) (.cond (.t 31) (.seq (.reg r50_6) (.reg r50_7)) .skip)) (.seq (.reg r50_8) (.cond (.t 44) (.reg r50_9) .skip)))) (.reg r50_10)))))) (.seq (.seq (.reg r50_11) (.cond (.t 53) (.reg r50_12) .skip)) (.seq (.reg r50_13) .ret))))))
theorem o50:(Try.f50.body.bind fun c=>toIC Try.prog 61 c [])=some (i50,[]):=by kernel_rfl
theorem f50:FI Try.prog 61 i50 [.tmp 8] 50:=fi (by kernel_rfl) Try.func50 (by kernel_rfl) o50 (by kernel_rfl)
abbrev r9_0:List RO:=[ro (.mov 4 (.c (.one .zs))),ro (.mov 5 (cB false))]
abbrev r9_1:List RO:=[rM 8 0,ro (.callv 9 (.c (.one (.fn 41 []))) [(.t 8)]),ro (.inv 10 (.t 9)),rM 11 10,rN 11 (.mov 12 (.t 1)),rN 11 (.callv 13 (.c (.one (.fn 41 []))) [(.t 12)]),rN 11 (.inv 14 (.t 13)),ro (.pick 15 (.t 11) (cB true) (.t 14)),rM 16 15,rN 16 (.mov 17 (.t 0)),rN 16 (.len 18 false (.t 17)),rN 16 (.mov 19 (.t 1)),rN 16 (.len 20 false (.t 19)),rN 16 (.bin 21 .add (.t 18) (.t 20)),rN 16 (.bin 22 .gtr (.t 21) (c6 60)),ro (.pick 23 (.t 16) (cB true) (.t 22))]
abbrev r9_2:List RO:=[ro (.bslice 24 2 [] []),rM 4 24,ro (.mov 5 (cB false))]
abbrev r9_3:List RO:=[ro (.bslice 25 2 [] []),rM 26 0,ro (.app 27 2 16 [(.int .i64 0),(.int .i64 0)] (.t 25) (.t 26)),rM 6 27]
abbrev r9_4:List RO:=[ro (.mov 7 (c6 0))]
abbrev r9_5:List RO:=[rM 28 7,rM 29 1,ro (.len 30 false (.t 29)),ro (.bin 31 .lss (.t 28) (.t 30))]
abbrev r9_6:List RO:=[rM 34 0,rM 35 1,rM 36 7,ro (.iaddr 37 2 (.t 35) (.t 36)),rF 38 0 37,rL 39 38,ro (.callv 40 (.c (.one (.fn 49 []))) [(.t 34),(.t 39)]),ro (.bin 41 .geq (.t 40) (c6 0))]
abbrev r9_7:List RO:=[ro (.bslice 42 2 [] []),rM 4 42,ro (.mov 5 (cB false))]
abbrev r9_8:List RO:=[rM 43 6,rM 44 1,rM 45 7,⟨⟨none,.iaddr 46 2 (.t 44) (.t 45)⟩,6,[]⟩,⟨⟨none,.faddr 47 0 (.t 46)⟩,14,[]⟩,⟨⟨none,.load 48 none (.t 47)⟩,30,[]⟩,rM 49 1,rM 50 7,⟨⟨none,.iaddr 51 2 (.t 49) (.t 50)⟩,192,[]⟩,⟨⟨none,.faddr 52 1 (.t 51)⟩,448,[]⟩,⟨⟨none,.load 53 none (.t 52)⟩,960,[]⟩,⟨⟨none,.callv 54 (.c (.one (.fn 50 []))) [(.t 43),(.t 48),(.t 53),(cB true)]⟩,2047,[]⟩,⟨⟨none,.mov 6 (.t 54)⟩,4095,[]⟩]
abbrev r9_9:List RO:=[rM 32 7,ro (.bin 33 .add (.t 32) (c6 1)),rM 7 33]
abbrev r9_10:List RO:=[rM 55 6,rM 4 55,ro (.mov 5 (cB true))]
def i9:IC:=(.seq (.reg r9_0) (.seq (.seq (.reg r9_1) (.cond (.t 23) (.seq (.reg r9_2) .ret) .skip)) (.seq (.reg r9_3) (.seq (.seq (.reg r9_4) (.block 0 (.loop (.seq (.seq (.reg r9_5) (.cond (.t 31) .skip (.exit 0))) (.seq (.block 1 (.seq (.seq (.reg r9_6) (.cond (.t 41) (.seq (.reg r9_7) .ret) .skip)) (.regd r9_8))) (.reg r9_9)))))) (.seq (.reg r9_10) .ret)))))
theorem o9:(Try.f9.body.bind fun c=>toIC Try.prog 56 c [[(0,[]),(0,[]),(0,[]),(6,[]),(14,[]),(30,[]),(0,[]),(0,[]),(192,[]),(448,[]),(960,[]),(2047,[]),(4095,[])]])=some (i9,[]):=by kernel_rfl
theorem f9:FI Try.prog 56 i9 [.tmp 4,.tmp 5] 9:=fi (by kernel_rfl) Try.func9 (by kernel_rfl) o9 (by kernel_rfl)
abbrev r76_0:List RO:=[ro (.mov 6 (cB false))]
abbrev r76_1:List RO:=[rM 7 0,rM 8 1,ro (.bin 9 .geq (.t 7) (.t 8)),rM 10 9,rT 10 (.mov 11 (.t 0)),rT 10 (.mov 12 (.t 2)),rT 10 (.bin 13 .leq (.t 11) (.t 12)),ro (.pick 14 (.t 10) (.t 13) (cB false)),rM 6 14]
def i76:IC:=(.seq (.reg r76_0) (.seq (.reg r76_1) .ret))
theorem o76:(Try.f76.body.bind fun c=>toIC Try.prog 15 c [])=some (i76,[]):=by kernel_rfl
theorem f76:FI Try.prog 15 i76 [.tmp 6] 76:=fi (by kernel_rfl) Try.func76 (by kernel_rfl) o76 (by kernel_rfl)
abbrev r100_0:List RO:=[ro (.mov 2 (cB false))]
abbrev r100_1:List RO:=[rM 3 0,ro (.callv 4 (.c (.one (.fn 76 []))) [(.t 3),(c6 0),(c6 999)]),rM 2 4]
def i100:IC:=(.seq (.reg r100_0) (.seq (.reg r100_1) .ret))
theorem o100:(Try.f100.body.bind fun c=>toIC Try.prog 5 c [])=some (i100,[]):=by kernel_rfl
theorem f100:FI Try.prog 5 i100 [.tmp 2] 100:=fi (by kernel_rfl) Try.func100 (by kernel_rfl) o100 (by kernel_rfl)
abbrev r60_0:List RO:=[ro (.mov 2 (cB false))]
abbrev r60_1:List RO:=[rM 3 0,ro (.callv 4 (.c (.one (.fn 76 []))) [(.t 3),(c6 0),(c6 1000000000)]),rM 2 4]
def i60:IC:=(.seq (.reg r60_0) (.seq (.reg r60_1) .ret))
theorem o60:(Try.f60.body.bind fun c=>toIC Try.prog 5 c [])=some (i60,[]):=by kernel_rfl
theorem f60:FI Try.prog 5 i60 [.tmp 2] 60:=fi (by kernel_rfl) Try.func60 (by kernel_rfl) o60 (by kernel_rfl)
abbrev r42_0:List RO:=[ro (.mov 2 (cB false))]
abbrev r42_1:List RO:=[rM 5 0,ro (.len 6 false (.t 5)),ro (.mov 7 (c6 0))]
abbrev r42_2:List RO:=[ro (.bin 8 .lss (.t 7) (.t 6))]
abbrev r42_3:List RO:=[rM 9 7,ro (.iaddr 10 2 (.t 5) (.t 7)),ro (.load 11 (some 2) (.t 10)),ro (.var 4 [(dI 0),(dI 0)]),rM 3 9,ro (.store 2 [(.int .i64 0),(.int .i64 0)] (.t 4) (.t 11))]
abbrev r42_4:List RO:=[rF 12 0 4,⟨⟨none,.load 13 none (.t 12)⟩,1,[]⟩,⟨⟨none,.callv 14 (.c (.one (.fn 100 []))) [(.t 13)]⟩,3,[]⟩,⟨⟨none,.inv 15 (.t 14)⟩,7,[]⟩,⟨⟨none,.mov 16 (.t 15)⟩,15,[]⟩,⟨⟨some (16,false),.faddr 17 1 (.t 4)⟩,31,[]⟩,⟨⟨some (16,false),.load 18 none (.t 17)⟩,63,[]⟩,⟨⟨some (16,false),.callv 19 (.c (.one (.fn 60 []))) [(.t 18)]⟩,127,[]⟩,⟨⟨some (16,false),.inv 20 (.t 19)⟩,255,[]⟩,⟨⟨none,.pick 21 (.t 16) (cB true) (.t 20)⟩,511,[]⟩,⟨⟨none,.mov 22 (.t 21)⟩,1023,[]⟩,⟨⟨some (22,false),.mov 23 (.t 3)⟩,2047,[]⟩,⟨⟨some (22,false),.bin 24 .gtr (.t 23) (c6 0)⟩,4095,[]⟩,⟨⟨some (22,false),.mov 25 (.t 24)⟩,8191,[]⟩,⟨⟨some (25,true),.mov 26 (.t 0)⟩,16383,[]⟩,⟨⟨some (25,true),.mov 27 (.t 3)⟩,16383,[]⟩,⟨⟨some (25,true),.bin 28 .sub (.t 27) (c6 1)⟩,49151,[]⟩,⟨⟨some (25,true),.iaddr 29 2 (.t 26) (.t 28)⟩,131071,[]⟩,⟨⟨some (25,true),.faddr 30 0 (.t 29)⟩,262143,[]⟩,⟨⟨some (25,true),.load 31 none (.t 30)⟩,524287,[]⟩,⟨⟨some (25,true),.faddr 32 0 (.t 4)⟩,16383,[]⟩,⟨⟨some (25,true),.load 33 none (.t 32)⟩,1064959,[]⟩,⟨⟨some (25,true),.bin 34 .geq (.t 31) (.t 33)⟩,4194303,[]⟩,⟨⟨some (22,false),.pick 35 (.t 25) (.t 34) (cB false)⟩,8388607,[]⟩,⟨⟨none,.pick 36 (.t 22) (cB true) (.t 35)⟩,16777215,[]⟩]
abbrev r42_5:List RO:=[ro (.mov 2 (cB false))]
abbrev r42_6:List RO:=[ro (.bin 37 .add (.t 7) (c6 1)),rM 7 37]
abbrev r42_7:List RO:=[rM 38 0,ro (.len 39 false (.t 38)),ro (.bin 40 .leq (.t 39) (c6 60)),rM 2 40]
def i42:IC:=(.seq (.reg r42_0) (.seq (.seq (.reg r42_1) (.block 0 (.loop (.seq (.reg r42_2) (.seq (.cond (.t 8) .skip (.exit 0)) (.seq (.block 1 (.seq (.reg r42_3) (.seq (.regd r42_4) (.cond (.t 36) (.seq (.reg r42_5) .ret) .skip)))) (.reg r42_6))))))) (.seq (.reg r42_7) .ret)))
theorem o42:(Try.f42.body.bind fun c=>toIC Try.prog 41 c [[(0,[]),(1,[]),(3,[]),(7,[]),(15,[]),(31,[]),(63,[]),(127,[]),(255,[]),(511,[]),(1023,[]),(2047,[]),(4095,[]),(8191,[]),(16383,[]),(16383,[]),(49151,[]),(131071,[]),(262143,[]),(524287,[]),(16383,[]),(1064959,[]),(4194303,[]),(8388607,[]),(16777215,[])]])=some (i42,[]):=by kernel_rfl
theorem f42:FI Try.prog 41 i42 [.tmp 2] 42:=fi (by kernel_rfl) Try.func42 (by kernel_rfl) o42 (by kernel_rfl)
abbrev r52_0:List RO:=[ro (.mov 2 (.c (.one .zs)))]
abbrev r52_1:List RO:=[ro (.mov 3 (c6 0))]
abbrev r52_2:List RO:=[rM 9 0,ro (.len 10 false (.t 9)),ro (.mov 11 (c6 0))]
abbrev r52_3:List RO:=[ro (.bin 12 .lss (.t 11) (.t 10))]
abbrev r52_4:List RO:=[ro (.iaddr 13 1 (.t 9) (.t 11)),rL 14 13,rM 5 14]
abbrev r52_5:List RO:=[rM 15 3,rM 16 5,ro (.len 17 false (.t 16)),ro (.bin 18 .add (.t 15) (.t 17)),rM 3 18]
abbrev r52_6:List RO:=[rM 19 3,ro (.bin 20 .lss (.t 19) (c6 0))]
abbrev r52_7:List RO:=[ro (.dead (some 21)),ro (.dead none)]
abbrev r52_8:List RO:=[ro (.bin 22 .add (.t 11) (c6 1)),rM 11 22]
abbrev r52_9:List RO:=[rM 23 3,ro (.callv 24 (.c (.one (.fn 106 []))) [(.c (.one .zs)),(.t 23)]),rM 6 24]
abbrev r52_10:List RO:=[rM 25 0,ro (.len 26 false (.t 25)),ro (.mov 27 (c6 0))]
abbrev r52_11:List RO:=[ro (.bin 28 .lss (.t 27) (.t 26))]
abbrev r52_12:List RO:=[ro (.iaddr 29 1 (.t 25) (.t 27)),rL 30 29,rM 8 30]
abbrev r52_13:List RO:=[rM 31 6,rM 32 8,ro (.app 33 2 16 [(.int .i64 0),(.int .i64 0)] (.t 31) (.t 32)),rM 6 33]
abbrev r52_14:List RO:=[ro (.bin 34 .add (.t 27) (c6 1)),rM 27 34]
abbrev r52_15:List RO:=[rM 35 6,rM 2 35]
def i52:IC:=(.seq (.reg r52_0) (.seq (.reg r52_1) (.seq (.seq (.reg r52_2) (.block 0 (.loop (.seq (.reg r52_3) (.seq (.cond (.t 12) .skip (.exit 0)) (.seq (.block 1 (.seq (.reg r52_4) (.seq (.reg r52_5) (.seq (.reg r52_6) (.cond (.t 20) (.reg r52_7) .skip))))) (.reg r52_8))))))) (.seq (.reg r52_9) (.seq (.seq (.reg r52_10) (.block 2 (.loop (.seq (.reg r52_11) (.seq (.cond (.t 28) .skip (.exit 2)) (.seq (.block 3 (.seq (.reg r52_12) (.reg r52_13))) (.reg r52_14))))))) (.seq (.reg r52_15) .ret))))))
theorem o52:(Try.f52.body.bind fun c=>toIC Try.prog 36 c [])=some (i52,[]):=by kernel_rfl
theorem f52:FI Try.prog 36 i52 [.tmp 2] 52:=fi (by kernel_rfl) Try.func52 (by kernel_rfl) o52 (by kernel_rfl)
abbrev r11_0:List RO:=[ro (.mov 4 (.c (.one .zs))),ro (.mov 5 (cB false))]
abbrev r11_1:List RO:=[rM 7 0,ro (.callv 8 (.c (.one (.fn 42 []))) [(.t 7)]),ro (.inv 9 (.t 8)),rM 10 9,rN 10 (.mov 11 (.t 1)),rN 10 (.callv 12 (.c (.one (.fn 42 []))) [(.t 11)]),rN 10 (.inv 13 (.t 12)),ro (.pick 14 (.t 10) (cB true) (.t 13)),rM 15 14,rN 15 (.mov 16 (.t 0)),rN 15 (.len 17 false (.t 16)),rN 15 (.mov 18 (.t 1)),rN 15 (.len 19 false (.t 18)),rN 15 (.bin 20 .add (.t 17) (.t 19)),rN 15 (.bin 21 .gtr (.t 20) (c6 60)),ro (.pick 22 (.t 15) (cB true) (.t 21))]
abbrev r11_2:List RO:=[ro (.mov 4 (.c (.one .zs))),ro (.mov 5 (cB false))]
abbrev r11_3:List RO:=[rM 23 0,rM 24 1,ro (.bslice 25 1 [.zs,.zs] [(0,1,(.t 23)),(1,1,(.t 24))]),ro (.callv 26 (.c (.one (.fn 52 []))) [(.t 25)]),rM 6 26]
abbrev r11_4:List RO:=[rM 27 6,ro (.callv 28 (.c (.one (.fn 53 []))) [(.t 27),(.c (.one (.fn 54 [])))])]
abbrev r11_5:List RO:=[rM 29 6,ro (.callv 30 (.c (.one (.fn 42 []))) [(.t 29)]),ro (.inv 31 (.t 30))]
abbrev r11_6:List RO:=[ro (.mov 4 (.c (.one .zs))),ro (.mov 5 (cB false))]
abbrev r11_7:List RO:=[rM 32 6,rM 4 32,ro (.mov 5 (cB true))]
def i11:IC:=(.seq (.reg r11_0) (.seq (.seq (.reg r11_1) (.cond (.t 22) (.seq (.reg r11_2) .ret) .skip)) (.seq (.reg r11_3) (.seq (.reg r11_4) (.seq (.seq (.reg r11_5) (.cond (.t 31) (.seq (.reg r11_6) .ret) .skip)) (.seq (.reg r11_7) .ret))))))
theorem o11:(Try.f11.body.bind fun c=>toIC Try.prog 33 c [])=some (i11,[]):=by kernel_rfl
theorem f11:FI Try.prog 33 i11 [.tmp 4,.tmp 5] 11:=fi (by kernel_rfl) Try.func11 (by kernel_rfl) o11 (by kernel_rfl)
abbrev r55_0:List RO:=[ro (.box 2 (.t 0)),ro (.box 3 (.t 1)),ro (.mov 4 (cB false))]
abbrev r55_1:List RO:=[rF 5 0 2,rL 6 5,rF 7 0 3,rL 8 7,ro (.bin 9 .neq (.t 6) (.t 8))]
abbrev r55_2:List RO:=[ro (.mov 4 (cB false))]
abbrev r55_3:List RO:=[rF 10 1 2,rL 11 10,rF 12 1 3,rL 13 12,ro (.bin 14 .neq (.t 11) (.t 13))]
abbrev r55_4:List RO:=[ro (.mov 4 (cB false))]
abbrev r55_5:List RO:=[ro (.mov 4 (cB true))]
def i55:IC:=(.seq (.reg r55_0) (.seq (.seq (.reg r55_1) (.cond (.t 9) (.seq (.reg r55_2) .ret) .skip)) (.seq (.seq (.reg r55_3) (.cond (.t 14) (.seq (.reg r55_4) .ret) .skip)) (.seq (.reg r55_5) .ret))))
theorem o55:(Try.f55.body.bind fun c=>toIC Try.prog 15 c [])=some (i55,[]):=by kernel_rfl
theorem f55:FI Try.prog 15 i55 [.tmp 4] 55:=fi (by kernel_rfl) Try.func55 (by kernel_rfl) o55 (by kernel_rfl)
abbrev r12_0:List RO:=[ro (.mov 4 (cB false))]
abbrev r12_1:List RO:=[rM 6 0,ro (.len 7 false (.t 6)),rM 8 1,ro (.len 9 false (.t 8)),ro (.bin 10 .neq (.t 7) (.t 9))]
abbrev r12_2:List RO:=[ro (.mov 4 (cB false))]
abbrev r12_3:List RO:=[ro (.mov 5 (c6 0))]
abbrev r12_4:List RO:=[rM 11 5,rM 12 0,ro (.len 13 false (.t 12)),ro (.bin 14 .lss (.t 11) (.t 13))]
abbrev r12_5:List RO:=[rM 17 0,rM 18 5,⟨⟨none,.iaddr 19 2 (.t 17) (.t 18)⟩,3,[]⟩,⟨⟨none,.load 20 (some 2) (.t 19)⟩,7,[]⟩,rM 21 1,rM 22 5,⟨⟨none,.iaddr 23 2 (.t 21) (.t 22)⟩,48,[]⟩,⟨⟨none,.load 24 (some 2) (.t 23)⟩,112,[]⟩,⟨⟨none,.callv 25 (.c (.one (.fn 55 []))) [(.t 20),(.t 24)]⟩,255,[]⟩,⟨⟨none,.inv 26 (.t 25)⟩,511,[]⟩]
abbrev r12_6:List RO:=[ro (.mov 4 (cB false))]
abbrev r12_7:List RO:=[rM 15 5,ro (.bin 16 .add (.t 15) (c6 1)),rM 5 16]
abbrev r12_8:List RO:=[ro (.mov 4 (cB true))]
def i12:IC:=(.seq (.reg r12_0) (.seq (.seq (.reg r12_1) (.cond (.t 10) (.seq (.reg r12_2) .ret) .skip)) (.seq (.seq (.reg r12_3) (.block 0 (.loop (.seq (.seq (.reg r12_4) (.cond (.t 14) .skip (.exit 0))) (.seq (.block 1 (.seq (.regd r12_5) (.cond (.t 26) (.seq (.reg r12_6) .ret) .skip))) (.reg r12_7)))))) (.seq (.reg r12_8) .ret))))
theorem o12:(Try.f12.body.bind fun c=>toIC Try.prog 27 c [[(0,[]),(0,[]),(3,[]),(7,[]),(0,[]),(0,[]),(48,[]),(112,[]),(255,[]),(511,[])]])=some (i12,[]):=by kernel_rfl
theorem f12:FI Try.prog 27 i12 [.tmp 4] 12:=fi (by kernel_rfl) Try.func12 (by kernel_rfl) o12 (by kernel_rfl)
abbrev r13_0:List RO:=[ro (.mov 4 (c6 0))]
abbrev r13_1:List RO:=[ro (.mov 5 (c6 0))]
abbrev r13_2:List RO:=[rM 6 5,rM 7 0,ro (.len 8 false (.t 7)),ro (.bin 9 .lss (.t 6) (.t 8))]
abbrev r13_3:List RO:=[rM 12 0,rM 13 5,rM 14 1,ro (.iaddr 15 2 (.t 12) (.t 13)),rF 16 0 15,ro (.store 1 [(.int .i64 0)] (.t 16) (.t 14))]
abbrev r13_4:List RO:=[rM 17 1,ro (.bin 18 .add (.t 17) (c6 1)),rM 1 18]
abbrev r13_5:List RO:=[rM 19 0,rM 20 5,rM 21 1,ro (.iaddr 22 2 (.t 19) (.t 20)),rF 23 1 22,ro (.store 1 [(.int .i64 0)] (.t 23) (.t 21))]
abbrev r13_6:List RO:=[rM 24 1,ro (.bin 25 .add (.t 24) (c6 1)),rM 1 25]
abbrev r13_7:List RO:=[rM 10 5,ro (.bin 11 .add (.t 10) (c6 1)),rM 5 11]
abbrev r13_8:List RO:=[rM 26 1,rM 4 26]
def i13:IC:=(.seq (.reg r13_0) (.seq (.seq (.reg r13_1) (.block 0 (.loop (.seq (.seq (.reg r13_2) (.cond (.t 9) .skip (.exit 0))) (.seq (.block 1 (.seq (.reg r13_3) (.seq (.reg r13_4) (.seq (.reg r13_5) (.reg r13_6))))) (.reg r13_7)))))) (.seq (.reg r13_8) .ret)))
theorem o13:(Try.f13.body.bind fun c=>toIC Try.prog 27 c [])=some (i13,[]):=by kernel_rfl
theorem m13:FM Try.prog 27 i13 [.tmp 4] 13:=fm (by kernel_rfl) Try.func13 (by kernel_rfl) o13 (by kernel_rfl)
abbrev r14_0:List RO:=[ro (.mov 4 (c6 0))]
abbrev r14_1:List RO:=[ro (.mov 5 (c6 0))]
abbrev r14_2:List RO:=[rM 6 5,rM 7 0,ro (.len 8 false (.t 7)),ro (.bin 9 .lss (.t 6) (.t 8))]
abbrev r14_3:List RO:=[rM 12 0,rM 13 5,ro (.iaddr 14 2 (.t 12) (.t 13)),rF 15 0 14,rL 16 15,rM 17 1,ro (.bin 18 .neq (.t 16) (.t 17))]
abbrev r14_4:List RO:=[ro (.mov 4 (c6 (-1)))]
abbrev r14_5:List RO:=[rM 19 1,ro (.bin 20 .add (.t 19) (c6 1)),rM 1 20]
abbrev r14_6:List RO:=[rM 21 0,rM 22 5,ro (.iaddr 23 2 (.t 21) (.t 22)),rF 24 1 23,rL 25 24,rM 26 1,ro (.bin 27 .neq (.t 25) (.t 26))]
abbrev r14_7:List RO:=[ro (.mov 4 (c6 (-1)))]
abbrev r14_8:List RO:=[rM 28 1,ro (.bin 29 .add (.t 28) (c6 1)),rM 1 29]
abbrev r14_9:List RO:=[rM 10 5,ro (.bin 11 .add (.t 10) (c6 1)),rM 5 11]
abbrev r14_10:List RO:=[rM 30 1,rM 4 30]
def i14:IC:=(.seq (.reg r14_0) (.seq (.seq (.reg r14_1) (.block 0 (.loop (.seq (.seq (.reg r14_2) (.cond (.t 9) .skip (.exit 0))) (.seq (.block 1 (.seq (.seq (.reg r14_3) (.cond (.t 18) (.seq (.reg r14_4) .ret) .skip)) (.seq (.reg r14_5) (.seq (.seq (.reg r14_6) (.cond (.t 27) (.seq (.reg r14_7) .ret) .skip)) (.reg r14_8))))) (.reg r14_9)))))) (.seq (.reg r14_10) .ret)))
theorem o14:(Try.f14.body.bind fun c=>toIC Try.prog 31 c [])=some (i14,[]):=by kernel_rfl
theorem f14:FI Try.prog 31 i14 [.tmp 4] 14:=fi (by kernel_rfl) Try.func14 (by kernel_rfl) o14 (by kernel_rfl)
abbrev r3_0:List RO:=[ro (.mov 4 (cB false))]
abbrev r3_1:List RO:=[ro (.mov 5 (c6 1048576))]
abbrev r3_2:List RO:=[rM 17 0,rM 18 5,ro (.callv 19 (.c (.one (.fn 8 []))) [(.t 17),(.t 18)]),rM 5 19]
abbrev r3_3:List RO:=[rM 20 5,ro (.bin 21 .lss (.t 20) (c6 0))]
abbrev r3_4:List RO:=[ro (.mov 4 (cB true))]
abbrev r3_5:List RO:=[rM 22 1,rM 23 5,ro (.callv 24 (.c (.one (.fn 8 []))) [(.t 22),(.t 23)]),rM 5 24]
abbrev r3_6:List RO:=[rM 25 5,ro (.bin 26 .lss (.t 25) (c6 0))]
abbrev r3_7:List RO:=[ro (.mov 4 (cB true))]
abbrev r3_8:List RO:=[rM 28 0,ro (.callv 29 (.c (.one (.fn 10 []))) [(.t 28)]),rM 30 1,ro (.callv 31 (.c (.one (.fn 10 []))) [(.t 30)]),ro (.callv 32 (.c (.one (.fn 9 []))) [(.t 29),(.t 31)]),rM 27 32,ro (.ext 33 (.t 27) 0),ro (.ext 34 (.t 27) 1),rM 6 33,rM 7 34]
abbrev r3_9:List RO:=[rM 35 0,ro (.callv 36 (.c (.one (.fn 10 []))) [(.t 35)]),rM 8 36]
abbrev r3_10:List RO:=[rM 37 1,ro (.callv 38 (.c (.one (.fn 10 []))) [(.t 37)]),rM 9 38]
abbrev r3_11:List RO:=[rM 40 8,rM 41 9,ro (.callv 42 (.c (.one (.fn 11 []))) [(.t 40),(.t 41)]),rM 39 42,ro (.ext 43 (.t 39) 0),ro (.ext 44 (.t 39) 1),rM 10 43,rM 11 44]
abbrev r3_12:List RO:=[rM 45 10,rM 46 6,ro (.callv 47 (.c (.one (.fn 12 []))) [(.t 45),(.t 46)]),ro (.inv 48 (.t 47)),rM 49 48,rN 49 (.mov 50 (.t 11)),rN 49 (.mov 51 (.t 7)),rN 49 (.beq 52 true (.t 50) (.t 51)),ro (.pick 53 (.t 49) (cB true) (.t 52))]
abbrev r3_13:List RO:=[ro (.mov 4 (cB false))]
abbrev r3_14:List RO:=[rM 54 8,rM 55 0,ro (.callv 56 (.c (.one (.fn 10 []))) [(.t 55)]),ro (.callv 57 (.c (.one (.fn 12 []))) [(.t 54),(.t 56)]),ro (.inv 58 (.t 57))]
abbrev r3_15:List RO:=[ro (.mov 4 (cB false))]
abbrev r3_16:List RO:=[rM 59 9,rM 60 1,ro (.callv 61 (.c (.one (.fn 10 []))) [(.t 60)]),ro (.callv 62 (.c (.one (.fn 12 []))) [(.t 59),(.t 61)]),ro (.inv 63 (.t 62))]
abbrev r3_17:List RO:=[ro (.mov 4 (cB false))]
abbrev r3_18:List RO:=[ro (.mov 12 (c6 1))]
abbrev r3_19:List RO:=[rM 64 8,rM 65 12,ro (.callv 66 (.c (.one (.fn 13 []))) [(.t 64),(.t 65)]),rM 12 66]
abbrev r3_20:List RO:=[rM 67 9,rM 68 12,ro (.callv 69 (.c (.one (.fn 13 []))) [(.t 67),(.t 68)]),rM 12 69]
abbrev r3_21:List RO:=[rM 70 12,ro (.bin 71 .lss (.t 70) (c6 0)),rM 72 71,rN 72 (.mov 73 (.t 10)),rN 72 (.mov 74 (.t 6)),rN 72 (.callv 75 (.c (.one (.fn 12 []))) [(.t 73),(.t 74)]),rN 72 (.inv 76 (.t 75)),ro (.pick 77 (.t 72) (cB true) (.t 76)),rM 78 77,rN 78 (.mov 79 (.t 11)),rN 78 (.mov 80 (.t 7)),rN 78 (.beq 81 true (.t 79) (.t 80)),ro (.pick 82 (.t 78) (cB true) (.t 81))]
abbrev r3_22:List RO:=[ro (.mov 4 (cB false))]
abbrev r3_23:List RO:=[ro (.mov 13 (c6 1))]
abbrev r3_24:List RO:=[rM 83 10,rM 84 13,ro (.callv 85 (.c (.one (.fn 13 []))) [(.t 83),(.t 84)]),rM 13 85]
abbrev r3_25:List RO:=[ro (.mov 14 (c6 1))]
abbrev r3_26:List RO:=[rM 86 10,rM 87 14,ro (.callv 88 (.c (.one (.fn 14 []))) [(.t 86),(.t 87)]),rM 14 88]
abbrev r3_27:List RO:=[rM 89 14,ro (.bin 90 .lss (.t 89) (c6 0))]
abbrev r3_28:List RO:=[ro (.mov 4 (cB false))]
abbrev r3_29:List RO:=[rM 91 14,rM 92 13,ro (.bin 93 .neq (.t 91) (.t 92))]
abbrev r3_30:List RO:=[ro (.mov 4 (cB false))]
abbrev r3_31:List RO:=[rM 95 0,ro (.callv 96 (.c (.one (.fn 10 []))) [(.t 95)]),rM 97 1,ro (.callv 98 (.c (.one (.fn 10 []))) [(.t 97)]),ro (.callv 99 (.c (.one (.fn 11 []))) [(.t 96),(.t 98)]),rM 94 99,ro (.ext 100 (.t 94) 0),ro (.ext 101 (.t 94) 1),rM 15 100,rM 16 101]
abbrev r3_32:List RO:=[rM 102 15,rM 103 6,ro (.callv 104 (.c (.one (.fn 12 []))) [(.t 102),(.t 103)]),ro (.inv 105 (.t 104)),rM 106 105,rN 106 (.mov 107 (.t 16)),rN 106 (.mov 108 (.t 7)),rN 106 (.beq 109 true (.t 107) (.t 108)),ro (.pick 110 (.t 106) (cB true) (.t 109))]
abbrev r3_33:List RO:=[ro (.mov 4 (cB false))]
abbrev r3_34:List RO:=[ro (.mov 14 (c6 1))]
abbrev r3_35:List RO:=[rM 111 10,rM 112 14,ro (.callv 113 (.c (.one (.fn 14 []))) [(.t 111),(.t 112)]),rM 14 113]
abbrev r3_36:List RO:=[rM 114 14,ro (.bin 115 .lss (.t 114) (c6 0))]
abbrev r3_37:List RO:=[ro (.mov 4 (cB false))]
abbrev r3_38:List RO:=[rM 116 14,rM 117 13,ro (.bin 118 .neq (.t 116) (.t 117))]
abbrev r3_39:List RO:=[ro (.mov 4 (cB false))]
abbrev r3_40:List RO:=[ro (.mov 4 (cB true))]
def i3:IC:=(.seq (.reg r3_0) (.seq (.reg r3_1) (.seq (.reg r3_2) (.seq (.seq (.reg r3_3) (.cond (.t 21) (.seq (.reg r3_4) .ret) .skip)) (.seq (.reg r3_5) (.seq (.seq (.reg r3_6) (.cond (.t 26) (.seq (.reg r3_7) .ret) .skip)) (.seq (.reg r3_8) (.seq (.reg r3_9) (.seq (.reg r3_10) (.seq (.reg r3_11) (.seq (.seq (.reg r3_12) (.cond (.t 53) (.seq (.reg r3_13) .ret) .skip)) (.seq (.seq (.reg r3_14) (.cond (.t 58) (.seq (.reg r3_15) .ret) .skip)) (.seq (.seq (.reg r3_16) (.cond (.t 63) (.seq (.reg r3_17) .ret) .skip)) (.seq (.reg r3_18) (.seq (.reg r3_19) (.seq (.reg r3_20) (.seq (.seq (.reg r3_21) (.cond (.t 82) (.seq (.reg r3_22) .ret) .skip)) (.seq (.reg r3_23) (.seq (.reg r3_24) (.seq (.reg r3_25) (.seq (.reg r3_26) (.seq (.seq (.reg r3_27) (.cond (.t 90) (.seq (.reg r3_28) .ret) .skip)) (.seq (.seq (.reg r3_29) (.cond (.t 93) (.seq (.reg r3_30) .ret) .skip)) (.seq (.reg r3_31) (.seq (.seq (.reg r3_32) (.cond (.t 110) (.seq (.reg r3_33) .ret) .skip)) (.seq (.reg r3_34) (.seq (.reg r3_35) (.seq (.seq (.reg r3_36) (.cond (.t 115) (.seq (.reg r3_37) .ret) .skip)) (.seq (.seq (.reg r3_38) (.cond (.t 118) (.seq (.reg r3_39) .ret) .skip)) (.seq (.reg r3_40) .ret))))))))))))))))))))))))))))))
theorem o3:(Try.f3.body.bind fun c=>toIC Try.prog 119 c [])=some (i3,[]):=by kernel_rfl
theorem f3:FI Try.prog 119 i3 [.tmp 4] 3:=fi (by kernel_rfl) Try.func3 (by kernel_rfl) o3 (by kernel_rfl)
end Go.AW
