/- slices.Insert of one element and slices.Delete, for elements of numbers, truth values and strings: what they compute. Printed by a program of the prover's own (tool/genins.py). Lemmas. Conditions: none. -/
import Derived.Test.YtpabbbmfcgnhdaaGreatYd
set_option linter.unusedVariables false
set_option maxRecDepth 100000
namespace Go.AW
theorem al{l:bg}{n:Nat}{v:V}(h:lkO l n=some v):Ev l (.t n) v:=h
abbrev zkJ(sz bytes:Nat)(zs:List D)(ov sx:FuncId):List RO:=[
 ⟨⟨none,.mov 6<|.c<|.one .zs⟩,0,[]⟩]
abbrev zj2(sz bytes:Nat)(zs:List D)(ov sx:FuncId):List RO:=[
 ⟨⟨none,.mov 10<|.t 0⟩,0,[]⟩,
 ⟨⟨none,.mov 11<|.t 1⟩,0,[]⟩,
 ⟨⟨none,.slice 12 sz (.t 10) (some<|.t 11) none none⟩,0,[]⟩]
abbrev zj5(sz bytes:Nat)(zs:List D)(ov sx:FuncId):List RO:=[
 ⟨⟨none,.mov 13<|.t 2⟩,0,[]⟩,
 ⟨⟨none,.len 14 false<|.t 13⟩,0,[]⟩,
 ⟨⟨none,.mov 7<|.t 14⟩,0,[]⟩]
abbrev zkS(sz bytes:Nat)(zs:List D)(ov sx:FuncId):List RO:=[
 ⟨⟨none,.mov 15<|.t 7⟩,0,[]⟩,
 ⟨⟨none,.bin 16 .eql (.t 15)<|.c<|.one<|.d<|.int .i64 0⟩,0,[]⟩]
abbrev zjr(sz bytes:Nat)(zs:List D)(ov sx:FuncId):List RO:=[
 ⟨⟨none,.mov 17<|.t 0⟩,0,[]⟩,
 ⟨⟨none,.mov 6<|.t 17⟩,0,[]⟩]
abbrev zj9(sz bytes:Nat)(zs:List D)(ov sx:FuncId):List RO:=[
 ⟨⟨none,.mov 18<|.t 0⟩,0,[]⟩,
 ⟨⟨none,.len 19 false<|.t 18⟩,0,[]⟩,
 ⟨⟨none,.mov 8<|.t 19⟩,0,[]⟩]
abbrev zjD(sz bytes:Nat)(zs:List D)(ov sx:FuncId):List RO:=[
 ⟨⟨none,.mov 20<|.t 1⟩,0,[]⟩,
 ⟨⟨none,.mov 21<|.t 8⟩,0,[]⟩,
 ⟨⟨none,.bin 22 .eql (.t 20)<|.t 21⟩,0,[]⟩]
abbrev zjU(sz bytes:Nat)(zs:List D)(ov sx:FuncId):List RO:=[
 ⟨⟨none,.mov 23<|.t 0⟩,0,[]⟩,
 ⟨⟨none,.mov 24<|.t 2⟩,0,[]⟩,
 ⟨⟨none,.app 25 sz bytes zs (.t 23)<|.t 24⟩,0,[]⟩,
 ⟨⟨none,.mov 6<|.t 25⟩,0,[]⟩]
abbrev zkP(sz bytes:Nat)(zs:List D)(ov sx:FuncId):List RO:=[
 ⟨⟨none,.mov 26<|.t 8⟩,0,[]⟩,
 ⟨⟨none,.mov 27<|.t 7⟩,0,[]⟩,
 ⟨⟨none,.bin 28 .add (.t 26)<|.t 27⟩,0,[]⟩,
 ⟨⟨none,.mov 29<|.t 0⟩,0,[]⟩,
 ⟨⟨none,.cap 30<|.t 29⟩,0,[]⟩,
 ⟨⟨none,.bin 31 .gtr (.t 28)<|.t 30⟩,0,[]⟩]
abbrev zkE(sz bytes:Nat)(zs:List D)(ov sx:FuncId):List RO:=[
 ⟨⟨none,.mov 32<|.t 0⟩,0,[]⟩,
 ⟨⟨none,.mov 33<|.t 1⟩,0,[]⟩,
 ⟨⟨none,.slice 34 sz (.t 32) none (some<|.t 33) none⟩,0,[]⟩,
 ⟨⟨none,.mov 35<|.t 8⟩,0,[]⟩,
 ⟨⟨none,.mov 36<|.t 7⟩,0,[]⟩,
 ⟨⟨none,.bin 37 .add (.t 35)<|.t 36⟩,0,[]⟩,
 ⟨⟨none,.mov 38<|.t 1⟩,0,[]⟩,
 ⟨⟨none,.bin 39 .sub (.t 37)<|.t 38⟩,0,[]⟩,
 ⟨⟨none,.apm 40 sz bytes zs (.t 34)<|.t 39⟩,0,[]⟩,
 ⟨⟨none,.mov 9<|.t 40⟩,0,[]⟩]
abbrev zi3(sz bytes:Nat)(zs:List D)(ov sx:FuncId):List RO:=[
 ⟨⟨none,.mov 41<|.t 9⟩,0,[]⟩,
 ⟨⟨none,.mov 42<|.t 1⟩,0,[]⟩,
 ⟨⟨none,.slice 43 sz (.t 41) (some<|.t 42) none none⟩,0,[]⟩,
 ⟨⟨none,.mov 44<|.t 2⟩,0,[]⟩,
 ⟨⟨none,.copy 45 sz (.t 43)<|.t 44⟩,0,[]⟩]
abbrev zjj(sz bytes:Nat)(zs:List D)(ov sx:FuncId):List RO:=[
 ⟨⟨none,.mov 46<|.t 9⟩,0,[]⟩,
 ⟨⟨none,.mov 47<|.t 1⟩,0,[]⟩,
 ⟨⟨none,.mov 48<|.t 7⟩,0,[]⟩,
 ⟨⟨none,.bin 49 .add (.t 47)<|.t 48⟩,6,[]⟩,
 ⟨⟨none,.slice 50 sz (.t 46) (some<|.t 49) none none⟩,15,[]⟩,
 ⟨⟨none,.mov 51<|.t 0⟩,0,[]⟩,
 ⟨⟨none,.mov 52<|.t 1⟩,0,[]⟩,
 ⟨⟨none,.slice 53 sz (.t 51) (some<|.t 52) none none⟩,96,[]⟩,
 ⟨⟨none,.copy 54 sz (.t 50)<|.t 53⟩,255,[]⟩]
abbrev ziU(sz bytes:Nat)(zs:List D)(ov sx:FuncId):List RO:=[
 ⟨⟨none,.mov 55<|.t 9⟩,0,[]⟩,
 ⟨⟨none,.mov 6<|.t 55⟩,0,[]⟩]
abbrev ziT(sz bytes:Nat)(zs:List D)(ov sx:FuncId):List RO:=[
 ⟨⟨none,.mov 56<|.t 0⟩,0,[]⟩,
 ⟨⟨none,.mov 57<|.t 8⟩,0,[]⟩,
 ⟨⟨none,.mov 58<|.t 7⟩,0,[]⟩,
 ⟨⟨none,.bin 59 .add (.t 57)<|.t 58⟩,0,[]⟩,
 ⟨⟨none,.slice 60 sz (.t 56) none (some<|.t 59) none⟩,0,[]⟩,
 ⟨⟨none,.mov 0<|.t 60⟩,0,[]⟩]
abbrev ziL(sz bytes:Nat)(zs:List D)(ov sx:FuncId):List RO:=[
 ⟨⟨none,.mov 61<|.t 2⟩,0,[]⟩,
 ⟨⟨none,.mov 62<|.t 0⟩,0,[]⟩,
 ⟨⟨none,.mov 63<|.t 1⟩,0,[]⟩,
 ⟨⟨none,.mov 64<|.t 7⟩,0,[]⟩,
 ⟨⟨none,.bin 65 .add (.t 63)<|.t 64⟩,0,[]⟩,
 ⟨⟨none,.slice 66 sz (.t 62) (some<|.t 65) none none⟩,0,[]⟩,
 ⟨⟨none,.callv 67 (.c<|.one<|.fn ov []) [(.t 61),(.t 66)]⟩,0,[]⟩,
 ⟨⟨none,.inv 68<|.t 67⟩,0,[]⟩]
abbrev ziE(sz bytes:Nat)(zs:List D)(ov sx:FuncId):List RO:=[
 ⟨⟨none,.mov 69<|.t 0⟩,0,[]⟩,
 ⟨⟨none,.mov 70<|.t 1⟩,0,[]⟩,
 ⟨⟨none,.mov 71<|.t 7⟩,0,[]⟩,
 ⟨⟨none,.bin 72 .add (.t 70)<|.t 71⟩,6,[]⟩,
 ⟨⟨none,.slice 73 sz (.t 69) (some<|.t 72) none none⟩,15,[]⟩,
 ⟨⟨none,.mov 74<|.t 0⟩,0,[]⟩,
 ⟨⟨none,.mov 75<|.t 1⟩,0,[]⟩,
 ⟨⟨none,.slice 76 sz (.t 74) (some<|.t 75) none none⟩,96,[]⟩,
 ⟨⟨none,.copy 77 sz (.t 73)<|.t 76⟩,255,[]⟩]
abbrev ziZ(sz bytes:Nat)(zs:List D)(ov sx:FuncId):List RO:=[
 ⟨⟨none,.mov 78<|.t 0⟩,0,[]⟩,
 ⟨⟨none,.mov 79<|.t 1⟩,0,[]⟩,
 ⟨⟨none,.slice 80 sz (.t 78) (some<|.t 79) none none⟩,0,[]⟩,
 ⟨⟨none,.mov 81<|.t 2⟩,0,[]⟩,
 ⟨⟨none,.copy 82 sz (.t 80)<|.t 81⟩,0,[]⟩]
abbrev zi0(sz bytes:Nat)(zs:List D)(ov sx:FuncId):List RO:=[
 ⟨⟨none,.mov 83<|.t 0⟩,0,[]⟩,
 ⟨⟨none,.mov 6<|.t 83⟩,0,[]⟩]
abbrev ziG(sz bytes:Nat)(zs:List D)(ov sx:FuncId):List RO:=[
 ⟨⟨none,.mov 84<|.t 0⟩,0,[]⟩,
 ⟨⟨none,.mov 85<|.t 8⟩,0,[]⟩,
 ⟨⟨none,.slice 86 sz (.t 84) (some<|.t 85) none none⟩,0,[]⟩,
 ⟨⟨none,.mov 87<|.t 2⟩,0,[]⟩,
 ⟨⟨none,.copy 88 sz (.t 86)<|.t 87⟩,0,[]⟩]
abbrev zje(sz bytes:Nat)(zs:List D)(ov sx:FuncId):List RO:=[
 ⟨⟨none,.mov 89<|.t 0⟩,0,[]⟩,
 ⟨⟨none,.mov 90<|.t 1⟩,0,[]⟩,
 ⟨⟨none,.slice 91 sz (.t 89) (some<|.t 90) none none⟩,0,[]⟩,
 ⟨⟨none,.mov 92<|.t 7⟩,0,[]⟩,
 ⟨⟨none,.callv 93 (.c<|.one<|.fn sx []) [(.t 91),(.t 92)]⟩,0,[]⟩]
abbrev ziK(sz bytes:Nat)(zs:List D)(ov sx:FuncId):List RO:=[
 ⟨⟨none,.mov 94<|.t 0⟩,0,[]⟩,
 ⟨⟨none,.mov 6<|.t 94⟩,0,[]⟩]
abbrev zGy(sz bytes:Nat)(zs:List D)(ov sx:FuncId):IC:=(.seq (.reg<|zkJ sz bytes zs ov sx)
 (.seq (.reg<|zj2 sz bytes zs ov sx)
 (.seq (.reg<|zj5 sz bytes zs ov sx)
 (.seq (.seq (.reg<|zkS sz bytes zs ov sx)
 (.cond (.t 16) (.seq (.reg<|zjr sz bytes zs ov sx)
 .ret) .skip))
 (.seq (.reg<|zj9 sz bytes zs ov sx)
 (.seq (.seq (.reg<|zjD sz bytes zs ov sx)
 (.cond (.t 22) (.seq (.reg<|zjU sz bytes zs ov sx)
 .ret) .skip))
 (.seq (.seq (.reg<|zkP sz bytes zs ov sx)
 (.cond (.t 31) (.seq (.reg<|zkE sz bytes zs ov sx)
 (.seq (.reg<|zi3 sz bytes zs ov sx)
 (.seq (.regd<|zjj sz bytes zs ov sx)
 (.seq (.reg<|ziU sz bytes zs ov sx)
 .ret)))) .skip))
 (.seq (.reg<|ziT sz bytes zs ov sx)
 (.seq (.seq (.reg<|ziL sz bytes zs ov sx)
 (.cond (.t 68) (.seq (.regd<|ziE sz bytes zs ov sx)
 (.seq (.reg<|ziZ sz bytes zs ov sx)
 (.seq (.reg<|zi0 sz bytes zs ov sx)
 .ret))) .skip))
 (.seq (.reg<|ziG sz bytes zs ov sx)
 (.seq (.reg<|zje sz bytes zs ov sx)
 (.seq (.reg<|ziK sz bytes zs ov sx)
 .ret))))))))))))
theorem zE1{α:Type}{xs:List α}{i:Nat}{x zv:α}(h:i < xs.length):List.take i (xs.take i++List.replicate (xs.length+1 - i) zv)++List.take (xs.length+1 - i) [x]++List.drop (i+1) (xs.take i++List.replicate (xs.length+1 - i) zv)=xs.take i++x::List.replicate (xs.length - i) zv:=by
 have hl:(xs.take i).length=i:=by simp;omega
 rw[List.take_append_of_le_length (by omega),List.take_of_length_le (show(xs.take i).length≤i by omega),List.take_of_length_le (show[x].length≤xs.length+1 - i by simp;omega),List.drop_append,List.drop_eq_nil_of_le (by omega),hl,List.drop_replicate];simp only[List.append_assoc,List.nil_append,List.singleton_append,List.cons_append];congr 3;omega
theorem zFu{α:Type}{xs:List α}{i:Nat}{x zv:α}(h:i < xs.length):List.take (i+1) (xs.take i++x::List.replicate (xs.length - i) zv)++List.take (xs.length+1 - (i+1)) (xs.drop i)++List.drop (i+1+(xs.length - i)) (xs.take i++x::List.replicate (xs.length - i) zv)=xs.take i++x::xs.drop i:=by
 have hl:(xs.take i).length=i:=by simp;omega
 rw[List.drop_eq_nil_of_le (show(xs.take i++x::List.replicate (xs.length - i) zv).length≤i+1+(xs.length - i) by simp;omega),List.append_nil,List.take_of_length_le (show(xs.drop i).length≤xs.length+1 - (i+1) by simp),List.take_append,hl,List.take_of_length_le (show(xs.take i).length≤i+1 by omega)];have e:i+1 - i=1:=by omega
 rw[e];simp
theorem zGD{α:Type}{xs:List α}{i:Nat}(h:i < xs.length):List.take (i+1) xs++List.take (xs.length+1 - (i+1)) (xs.drop i)++List.drop (i+1+(xs.length - i)) xs=xs.take (i+1)++xs.drop i:=by
 rw[List.drop_eq_nil_of_le (show xs.length≤i+1+(xs.length - i) by omega),List.append_nil,List.take_of_length_le (show(xs.drop i).length≤xs.length+1 - (i+1) by simp)]
theorem zFo{α:Type}{xs:List α}{i:Nat}{x:α}(h:i < xs.length):List.take i (xs.take (i+1)++xs.drop i)++List.take (xs.length+1 - i) [x]++List.drop (i+1) (xs.take (i+1)++xs.drop i)=xs.take i++x::xs.drop i:=by
 have hl:(xs.take (i+1)).length=i+1:=by simp;omega
 rw[List.take_append_of_le_length (by omega),List.take_take,Nat.min_eq_left (by omega),List.take_of_length_le (show[x].length≤xs.length+1 - i by simp;omega),List.drop_append,hl,List.drop_eq_nil_of_le (by omega)];simp
theorem zo2{P:Program}{α:Type}{f:α→List D}{zv x:α}{xs:List α}{i sz bytes:Nat}{zs:List D}{ov sx:FuncId}(hfl:∀y,((f y).all D.flat)=true)(hz:zs=f zv)(hby:bytes≤65536)(h0:sz≠0)(hi:i≤xs.length)(hb:xs.length+1≤2147483648)(hov:zkD P ov):
  AW P 95 (zGy sz bytes zs ov sx) (X5 [⟨.sl sz<|xs.map f,.g⟩,⟨.int .i64 (i:Int),.b⟩,⟨.sl sz<|[x].map f,.g⟩] [.tmp 6] [.sl sz ((xs.take i++x::xs.drop i).map f)]) (mk [(0,.one<|.sl 0 0 xs.length),(1,.one<|.d<|.int .i64 (i:Int)),(2,.one<|.sl 128 0 1)] [(128,.data sz ([x].map f) true none),(0,.data sz (xs.map f) true none)]<|lk []):=by
 refine AW.seq ?_;refine yC ?_;refine zV eC ?_;refine zw ?_;refine TQ.qn ?_;refine AW.seq ?_;refine yC ?_;refine zV (al O) ?_;refine zV (al O) ?_;refine KR (r:=i) (s:=xs.length - i) (al O) (bS O bZ) O (Bd.at eZ) kz O O ⟨by omega,by omega,by omega⟩ ?_;refine zw ?_;refine TQ.qn ?_;refine AW.seq ?_;refine yC ?_;refine zV (al O) ?_;refine ze7 eZ ?_;refine zV eZ ?_;refine zw ?_;refine TQ.qn ?_;refine AW.seq ?_;refine AW.seq ?_;refine yC ?_;refine zV eZ ?_;refine zjy eZ eC ?_;refine zw ?_;refine TQ.qn ?_;refine zaN eZ (by decide) ?_;refine AW.skip ?_;refine TQ.qn ?_;refine AW.seq ?_;refine yC ?_;refine zV (al O) ?_;refine ze7 eZ ?_;refine zV eZ ?_;refine zw ?_;refine TQ.qn ?_;refine AW.seq ?_;refine AW.seq ?_;refine yC ?_;refine zV (al O) ?_;refine zV (al O) ?_;refine zjy (al O) eZ ?_;refine zw ?_;refine TQ.qn ?_;by_cases hin:(i:Int)=(xs.length:Int)
 ·have hin2:i=xs.length:=by omega
  have e:xs.take i++x::xs.drop i=xs++[x]:=by rw[hin2];simp
  rw[e];refine zb4 eZ (decide_eq_true hin) ?_;refine AW.seq ?_;refine yC ?_;refine zV (al O) ?_;refine zV (al O) ?_;refine Qt (f:=f) (gl:=[]) (xs:=xs) (ys:=[x]) (q:=(xs++[x]).length) (al O) eZ (bS O bZ) O (El.named bZ O hfl) O (by simp;omega) hby (by decide) (erL.cons O<|erL.cons O<|erL.cons O<|erL.cons O<|erL.cons O<|erL.cons O<|erL.cons O<|erL.cons O<|erL.cons O<|erL.cons O<|erL.cons O<|erL.cons O<|erL.cons O<|erL.cons O<|erL.cons O<|erL.cons O<|erL.cons O<|erL.cons O<|erL.cons O<|erL.cons O erL.nil) (erH.cons O O<|erH.drop O erH.nil) GK.nil ?_;refine zV eZ ?_;refine zw ?_;refine TQ.qn ?_;refine AW.ret ?_;refine TQ.qr ?_;exact zdN (RL.cons (RV.tmp eZ) (VO.sl bZ (List.length_map _)<|qf hfl) RL.nil) (ML.give<|ML.lent<|ML.give ML.nil) (by decide)
 ·have hin2:i < xs.length:=by omega
  refine zaN eZ (decide_eq_false hin) ?_;refine AW.skip ?_;refine TQ.qn ?_;refine zfr (t:=0) (n:=0) (xs:=xs.map f) (by rw[List.length_map];exact(al O)) (bS O bZ) (fun c hc=> ?_);rw[List.length_map] at hc;have e1:IntKind.wrap .i64 ((xs.length:Int)+((1:Nat):Int))=((xs.length+1:Nat):Int):=by rw[zjz (by omega) (by omega)];omega
  have e2:IntKind.wrap .i64 ((i:Int)+((1:Nat):Int))=((i+1:Nat):Int):=by rw[zjz (by omega) (by omega)];omega
  have e3:IntKind.wrap .i64 (((xs.length+1:Nat):Int) - (i:Int))=((xs.length+1 - i:Nat):Int):=by rw[zjz (by omega) (by omega)];omega
  refine AW.seq ?_;refine AW.seq ?_;refine yC ?_;refine zV (al O) ?_;refine zV (al O) ?_;refine zfj (al O) eZ e1 ?_;refine zV (al O) ?_;refine zKf eZ bZ (Nat.sub_zero c) ?_;refine zHs (al O) eZ ?_;refine zw ?_;refine TQ.qn ?_;by_cases hg:((c:Nat):Int) < ((xs.length+1:Nat):Int)
  ·have hg2:c < xs.length+1:=by omega
   refine zb4 eZ (decide_eq_true hg) ?_;refine AW.seq ?_;refine yC ?_;refine zV (al O) ?_;refine zV (al O) ?_;refine KR (r:=0) (s:=i) (al O) bZ O kz (Bd.at eZ) O O ⟨by decide,by omega,by omega⟩ ?_;refine zV (al O) ?_;refine zV (al O) ?_;refine zfj (al O) eZ e1 ?_;refine zV (al O) ?_;refine zFR (al O) eZ e3 ?_;refine zJq (f:=f) (m:=2560) (xs:=xs) (zv:=zv) (L:=xs.length+1) (al O) eZ bZ O (nS O<|nS O<|nS O nZ) hz (by omega) (by omega) (by omega) (by omega) hby hfl (by omega) ?_;refine zV eZ ?_;refine zw ?_;refine TQ.qn ?_;refine AW.seq ?_;refine yC ?_;refine zV eZ ?_;refine zV (al O) ?_;refine KR (r:=i) (s:=xs.length+1 - i) (al O) bZ O (Bd.at eZ) kz O O ⟨by omega,by omega,by omega⟩ ?_;refine zV (al O) ?_;refine zh9 (f:=f) (ys:=[x]) (q:=1) (zs:=xs.take i++x::List.replicate (xs.length - i) zv) (al O) eZ bZ (zb3 (ys:=[x]) (bS O<|bS O bZ) (by simp<;>omega) hfl (by rw[Nat.min_eq_left (by omega)];rfl)) (by simp<;>omega) (by simp<;>omega) (zE1 hin2) ?_;refine zw ?_;refine TQ.qn ?_;refine AW.seq ?_;refine AW.regd ?_;refine zV (al O) ?_;refine zV (al O) ?_;refine zV (al O) ?_;refine zfj (al O) eZ e2 ?_;refine KR (r:=i+1) (s:=xs.length+1 - (i+1)) (al O) bZ O (Bd.at eZ) kz O O ⟨by omega,by omega,by omega⟩ ?_;refine zV (al O) ?_;refine zV (al O) ?_;refine KR (r:=i) (s:=xs.length - i) (al O) (bS O<|bS O bZ) O (Bd.at eZ) kz O O ⟨by omega,by omega,by omega⟩ ?_;refine zh9 (f:=f) (ys:=xs.drop i) (q:=xs.length - i) (zs:=xs.take i++x::xs.drop i) (al O) eZ bZ (zb3 (ys:=xs.drop i) (bS O<|bS O bZ) (by omega) hfl (by rw[List.take_of_length_le (by simp<;>omega)])) (by simp<;>omega) (by simp<;>omega) (zFu hin2) ?_;refine zw ?_;refine TQ.qn ?_;refine AW.seq ?_;refine yC ?_;refine zV (al O) ?_;refine zV eZ ?_;refine zw ?_;refine TQ.qn ?_;refine AW.ret ?_;refine TQ.qr ?_;exact zdN (RL.cons (RV.tmp eZ) (VO.sl bZ (by simp<;>omega)<|qf hfl) RL.nil) (ML.give<|ML.lent<|ML.give ML.nil) (by decide)
  ·have hg2:xs.length+1≤c:=by omega
   refine zaN eZ (decide_eq_false hg) ?_;refine AW.skip ?_;refine TQ.qn ?_;refine AW.seq ?_;refine yC ?_;refine zV (al O) ?_;refine zV (al O) ?_;refine zV (al O) ?_;refine zfj (al O) eZ e1 ?_;refine zo3 (r:=0) (s:=xs.length+1) (al O) bZ kz (Bd.at eZ) O O ⟨by decide,by omega,by omega⟩ ?_;refine zV eZ ?_;refine zw ?_;refine TQ.qn ?_;refine AW.seq ?_;refine AW.seq ?_;refine zj ?_;refine zY ?_;refine zV (al O) ?_;refine zw ?_;refine zY ?_;refine zV (al O) ?_;refine zw ?_;refine zY ?_;refine zV (al O) ?_;refine zw ?_;refine zY ?_;refine zV (al O) ?_;refine zw ?_;refine zY ?_;refine zfj (al O) eZ e2 ?_;refine zw ?_;refine zY ?_;refine KR (r:=i+1) (s:=xs.length+1 - (i+1)) (al O) bZ O (Bd.at eZ) kz O O ⟨by omega,by omega,by omega⟩ ?_;refine zw ?_;refine zGX hov (al O) eZ (bS O bZ) bZ h0 O ?_;refine zk ?_;refine zGS eZ ?_;refine zw ?_;refine TQ.qn ?_;refine zb4 eZ O ?_;refine AW.seq ?_;refine AW.regd ?_;refine zV (al O) ?_;refine zV (al O) ?_;refine zV (al O) ?_;refine zfj (al O) eZ e2 ?_;refine KR (r:=i+1) (s:=xs.length+1 - (i+1)) (al O) bZ O (Bd.at eZ) kz O O ⟨by omega,by omega,by omega⟩ ?_;refine zV (al O) ?_;refine zV (al O) ?_;refine KR (r:=i) (s:=xs.length+1 - i) (al O) bZ O (Bd.at eZ) kz O O ⟨by omega,by omega,by omega⟩ ?_;refine zh9 (f:=f) (ys:=xs.drop i) (q:=xs.length - i) (zs:=xs.take (i+1)++xs.drop i) (al O) eZ bZ (zb3 (ys:=xs.drop i) bZ (by omega) hfl (by rw[List.take_of_length_le (by simp<;>omega)])) (by omega) (by simp<;>omega) (zGD hin2) ?_;refine zw ?_;refine TQ.qn ?_;refine AW.seq ?_;refine yC ?_;refine zV (al O) ?_;refine zV (al O) ?_;refine KR (r:=i) (s:=xs.length+1 - i) (al O) bZ O (Bd.at eZ) kz O O ⟨by omega,by omega,by omega⟩ ?_;refine zV (al O) ?_;refine zh9 (f:=f) (ys:=[x]) (q:=1) (zs:=xs.take i++x::xs.drop i) (al O) eZ bZ (zb3 (ys:=[x]) (bS O<|bS O bZ) (by simp<;>omega) hfl (by rw[Nat.min_eq_left (by omega)];rfl)) (by simp<;>omega) (by simp<;>omega) (zFo hin2) ?_;refine zw ?_;refine TQ.qn ?_;refine AW.seq ?_;refine yC ?_;refine zV (al O) ?_;refine zV eZ ?_;refine zw ?_;refine TQ.qn ?_;refine AW.ret ?_;refine TQ.qr ?_;exact zdN (RL.cons (RV.tmp eZ) (VO.sl bZ (by simp<;>omega)<|qf hfl) RL.nil) (ML.give<|ML.lent<|ML.give ML.nil) (by decide)
abbrev zkC(sz bytes:Nat)(zs:List D):List RO:=[
 ⟨⟨none,.mov 6<|.c<|.one .zs⟩,0,[]⟩]
abbrev zkG(sz bytes:Nat)(zs:List D):List RO:=[
 ⟨⟨none,.mov 8<|.t 0⟩,0,[]⟩,
 ⟨⟨none,.mov 9<|.t 1⟩,0,[]⟩,
 ⟨⟨none,.mov 10<|.t 2⟩,0,[]⟩,
 ⟨⟨none,.mov 11<|.t 0⟩,0,[]⟩,
 ⟨⟨none,.len 12 false<|.t 11⟩,0,[]⟩,
 ⟨⟨none,.slice 13 sz (.t 8) (some<|.t 9) (some<|.t 10)<|some<|.t 12⟩,0,[]⟩]
abbrev zjx(sz bytes:Nat)(zs:List D):List RO:=[
 ⟨⟨none,.mov 14<|.t 1⟩,0,[]⟩,
 ⟨⟨none,.mov 15<|.t 2⟩,0,[]⟩,
 ⟨⟨none,.bin 16 .eql (.t 14)<|.t 15⟩,0,[]⟩]
abbrev zjF(sz bytes:Nat)(zs:List D):List RO:=[
 ⟨⟨none,.mov 17<|.t 0⟩,0,[]⟩,
 ⟨⟨none,.mov 6<|.t 17⟩,0,[]⟩]
abbrev zkN(sz bytes:Nat)(zs:List D):List RO:=[
 ⟨⟨none,.mov 18<|.t 0⟩,0,[]⟩,
 ⟨⟨none,.len 19 false<|.t 18⟩,0,[]⟩,
 ⟨⟨none,.mov 7<|.t 19⟩,0,[]⟩]
abbrev zj3(sz bytes:Nat)(zs:List D):List RO:=[
 ⟨⟨none,.mov 20<|.t 0⟩,0,[]⟩,
 ⟨⟨none,.mov 21<|.t 1⟩,0,[]⟩,
 ⟨⟨none,.slice 22 sz (.t 20) none (some<|.t 21) none⟩,3,[]⟩,
 ⟨⟨none,.mov 23<|.t 0⟩,0,[]⟩,
 ⟨⟨none,.mov 24<|.t 2⟩,0,[]⟩,
 ⟨⟨none,.slice 25 sz (.t 23) (some<|.t 24) none none⟩,24,[]⟩,
 ⟨⟨none,.app 26 sz bytes zs (.t 22)<|.t 25⟩,63,[]⟩,
 ⟨⟨none,.mov 0<|.t 26⟩,127,[]⟩]
abbrev zjo(sz bytes:Nat)(zs:List D):List RO:=[
 ⟨⟨none,.mov 27<|.t 0⟩,0,[]⟩,
 ⟨⟨none,.mov 28<|.t 0⟩,0,[]⟩,
 ⟨⟨none,.len 29 false<|.t 28⟩,0,[]⟩,
 ⟨⟨none,.mov 30<|.t 7⟩,0,[]⟩,
 ⟨⟨none,.slice 31 sz (.t 27) (some<|.t 29) (some<|.t 30) none⟩,0,[]⟩,
 ⟨⟨none,.clear sz zs<|.t 31⟩,0,[]⟩]
abbrev zj0(sz bytes:Nat)(zs:List D):List RO:=[
 ⟨⟨none,.mov 32<|.t 0⟩,0,[]⟩,
 ⟨⟨none,.mov 6<|.t 32⟩,0,[]⟩]
abbrev zHf(sz bytes:Nat)(zs:List D):IC:=(.seq (.reg<|zkC sz bytes zs)
 (.seq (.reg<|zkG sz bytes zs)
 (.seq (.seq (.reg<|zjx sz bytes zs)
 (.cond (.t 16) (.seq (.reg<|zjF sz bytes zs)
 .ret) .skip))
 (.seq (.reg<|zkN sz bytes zs)
 (.seq (.regd<|zj3 sz bytes zs)
 (.seq (.reg<|zjo sz bytes zs)
 (.seq (.reg<|zj0 sz bytes zs)
 .ret)))))))
theorem zHj{α:Type}{xs:List α}{i j:Nat}{zs:List α}(h:i < j)(hj:j≤xs.length):List.take (i+(xs.length - j)) (List.take (i+(xs.length - j)) (xs.take i++xs.drop j++xs.drop (i+(xs.length - j)))++zs++List.drop (i+(xs.length - j)+(xs.length - (i+(xs.length - j)))) (xs.take i++xs.drop j++xs.drop (i+(xs.length - j))))=xs.take i++xs.drop j:=by
 have hl:(xs.take i++xs.drop j).length=i+(xs.length - j):=by simp;omega
 rw[List.take_append_of_le_length (show i+(xs.length - j)≤(xs.take i++xs.drop j).length by omega),List.take_of_length_le (show(xs.take i++xs.drop j).length≤i+(xs.length - j) by omega),List.append_assoc,List.take_append_of_le_length (by omega),List.take_of_length_le (by omega)]
theorem zoZ{P:Program}{α:Type}{f:α→List D}{zv:α}{xs:List α}{i j sz bytes:Nat}{zs:List D}(hfl:∀y,((f y).all D.flat)=true)(hz:zs=f zv)(hzl:zs.length=sz)(hij:i < j)(hj:j≤xs.length)(hb:xs.length≤2147483648):
  AW P 33 (zHf sz bytes zs) (X5 [⟨.sl sz<|xs.map f,.g⟩,⟨.int .i64 (i:Int),.b⟩,⟨.int .i64 (j:Int),.b⟩] [.tmp 6] [.sl sz ((xs.take i++xs.drop j).map f)]) (mk [(0,.one<|.sl 0 0 xs.length),(1,.one<|.d<|.int .i64 (i:Int)),(2,.one<|.d<|.int .i64 (j:Int))] [(0,.data sz (xs.map f) true none)]<|lk []):=by
 refine zfr (t:=0) (n:=0) (xs:=xs.map f) (by rw[List.length_map];exact eZ) bZ (fun c hc=> ?_);rw[List.length_map] at hc;refine AW.seq ?_;refine yC ?_;refine zV eC ?_;refine zw ?_;refine TQ.qn ?_;refine AW.seq ?_;refine yC ?_;refine zV (al O) ?_;refine zV (al O) ?_;refine zV (al O) ?_;refine zV (al O) ?_;refine ze7 eZ ?_;refine zGH (al O) (al O) (al O) eZ (by omega) ⟨by omega,by omega,by omega⟩ ?_;refine zw ?_;refine TQ.qn ?_;refine AW.seq ?_;refine AW.seq ?_;refine yC ?_;refine zV (al O) ?_;refine zV (al O) ?_;refine zjy (al O) eZ ?_;refine zw ?_;refine TQ.qn ?_;refine zaN eZ (decide_eq_false (by omega)) ?_;refine AW.skip ?_;refine TQ.qn ?_;refine AW.seq ?_;refine yC ?_;refine zV (al O) ?_;refine ze7 eZ ?_;refine zV eZ ?_;refine zw ?_;refine TQ.qn ?_;refine AW.seq ?_;refine AW.regd ?_;refine zV (al O) ?_;refine zV (al O) ?_;refine KR (r:=0) (s:=i) (al O) bZ O kz (Bd.at eZ) O O ⟨by decide,by omega,by omega⟩ ?_;refine zV (al O) ?_;refine zV (al O) ?_;refine KR (r:=j) (s:=xs.length - j) (al O) bZ O (Bd.at eZ) kz O O ⟨by omega,by omega,by omega⟩ ?_;refine zy8 (f:=f) (ys:=xs.drop j) (q:=i+(xs.length - j)) (ws:=xs.take i++xs.drop j++xs.drop (i+(xs.length - j))) (al O) eZ bZ (zb3 (ys:=xs.drop j) bZ (by omega) hfl (by rw[List.take_of_length_le (by simp<;>omega)])) (by omega) (by simp<;>omega) hc (by simp<;>omega) O ?_;refine zV eZ ?_;refine zw ?_;refine TQ.qn ?_;refine AW.seq ?_;refine yC ?_;refine zV eZ ?_;refine zV (al O) ?_;refine ze7 eZ ?_;refine zV (al O) ?_;refine zo3 (r:=i+(xs.length - j)) (s:=xs.length - (i+(xs.length - j))) (al O) bZ (Bd.at<|al O) (Bd.at eZ) O O ⟨by omega,by omega,by omega⟩ ?_;refine zBV (zv:=zv) eZ bZ hz hzl (by simp<;>omega) ?_;refine zw ?_;refine TQ.qn ?_;refine AW.weaken (zlv 0 (i+(xs.length - j)) bZ) ?_;refine AW.seq ?_;refine yC ?_;refine zV (al O) ?_;refine zV eZ ?_;refine zw ?_;refine TQ.qn ?_;refine AW.ret ?_;rw[zHj hij hj];exact zdN (RL.cons (RV.tmp eZ) (VO.sl bZ (by simp<;>omega)<|qf hfl) RL.nil) (ML.give<|ML.lent<|ML.lent ML.nil) (by decide)
end Go.AW
