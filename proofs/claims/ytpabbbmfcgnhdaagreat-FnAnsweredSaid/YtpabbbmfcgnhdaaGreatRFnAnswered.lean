/- Plain laws: what the plain functions answer. Conditions: each theorem's own. -/
import Derived.Test.YtpabbbmfcgnhdaaGreatQFnAnswered
set_option linter.unusedVariables false
set_option linter.unusedSimpArgs false
set_option maxRecDepth 100000
namespace Go.AW
instance (x:Int):Decidable (okI x):=inferInstanceAs (Decidable (_∧_))
structure Cg(c:qX):Prop where
 ok:yA c=some true
 k1:decide (c.Kind≤1000000001)=true
 k2:decide (c.Key≤1000000001)=true
 k3:decide (c.Value≤1000000001)=true
 n1:okI c.Kind
 n2:okI c.Key
 n3:okI c.Value
theorem mkW{m:qg}(v:ByteArray)(fs xs:List Int)(hx:∀x∈xs,okI x:=by first|decide|(simp[g.n1,g.n2,g.n3];decide))(hfs:Zn v=fs:=by exact O)(hxs:zcE m fs=xs:=by exact O)(hfit:jH m=some true:=by first|(obtain⟨hc,hc1,hc2,hc3,hc4,hc5,hc6⟩:=g;have he:qw (e1 c)=some true:=evl;have hl:qj (lg [e1 c])=some true:=evw;have h0:qj (lg [])=some true:=evw;exact evw)|(have h0:qj (lg [])=some true:=evw;exact evw))(hform:jD m.Kind=some v:=by exact evw)(hn:fs.length≤10:=by decide)(h65:∀z∈fs,z≠65:=by decide)(h60:∀z∈fs,(KY m z).length≤60:=by simp[KY,zgX])(hl:xs.length≤60:=by exact Nat.le_of_ble_eq_true O)(hlog:qj m.Log=some true:=by first|(obtain⟨hc,hc1,hc2,hc3,hc4,hc5,hc6⟩:=g;have he:qw (e1 c)=some true:=evl;have hl:qj (lg [e1 c])=some true:=evw;have h0:qj (lg [])=some true:=evw;exact evw)|(have h0:qj (lg [])=some true:=evw;exact evw))(him:m.Log.Image=⟨[],[]⟩:=by exact O)(hen:m.Log.Entries.length≤10:=by exact Nat.le_of_ble_eq_true O)(hr:(∀x∈xs,okI x)→∀n,rest (yI xs) n (zeE xs 0)=some (m,0):=by first|(obtain⟨hc,hc1,hc2,hc3,hc4,hc5,hc6⟩:=g;have he:qw (e1 c)=some true:=evl;have hl:qj (lg [e1 c])=some true:=evw;have h0:qj (lg [])=some true:=evw;intro hx n;exact evw)|(have h0:qj (lg [])=some true:=evw;intro hx n;exact evw)):∃w,Wr m w:=zJO m v hfs hxs hfit hform hn h65 h60 hx hl ⟨hlog,him,hen⟩ (hr hx)
set_option maxHeartbeats 4000000
theorem wP1{c:qX}(g:Cg c):∃w,Wr (zio 0 0 1 0 1 c) w:=mkW ⟨#[70,86,79,67,99,114,120]⟩ [70,86,79,67,99,114,120] [2,0,0,1,0,1,1,c.Kind,c.Key,c.Value]
theorem wP2{c:qX}(g:Cg c):∃w,Wr (zio 1 1 2 1 2 c) w:=mkW ⟨#[70,86,79,67,99,114,120]⟩ [70,86,79,67,99,114,120] [2,1,1,2,1,1,2,c.Kind,c.Key,c.Value]
theorem wO1:∃w,Wr (mOk 1 0 1) w:=mkW ⟨#[70,86,79]⟩ [70,86,79] [3,1,0,1]
theorem wO2:∃w,Wr (mOk 2 0 1) w:=mkW ⟨#[70,86,79]⟩ [70,86,79] [3,2,0,1]
theorem wO3:∃w,Wr (mOk 0 1 1) w:=mkW ⟨#[70,86,79]⟩ [70,86,79] [3,0,1,1]
theorem wO4:∃w,Wr (mOk 2 1 1) w:=mkW ⟨#[70,86,79]⟩ [70,86,79] [3,2,1,1]
theorem wO5:∃w,Wr (mOk 0 1 2) w:=mkW ⟨#[70,86,79]⟩ [70,86,79] [3,0,1,2]
theorem wO6:∃w,Wr (mOk 2 1 2) w:=mkW ⟨#[70,86,79]⟩ [70,86,79] [3,2,1,2]
theorem wC1:∃w,Wr (zdb 0 0 1) w:=mkW ⟨#[70,86,67]⟩ [70,86,67] [4,0,0,1]
theorem wC2:∃w,Wr (zdb 1 1 2) w:=mkW ⟨#[70,86,67]⟩ [70,86,67] [4,1,1,2]
theorem wT0:∃w,Wr (ze8 0 1) w:=mkW ⟨#[70,86]⟩ [70,86] [5,0,1]
theorem wT1:∃w,Wr (ze8 1 1) w:=mkW ⟨#[70,86]⟩ [70,86] [5,1,1]
theorem wT2:∃w,Wr (ze8 2 1) w:=mkW ⟨#[70,86]⟩ [70,86] [5,2,1]
theorem wD0{c:qX}(g:Cg c):∃w,Wr (mDo 0 1 1 [e1 c]) w:=mkW ⟨#[70,86,78,67,76]⟩ [70,86,78,67,76] [6,0,1,0,1,0,0,0,1,1,1,c.Kind,c.Key,c.Value]
theorem wD2{c:qX}(g:Cg c):∃w,Wr (mDo 2 1 1 [e1 c]) w:=mkW ⟨#[70,86,78,67,76]⟩ [70,86,78,67,76] [6,2,1,0,1,0,0,0,1,1,1,c.Kind,c.Key,c.Value]
theorem wS{c:qX}(g:Cg c):∃w,Wr (zka 1 1 1 [e1 c]) w:=mkW ⟨#[70,86,67,76]⟩ [70,86,67,76] [7,1,1,1,0,0,0,1,1,1,c.Kind,c.Key,c.Value]
theorem wA:∃w,Wr (zgw 0 1) w:=mkW ⟨#[70,110]⟩ [70,110] [8,0,1]
theorem wB1{c:qX}(g:Cg c):∃w,Wr (zij 1 1 1 1 [e1 c]) w:=mkW ⟨#[70,86,110,67,76]⟩ [70,86,110,67,76] [9,1,1,1,1,0,0,0,1,1,1,c.Kind,c.Key,c.Value]
theorem wB2{c:qX}(g:Cg c):∃w,Wr (zij 2 1 1 1 [e1 c]) w:=mkW ⟨#[70,86,110,67,76]⟩ [70,86,110,67,76] [9,2,1,1,1,0,0,0,1,1,1,c.Kind,c.Key,c.Value]
end Go.AW
