/- One element that is written more than once: only what was written last stays. Conditions: each theorem's own. -/
import Derived.Test.YtpabbbmfcgnhdaaGreatYi
set_option linter.unusedVariables false
namespace Go.AW
variable {P:Program} {l l' gl gl':bB} {h h':bC} {g:Nat→V} {Q:AW.St→Prop} {rs:List RO} {dep d:Nat} {A:List Nat} {x y:Opd} {v u:V} {nn:Nat} {L:List RO}
theorem qQ{α:Type}{xs:List α}{i:Int}{t t':α}(H:idx xs i=some t):idx (xs.set i.toNat t') i=some t':=by
 obtain⟨h0,h1,h2⟩:=XJ H;unfold idx;rw[if_pos h0];exact jp h1
theorem qT{α:Type}{f:α→List D}{n i j m sz:Nat}{zs:List D}{cs:List C}{own:Bool}{cp:Option Nat}{xs:List α}{t t0 t':α}{es:List D}(hx:Ev l x (.one<|.ptr<|.nm n i j))(hy:Ev l y v)(hv:v.cells=some cs)(hl:cs.length=m)(hb:LB (qU A h) n (.data sz ((xs.set i t0).map f) own cp))
  (hi:(xs.set i t0)[i]? =some t) (he:xW own zs cs=some es) (hc:(if j+m≤(f t).length then some (splice (f t) j es) else none)=some (f t')) (K:RG P rs (mk l ((n,.data sz ((xs.set i t').map f) own cp)::h) g) Q):RG P (⟨⟨none,.store m zs x y⟩,dep,A⟩::rs) (mk l h g) Q:=
 xx hx hy hv hl hb hi he hc (by rw[List.set_set];exact K)
theorem kL{α β:Type}{f:α→List D}{f':β→List D}{d1 d2 d3 p n i j sz sz':Nat}{x2:Opd}{xs:List α}{ys ys':List β}{cp:Option Nat}{t t0 t':α}{k:FuncId}{v2:D}{rs:List D}(hx:Ev l (.t p) (.one<|.ptr<|.nm n i j))(hb:LB h n (.data sz ((xs.set i t0).map f) true cp))(hi:(xs.set i t0)[i]? =some t)
  (hj:(f t)[j]? =some (.sl sz'<|ys.map f')) (hnn:Nat.blt n 1000000=true) (hne:Nat.beq d1 d2=false) (hx2:Ev ((d1,.one .any)::l) x2 (.one<|.d v2)) (hv2:v2.flat=true) (hfn:Fn P k [⟨.sl sz'<|ys.map f',.m<|.sl sz'<|ys'.map f'⟩,⟨v2,.b⟩] true rs)
  (ht:(f t).set j (.sl sz'<|ys'.map f')=f t') (hu:KV rs=u) (h1:erL [zQ n] ((d2,.one<|.d v2)::(d1,.one .any)::l) l') (h2:erH [zQ n] h h') (h3:erL [zQ n] gl gl')
  (K:RM P nn L (mk ((d3,u)::l') ((n,.data sz ((xs.set i t').map f) true cp)::h')<|lk gl') Q):
  RM P nn (⟨⟨none,.load d1 none<|.t p⟩,0,[]⟩::⟨⟨none,.mov d2 x2⟩,0,[]⟩::⟨⟨none,.callv d3 (.c<|.one<|.fn k []) [.t d1,.t d2]⟩,0,[]⟩::L) (mk l h<|lk gl) Q:=
 zi9 hx hb hi hj hnn hne hx2 hv2 hfn ht hu h1 h2 h3 (by rw[List.set_set];exact K)
end Go.AW
