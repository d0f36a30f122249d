/- Rows of rows that are wholly one's own: rules on written-out states. Lemmas of an own program logic; nothing is claimed here. Conditions: none. -/
import Derived.Test.YtcicokdmnhbjjaaGreatYg
import Derived.Test.YtcicokdmnhbjjaaGreatXf
set_option linter.unusedVariables false
namespace Go.AW
theorem mk_er {ns : List Nat} {l l' gl gl' : List (Nat × V)} {h h' : List (Nat × Blk)} (h1 : erL ns l l') (h2 : erH ns h h') (h3 : erL ns gl gl') : (mk l h (lk gl)).er ns = mk l' h' (lk gl') := by
  refine St.ext' (fun t => ?_) (fun k => ?_) ?_
  · exact (h1.lk t).symm
  · exact (h2.lk k).symm
  · funext t; exact (h3.lk t).symm
section
variable {P : Program} {nn : Nat} {L rs0 : List RO} {Q : St → Prop} {l l' gl gl' : List (Nat × V)} {h h' : List (Nat × Blk)} {g : Nat → V} {dep d : Nat} {A : List Nat} {x y : Opd} {v u : V}
theorem VOs.cOs {cs : List C} {ds : List D} {ns : List Nat} (H : VOs h cs ds ns) : cOs (mk l h g) cs ds ns := by
  have := VO.aggs H
  have := vO_hp (s := mk [] h fun _ => .top) (s' := mk l h g) rfl this
  exact this
theorem rmInner {α β : Type} {f : α → List D} {f' : β → List D} {d1 d2 d3 p n i j sz sz' : Nat} {x2 : Opd} {xs : List α} {ys ys' : List β} {cp : Option Nat} {t t' : α} {k : FuncId} {v2 : D} {rs : List D} (hx : Ev l (.t p) (.one (.ptr (.nm n i j)))) (hb : LB h n (.data sz (xs.map f) true cp)) (hi : xs[i]? = some t)
    (hj : (f t)[j]? = some (.sl sz' (ys.map f'))) (hnn : Nat.blt n 1000000 = true) (hne : Nat.beq d1 d2 = false) (hx2 : Ev ((d1, .one .any) :: l) x2 (.one (.d v2))) (hv2 : v2.flat = true) (hfn : Fn P k [⟨.sl sz' (ys.map f'), .m (.sl sz' (ys'.map f'))⟩, ⟨v2, .b⟩] true rs)
    (ht : (f t).set j (.sl sz' (ys'.map f')) = f t') (hu : immR rs = u) (h1 : erL [subKey n] ((d2, .one (.d v2)) :: (d1, .one .any) :: l) l') (h2 : erH [subKey n] h h') (h3 : erL [subKey n] gl gl')
    (K : RM P nn L (mk ((d3, u) :: l') ((n, .data sz ((xs.set i t').map f) true cp) :: h') (lk gl')) Q) :
    RM P nn (⟨⟨none, .load d1 none (.t p)⟩, 0, []⟩ :: ⟨⟨none, .mov d2 x2⟩, 0, []⟩ :: ⟨⟨none, .callv d3 (.c (.one (.fn k []))) [.t d1, .t d2]⟩, 0, []⟩ :: L) (mk l h (lk gl)) Q := by
  subst hu
  refine ⟨RM0.inner (e := f t) (ys := ys.map f') (ys' := ys'.map f') hx hb (by rw [List.getElem?_map, hi]; rfl) hj (by rwa [Nat.blt_eq] at hnn) (Nat.ne_of_beq_eq_false hne) hx2.ev hv2 hfn ?_⟩
  have e : (((mk l h (lk gl)).set d1 (.one .any)).set d2 (.one (.d v2))) = mk ((d2, .one (.d v2)) :: (d1, .one .any) :: l) h (lk gl) := rfl
  rw [e, mk_er h1 h2 h3, ht, ← List.map_set]
  exact K.out
end
end Go.AW
