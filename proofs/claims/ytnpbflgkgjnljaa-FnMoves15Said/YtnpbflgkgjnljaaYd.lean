/- Rules for room, copies, cuts beyond a slice's length, and two functions of Go's package slices: Insert of one element, Delete. Lemmas. Conditions: none. -/
import Derived.Test.YtnpbflgkgjnljaaYc
import Derived.Laws.Externs
import Derived.Lib.Overlaps
set_option maxRecDepth 100000
namespace Go.AW
section
variable {P : Program} {l : List (Nat × V)} {h : List (Nat × Blk)} {g : Nat → V} {Q : St → Prop} {rs : List RO} {dep : Nat} {A : List Nat} {d : Nat} {x y z : Opd} {v u : V} {k : IntKind} {a b : Int}
end
theorem wk_data (n : Nat) {sz : Nat} {zs es : List D} {cs : List C} {l : List (Nat × V)} {h : List (Nat × Blk)} {g : Nat → V} (hb : LB h n (.vars sz cs)) (he : toDatas true zs cs = some es) (hl : cs.length = sz) : Wk (mk l ((n, .data sz [es] true none) :: h) g) (mk l h g) := fun cx a w ⟨m, R⟩ => by
 refine ⟨m, R.size, R.defers, R.sl, fun j => ?_, R.own, R.fr, R.gh⟩
 show NRel cx m w.heap j (if j = n then _ else lkB h j) _
 by_cases e : j = n
 ·subst e
  rw [if_pos rfl]
  have H := R.hp j
  have e : (mk l h g).hp j = some (.vars sz cs) := hb
  rw [e] at H
  cases hi : m.inf j with
  | none => rw [hi] at H; exact H.elim
  | some fi =>
   rw [hi] at H
   unfold NRel at H ⊢
   simp only at H ⊢
   cases hbk : fi.blk with
   | none =>
    rw [hbk] at H
    obtain ⟨h1, s', o', cp', he, h2, h3⟩ := H
    cases he
   | some b =>
    rw [hbk] at H
    obtain ⟨h1, h2, cells, T, h3, h4, h5, h6⟩ := H
    obtain ⟨bs, hr, ho, _⟩ := toData_rel (m := m) he h6
    have hlen := hr.length
    have hlc := h6.length
    refine ⟨h1, h2, cells, T, h3, h4, h5, by simp, [], ?_, fun _ => ⟨List.nodup_nil, by simp⟩, fun h => by cases h⟩
    rw [ho rfl] at hr
    simp only [RdLL]
    refine ⟨[], [], by simp, by omega, ?_, rfl⟩
    rw [List.take_of_length_le (by omega)]
    exact hr
 ·rw [if_neg e]
  exact R.hp j
theorem wk_dataF (n : Nat) {α : Type} {f : α → List D} {t : α} {sz : Nat} {zs : List D} {cs : List C} {l : List (Nat × V)} {h : List (Nat × Blk)} {g : Nat → V} (hb : LB h n (.vars sz cs)) (he : toDatas true zs cs = some (f t)) (hl : cs.length = sz) : Wk (mk l ((n, .data sz (List.map f [t]) true none) :: h) g) (mk l h g) := wk_data n hb he hl
end Go.AW
