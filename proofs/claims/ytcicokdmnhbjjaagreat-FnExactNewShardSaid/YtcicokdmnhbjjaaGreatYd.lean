/- Rules for room, copies, cuts beyond a slice's length, and two functions of Go's package slices: Insert of one element, Delete. Lemmas of an own program logic; nothing is claimed here. Conditions: none. -/
import Derived.Test.YtcicokdmnhbjjaaGreatYc
import Derived.Laws.Externs
import Derived.Lib.Overlaps
set_option linter.unusedVariables false
set_option maxRecDepth 100000
namespace Go.AW
section
variable {P : Program} {l : List (Nat × V)} {h : List (Nat × Blk)} {g : Nat → V} {Q : St → Prop} {rs : List RO} {dep : Nat} {A : List Nat} {d : Nat} {x y z : Opd} {v u : V} {k : IntKind} {a b : Int}
theorem El.part {α : Type} {f : α → List D} {sz n r len : Nat} {zs : List D} {own o : Bool} {cp : Option Nat} {xs ys : List α} (hb : LB h n (.data sz (xs.map f) o cp)) (hl : r + len ≤ xs.length) (hf : ∀ x, ((f x).all D.flat) = true) (he : (xs.drop r).take len = ys) : El h sz zs own (.one (.sl n r len)) (ys.map f) := by
  subst he
  have hb : (mk [] h fun _ => .top).hp n = some (.data sz (xs.map f) o cp) := hb
  unfold El St.elems
  simp only [hb, List.length_map]
  rw [if_pos ⟨trivial, hl, allFlat hf⟩]
  simp [List.map_drop, List.map_take]
end
end Go.AW
