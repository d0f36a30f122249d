/- Blocks that go over into a named one: stores and appends of what has a name; a call that writes what lies within a named block. Lemmas of an own program logic; nothing is claimed here. Conditions: none. -/
import Derived.Test.YtnpbflgkgjnljaaXd
set_option linter.unusedVariables false
namespace Go.AW
variable {cx : Cx} {m : M} {s : St} {a : Act} {w : World} {o : Oper} {K : Act → World → Prop} {Q : Exit → Act → World → Prop}
def M.give (m : M) (ns BX : List Nat) (n : Nat) : M := ⟨fun k => if ns.contains k then none else m.inf k, fun c => if c ∈ BX then some n else m.own c⟩
theorem RelM.give (R : RelM cx m s a w) {ns BX : List Nat} {n : Nat} (hlt : ∀ k ∈ ns, k < 1000000) (hBX : ∀ c ∈ BX, Whole cx m s ns c) :
  RelM cx (m.give ns BX n) (s.er ns) a w ∧ Ext ns m w.heap (m.give ns BX n) w.heap := by
 have hnot : ∀ c k, m.own c = some k → ns.contains k = false → c ∉ BX := fun c k hc hk hx => by
  obtain ⟨_, j, hj, _, _, _, e⟩ := hBX c hx
  rw [hc] at e
  cases e
  have : ns.contains k = true := by rw [List.contains_iff_mem]; exact hj
  rw [hk] at this; cases this
 have E : Ext ns m w.heap (m.give ns BX n) w.heap := by
  refine ⟨fun k hk f hf => ?_, fun b c T f hb ho => ⟨?_, rfl⟩, fun b c T z k f hb hk hf ho hne => ⟨?_, rfl⟩⟩
  ·show (if ns.contains k then none else m.inf k) = some f
   rw [hk]; simpa using hf
  ·show (if b ∈ BX then some n else m.own b) = none
   rw [if_neg (fun hx => by obtain ⟨_, j, hj, _, _, _, e⟩ := hBX b hx; rw [ho] at e; cases e)]
   exact ho
  ·show (if b ∈ BX then some n else m.own b) = some k
   simp only [Bool.or_eq_false_iff] at hk
   rw [if_neg (hnot b k ho hk.1)]
   exact ho
 refine ⟨⟨R.size, R.defers, fun t => E.ver (R.sl t), fun k => ?_, ⟨fun b k hb => ?_, fun b hb hW => ?_⟩, R.fr, fun t => E.ver (R.gh t)⟩, E⟩
 ·have HN := R.hp k
  show NRel cx _ w.heap k (if ns.contains k then none else (s.hp k).map (Blk.er ns)) (if ns.contains k then none else m.inf k)
  cases hk : ns.contains k with
  | true => trivial
  | false =>
   simp only [Bool.false_eq_true, if_false]
   cases hi : m.inf k with
   | none =>
    rw [hi] at HN
    cases hb : s.hp k with
    | none => trivial
    | some x => rw [hb] at HN; exact HN.elim
   | some f =>
    rw [hi] at HN
    cases hb : s.hp k with
    | none => rw [hb] at HN; exact HN.elim
    | some x =>
     rw [hb] at HN
     have hs : ns.contains (subKey k) = false := by
      rw [Bool.eq_false_iff]
      intro h
      rw [List.contains_iff_mem] at h
      have := hlt _ h
      unfold subKey at this
      omega
     refine Ext.n E (by rw [hk, hs]; rfl) (fun b hfb => ?_) hi HN
     unfold NRel at HN
     simp only [hfb] at HN
     refine ⟨?_, rfl⟩
     show (if b ∈ BX then some n else m.own b) = some k
     rw [if_neg (hnot b k HN.2.1 hk)]
     exact HN.2.1
 ·have hb : (if b ∈ BX then some n else m.own b) = some k := hb
  split at hb
  ·rename_i hx
   obtain ⟨_, j, hj, _, _, _, e⟩ := hBX b hx
   exact R.own.1 b j e
  ·exact R.own.1 b k hb
 ·show (if b ∈ BX then some n else m.own b) = _
  rw [if_neg]
  ·exact R.own.2 b hb hW
  ·intro hx
   rcases (hBX b hx).1 with h | h
   ·omega
   ·exact hW h
end Go.AW
