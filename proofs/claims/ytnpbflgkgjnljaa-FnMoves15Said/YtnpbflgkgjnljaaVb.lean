/- Two more kinds of regions without an order: loads that need not wait for an append, and regions whose end is in order. Lemmas. Conditions: none. -/
import Derived.Test.YtnpbflgkgjnljaaV
namespace Go.AW
def RO.light (r : RO) : Bool := r.A.contains 2000003
def IOp.isLoad : IOp → Bool
 | .load .. => true
 | _ => false
def vw (lt : Bool) (E : List Nat) (r : RO) (s : St) : St := if lt && r.light then s.void E else s
def Ok1 (lt : Bool) (E : List Nat) (r : RO) (s : St) : Prop := lt = true → r.light = true → ∀ t ∈ r.g.reads, (s.sl t).cl E = true
def Ok2 (lt : Bool) (E : List Nat) (r : RO) (o : Out) : Prop := lt = true → (r.g.o.isApp = true → ∀ n ∈ o.names, E.contains n = true) ∧ (r.light = true → ∀ p, o.sl = some p → p.2.cl E = true)
def regE (P : Program) (lt : Bool) (E : List Nat) : List RO → St → (St → Prop) → Prop
 | [], s, Q => Q s
 | r :: rs, s, Q => Ok1 lt E r s ∧ stepA P ((vw lt E r s).hide r.A) r.g fun out => Ok2 lt E r out ∧ regE P lt E rs (s.app out) Q
def lightOk (x y : RO) : Bool := x.g.o.isApp && y.light && y.g.g.isNone && y.g.o.isLoad &&
 (match x.g.o.dst with | some d => !y.g.reads.contains d && y.g.o.dst != some d && y.A.contains d | none => true) &&
 (match y.g.o.dst with | some d => !x.g.reads.contains d | none => true)
def pairsE (lt : Bool) (L : List RO) : Bool := L.zipIdx.all fun (y, q) => (L.take q).zipIdx.all fun (x, p) => y.dep.testBit p || (compat x.g y.g && hidesOk y x.g && hidesOk x y.g) || (lt && lightOk x y)
def drawE (ops : List Oper) (L : List RO) (k : Nat) (lt : Bool) : Bool :=
 ops.length == L.length && L.all selfOk && (L.all fun r => !r.light || (r.g.g.isNone && r.g.o.isLoad)) && pairsE lt (L.take k) && ((ops.zip L).zipIdx.all fun ((o, r), q) => r.dep == depOf L o && decide (r.dep < 2 ^ q) && (Nat.blt q k || r.dep == 2 ^ q - 1))
structure DrawE (ops : Array Oper) (L : List RO) (k : Nat) (lt : Bool) : Prop where
 len : ops.size = L.length
 self : ∀ r ∈ L, selfOk r = true
 lite : ∀ r ∈ L, r.light = true → r.g.g = none ∧ r.g.o.isLoad = true
 pair : ∀ (p q : Nat) (x y : RO), p < q → (L.take k)[p]? = some x → (L.take k)[q]? = some y → y.dep.testBit p = true ∨ (compat x.g y.g = true ∧ hidesOk y x.g = true ∧ hidesOk x y.g = true) ∨ (lt = true ∧ lightOk x y = true)
 dep : ∀ (q : Nat) (o : Oper) (r : RO), ops[q]? = some o → L[q]? = some r → (∀ p, r.dep.testBit p = true ↔ ∃ e ∈ o.after, Region.binds .any e = true ∧ (e.on = p ∨ ∃ r, L[e.on]? = some r ∧ r.dep.testBit p = true)) ∧ ∀ p, r.dep.testBit p = true → p < q
 tail : ∀ (q : Nat) (r : RO), k ≤ q → L[q]? = some r → ∀ p, p < q → r.dep.testBit p = true
structure Less (E : List Nat) (X Y : Nat → Prop) (s s' : St) : Prop where
 sl : ∀ t, X t → (s.sl t).cl E = true → s'.sl t = s.sl t
 hp : ∀ n, Y n → E.contains n = false → ∀ b, s.hp n = some b → b.cl E = true → s'.hp n = some b
variable {cx : Cx} {Q : Exit → Act → World → Prop} {ops : Array Oper}
structure TailE (ops : Array Oper) (L : List RO) (k : Nat) : Prop where
 len : ops.size = L.length
 dep : ∀ (q : Nat) (o : Oper) (r : RO), ops[q]? = some o → L[q]? = some r → (∀ p, r.dep.testBit p = true ↔ ∃ e ∈ o.after, Region.binds .any e = true ∧ (e.on = p ∨ ∃ r, L[e.on]? = some r ∧ r.dep.testBit p = true)) ∧ ∀ p, r.dep.testBit p = true → p < q
 tail : ∀ (q : Nat) (r : RO), k ≤ q → L[q]? = some r → ∀ p, p < q → r.dep.testBit p = true
end Go.AW
