/- Short names: for rows of the compact code, for values, and for rules of the logic that are often used one after the other. Conditions: each theorem's own. -/
import Derived.Test.YtednnkegleoenaaYh
set_option linter.unusedVariables false
namespace Go.AW
def lkO : List (Nat × V) → Nat → Option V
  | [], _ => none
  | (k, v) :: r, n => match Nat.beq n k with
    | true => some v
    | false => lkO r n
theorem eR {l : List (Nat × V)} {n : Nat} {v : V} (h : lkO l n = some v) : Ev l (.t n) v := by
  show lk l n = v
  induction l with
  | nil => cases h
  | cons p r ih =>
    obtain ⟨k, u⟩ := p
    unfold lkO at h
    unfold lk
    split at h
    · rename_i e
      have : n = k := Nat.eq_of_beq_eq_true e
      rw [if_pos this]
      exact Option.some.inj h
    · rename_i e
      rw [if_neg (Nat.ne_of_beq_eq_false e)]
      exact ih h
abbrev ro (o : IOp) : RO := ⟨⟨none, o⟩, 0, []⟩
abbrev rT (t : Nat) (o : IOp) : RO := ⟨⟨some (t, true), o⟩, 0, []⟩
abbrev rN (t : Nat) (o : IOp) : RO := ⟨⟨some (t, false), o⟩, 0, []⟩
abbrev rM (d t : Nat) : RO := ⟨⟨none, .mov d (.t t)⟩, 0, []⟩
abbrev rF (d m t : Nat) : RO := ⟨⟨none, .faddr d m (.t t)⟩, 0, []⟩
abbrev rL (d t : Nat) : RO := ⟨⟨none, .load d none (.t t)⟩, 0, []⟩
abbrev c6 (n : Int) : Opd := .c (.one (.d (.int .i64 n)))
abbrev cB (b : Bool) : Opd := .c (.one (.d (.bool b)))
abbrev oI (n : Int) : V := .one (.d (.int .i64 n))
abbrev oB (b : Bool) : V := .one (.d (.bool b))
abbrev dI (n : Int) : C := .d (.int .i64 n)
section
variable {P : Program} {n : Nat} {Q : Exit → St → Prop} {s : St} {l r : List (Nat × V)} {h : List (Nat × Blk)} {g : Nat → V}
theorem aS {x y : IC} (h : AW P n x (TQ (AW P n y Q) Q) s) : AW P n (.seq x y) Q s := AW.seq h
theorem aR {L : List RO} (h : RG P L s (Q .normal)) : AW P n (.reg L) Q s := AW.regs h
theorem aV {L : List RO} {y : IC} (h : RG P L s (TQ (AW P n y Q) Q .normal)) : AW P n (.seq (.reg L) y) Q s := AW.seq (AW.regs h)
theorem xQ {K : St → Prop} (H : K (mk l h g)) : RG P [] (mk l h g) (TQ K Q .normal) := xNil (TQ.qn H)
theorem kr (k : Nat) {ns : List Nat} {v : V} (h1 : lkO l k = some v) (h2 : v.er ns = v) (H : SL l ns r) : SL l ns ((k, v) :: r) := SL.cons (eR h1) h2 VWk.rfl H
theorem kR {k : Nat} {ns : List Nat} {v : V} (h1 : lkO l k = some v) (h2 : v.er ns = v) (H : SL l ns r) : SL l ns ((k, v) :: r) := SL.cons (eR h1) h2 VWk.rfl H
theorem kv (k : Nat) {ns : List Nat} (v : V) (h1 : lkO l k = some v) (h2 : v.er ns = v) (H : SL l ns r) : SL l ns ((k, v) :: r) := SL.cons (eR h1) h2 VWk.rfl H
theorem eE {t : Nat} {d : D} (h1 : lkO l t = some (.one (.d d))) (hf : d.flat = true) : Ends [.tmp t] [d] .ret (mk l h g) := endsR (RL.cons (RV.tmp (eR h1)) (VO.flat hf) RL.nil) List.nodup_nil
theorem fle {a b : Nat} (h : Nat.ble a b = true) : a ≤ b := Nat.le_of_ble_eq_true h
end
def sidx (b : ByteArray) (z : Int) : Option Int := if 0 ≤ z then (b[z.toNat]?).map (fun c => (c.toNat : Int)) else none
section
variable {P : Program} {l : List (Nat × V)} {h : List (Nat × Blk)} {g : Nat → V} {Q : St → Prop} {rs : List RO} {dep : Nat} {A : List Nat} {d : Nat} {x y z : Opd} {k : IntKind} {a : Int}
theorem oSidx {b : ByteArray} {v : Int} (hx : Ev l x (.one (.d (.str b)))) (hy : Ev l y (.one (.d (.int k a)))) (hi : sidx b a = some v) (K : RG P rs (mk ((d, .one (.d (.int .u8 v))) :: l) h g) Q) : RG P (⟨⟨none, .sidx d x y⟩, dep, A⟩ :: rs) (mk l h g) Q := by
  unfold sidx at hi
  split at hi
  · rename_i h0
    simp only [Option.map_eq_some_iff] at hi
    obtain ⟨c, hc, rfl⟩ := hi
    exact xSlot (by simp) (by simp [AW.ev, hx.ev, hy.ev, h0, hc]) K
  · cases hi
theorem oAtX {α : Type} {n q m : Nat} {cs : List C} (xs : List α) {t : α} (hx : Ev l x (.one (.sl n 0 q))) (hy : Ev l y (.one (.d (.int k a)))) (hb : LB (hideB A h) n (.vars m cs)) (hq : xs.length = q) (hi : idx xs a = some t)
    (K : RG P rs (mk ((d, .one (.ptr (.nm n a.toNat 0))) :: l) h g) Q) : RG P (⟨⟨none, .iaddr d m x y⟩, dep, A⟩ :: rs) (mk l h g) Q := by
  obtain ⟨h0, h1, h2⟩ := idx_some hi
  have hb : (mk l (hideB A h) g).hp n = some (.vars m cs) := hb
  have hz : (mk l (hideB A h) g).blkSz n = some m := by unfold St.blkSz; rw [hb]
  refine xSlot (by simp) ?_ K
  simp [AW.ev, hx.ev, hy.ev, St.at, hz, h0]
  omega
theorem oLoadVX {α : Type} {n : Nat} {cs : List C} (f : α → D) (xs : List α) {t : α} (hx : Ev l x (.one (.ptr (.nm n a.toNat 0)))) (hb : LB (hideB A h) n (.vars 1 cs)) (hcs : cs = xs.map fun b => .d (f b)) (hi : idx xs a = some t)
    (K : RG P rs (mk ((d, .one (.d (f t))) :: l) h g) Q) : RG P (⟨⟨none, .load d none x⟩, dep, A⟩ :: rs) (mk l h g) Q := by
  obtain ⟨h0, h1, h2⟩ := idx_some hi
  exact oLoadV (q := a.toNat) hx hb (by omega) (by subst hcs; rw [List.getElem?_map, h1]; rfl) K
end
end Go.AW
