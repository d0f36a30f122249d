/- Rows of rows that are wholly one's own: rules on written-out states. Lemmas of an own program logic; nothing is claimed here. Conditions: none. -/
import Derived.Test.YtcicokdmnhbjjaaGreatYg
import Derived.Test.YtcicokdmnhbjjaaGreatXf
set_option linter.unusedVariables false
namespace Go.AW
theorem mk_er {ns : List Nat} {l l' gl gl' : List (Nat × V)} {h h' : List (Nat × Blk)} (h1 : erL ns l l') (h2 : erH ns h h') (h3 : erL ns gl gl') : (mk l h (lk gl)).er ns = mk l' h' (lk gl') := by
  refine St.ext' (fun t => ?_) (fun k => ?_) ?_
  · exact (h1.lk t).symm
  · exact (h2.lk k).symm
  · funext t; exact (h3.lk t).symm
section
variable {P : Program} {nn : Nat} {L rs0 : List RO} {Q : St → Prop} {l l' gl gl' : List (Nat × V)} {h h' : List (Nat × Blk)} {g : Nat → V} {dep d : Nat} {A : List Nat} {x y : Opd} {v u : V}
theorem rmMksl {α : Type} {f : α → List D} {zv : α} {sz bytes m q : Nat} {zs : List D} {k k' : IntKind} {a : Int} (hn : d * 64 = m) (hx : Ev l x (.one (.d (.int k a)))) (hy : Ev l y (.one (.d (.int k' a)))) (ha : 0 ≤ a) (hb : a ≤ 2147483648) (hq : a.toNat = q) (hby : bytes ≤ 65536) (hz : zs = f zv) (hf : NB h m)
    (K : RM P nn L (mk ((d, .one (.sl m 0 q)) :: l) ((m, .data sz ((List.replicate q zv).map f) true none) :: h) g) Q) : RM P nn (⟨⟨none, .mksl d sz bytes zs x y⟩, 0, []⟩ :: L) (mk l h g) Q := by
  subst hn; subst hq; subst hz
  rw [List.map_replicate] at K
  refine ⟨RM0.mksl (n := a.toNat) hf ?_ ?_ (by unfold big; omega) hby K.out⟩
  · rw [hx.ev]; simp only [V.nat, if_pos ha]
  · rw [hy.ev]; simp only [V.nat, if_pos ha]
theorem VOs.cOs {cs : List C} {ds : List D} {ns : List Nat} (H : VOs h cs ds ns) : cOs (mk l h g) cs ds ns := by
  have := VO.aggs H
  have := vO_hp (s := mk [] h fun _ => .top) (s' := mk l h g) rfl this
  exact this
def absOk (n : Nat) (ns : List Nat) : Bool := decide ns.Nodup && !ns.contains n && ns.all fun k => Nat.blt k 1000000
theorem rmStoreAbs {α : Type} {f : α → List D} {n i j m sz : Nat} {zs : List D} {cs : List C} {ds : List D} {ns : List Nat} {cp : Option Nat} {xs : List α} {t t' : α} (hx : Ev l x (.one (.ptr (.nm n i j)))) (hy : Ev l y v) (hv : v.cells = some cs) (hl : cs.length = m) (hb : LB h n (.data sz (xs.map f) true cp))
    (hi : xs[i]? = some t) (hO : VOs h cs ds ns) (hok : absOk n ns = true) (hc : (if j + m ≤ (f t).length then some (splice (f t) j ds) else none) = some (f t')) (h1 : erL ns l l') (h2 : erH ns h h') (h3 : erL ns gl gl')
    (K : RM P nn L (mk l' ((n, .data sz ((xs.set i t').map f) true cp) :: h') (lk gl')) Q) : RM P nn (⟨⟨none, .store m zs x y⟩, 0, []⟩ :: L) (mk l h (lk gl)) Q := by
  unfold absOk at hok
  simp only [Bool.and_eq_true, decide_eq_true_eq, Bool.not_eq_true', List.all_eq_true] at hok
  split at hc
  · rename_i hle
    have hc := Option.some.inj hc
    refine ⟨RM0.storeAbs (e := f t) (ds := ds) (ns := ns) hx.ev hb (by rw [List.getElem?_map, hi]; rfl) (by rw [hy.ev]; exact hv) hl hle hO.cOs hok.1.1 (fun hn => by have := hok.1.2; rw [List.contains_iff_mem.2 hn] at this; cases this) (fun k hk => by have := hok.2 k hk; rwa [Nat.blt_eq] at this) ?_⟩
    rw [mk_er h1 h2 h3, hc, ← List.map_set]
    exact K.out
  · cases hc
end
end Go.AW
