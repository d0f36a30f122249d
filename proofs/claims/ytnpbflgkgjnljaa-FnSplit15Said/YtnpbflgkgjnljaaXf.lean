/- Special operations in a region with an order: what is made, stored and appended so that it is wholly the block's own. Lemmas of an own program logic; nothing is claimed here. Conditions: none. -/
import Derived.Test.YtnpbflgkgjnljaaXe
set_option linter.unusedVariables false
namespace Go.AW
variable {cx : Cx} {m : M} {s : St} {a : Act} {w : World} {o : Oper} {K : Act → World → Prop} {Q : Exit → Act → World → Prop}
theorem RM0.step {P : Program} {nn : Nat} {L : List RO} {s s1 : St} {io : IOp} {Q' : St → Prop}
  (h : ∀ (cx : Cx) (m : M) (o : Oper) (a : Act) (w : World) (K : Act → World → Prop) (Q : Exit → Act → World → Prop), toOp cx.P cx.n o = some io → RelM cx m s a w → (∀ m' a' w', RelM cx m' s1 a' w' → K a' w') → o.wp cx.P a w K Q)
  (h' : RM0 P nn L s1 Q') : RM0 P nn (⟨⟨none, io⟩, 0, []⟩ :: L) s Q' := fun gs hL cx ops l m a w Qx hP hn hm R hQ => by
 subst hP; subst hn
 cases gs with
 | nil => cases hL
 | cons g gs =>
  simp only [List.map_cons, List.cons.injEq, RO.mk.injEq, and_true] at hL
  obtain ⟨rfl, hL⟩ := hL
  cases l with
  | nil => simp at hm
  | cons o l =>
   simp only [List.mapM_cons, Option.pure_def, Option.bind_eq_bind, Option.bind_eq_some_iff] at hm
   obtain ⟨g', hg, gs', hgs, he⟩ := hm
   cases he
   obtain ⟨h1, h2, _⟩ := toG_spec hg
   have := h cx m o a w (wpList cx.P ops Qx l) Qx h1 R fun m' a' w' R' => h' gs hL cx ops l m' a' w' Qx rfl rfl hgs R' hQ
   unfold wpList
   have hw : Region.wanted o (yielded ops a.tmps) = true := by simp [Region.wanted, h2 rfl]
   rw [if_pos hw]
   exact .inl this
def IOp.callish : IOp → Bool
 | .len .. | .app .. | .apm .. | .mm .. | .clear .. | .cap .. | .copy .. | .callv .. => true
 | _ => false
theorem toCall_callish {P : Program} {n : Nat} {o : Oper} {c : Call} {io : IOp} (h : toCall P n o c = some io) : io.callish = true := by
 obtain ⟨callee, args, ts⟩ := c
 unfold toCall at h
 simp only at h
 split at h
 ·simp only [Option.bind_eq_some_iff, Option.map_eq_some_iff] at h
  obtain ⟨x, hx0, d, hd, t, ht, st, hst, x', hx, rfl⟩ := h
  rfl
 ·simp only [Option.bind_eq_some_iff] at h
  obtain ⟨xy, hxy, tu, htu, h⟩ := h
  split at h
  rotate_left
  ·simp only [Option.bind_eq_some_iff] at h
   obtain ⟨kn, hkn, d, hd, e, he', i, hi, z, hz, zs, hzs, h⟩ := h
   split at h
   rotate_left
   ·cases h
   simp only [Option.bind_eq_some_iff, Option.map_eq_some_iff] at h
   obtain ⟨x', hx, y', hy, rfl⟩ := h
   rfl
  simp only [Option.bind_eq_some_iff] at h
  obtain ⟨d, hd, e, he', i, hi, z, hz, h⟩ := h
  split at h
  rotate_left
  ·cases h
  simp only [Option.bind_eq_some_iff, Option.map_eq_some_iff] at h
  obtain ⟨x', hx, y', hy, rfl⟩ := h
  rfl
 ·simp only [Option.bind_eq_some_iff, Option.map_eq_some_iff] at h
  obtain ⟨xy, hxy, d, hd, x', hx, y', hy, rfl⟩ := h
  rfl
 ·simp only [Option.bind_eq_some_iff, Option.map_eq_some_iff] at h
  obtain ⟨xy, hxy, d, hd, x', hx, y', hy, rfl⟩ := h
  rfl
 ·simp only [Option.bind_eq_some_iff] at h
  obtain ⟨x, hx0, t, ht, e, he', i, hi, z, hz, zs, hzs, h⟩ := h
  split at h
  rotate_left
  ·cases h
  simp only [Option.map_eq_some_iff] at h
  obtain ⟨x', hx, rfl⟩ := h
  rfl
 ·simp only [Option.bind_eq_some_iff, Option.map_eq_some_iff] at h
  obtain ⟨x, hx0, t, ht, d, hd, e, he', x', hx, rfl⟩ := h
  rfl
 ·simp only [Option.bind_eq_some_iff, Option.map_eq_some_iff] at h
  obtain ⟨xy, hxy, t, ht, d, hd, e, he', i, hi, x', hx, y', hy, rfl⟩ := h
  rfl
 ·simp only [Option.bind_eq_some_iff, Option.map_eq_some_iff] at h
  obtain ⟨d, hd, f', hf, xs', hxs, rfl⟩ := h
  rfl
 ·cases h
theorem toOp_mksl {P : Program} {n : Nat} {o : Oper} {d sz bytes : Nat} {zs : List D} {x' y' : Opd} (h1 : toOp P n o = some (.mksl d sz bytes zs x' y')) : ∃ t x y e i z, o.op = .makeSlice t x y ∧ P.underlying t = some (.slice e) ∧ P.info? e = some i ∧ i.zero = some z ∧ i.size = sz ∧ (∃ zs0 fx, z.cells.toList.mapM constD = some zs0 ∧ zs = fixZs zs0 fx) ∧ zs.length = sz ∧ sz ≠ 0 ∧ i.bytes = bytes ∧ o.dst = some d ∧ d < n ∧ toOpd x = some x' ∧ toOpd y = some y' := by
 unfold toOp at h1
 split at h1
 case h_24 c hop => have := toCall_callish h1; cases this
 case h_15 t x y hop =>
  simp only [Option.bind_eq_some_iff] at h1
  obtain ⟨d', hd, e, he, i, hi, z, hz, zs, hzs, h1⟩ := h1
  split at h1
  rotate_left
  ·cases h1
  rename_i hc
  simp only [Option.bind_eq_some_iff, Option.map_eq_some_iff] at h1
  obtain ⟨x'', hx, y'', hy, h1⟩ := h1
  cases h1
  exact ⟨t, x, y, e, i, z, hop, elemOf_spec he, hi, hz, rfl, ⟨zs, _, hzs, rfl⟩, by rw [fixZs_len]; exact hc.1, hc.2, rfl, (dstOf_spec hd).1, (dstOf_spec hd).2, hx, hy⟩
 case h_25 => cases h1
 case h_9 =>
  split at h1
  rotate_left
  ·cases h1
  simp only [Option.bind_eq_some_iff, Option.map_eq_some_iff] at h1
  obtain ⟨_, _, _, _, _, _, h1⟩ := h1
  cases h1
 all_goals
  rw [Option.bind_eq_some_iff] at h1
  obtain ⟨d, hd, h1⟩ := h1
  repeat' (first | (rw [Option.bind_eq_some_iff] at h1; obtain ⟨_, _, h1⟩ := h1) | (rw [Option.map_eq_some_iff] at h1; obtain ⟨_, _, h1⟩ := h1; cases h1; done) | (split at h1) | (cases h1; done))
theorem RM0.mksl {P : Program} {nn : Nat} {L : List RO} {s : St} {Q' : St → Prop} {d sz bytes n : Nat} {zs : List D} {x' y' : Opd} (hf : s.hp (d * 64) = none) (hx : (s.ev x').nat = some n) (hy : (s.ev y').nat = some n) (hn : n ≤ big) (hb : bytes ≤ 65536)
  (h : RM0 P nn L ((s.blk (d * 64) (.data sz (List.replicate n zs) true none)).set d (.one (.sl (d * 64) 0 n))) Q') : RM0 P nn (⟨⟨none, .mksl d sz bytes zs x' y'⟩, 0, []⟩ :: L) s Q' :=
 RM0.step (fun cx m o a w K Q ho R hK => by
  obtain ⟨t, x, y, e, i, z, hop, ht, hi, hz, rfl, hzs, hzl, h0, rfl, hd, hdn, hx1, hy1⟩ := toOp_mksl ho
  have h1 := R.opd hx1
  have h2 := R.opd hy1
  obtain ⟨k1, e1⟩ := nat_val h1 hx
  obtain ⟨k2, e2⟩ := nat_val h2 hy
  have hrun := run_make (P := cx.P) w t e i z ht hi hz k1 k2 (n : Int) (n : Int) (by omega) (Int.le_refl _) (by
   have : (i.bytes : Int) * (n : Int) ≤ 65536 * 2147483648 := by
    have h3 : i.bytes * n ≤ 65536 * 2147483648 := Nat.mul_le_mul hb hn
    have h4 : ((i.bytes * n : Nat) : Int) ≤ ((65536 * 2147483648 : Nat) : Int) := by omega
    simpa using h4
   omega) (by unfold big at hn; omega)
  simp only [Int.toNat_natCast] at hrun
  obtain ⟨zs0, fx, hzs, rfl⟩ := hzs
  have hrl := fixZs_rel (zs := fx) (constD_rel (h := w.heap) hzs) rfl
  generalize hzq : fixZs zs0 fx = zs at *
  have hl := hrl.length
  simp only [Array.length_toList] at hl
  refine snd_new (k := .data i.size (List.replicate n zs) true none) (v := .one (.sl (d * 64) 0 n)) (f := ⟨some w.heap.size, i.size, n⟩) (u := .slice (some ⟨w.heap.size, 0, none⟩) n n) (cells := madeCells z.cells (n * i.size)) (T := e) R hd hdn hf rfl (Nat.le_of_eq (size_madeCells _ _).symm) (fun E => ⟨rfl, by simp, [], ?_, fun _ => ⟨List.nodup_nil, by simp⟩, by simp⟩) ?_ ?_ (fun m' a' w' R' => hK m' a' w' R')
  ·have := made_rel (RdL.congr (h' := (w.alloc (.cells (madeCells z.cells (n * i.size)) e)).heap) _ _ [] (by simp) hrl) n (madeCells z.cells (n * i.size)).toList (fun j hj => by
    have hzp : 0 < zs.length := by omega
    have hmod := Nat.mod_lt j hzp
    rw [hzl] at hj hmod ⊢
    have hzsz : z.cells.size = i.size := by omega
    simp only [madeCells, Array.toList_map, List.getElem?_map, Array.toList_range, List.getElem?_range hj, Option.map_some, hzsz]
    rw [getElem!_pos z.cells (j % i.size) (by omega)]
    simp [hzsz, hmod])
   rw [hzl] at this
   exact this
  ·exact ⟨rfl, ⟨some w.heap.size, i.size, n⟩, by simp [M.plus], by simp, some ⟨w.heap.size, 0, none⟩, by simp, fun _ => ⟨w.heap.size, rfl, by simp⟩⟩
  ·simp only [execOp, hop, e1, e2, Sem.run_bind, hrun, Result.andThen_ok]
   rfl) h
end Go.AW
