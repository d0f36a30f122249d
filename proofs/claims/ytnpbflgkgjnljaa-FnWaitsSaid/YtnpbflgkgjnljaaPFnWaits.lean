/- Plain laws: what the plain functions answer. Conditions: each theorem's own. -/
import Derived.Test.YtnpbflgkgjnljaaMFnWaits
set_option linter.unusedVariables false
set_option linter.unusedSimpArgs false
set_option maxRecDepth 100000
namespace Go.AW
theorem w64 {n : Int} (h1 : -9223372036854775808 ≤ n) (h2 : n < 9223372036854775808) : IntKind.wrap .i64 n = n := by
 rw [IntKind.wrap_i64]; omega
theorem idx_nat {α : Type} {xs : List α} {i : Nat} (h : i < xs.length) : idx xs (i : Int) = some xs[i] := by
 unfold idx
 rw [if_pos (by omega)]
 simp [h]
theorem idx_ofNat {α : Type} (xs : List α) (i : Nat) : idx xs (i : Int) = xs[i]? := by
 unfold idx
 rw [if_pos (by omega)]
 simp
theorem iter_ex {S R : Type} {f : (S → Option R) → S → Option R} (st : Nat → S) (stop : Nat → Option (Option R)) (k : Option R) (n : Nat)
  (hs : ∀ kb i, i < n → (∀ j, j < i → stop j = none) → f kb (st i) = match stop i with | some r => r | none => kb (st (i + 1))) (he : ∀ kb, (∀ j, j < n → stop j = none) → f kb (st n) = k) :
  ∀ (m i : Nat), i ≤ n → (∀ j, j < i → stop j = none) → n - i < m → iter f m (st i) = match ((List.range n).drop i).findSome? stop with | some r => r | none => k
 | 0, i, _, _, h => by omega
 | m + 1, i, hi, hp, h => by
  unfold iter
  by_cases e : i = n
  ·subst e
   rw [he _ hp]
   simp [List.drop_eq_nil_of_le]
  ·have hlt : i < n := by omega
   rw [hs _ i hlt hp, List.drop_eq_getElem_cons (by simpa using hlt)]
   simp only [List.getElem_range, List.findSome?_cons]
   cases hq : stop i with
   | some r => rfl
   | none => exact iter_ex st stop k n hs he m (i + 1) (by omega) (fun j hj => by
     by_cases e' : j = i
     ·subst e'; exact hq
     ·exact hp j (by omega)) (by omega)
theorem iter_stopH {S R : Type} {f : (S → Option R) → S → Option R} (st : Nat → S) (stop : Nat → Option (Option R)) (k : Option R) (n : Nat) (hn : n ≤ 1152921504606846976)
  (hs : ∀ kb i, i < n → (∀ j, j < i → stop j = none) → f kb (st i) = match stop i with | some r => r | none => kb (st (i + 1))) (he : ∀ kb, (∀ j, j < n → stop j = none) → f kb (st n) = k) {s0 : S} (h0 : s0 = st 0) :
  iter f FU s0 = match (List.range n).findSome? stop with | some r => r | none => k := by
 subst h0
 have := iter_ex st stop k n hs he FU 0 (by omega) (fun j hj => by omega) (by unfold FU; omega)
 simpa using this
theorem iter_stop {S R : Type} {f : (S → Option R) → S → Option R} (st : Nat → S) (stop : Nat → Option (Option R)) (k : Option R) (n : Nat) (hn : n ≤ 1152921504606846976)
  (hs : ∀ kb i, i < n → f kb (st i) = match stop i with | some r => r | none => kb (st (i + 1))) (he : ∀ kb, f kb (st n) = k) {s0 : S} (h0 : s0 = st 0) :
  iter f FU s0 = match (List.range n).findSome? stop with | some r => r | none => k :=
 iter_stopH st stop k n hn (fun kb i hi _ => hs kb i hi) (fun kb _ => he kb) h0
theorem iter_all {S R : Type} {f : (S → Option R) → S → Option R} (st : Nat → S) (k : Option R) (n : Nat) (hn : n ≤ 1152921504606846976)
  (hs : ∀ kb i, i < n → f kb (st i) = kb (st (i + 1))) (he : ∀ kb, f kb (st n) = k) {s0 : S} (h0 : s0 = st 0) : iter f FU s0 = k := by
 rw [iter_stop st (fun _ => none) k n hn (fun kb i hi => hs kb i hi) he h0]
 have : (List.range n).findSome? (fun _ => (none : Option (Option R))) = none := by
  rw [List.findSome?_eq_none_iff]; intro x _; rfl
 rw [this]
theorem iter_goodH {S R : Type} {f : (S → Option R) → S → Option R} (st : Nat → S) (good : Nat → Bool) (r k : Option R) (n : Nat) (hn : n ≤ 1152921504606846976)
  (hs : ∀ kb i, i < n → (∀ j, j < i → good j = true) → f kb (st i) = if good i = true then kb (st (i + 1)) else r) (he : ∀ kb, (∀ j, j < n → good j = true) → f kb (st n) = k) {s0 : S} (h0 : s0 = st 0) :
  iter f FU s0 = if (List.range n).all good = true then k else r := by
 have tr : ∀ j, (if good j = true then (none : Option (Option R)) else some r) = none → good j = true := fun j h => by
  split at h
  ·assumption
  ·cases h
 rw [iter_stopH st (fun i => if good i = true then none else some r) k n hn (fun kb i hi hp => by rw [hs kb i hi (fun j hj => tr j (hp j hj))]; split <;> rfl) (fun kb hp => he kb (fun j hj => tr j (hp j hj))) h0]
 by_cases e : (List.range n).all good = true
 ·have : (List.range n).findSome? (fun i => if good i = true then none else some r) = none := by
   rw [List.findSome?_eq_none_iff]
   intro x hx
   rw [List.all_eq_true] at e
   simp [e x hx]
  rw [this, if_pos e]
 ·rw [if_neg e]
  cases h : (List.range n).findSome? (fun i => if good i = true then none else some r) with
  | none =>
   exfalso
   apply e
   rw [List.all_eq_true]
   intro x hx
   rw [List.findSome?_eq_none_iff] at h
   exact tr x (h x hx)
  | some q =>
   obtain ⟨x, hx, hq⟩ := List.exists_of_findSome?_eq_some h
   split at hq
   ·cases hq
   ·cases hq; rfl
theorem iter_good {S R : Type} {f : (S → Option R) → S → Option R} (st : Nat → S) (good : Nat → Bool) (r k : Option R) (n : Nat) (hn : n ≤ 1152921504606846976)
  (hs : ∀ kb i, i < n → f kb (st i) = if good i = true then kb (st (i + 1)) else r) (he : ∀ kb, f kb (st n) = k) {s0 : S} (h0 : s0 = st 0) :
  iter f FU s0 = if (List.range n).all good = true then k else r :=
 iter_goodH st good r k n hn (fun kb i hi _ => hs kb i hi) (fun kb _ => he kb) h0
theorem step1 (i : Nat) (n : Nat) (h : i < n) (hn : n ≤ 1152921504606846976) : IntKind.wrap .i64 ((i : Int) + 1) = ((i + 1 : Nat) : Int) := by
 rw [w64 (by omega) (by omega)]; omega
def idxOf {α : Type} (p : α → Bool) (xs : List α) : Int := match xs.findIdx? p with
 | some k => (k : Int)
 | none => -1
theorem idxOf_nonneg {α : Type} (p : α → Bool) (xs : List α) : decide (0 ≤ idxOf p xs) = xs.any p := by
 unfold idxOf
 cases h : xs.findIdx? p with
 | none =>
  rw [List.findIdx?_eq_none_iff] at h
  have : xs.any p = false := by rw [List.any_eq_false]; intro x hx; simp [h x hx]
  simp [this]
 | some k =>
  rw [List.findIdx?_eq_some_iff_getElem] at h
  obtain ⟨hk, hp, _⟩ := h
  have : xs.any p = true := List.any_eq_true.2 ⟨xs[k], List.getElem_mem hk, hp⟩
  simp [this]
theorem iter_index {α : Type} (xs : List α) (p : α → Bool) {f : (Int → Option Int) → Int → Option Int} (hn : xs.length ≤ 1152921504606846976)
  (hs : ∀ kb (i : Nat) (hi : i < xs.length), f kb (i : Int) = if p xs[i] = true then some (i : Int) else kb ((i + 1 : Nat) : Int)) (he : ∀ kb, f kb (xs.length : Int) = some (-1)) : iter f FU 0 = some (idxOf p xs) := by
 rw [iter_stop (s0 := (0 : Int)) (fun i => (i : Int)) (fun i : Nat => (xs[i]?).bind fun x => if p x = true then some (some (i : Int)) else none) (some (-1)) xs.length hn (fun kb i hi => ?_) (fun kb => he kb) rfl]
 ·have key : ∀ (ys : List α) (o : Nat), (List.range ys.length).findSome? (fun i : Nat => (ys[i]?).bind fun x => if p x = true then some (some ((o + i : Nat) : Int)) else none) = (ys.findIdx? p).map fun k => some ((o + k : Nat) : Int) := by
   intro ys
   induction ys with
   | nil => intro o; rfl
   | cons y ys ih =>
    intro o
    rw [List.length_cons, List.range_succ_eq_map, List.findSome?_cons, List.findSome?_map, List.findIdx?_cons]
    simp only [List.getElem?_cons_zero, Option.bind_some]
    by_cases e : p y = true
    ·simp [e]
    ·simp only [e, if_false, Function.comp_def, List.getElem?_cons_succ, Bool.false_eq_true]
     have := ih (o + 1)
     rw [show (fun i : Nat => (ys[i]?).bind fun x => if p x = true then some (some ((o + (i + 1) : Nat) : Int)) else none) = fun i : Nat => (ys[i]?).bind fun x => if p x = true then some (some ((o + 1 + i : Nat) : Int)) else none from by funext i; rw [show o + (i + 1) = o + 1 + i by omega]]
     rw [this]
     cases ys.findIdx? p <;> simp; omega
  have := key xs 0
  simp only [Nat.zero_add] at this
  rw [this]
  unfold idxOf
  cases xs.findIdx? p <;> rfl
 ·rw [hs kb i hi, List.getElem?_eq_getElem hi]
  simp only [Option.bind_some]
  by_cases e : p xs[i] = true <;> simp [e]
theorem all_range {α : Type} (xs : List α) (p : α → Bool) : ((List.range xs.length).all fun i => ((xs[i]?).map p).getD true) = xs.all p := by
 rw [Bool.eq_iff_iff, List.all_eq_true, List.all_eq_true]
 constructor
 ·intro H x hx
  obtain ⟨i, hi, rfl⟩ := List.mem_iff_getElem.1 hx
  have := H i (List.mem_range.2 hi)
  rw [List.getElem?_eq_getElem hi] at this
  exact this
 ·intro H i hi
  have hi := List.mem_range.1 hi
  rw [List.getElem?_eq_getElem hi]
  exact H _ (List.getElem_mem hi)
theorem iter_any {α R : Type} (xs : List α) (p : α → Bool) (r k : Option R) {f : (Int → Option R) → Int → Option R} (hn : xs.length ≤ 1152921504606846976)
  (hs : ∀ kb (i : Nat) (hi : i < xs.length), f kb (i : Int) = if p xs[i] = true then r else kb ((i + 1 : Nat) : Int)) (he : ∀ kb, f kb (xs.length : Int) = k) : iter f FU 0 = if xs.any p = true then r else k := by
 rw [iter_good (s0 := (0 : Int)) (fun i => (i : Int)) (fun i => ((xs[i]?).map fun x => !p x).getD true) r k xs.length hn (fun kb i hi => ?_) (fun kb => he kb) rfl, all_range xs fun x => !p x]
 ·cases h : xs.any p with
  | true =>
   have : (xs.all fun x => !p x) = false := by
    rw [List.all_eq_false]; obtain ⟨x, hx, hp⟩ := List.any_eq_true.1 h; exact ⟨x, hx, by simp [hp]⟩
   simp [this]
  | false =>
   have : (xs.all fun x => !p x) = true := by
    rw [List.all_eq_true]; intro x hx; rw [List.any_eq_false] at h; simp [h x hx]
   simp [this]
 ·rw [hs kb i hi, List.getElem?_eq_getElem hi]
  cases h : p xs[i] <;> simp [h]
def within (z lo hi : Int) : Bool := decide (lo ≤ z) && decide (z ≤ hi)
theorem p_l1In (z lo hi : Int) : m_spec_l1In z lo hi = some (within z lo hi) := by
 unfold m_spec_l1In within; by_cases h : lo ≤ z <;> simp [h]
theorem p_from (z lo hi : Int) : m_impl_from z lo hi = some (within z lo hi) := by
 unfold m_impl_from within; by_cases h : lo ≤ z <;> simp [h]
theorem p_l12Tx (z : Int) : m_spec_l12Tx z = some (within z 1 60) := by simp [m_spec_l12Tx, p_l1In]
theorem p_isTx (z : Int) : m_impl_isTx z = some (within z 1 60) := by simp [m_impl_isTx, p_from]
def rangeOk (a : TRange) : Bool := decide (0 ≤ a.Lo) && decide (a.Lo < a.Hi) && decide (a.Hi ≤ 1000)
theorem p_spec_RangeOk (a : TRange) : m_spec_RangeOk a = some (rangeOk a) := by
 unfold m_spec_RangeOk rangeOk; by_cases h : 0 ≤ a.Lo <;> by_cases h' : a.Lo < a.Hi <;> simp [h, h']
theorem p_impl_RangeOk (a : TRange) : m_impl_RangeOk a = some (rangeOk a) := by
 unfold m_impl_RangeOk rangeOk; by_cases h : 0 ≤ a.Lo <;> by_cases h' : a.Lo < a.Hi <;> simp [h, h']
def goodC (cb : List Int) (c : Int × Int) : Prop := 0 ≤ c.1 ∧ c.1 ≤ (cb.length : Int) ∧ cb.length ≤ 1048576
def Drawn {α : Type} (cb : List Int) (P : α → Prop) (m : Option (α × (Int × Int))) : Prop := ∃ x c, m = some (x, c) ∧ goodC cb c ∧ P x
theorem Drawn.bind {α β : Type} {cb : List Int} {P : α → Prop} {Q : β → Prop} {m : Option (α × (Int × Int))} {f : α × (Int × Int) → Option (β × (Int × Int))} (h : Drawn cb P m) (hf : ∀ x c, goodC cb c → P x → Drawn cb Q (f (x, c))) : Drawn cb Q (m.bind f) := by
 obtain ⟨x, c, rfl, hc, hp⟩ := h
 exact hf x c hc hp
theorem Drawn.some {α : Type} {cb : List Int} {P : α → Prop} {x : α} {c : Int × Int} (hc : goodC cb c) (hp : P x) : Drawn cb P (some (x, c)) := ⟨x, c, rfl, hc, hp⟩
theorem low_and (x y : Int) (k : Nat) (hk : (BitVec.ofInt 64 y).toNat = k) (hk' : k < 9223372036854775808) : 0 ≤ IntKind.wrap .i64 ((BitVec.ofInt (IntKind.bits .i64) x &&& BitVec.ofInt (IntKind.bits .i64) y).toNat : Int) ∧ IntKind.wrap .i64 ((BitVec.ofInt (IntKind.bits .i64) x &&& BitVec.ofInt (IntKind.bits .i64) y).toNat : Int) ≤ k := by
 have h : (BitVec.ofInt (IntKind.bits .i64) x &&& BitVec.ofInt (IntKind.bits .i64) y).toNat ≤ k := by
  rw [BitVec.toNat_and, ← hk]
  exact Nat.and_le_right
 rw [w64 (by omega) (by omega)]
 omega
theorem low8 (x : Int) : 0 ≤ IntKind.wrap .i64 ((BitVec.ofInt (IntKind.bits .i64) x &&& BitVec.ofInt (IntKind.bits .i64) 255).toNat : Int) ∧ IntKind.wrap .i64 ((BitVec.ofInt (IntKind.bits .i64) x &&& BitVec.ofInt (IntKind.bits .i64) 255).toNat : Int) ≤ 255 := low_and x 255 255 (by decide) (by decide)
theorem p_l1Byte {cb : List Int} {c : Int × Int} (h : goodC cb c) : Drawn cb (fun x => 0 ≤ x ∧ x ≤ 255) (m_spec_l1Byte cb c) := by
 obtain ⟨h1, h2, h3⟩ := h
 unfold m_spec_l1Byte
 split
 ·rename_i hlt
  obtain ⟨n, hn⟩ : ∃ n : Nat, c.1 = (n : Int) := ⟨c.1.toNat, by omega⟩
  rw [hn, idx_nat (show n < cb.length by omega)]
  simp only [Option.bind_some]
  refine Drawn.some ⟨?_, ?_, h3⟩ (low8 _)
  ·simp only; rw [w64 (by omega) (by omega)]; omega
  ·simp only; rw [w64 (by omega) (by omega)]; omega
 ·exact Drawn.some ⟨h1, h2, h3⟩ (low8 _)
theorem p_l1Below {cb : List Int} {c : Int × Int} (h : goodC cb c) (n : Int) : Drawn cb (fun x => 0 ≤ x ∧ (0 < n → x < n) ∧ (n ≤ 0 → x = 0)) (m_spec_l1Below cb c n) := by
 unfold m_spec_l1Below
 split
 ·exact Drawn.some h ⟨Int.le_refl _, fun h' => by omega, fun _ => rfl⟩
 ·rename_i h0
  split
  ·refine (p_l1Byte h).bind fun x c1 hc1 hx => ?_
   rw [if_pos (by omega)]
   exact Drawn.some hc1 ⟨Int.tmod_nonneg _ hx.1, fun _ => Int.tmod_lt_of_pos _ (by omega), fun h' => absurd h' h0⟩
  ·refine (p_l1Byte h).bind fun x1 c1 hc1 hx1 => (p_l1Byte hc1).bind fun x2 c2 hc2 hx2 => (p_l1Byte hc2).bind fun x3 c3 hc3 hx3 => (p_l1Byte hc3).bind fun x4 c4 hc4 hx4 => ?_
   rw [if_pos (by omega)]
   simp only at hx1 hx2 hx3 hx4 ⊢
   rw [w64 (n := x1 * 16777216) (by omega) (by omega), w64 (n := x2 * 65536) (by omega) (by omega), w64 (n := x3 * 256) (by omega) (by omega), w64 (n := x1 * 16777216 + x2 * 65536) (by omega) (by omega), w64 (n := x1 * 16777216 + x2 * 65536 + x3 * 256) (by omega) (by omega), w64 (n := x1 * 16777216 + x2 * 65536 + x3 * 256 + x4) (by omega) (by omega)]
   exact Drawn.some hc4 ⟨Int.tmod_nonneg _ (by omega), fun _ => Int.tmod_lt_of_pos _ (by omega), fun h' => absurd h' h0⟩
theorem p_l1Once {cb : List Int} {c : Int × Int} (h : goodC cb c) (n : Int) : Drawn cb (fun _ => True) (m_spec_l1Once cb c n) := by
 unfold m_spec_l1Once
 exact (p_l1Below h n).bind fun x c1 hc1 _ => Drawn.some hc1 trivial
theorem p_l1PickInt {cb : List Int} {c : Int × Int} (h : goodC cb c) (xs : List Int) (hx : 0 < xs.length) : Drawn cb (fun x => x ∈ xs) (m_spec_l1PickInt cb c xs) := by
 unfold m_spec_l1PickInt
 refine (p_l1Below h _).bind fun x c1 hc1 ⟨h1, h2, _⟩ => ?_
 obtain ⟨n, rfl⟩ : ∃ n : Nat, x = (n : Int) := ⟨x.toNat, by omega⟩
 have hn : n < xs.length := by have := h2 (by omega); omega
 simp only [idx_nat hn, Option.bind_some]
 exact Drawn.some hc1 (List.getElem_mem hn)
def newH (cb : List Int) : Nat → Int
 | 0 => IntKind.wrap .i64 (97097 + (cb.length : Int))
 | i + 1 => IntKind.wrap .i64 ((BitVec.ofInt (IntKind.bits .i64) (IntKind.wrap .i64 ((IntKind.wrap .i64 ((IntKind.wrap .i64 (newH cb i * 131)) + (IntKind.wrap .i64 ((cb[i]?).getD 0)))) + 7)) &&& BitVec.ofInt (IntKind.bits .i64) 1073741823).toNat : Int)
theorem p_l1New (cb : List Int) (h : cb.length ≤ 1048576) : ∃ c, m_spec_l1New cb = some c ∧ goodC cb c := by
 refine ⟨(0, newH cb (min cb.length 4000)), ?_, by simp [goodC]; exact h⟩
 unfold m_spec_l1New
 refine iter_all (fun i => (newH cb i, (i : Int))) _ (min cb.length 4000) (by omega) (fun kb i hi => ?_) (fun kb => ?_) rfl
 ·have hi' : i < cb.length := by omega
  unfold spec_l1New_b4
  simp only
  rw [if_pos (by omega), if_pos (by omega), idx_nat hi', step1 i _ hi' (by omega)]
  simp only [Option.bind_some, newH, List.getElem?_eq_getElem hi', Option.getD_some]
 ·unfold spec_l1New_b4 spec_l1New_j2
  simp only
  split
  ·rw [if_neg (by omega)]
  ·rfl
theorem p_l1Size (cb : List Int) (h : cb.length ≤ 1048576) (a : Int) (ha : 2 ≤ a) : ∃ n, m_spec_l1Size cb a = some n ∧ 2 ≤ n ∧ n ≤ a := by
 have h1 : 0 ≤ Int.tdiv (cb.length : Int) 20 := Int.tdiv_nonneg (by omega) (by decide)
 have h2 : Int.tdiv (cb.length : Int) 20 ≤ (cb.length : Int) := by
  rw [Int.tdiv_eq_ediv_of_nonneg (by omega)]; omega
 unfold m_spec_l1Size
 rw [w64 (n := Int.tdiv (cb.length : Int) 20) (by omega) (by omega), w64 (by omega) (by omega)]
 split
 ·exact ⟨_, rfl, by omega, by omega⟩
 ·exact ⟨_, rfl, by omega, by omega⟩
theorem iter_inv {S R : Type} {f : (S → Option R) → S → Option R} (I : Nat → S → Prop) (n : Nat) (hn : n ≤ 1152921504606846976) {s0 : S} (h0 : I 0 s0) (Post : Option R → Prop)
  (hs : ∀ i, i < n → ∀ s, I i s → ∀ kb, ∃ s', I (i + 1) s' ∧ f kb s = kb s') (he : ∀ s, I n s → ∀ kb, Post (f kb s)) : Post (iter f FU s0) := by
 have key : ∀ (d i m : Nat) (s : S), i + d = n → d < m → I i s → Post (iter f m s) := by
  intro d
  induction d with
  | zero =>
   intro i m s e hm hi
   have : i = n := by omega
   subst this
   cases m with
   | zero => omega
   | succ m => exact he s hi _
  | succ d ih =>
   intro i m s e hm hi
   cases m with
   | zero => omega
   | succ m =>
    obtain ⟨s', h1, h2⟩ := hs i (by omega) s hi (iter f m)
    show Post (f (iter f m) s)
    rw [h2]
    exact ih (i + 1) m s' (by omega) (by omega) h1
 exact key n 0 FU s0 (by omega) (by unfold FU; omega) h0
theorem iter_filter {α R : Type} {f : (List α × Int → Option R) → List α × Int → Option R} (xs : List α) (q : α → Bool) (k : List α → Option R) (hn : xs.length ≤ 1048576)
  (hs : ∀ kb (ys : List α) (i : Nat) (hi : i < xs.length), ys.length ≤ i → f kb (ys, (i : Int)) = if q xs[i] = true then kb (ys ++ [xs[i]], ((i + 1 : Nat) : Int)) else kb (ys, ((i + 1 : Nat) : Int)))
  (he : ∀ kb (ys : List α), f kb (ys, (xs.length : Int)) = k ys) : iter f FU ([], 0) = k (xs.filter q) := by
 refine iter_all (fun i => ((xs.take i).filter q, (i : Int))) _ xs.length (by omega) (fun kb i hi => ?_) (fun kb => ?_) (by simp)
 ·rw [hs kb _ i hi (Nat.le_trans (List.length_filter_le _ _) (by simp; omega))]
  rw [List.take_succ_eq_append_getElem hi, List.filter_append]
  by_cases h : q xs[i] = true <;> simp [h]
 ·rw [he, List.take_length]
def delY {α : Type} (xs : List α) (p : α → Bool) (k0 : Nat) : Nat → List α × Nat
 | 0 => (xs, k0)
 | n + 1 => match xs[k0 + 1 + n]? with
  | some x => if p x then delY xs p k0 n else ((delY xs p k0 n).1.set (delY xs p k0 n).2 x, (delY xs p k0 n).2 + 1)
  | none => delY xs p k0 n
theorem delY_spec {α : Type} (xs : List α) (p : α → Bool) (k0 : Nat) (hk : k0 < xs.length) (h0 : (xs.take (k0 + 1)).filter (fun x => !p x) = xs.take k0) : ∀ n, k0 + 1 + n ≤ xs.length →
  (delY xs p k0 n).1.length = xs.length ∧ (delY xs p k0 n).2 < k0 + 1 + n ∧ (delY xs p k0 n).1.take (delY xs p k0 n).2 = (xs.take (k0 + 1 + n)).filter (fun x => !p x) ∧ ∀ m, k0 + 1 + n ≤ m → (delY xs p k0 n).1[m]? = xs[m]?
 | 0, h => by
  refine ⟨rfl, by simp [delY], ?_, fun m _ => rfl⟩
  simp only [delY, Nat.add_zero]
  rw [h0]
 | n + 1, h => by
  obtain ⟨h1, h2, h3, h4⟩ := delY_spec xs p k0 hk h0 n (by omega)
  have hlt : k0 + 1 + n < xs.length := by omega
  simp only [delY, List.getElem?_eq_getElem hlt]
  have ht : (xs.take (k0 + 1 + (n + 1))).filter (fun x => !p x) = (xs.take (k0 + 1 + n)).filter (fun x => !p x) ++ (if p xs[k0 + 1 + n] = true then [] else [xs[k0 + 1 + n]]) := by
   rw [show k0 + 1 + (n + 1) = (k0 + 1 + n) + 1 by omega, List.take_succ_eq_append_getElem hlt, List.filter_append]
   congr 1
   by_cases c : p xs[k0 + 1 + n] = true <;> simp [c]
  by_cases c : p xs[k0 + 1 + n] = true
  ·simp only [c, if_true]
   refine ⟨h1, by omega, by rw [ht, c]; simpa using h3, fun m hm => h4 m (by omega)⟩
  ·simp only [c, Bool.false_eq_true, if_false]
   refine ⟨by simpa using h1, by omega, ?_, fun m hm => ?_⟩
   ·rw [ht, ← h3]
    rw [if_neg c, List.take_succ_eq_append_getElem (by rw [List.length_set, h1]; omega), List.take_set_of_le (Nat.le_refl _)]
    simp
   ·rw [List.getElem?_set_ne (by omega)]
    exact h4 m (by omega)
theorem iter_del {α R : Type} {f : (List α × Int × Int → Option R) → List α × Int × Int → Option R} (xs : List α) (p : α → Bool) (k : List α → Nat → Option R) (hn : xs.length ≤ 1048576) (k0 : Nat) (hk : k0 < xs.length) (h0 : (xs.take (k0 + 1)).filter (fun x => !p x) = xs.take k0)
  (hs : ∀ kb (ys : List α) (i j : Nat) (hj : j < xs.length), i < j → ys.length = xs.length → ys[j]? = some xs[j] → f kb (ys, (i : Int), (j : Int)) = if p xs[j] = true then kb (ys, (i : Int), ((j + 1 : Nat) : Int)) else kb (ys.set i xs[j], ((i + 1 : Nat) : Int), ((j + 1 : Nat) : Int)))
  (he : ∀ kb (ys : List α) (i : Nat), i ≤ xs.length → ys.length = xs.length → f kb (ys, (i : Int), (xs.length : Int)) = k ys i) :
  ∃ ys, ys.length = xs.length ∧ (xs.filter fun x => !p x).length ≤ xs.length ∧ ys.take (xs.filter fun x => !p x).length = xs.filter (fun x => !p x) ∧ iter f FU (xs, (k0 : Int), ((k0 + 1 : Nat) : Int)) = k ys (xs.filter fun x => !p x).length := by
 obtain ⟨h1, h2, h3, _⟩ := delY_spec xs p k0 hk h0 (xs.length - (k0 + 1)) (by omega)
 rw [show k0 + 1 + (xs.length - (k0 + 1)) = xs.length by omega, List.take_length] at h3
 rw [show k0 + 1 + (xs.length - (k0 + 1)) = xs.length by omega] at h2
 have hl : (delY xs p k0 (xs.length - (k0 + 1))).2 = (xs.filter fun x => !p x).length := by
  rw [← h3, List.length_take, h1]; omega
 refine ⟨_, h1, List.length_filter_le _ _, by rw [← hl]; exact h3, ?_⟩
 rw [← hl]
 refine iter_all (fun n => ((delY xs p k0 n).1, ((delY xs p k0 n).2 : Int), ((k0 + 1 + n : Nat) : Int))) _ (xs.length - (k0 + 1)) (by omega) (fun kb n hlt => ?_) (fun kb => ?_) (by simp [delY])
 ·obtain ⟨g1, g2, g3, g4⟩ := delY_spec xs p k0 hk h0 n (by omega)
  have hj : k0 + 1 + n < xs.length := by omega
  show f kb ((delY xs p k0 n).1, ((delY xs p k0 n).2 : Int), ((k0 + 1 + n : Nat) : Int)) = kb ((delY xs p k0 (n + 1)).1, ((delY xs p k0 (n + 1)).2 : Int), ((k0 + 1 + (n + 1) : Nat) : Int))
  rw [hs kb _ _ _ hj g2 g1 (by rw [g4 _ (Nat.le_refl _), List.getElem?_eq_getElem hj])]
  have e : delY xs p k0 (n + 1) = if p xs[k0 + 1 + n] = true then delY xs p k0 n else ((delY xs p k0 n).1.set (delY xs p k0 n).2 xs[k0 + 1 + n], (delY xs p k0 n).2 + 1) := by
   simp only [delY, List.getElem?_eq_getElem hj]
  rw [e]
  by_cases c : p xs[k0 + 1 + n] = true
  ·simp only [c, if_true]; rfl
  ·simp only [c, Bool.false_eq_true, if_false]; rfl
 ·show f kb ((delY xs p k0 (xs.length - (k0 + 1))).1, ((delY xs p k0 (xs.length - (k0 + 1))).2 : Int), ((k0 + 1 + (xs.length - (k0 + 1)) : Nat) : Int)) = _
  rw [show k0 + 1 + (xs.length - (k0 + 1)) = xs.length by omega]
  exact he kb _ _ (by omega) h1
theorem idx_none {α : Type} {p : α → Bool} {xs : List α} (e : idxOf p xs = -1) : xs.filter (fun x => !p x) = xs := by
 unfold idxOf at e
 split at e
 ·omega
 ·rename_i h
  rw [List.findIdx?_eq_none_iff] at h
  rw [List.filter_eq_self]
  intro x hx
  simp [h x hx]
theorem idx_some' {α : Type} {p : α → Bool} {xs : List α} (e : ¬ idxOf p xs = -1) : ∃ k : Nat, idxOf p xs = (k : Int) ∧ k < xs.length ∧ (xs.take (k + 1)).filter (fun x => !p x) = xs.take k := by
 unfold idxOf at e ⊢
 split
 ·rename_i k h
  rw [List.findIdx?_eq_some_iff_getElem] at h
  obtain ⟨hk, hp, hb⟩ := h
  refine ⟨k, rfl, hk, ?_⟩
  rw [List.take_succ_eq_append_getElem hk, List.filter_append, List.filter_eq_self.2 ?_]
  ·simp [hp]
  ·intro x hx
   obtain ⟨j, hj, rfl⟩ := List.getElem_of_mem hx
   have hj' : j < k := by simp at hj; omega
   have := hb j hj'
   simp only [List.getElem_take]
   simpa using this
 ·rename_i h
  rw [h] at e
  exact absurd rfl e
theorem take_front {α : Type} {ys : List α} {i : Nat} (zs ws : List α) (h : i ≤ ys.length) : List.take i (List.take i ys ++ zs ++ ws) = List.take i ys := by
 rw [List.append_assoc, List.take_append_of_le_length (by simp; omega), List.take_take, Nat.min_self]
theorem mid {a b : Nat} (h : a < b) (hb : b ≤ 1048576) : IntKind.wrap .i64 (Int.fdiv (IntKind.wrap .u64 (IntKind.wrap .i64 ((a : Int) + (b : Int)))) (2 ^ (min (Int.toNat 1) (IntKind.bits .u64)))) = (((a + b) / 2 : Nat) : Int) := by
 rw [w64 (n := (a : Int) + b) (by omega) (by omega)]
 have h1 : IntKind.wrap .u64 ((a : Int) + b) = (a : Int) + b := by
  unfold IntKind.wrap
  simp only [IntKind.bits, IntKind.signed]
  simp
  omega
 rw [h1]
 have h2 : (min (Int.toNat 1) (IntKind.bits .u64)) = 1 := by decide
 rw [h2]
 have h3 : ((a : Int) + b).fdiv (2 ^ 1) = (((a + b) / 2 : Nat) : Int) := by
  rw [Int.fdiv_eq_ediv_of_nonneg _ (by decide)]
  omega
 rw [h3]
 exact w64 (by omega) (by omega)
theorem p_Clone_Lock (xs : List TLock) (h : xs.length ≤ 1048576) : m_slices_Clone_Lock xs = some xs := by
 unfold m_slices_Clone_Lock slices_Clone_Lock_j2
 split <;> first | (simp; done) | (simp; omega)
theorem p_Clone_int (xs : List Int) (h : xs.length ≤ 1048576) : m_slices_Clone_int xs = some xs := by
 unfold m_slices_Clone_int slices_Clone_int_j2
 split <;> first | (simp; done) | (simp; omega)
def ascI (xs : List Int) : Prop := xs.Pairwise (· < ·)
theorem ascI_uniq : ∀ {xs ys : List Int}, ascI xs → ascI ys → (∀ z, z ∈ xs ↔ z ∈ ys) → xs = ys
 | [], [], _, _, _ => rfl
 | [], b :: bs, _, _, h => by have := (h b).2 (by simp); cases this
 | a :: az, [], _, _, h => by have := (h a).1 (by simp); cases this
 | a :: az, b :: bs, h1, h2, h => by
  unfold ascI at h1 h2
  rw [List.pairwise_cons] at h1 h2
  have e : a = b := by
   rcases List.mem_cons.1 ((h a).1 (by simp)) with e | e
   ·exact e
   ·rcases List.mem_cons.1 ((h b).2 (by simp)) with e' | e'
    ·exact e'.symm
    ·have := h1.1 b e'; have := h2.1 a e; omega
  subst e
  congr 1
  refine ascI_uniq h1.2 h2.2 fun z => ⟨fun hz => ?_, fun hz => ?_⟩
  ·rcases List.mem_cons.1 ((h z).1 (by simp [hz])) with e | e
   ·subst e; have := h1.1 z hz; omega
   ·exact e
  ·rcases List.mem_cons.1 ((h z).2 (by simp [hz])) with e | e
   ·subst e; have := h2.1 z hz; omega
   ·exact e
def iL (x : Int) : List Int → Bool → List Int
 | [], put => if put then [] else [x]
 | c :: cs, put => (if (!put && decide (x ≤ c)) = true then [x] else []) ++ ((if ¬ c = x then [c] else []) ++ iL x cs (put || decide (x ≤ c)))
theorem iL_mem (x z : Int) : ∀ (xs : List Int) (b : Bool), z ∈ iL x xs b ↔ (b = false ∧ z = x) ∨ (z ∈ xs ∧ ¬ z = x)
 | [], b => by cases b <;> simp [iL]
 | c :: cs, b => by
  simp only [iL, List.mem_append, iL_mem x z cs, List.mem_cons]
  by_cases h1 : x ≤ c <;> by_cases h2 : c = x <;> cases b <;> simp [h1, h2] <;> by_cases h3 : z = x <;> simp [h3] <;> omega
theorem iL_asc (x : Int) : ∀ (xs : List Int) (b : Bool), ascI xs → ascI (iL x xs b)
 | [], b, _ => by cases b <;> simp [iL, ascI]
 | c :: cs, b, h => by
  unfold ascI at h
  rw [List.pairwise_cons] at h
  have ih := iL_asc x cs (b || decide (x ≤ c)) h.2
  unfold ascI at ih ⊢
  simp only [iL]
  rw [List.pairwise_append, List.pairwise_append]
  refine ⟨by split <;> simp, ⟨by split <;> simp, ih, fun y hy z hz => ?_⟩, fun y hy z hz => ?_⟩
  ·split at hy
   ·simp only [List.mem_singleton] at hy
    subst hy
    rw [iL_mem] at hz
    rcases hz with ⟨hz, rfl⟩ | ⟨hz, _⟩
    ·simp at hz; omega
    ·exact h.1 z hz
   ·cases hy
  ·split at hy
   ·rename_i hb
    simp only [Bool.and_eq_true, Bool.not_eq_true', decide_eq_true_eq] at hb
    simp only [List.mem_singleton] at hy
    subst hy
    rw [List.mem_append] at hz
    rcases hz with hz | hz
    ·split at hz
     ·simp only [List.mem_singleton] at hz; omega
     ·cases hz
    ·rw [iL_mem] at hz
     rcases hz with ⟨hz, rfl⟩ | ⟨hz, _⟩
     ·simp [hb.2] at hz
     ·have := h.1 z hz; omega
   ·cases hy
theorem iL_len (x : Int) : ∀ (xs : List Int) (b : Bool), (iL x xs b).length ≤ xs.length + (if b then 0 else 1)
 | [], b => by cases b <;> simp [iL]
 | c :: cs, b => by
  have ih := iL_len x cs (b || decide (x ≤ c))
  simp only [iL, List.length_append, List.length_cons]
  by_cases h1 : x ≤ c <;> by_cases h2 : c = x <;> cases b <;> simp [h1, h2] at ih ⊢ <;> omega
def ipAt (x : Int) : Nat → List Int → Bool
 | 0, _ => false
 | n + 1, xs => ipAt x n xs || match xs[n]? with | some c => decide (x ≤ c) | none => false
theorem iL_drop (x : Int) {xs : List Int} {i : Nat} (hi : i < xs.length) (b : Bool) : iL x (xs.drop i) b = (if (!b && decide (x ≤ xs[i])) = true then [x] else []) ++ ((if ¬ xs[i] = x then [xs[i]] else []) ++ iL x (xs.drop (i + 1)) (b || decide (x ≤ xs[i]))) := by
 rw [List.drop_eq_getElem_cons hi]
 rfl
def iP (x : Int) (xs : List Int) : Nat → List Int
 | 0 => []
 | i + 1 => iP x xs i ++ (match xs[i]? with | some c => (if (!(ipAt x i xs) && decide (x ≤ c)) = true then [x] else []) ++ (if ¬ c = x then [c] else []) | none => [])
theorem iP_len (x : Int) (xs : List Int) : ∀ i, (iP x xs i).length ≤ 2 * i
 | 0 => by simp [iP]
 | i + 1 => by
  have ih := iP_len x xs i
  simp only [iP, List.length_append]
  have : (match xs[i]? with | some c => (if (!(ipAt x i xs) && decide (x ≤ c)) = true then [x] else []) ++ (if ¬ c = x then [c] else []) | none => []).length ≤ 2 := by
   cases xs[i]? with
   | none => simp
   | some c => simp only [List.length_append]; split <;> split <;> simp
  omega
theorem iP_all (x : Int) (xs : List Int) : ∀ i, i ≤ xs.length → iL x xs false = iP x xs i ++ iL x (xs.drop i) (ipAt x i xs)
 | 0, _ => by simp [iP, ipAt]
 | i + 1, hi => by
  have hlt : i < xs.length := by omega
  rw [iP_all x xs i (by omega), iL_drop x hlt]
  simp only [iP, ipAt, List.getElem?_eq_getElem hlt, List.append_assoc]
theorem p_l12Put (xs : List Int) (x : Int) (h : xs.length ≤ 1048576) : m_spec_l12Put xs x = some (iL x xs false) := by
 unfold m_spec_l12Put
 refine iter_all (fun i => (iP x xs i, ipAt x i xs, (i : Int))) _ xs.length (by omega) (fun kb i hi => ?_) (fun kb => ?_) (by simp [iP, ipAt])
 ·have hl := iP_len x xs i
  unfold spec_l12Put_b7 spec_l12Put_j18 spec_l12Put_j10
  simp only [idx_nat hi, Option.bind_some, step1 i _ hi (by omega), iP, ipAt, List.getElem?_eq_getElem hi]
  rw [if_pos (by omega)]
  generalize ipAt x i xs = b
  generalize iP x xs i = acc at hl
  cases b <;> by_cases h1 : x ≤ xs[i] <;> by_cases h2 : xs[i] = x <;> simp [h1, h2] <;> first | omega | (rw [if_pos (by omega), if_pos (by omega)])
 ·have hl := iP_len x xs xs.length
  rw [iP_all x xs xs.length (Nat.le_refl _)]
  unfold spec_l12Put_b7 spec_l12Put_j3
  rw [if_neg (by simp)]
  simp only [List.drop_length]
  generalize ipAt x xs.length xs = b
  generalize iP x xs xs.length = acc at hl
  cases b <;> simp [iL] <;> omega
theorem p_bsearchI (xs : List Int) (k : Int) (hs : ascI xs) (hl : xs.length ≤ 1048576) :
  ∃ p : Nat, p ≤ xs.length ∧ (∀ i (hi : i < xs.length), i < p ↔ xs[i] < k) ∧ m_slices_BinarySearch_int xs k = some ((p : Int), decide (xs[p]? = some k)) := by
 have hs : ∀ i j (hi : i < xs.length) (hj : j < xs.length), i < j → xs[i] < xs[j] := fun i j hi hj hij => List.pairwise_iff_getElem.1 hs i j hi hj hij
 have hc : ∀ z, m_cmp_Less_int z k = some (decide (z < k)) := fun z => by simp [m_cmp_Less_int, m_cmp_isNaN_int]
 have loop : ∀ (m lo hi : Nat), lo ≤ hi → hi ≤ xs.length → hi - lo < m → (∀ i (h : i < xs.length), i < lo → xs[i] < k) → (∀ i (h : i < xs.length), hi ≤ i → ¬ xs[i] < k) →
   ∃ p : Nat, p ≤ xs.length ∧ (∀ i (hi : i < xs.length), i < p ↔ xs[i] < k) ∧
    iter (slices_BinarySearch_int_b16 xs k (slices_BinarySearch_int_j3 xs k)) m ((lo : Int), (hi : Int)) = slices_BinarySearch_int_j3 xs k (p : Int) := by
  intro m
  induction m with
  | zero => intro lo hi _ _ h; omega
  | succ m ih =>
   intro lo hi hle hhi hm hlow hhigh
   unfold iter
   unfold slices_BinarySearch_int_b16
   by_cases e : lo = hi
   ·subst e
    refine ⟨lo, hhi, fun i h => ⟨hlow i h, fun hlt => ?_⟩, ?_⟩
    ·apply Classical.byContradiction
     intro hn
     exact hhigh i h (by omega) hlt
    ·rw [if_neg (by simp)]
   ·have hlt : lo < hi := by omega
    rw [if_pos (by simp; omega)]
    simp only [mid hlt (show hi ≤ 1048576 by omega)]
    have hmid : (lo + hi) / 2 < xs.length := by omega
    rw [idx_nat hmid]
    rw [Option.bind_some, hc, Option.bind_some]
    by_cases hv : xs[(lo + hi) / 2] < k
    ·rw [if_pos (decide_eq_true hv), step1 ((lo + hi) / 2) (xs.length) hmid (by omega)]
     refine ih ((lo + hi) / 2 + 1) hi (by omega) hhi (by omega) (fun i h hi' => ?_) hhigh
     by_cases e2 : i = (lo + hi) / 2
     ·subst e2; omega
     ·have := hs i ((lo + hi) / 2) h hmid (by omega); omega
    ·rw [if_neg (by simpa using hv)]
     refine ih lo ((lo + hi) / 2) (by omega) (by omega) (by omega) hlow (fun i h hi' => ?_)
     by_cases e2 : i = (lo + hi) / 2
     ·subst e2; omega
     ·have := hs ((lo + hi) / 2) i hmid h (by omega); omega
 obtain ⟨p, hp, hiff, hit⟩ := loop FU 0 xs.length (by omega) (by omega) (by unfold FU; omega) (fun i h h0 => by omega) (fun i h h0 => by omega)
 refine ⟨p, hp, hiff, ?_⟩
 unfold m_slices_BinarySearch_int
 have hit : iter (slices_BinarySearch_int_b16 xs k (slices_BinarySearch_int_j3 xs k)) FU (0, (xs.length : Int)) = _ := hit
 rw [hit]
 unfold slices_BinarySearch_int_j3
 by_cases e : p < xs.length
 ·rw [if_pos (by omega), idx_nat e]
  simp only [Option.bind_some, List.getElem?_eq_getElem e, m_slices_isNaN_int, not_true, decide_false, Bool.false_eq_true, if_false]
  by_cases h : xs[p] = k <;> simp [h]
 ·rw [if_neg (by omega), List.getElem?_eq_none (by omega)]
  simp
theorem p_inserted (xs : List Int) (x : Int) (hs : ascI xs) (hl : xs.length ≤ 1048576) : m_impl_inserted xs x = some (iL x xs false) := by
 obtain ⟨p, hp, hiff, hb⟩ := p_bsearchI xs x hs hl
 unfold m_impl_inserted
 simp only [hb, Option.bind_some, p_Clone_int _ hl]
 by_cases hf : xs[p]? = some x
 ·simp only [hf, decide_true, if_true]
  congr 1
  refine ascI_uniq hs (iL_asc x xs false hs) fun z => ?_
  rw [iL_mem]
  obtain ⟨hlt, e⟩ := List.getElem?_eq_some_iff.1 hf
  have hx : x ∈ xs := by rw [← e]; exact List.getElem_mem hlt
  by_cases hz : z = x
  ·subst hz; simp [hx]
  ·simp [hz]
 ·simp only [hf, decide_false, Bool.false_eq_true, if_false]
  unfold m_slices_Insert_int
  rw [if_pos ⟨by omega, by omega, rfl, by omega⟩]
  simp only [Int.toNat_natCast, Option.bind_some]
  congr 1
  have hlow : ∀ c ∈ xs.take p, c < x := fun c hc => by
   obtain ⟨i, hi, rfl⟩ := List.getElem_of_mem hc
   rw [List.getElem_take]
   exact (hiff i (by simp at hi; omega)).1 (by simp at hi; omega)
  have hhigh : ∀ c ∈ xs.drop p, x < c := fun c hc => by
   obtain ⟨i, hi, rfl⟩ := List.getElem_of_mem hc
   rw [List.getElem_drop]
   have hlt : p + i < xs.length := by simp at hi; omega
   have h1 := hiff (p + i) hlt
   by_cases h0 : i = 0
   ·subst h0
    have : ¬ xs[p + 0] = x := fun e => hf (by rw [← e]; simp)
    omega
   ·have h2 := List.pairwise_iff_getElem.1 hs p (p + i) (by omega) hlt (by omega)
    have h3 := hiff p (by omega)
    omega
  refine ascI_uniq ?_ (iL_asc x xs false hs) fun z => ?_
  ·unfold ascI at hs ⊢
   rw [List.pairwise_append]
   refine ⟨hs.sublist (List.take_sublist _ _), ?_, fun a ha b hb => ?_⟩
   ·rw [List.singleton_append, List.pairwise_cons]
    exact ⟨hhigh, hs.sublist (List.drop_sublist _ _)⟩
   ·rw [List.singleton_append] at hb
    rcases List.mem_cons.1 hb with rfl | hb
    ·exact hlow a ha
    ·have := hlow a ha; have := hhigh b hb; omega
  ·rw [iL_mem]
   have hm : z ∈ xs ↔ z ∈ xs.take p ∨ z ∈ xs.drop p := by
    conv => lhs; rw [← List.take_append_drop p xs]
    exact List.mem_append
   rw [hm]
   simp only [List.mem_append, List.mem_singleton]
   by_cases hz : z = x
   ·simp [hz]
   ·simp [hz]
def insAll (ts : List Int) : List Int := ts.foldl (fun acc t => iL t acc false) []
theorem insAll_snoc (ts : List Int) (t : Int) : insAll (ts ++ [t]) = iL t (insAll ts) false := by simp [insAll]
theorem insAll_spec (ts : List Int) : ascI (insAll ts) ∧ (∀ z, z ∈ insAll ts ↔ z ∈ ts) ∧ (insAll ts).length ≤ ts.length := by
 have key : ∀ (n : Nat) (ts : List Int), ts.length = n → ascI (insAll ts) ∧ (∀ z, z ∈ insAll ts ↔ z ∈ ts) ∧ (insAll ts).length ≤ ts.length := by
  intro n
  induction n with
  | zero => intro ts h; have : ts = [] := List.eq_nil_of_length_eq_zero h; subst this; simp [insAll, ascI]
  | succ n ih =>
   intro ts h
   have hne : ts ≠ [] := by intro e; subst e; cases h
   obtain ⟨us, t, rfl⟩ : ∃ us t, ts = us ++ [t] := ⟨ts.dropLast, ts.getLast hne, (List.dropLast_concat_getLast hne).symm⟩
   obtain ⟨h1, h2, h3⟩ := ih us (by simpa using h)
   rw [insAll_snoc]
   refine ⟨iL_asc t _ false h1, fun z => ?_, ?_⟩
   ·rw [iL_mem, h2]
    by_cases hz : z = t <;> simp [hz]
   ·have := iL_len t (insAll us) false
    simp at this ⊢
    omega
 exact key ts.length ts rfl
def modeOk (m : Int) : Bool := decide (m = 1) || decide (m = 2)
theorem p_l12Mode (m : Int) : m_spec_l12Mode m = some (modeOk m) := by
 unfold m_spec_l12Mode modeOk; by_cases h : m = 1 <;> simp [h]
theorem p_isMode (m : Int) : m_impl_isMode m = some (modeOk m) := by
 unfold m_impl_isMode modeOk; by_cases h : m = 1 <;> simp [h]
def meetsB (a b : TRange) : Bool := decide (a.Lo < b.Hi) && decide (b.Lo < a.Hi)
theorem p_meets (a b : TRange) : m_impl_meets a b = some (meetsB a b) := by
 unfold m_impl_meets meetsB; by_cases h : a.Lo < b.Hi <;> simp [h]
def clashB (a b : TLock) : Bool := decide (¬ a.Tx = b.Tx) && (decide (a.Mode = 2) || decide (b.Mode = 2)) && meetsB ⟨a.Lo, a.Hi⟩ ⟨b.Lo, b.Hi⟩
theorem p_impl_clash (a b : TLock) : m_impl_clash a b = some (clashB a b) := by
 unfold m_impl_clash m_impl_Lock_keys clashB
 simp only [p_meets, Option.bind_some]
 by_cases h : a.Tx = b.Tx <;> by_cases h1 : a.Mode = 2 <;> by_cases h2 : b.Mode = 2 <;> simp [h, h1, h2]
theorem p_l1Min (a b : Int) : m_spec_l1Min a b = some (min a b) := by
 unfold m_spec_l1Min; split <;> congr 1 <;> omega
theorem p_l1Max (a b : Int) : m_spec_l1Max a b = some (max a b) := by
 unfold m_spec_l1Max; split <;> congr 1 <;> omega
theorem p_RangeMeet (a b : TRange) : m_spec_RangeMeet a b = some (if rangeOk a && rangeOk b && rangeOk ⟨max a.Lo b.Lo, min a.Hi b.Hi⟩ then (⟨max a.Lo b.Lo, min a.Hi b.Hi⟩, true) else (⟨0, 0⟩, false)) := by
 unfold m_spec_RangeMeet spec_RangeMeet_j7
 simp only [p_l1Min, p_l1Max, p_spec_RangeOk, Option.bind_some]
 cases rangeOk a <;> cases rangeOk b <;> cases rangeOk ⟨max a.Lo b.Lo, min a.Hi b.Hi⟩ <;> simp
theorem meet_ok {a b : TRange} (ha : rangeOk a = true) (hb : rangeOk b = true) : rangeOk ⟨max a.Lo b.Lo, min a.Hi b.Hi⟩ = meetsB a b := by
 unfold rangeOk at *
 unfold meetsB
 simp only [Bool.and_eq_true, decide_eq_true_eq] at ha hb
 rw [Bool.eq_iff_iff]
 simp only [Bool.and_eq_true, decide_eq_true_eq]
 omega
theorem p_l12Clash (a b : TLock) (ha : rangeOk ⟨a.Lo, a.Hi⟩ = true) (hb : rangeOk ⟨b.Lo, b.Hi⟩ = true) : m_spec_l12Clash a b = some (clashB a b) := by
 unfold m_spec_l12Clash m_spec_l12Range clashB
 simp only [p_RangeMeet, Option.bind_some, ha, hb, Bool.true_and]
 have := meet_ok ha hb
 simp only at this
 rw [this]
 cases meetsB ⟨a.Lo, a.Hi⟩ ⟨b.Lo, b.Hi⟩ <;> by_cases h : a.Tx = b.Tx <;> by_cases h1 : a.Mode = 2 <;> simp [h, h1]
theorem clash_comm (a b : TLock) : clashB a b = clashB b a := by
 unfold clashB meetsB
 rw [Bool.eq_iff_iff]
 simp only [Bool.and_eq_true, Bool.or_eq_true, decide_eq_true_eq]
 constructor <;> rintro ⟨⟨h1, h2⟩, h3, h4⟩ <;> exact ⟨⟨fun e => h1 e.symm, h2.symm⟩, h4, h3⟩
def lockAlone (a : TLock) : Bool := within a.Tx 1 60 && rangeOk ⟨a.Lo, a.Hi⟩ && modeOk a.Mode
def lockGood (xs : List TLock) (i : Nat) : Bool := match xs[i]? with
 | none => true
 | some a => lockAlone a && (xs.take i).all fun b => !clashB a b
def locksGood (xs : List TLock) : Bool := decide (xs.length ≤ 40) && (List.range xs.length).all (lockGood xs)
def optAll {α : Type} (f : α → Bool) : Option α → Bool
 | some b => f b
 | none => true
theorem all_take {α : Type} (xs : List α) (f : α → Bool) (n : Nat) (h : n ≤ xs.length) : (xs.take n).all f = (List.range n).all fun k => optAll f xs[k]? := by
 rw [Bool.eq_iff_iff, List.all_eq_true, List.all_eq_true]
 constructor
 ·intro H k hk
  have hk := List.mem_range.1 hk
  have : k < xs.length := by omega
  rw [List.getElem?_eq_getElem this]
  show f _ = true
  exact H _ (by rw [List.mem_take_iff_getElem]; exact ⟨k, by omega, rfl⟩)
 ·intro H x hx
  rw [List.mem_take_iff_getElem] at hx
  obtain ⟨k, hk, rfl⟩ := hx
  have := H k (List.mem_range.2 (by omega))
  rw [List.getElem?_eq_getElem (by omega)] at this
  exact this
theorem good_before {xs : List TLock} {i : Nat} (h : ∀ k, k < i → lockGood xs k = true) {k : Nat} (hk : k < i) (hl : k < xs.length) : rangeOk ⟨xs[k].Lo, xs[k].Hi⟩ = true := by
 have := h k hk
 unfold lockGood lockAlone at this
 rw [List.getElem?_eq_getElem hl] at this
 simp only [Bool.and_eq_true] at this
 exact this.1.1.2
theorem p_spec_LocksOk (xs : List TLock) (h : xs.length ≤ 1048576) : m_spec_LocksOk xs = some (locksGood xs) := by
 unfold m_spec_LocksOk locksGood
 split
 ·have : ¬ xs.length ≤ 40 := by omega
  simp [this]
 ·have : xs.length ≤ 40 := by omega
  rw [iter_goodH (s0 := (0 : Int)) (fun i => (i : Int)) (lockGood xs) (some false) (some true) xs.length (by omega) (fun kb i hi hp => ?_) (fun kb _ => ?_) rfl]
  ·simp only [this, decide_true, Bool.true_and]; split <;> simp_all
  ·unfold spec_LocksOk_b5 spec_LocksOk_j10 lockGood lockAlone
   simp only [idx_nat hi, p_l12Tx, p_l12Mode, p_spec_RangeOk, m_spec_l12Range, Option.bind_some, List.getElem?_eq_getElem hi]
   rw [if_pos (by omega)]
   generalize hg : (List.take i xs).all (fun b => !clashB xs[i] b) = g
   cases h1 : within xs[i].Tx 1 60 <;> simp
   cases h2 : rangeOk ⟨xs[i].Lo, xs[i].Hi⟩ <;> simp
   cases h3 : modeOk xs[i].Mode <;> simp
   rw [iter_good (s0 := (0 : Int)) (fun k => (k : Int)) (fun k => optAll (fun b => !clashB xs[i] b) xs[k]?) (some false) (kb ((i + 1 : Nat) : Int)) i (by omega) (fun kb' k hk => ?_) (fun kb' => ?_) rfl]
   ·rw [← hg, all_take xs _ i (by omega)]
    simp only [Int.natCast_add, Int.cast_ofNat_Int]
   ·unfold spec_LocksOk_b13
    have hkl : k < xs.length := by omega
    simp only [idx_nat hi, idx_nat hkl, Option.bind_some, p_l12Clash _ _ h2 (good_before hp hk hkl), step1 k _ hk (by omega), List.getElem?_eq_getElem hkl, optAll]
    rw [if_pos (by omega)]
    cases clashB xs[i] xs[k] <;> simp
   ·unfold spec_LocksOk_b13 spec_LocksOk_j8
    rw [if_neg (by omega), step1 i _ hi (by omega)]
  ·unfold spec_LocksOk_b5
   rw [if_neg (by omega)]; rfl
theorem p_Contains_LocksOk (xs : List TLock) (a : TLock) (h : xs.length ≤ 1048576) : m_slices_ContainsFunc_Lock__LocksOk_1 xs a = some (!xs.all fun b => !clashB a b) := by
 unfold m_slices_ContainsFunc_Lock__LocksOk_1 m_slices_IndexFunc_Lock__LocksOk_1
 have hb : ∀ x, m_impl_LocksOk_1 x a = some (clashB a x) := fun x => by simp [m_impl_LocksOk_1, p_impl_clash]
 rw [iter_stop (s0 := (0 : Int)) (fun i => (i : Int)) (fun i : Nat => match xs[i]? with | some b => if clashB a b = true then some (some (i : Int)) else none | none => none) (some (-1)) xs.length (by omega) (fun kb i hi => ?_) (fun kb => ?_) rfl]
 ·cases hf : (List.range xs.length).findSome? (fun i : Nat => match xs[i]? with | some b => if clashB a b = true then some (some (i : Int)) else none | none => none) with
  | none =>
   rw [List.findSome?_eq_none_iff] at hf
   have : (xs.all fun b => !clashB a b) = true := by
    rw [List.all_eq_true]
    intro x hx
    obtain ⟨k, hk, rfl⟩ := List.mem_iff_getElem.1 hx
    have := hf k (List.mem_range.2 hk)
    rw [List.getElem?_eq_getElem hk] at this
    cases hc : clashB a xs[k] with
    | false => rfl
    | true => simp [hc] at this
   simp [this]
  | some q =>
   obtain ⟨x, hx, hq⟩ := List.exists_of_findSome?_eq_some hf
   have hk := List.mem_range.1 hx
   rw [List.getElem?_eq_getElem hk] at hq
   simp only at hq
   split at hq
   ·rename_i hc
    cases hq
    have : (xs.all fun b => !clashB a b) = false := by
     rw [List.all_eq_false]
     exact ⟨xs[x], List.getElem_mem hk, by simp [hc]⟩
    simp [this]
   ·cases hq
 ·unfold slices_IndexFunc_Lock__LocksOk_1_b5
  simp only [idx_nat hi, Option.bind_some, hb, step1 i _ hi (by omega), List.getElem?_eq_getElem hi]
  rw [if_pos (by omega)]
  cases clashB a xs[i] <;> simp
 ·unfold slices_IndexFunc_Lock__LocksOk_1_b5
  rw [if_neg (by omega)]; rfl
theorem p_impl_LocksOk (xs : List TLock) (h : xs.length ≤ 1048576) : m_impl_LocksOk xs = some (locksGood xs) := by
 unfold m_impl_LocksOk locksGood
 rw [iter_good (s0 := (0 : Int)) (fun i => (i : Int)) (lockGood xs) (some false) (some (decide (xs.length ≤ 40))) xs.length (by omega) (fun kb i hi => ?_) (fun kb => ?_) rfl]
 ·split <;> simp_all
 ·unfold impl_LocksOk_b4 impl_LocksOk_j9 lockGood lockAlone
  have hc : cut xs 0 (i : Int) = some (xs.take i) := by
   unfold cut
   rw [if_pos ⟨by omega, by omega, by omega⟩]
   simp
  simp only [idx_nat hi, p_isTx, p_isMode, p_impl_RangeOk, m_impl_Lock_keys, Option.bind_some, List.getElem?_eq_getElem hi, hc, p_Contains_LocksOk (xs.take i) xs[i] (by simp; omega), step1 i _ hi (by omega)]
  rw [if_pos (by omega)]
  generalize hg : (List.take i xs).all (fun b => !clashB xs[i] b) = g
  cases h1 : within xs[i].Tx 1 60 <;> simp
  cases h2 : rangeOk ⟨xs[i].Lo, xs[i].Hi⟩ <;> simp
  cases h3 : modeOk xs[i].Mode <;> simp
  cases g <;> simp
 ·unfold impl_LocksOk_b4 impl_LocksOk_j2
  rw [if_neg (by omega)]
  have : ((xs.length : Int) ≤ 40) ↔ xs.length ≤ 40 := by omega
  simp [this]
def holdsB (tx : Int) (a : TRange) (mode : Int) (l : TLock) : Bool := decide (l.Tx = tx) && (decide (l.Mode = mode) || decide (l.Mode = 2)) && decide (l.Lo ≤ a.Lo) && decide (a.Hi ≤ l.Hi)
theorem locksGood_le {xs : List TLock} (h : locksGood xs = true) : xs.length ≤ 40 := by
 unfold locksGood at h; simp at h; exact h.1
theorem locksGood_at {xs : List TLock} (h : locksGood xs = true) {i : Nat} (hi : i < xs.length) : lockAlone xs[i] = true := by
 unfold locksGood at h
 simp only [Bool.and_eq_true, List.all_eq_true] at h
 have := h.2 i (List.mem_range.2 hi)
 unfold lockGood at this
 rw [List.getElem?_eq_getElem hi] at this
 simp only [Bool.and_eq_true] at this
 exact this.1
theorem p_spec_RangeIn (a b : TRange) : m_spec_RangeIn a b = some (rangeOk a && rangeOk b && decide (b.Lo ≤ a.Lo) && decide (a.Hi ≤ b.Hi)) := by
 unfold m_spec_RangeIn
 simp only [p_spec_RangeOk, Option.bind_some]
 cases rangeOk a <;> cases rangeOk b <;> by_cases h : b.Lo ≤ a.Lo <;> simp [h]
theorem p_l12Holds (xs : List TLock) (tx : Int) (a : TRange) (mode : Int) (hg : locksGood xs = true) (ha : rangeOk a = true) (hm : modeOk mode = true) : m_spec_l12Holds xs tx a mode = some (xs.any (holdsB tx a mode)) := by
 have hl := locksGood_le hg
 unfold m_spec_l12Holds
 rw [iter_any xs (holdsB tx a mode) (some true) (some false) (by omega) (fun kb i hi => ?_) (fun kb => ?_)]
 ·split <;> simp_all
 ·have hgi := locksGood_at hg hi
  unfold lockAlone modeOk at hgi
  unfold modeOk at hm
  unfold spec_l12Holds_b7 spec_l12Holds_j10 holdsB
  simp only [Bool.and_eq_true, Bool.or_eq_true, decide_eq_true_eq] at hgi hm
  simp only [idx_nat hi, m_spec_l12Range, p_spec_RangeIn, Option.bind_some, step1 i _ hi (by omega), ha, hgi.1.2, Bool.true_and]
  rw [if_pos (by omega)]
  by_cases h1 : xs[i].Tx = tx <;> by_cases h2 : xs[i].Lo ≤ a.Lo <;> by_cases h3 : a.Hi ≤ xs[i].Hi <;> simp [h1, h2, h3]
  have : (mode ≤ xs[i].Mode) ↔ (xs[i].Mode = mode ∨ xs[i].Mode = 2) := by omega
  simp [this]
 ·unfold spec_l12Holds_b7
  rw [if_neg (by omega)]; rfl
theorem p_LocksHold_1 (l : TLock) (tx mode : Int) (a : TRange) : m_impl_LocksHold_1 l tx mode a = some (holdsB tx a mode l) := by
 unfold m_impl_LocksHold_1 holdsB
 by_cases h1 : l.Tx = tx <;> by_cases h2 : l.Lo ≤ a.Lo <;> by_cases h3 : l.Mode = mode <;> by_cases h4 : l.Mode = 2 <;> simp [h1, h2, h3, h4]
theorem p_Contains_LocksHold (xs : List TLock) (tx mode : Int) (a : TRange) (h : xs.length ≤ 1048576) : m_slices_ContainsFunc_Lock__LocksHold_1 xs tx mode a = some (xs.any (holdsB tx a mode)) := by
 unfold m_slices_ContainsFunc_Lock__LocksHold_1 m_slices_IndexFunc_Lock__LocksHold_1
 rw [iter_index xs (holdsB tx a mode) (by omega) (fun kb i hi => ?_) (fun kb => ?_)]
 ·simp [idxOf_nonneg]
 ·unfold slices_IndexFunc_Lock__LocksHold_1_b7
  simp only [idx_nat hi, p_LocksHold_1, Option.bind_some, step1 i _ hi (by omega)]
  rw [if_pos (by omega)]
 ·unfold slices_IndexFunc_Lock__LocksHold_1_b7
  rw [if_neg (by omega)]; rfl
def locksHold (xs : List TLock) (tx : Int) (a : TRange) (mode : Int) : Bool := locksGood xs && rangeOk a && modeOk mode && xs.any (holdsB tx a mode)
theorem p_impl_LocksHold (xs : List TLock) (tx : Int) (a : TRange) (mode : Int) (h : xs.length ≤ 1048576) : m_impl_LocksHold xs tx a mode = some (locksHold xs tx a mode) := by
 unfold m_impl_LocksHold locksHold
 simp only [p_impl_LocksOk _ h, p_impl_RangeOk, p_isMode, p_Contains_LocksHold _ _ _ _ h, Option.bind_some]
 cases h1 : locksGood xs <;> cases h2 : rangeOk a <;> cases h3 : modeOk mode <;> simp
theorem p_Index_Lock__LocksOf_1 (xs : List TLock) (c0 : Int) (p : TLock → Bool) (hp : ∀ v, m_impl_LocksOf_1 v c0 = some (p v)) (h : xs.length ≤ 1048576) : m_slices_IndexFunc_Lock__LocksOf_1 xs c0 = some (idxOf p xs) := by
 unfold m_slices_IndexFunc_Lock__LocksOf_1
 refine iter_index xs p (by omega) (fun kb i hi => ?_) (fun kb => ?_)
 ·unfold slices_IndexFunc_Lock__LocksOf_1_b5
  simp only [idx_nat hi, Option.bind_some, hp, step1 i _ hi (by omega)]
  rw [if_pos (by omega)]
 ·unfold slices_IndexFunc_Lock__LocksOf_1_b5
  rw [if_neg (by omega)]; rfl
theorem p_Del_Lock__LocksOf_1 (xs : List TLock) (c0 : Int) (p : TLock → Bool) (hp : ∀ v, m_impl_LocksOf_1 v c0 = some (p v)) (h : xs.length ≤ 1048576) : m_slices_DeleteFunc_Lock__LocksOf_1 xs c0 = some (xs.filter fun x => !p x) := by
 unfold m_slices_DeleteFunc_Lock__LocksOf_1
 simp only [p_Index_Lock__LocksOf_1 xs c0 p hp h, Option.bind_some]
 split
 ·rename_i e; rw [idx_none e]
 ·rename_i e
  obtain ⟨k0, e1, hk, h0⟩ := idx_some' e
  rw [e1, step1 k0 _ hk (by omega)]
  obtain ⟨ys, g1, g2, g3, g4⟩ := iter_del (f := slices_DeleteFunc_Lock__LocksOf_1_b11 c0 slices_DeleteFunc_Lock__LocksOf_1_j6) xs p (fun ys i => some (ys.take i)) h k0 hk h0 (fun kb ys i j hj hij hl hx => by
   unfold slices_DeleteFunc_Lock__LocksOf_1_b11
   have hi : i < ys.length := by omega
   simp only [idx_ofNat, hx, hp, Option.bind_some, step1 j _ hj (by omega), step1 i _ hi (by omega), Int.toNat_natCast, List.getElem?_eq_getElem hi]
   rw [if_pos (by omega)]) (fun kb ys i hi hl => by
   unfold slices_DeleteFunc_Lock__LocksOf_1_b11 slices_DeleteFunc_Lock__LocksOf_1_j6
   simp only [Int.toNat_natCast]
   rw [if_neg (by omega), if_pos ⟨by omega, by omega, by omega⟩, if_pos (by omega), if_pos ⟨by omega, by omega, by omega⟩, take_front _ _ (by omega)])
  rw [g4, g3]
def locksKeep (xs : List TLock) (tx : Int) (b : Bool) : List TLock := if locksGood xs then xs.filter (fun l => decide (l.Tx = tx) == b) else []
theorem p_l12Keep (xs : List TLock) (a : Int) (b : Bool) (h : xs.length ≤ 1048576) : m_spec_l12Keep xs a b = some (xs.filter (fun l => decide (l.Tx = a) == b)) := by
 unfold m_spec_l12Keep
 rw [iter_filter xs (fun l => decide (l.Tx = a) == b) (fun ys => some ys) h (fun kb ys i hi hy => ?_) (fun kb ys => ?_)]
 ·unfold spec_l12Keep_b6
  simp only [idx_nat hi, Option.bind_some, step1 i _ hi (by omega)]
  rw [if_pos (by omega)]
  by_cases c : (decide (xs[i].Tx = a) == b) = true
  ·rw [if_pos c, if_pos c, if_pos (by simp; omega)]
  ·rw [if_neg c, if_neg c]
 ·unfold spec_l12Keep_b6 spec_l12Keep_j4
  rw [if_neg (by omega)]
theorem p_impl_LocksOf (xs : List TLock) (a : Int) (h : xs.length ≤ 1048576) : m_impl_LocksOf xs a = some (locksKeep xs a true) := by
 unfold m_impl_LocksOf locksKeep
 simp only [p_impl_LocksOk _ h, Option.bind_some, p_Clone_Lock _ h, p_Del_Lock__LocksOf_1 xs a (fun l => decide (¬ l.Tx = a)) (fun v => by simp [m_impl_LocksOf_1]) h]
 cases locksGood xs <;> simp
theorem p_Index_Lock__LockAsk_1 (xs : List TLock) (c0 : (List Int)) (p : TLock → Bool) (hp : ∀ v, m_impl_LockAsk_1 v c0 = some (p v)) (h : xs.length ≤ 1048576) : m_slices_IndexFunc_Lock__LockAsk_1 xs c0 = some (idxOf p xs) := by
 unfold m_slices_IndexFunc_Lock__LockAsk_1
 refine iter_index xs p (by omega) (fun kb i hi => ?_) (fun kb => ?_)
 ·unfold slices_IndexFunc_Lock__LockAsk_1_b5
  simp only [idx_nat hi, Option.bind_some, hp, step1 i _ hi (by omega)]
  rw [if_pos (by omega)]
 ·unfold slices_IndexFunc_Lock__LockAsk_1_b5
  rw [if_neg (by omega)]; rfl
theorem p_Del_Lock__LockAsk_1 (xs : List TLock) (c0 : (List Int)) (p : TLock → Bool) (hp : ∀ v, m_impl_LockAsk_1 v c0 = some (p v)) (h : xs.length ≤ 1048576) : m_slices_DeleteFunc_Lock__LockAsk_1 xs c0 = some (xs.filter fun x => !p x) := by
 unfold m_slices_DeleteFunc_Lock__LockAsk_1
 simp only [p_Index_Lock__LockAsk_1 xs c0 p hp h, Option.bind_some]
 split
 ·rename_i e; rw [idx_none e]
 ·rename_i e
  obtain ⟨k0, e1, hk, h0⟩ := idx_some' e
  rw [e1, step1 k0 _ hk (by omega)]
  obtain ⟨ys, g1, g2, g3, g4⟩ := iter_del (f := slices_DeleteFunc_Lock__LockAsk_1_b11 c0 slices_DeleteFunc_Lock__LockAsk_1_j6) xs p (fun ys i => some (ys.take i)) h k0 hk h0 (fun kb ys i j hj hij hl hx => by
   unfold slices_DeleteFunc_Lock__LockAsk_1_b11
   have hi : i < ys.length := by omega
   simp only [idx_ofNat, hx, hp, Option.bind_some, step1 j _ hj (by omega), step1 i _ hi (by omega), Int.toNat_natCast, List.getElem?_eq_getElem hi]
   rw [if_pos (by omega)]) (fun kb ys i hi hl => by
   unfold slices_DeleteFunc_Lock__LockAsk_1_b11 slices_DeleteFunc_Lock__LockAsk_1_j6
   simp only [Int.toNat_natCast]
   rw [if_neg (by omega), if_pos ⟨by omega, by omega, by omega⟩, if_pos (by omega), if_pos ⟨by omega, by omega, by omega⟩, take_front _ _ (by omega)])
  rw [g4, g3]
def txsB (p : TLock → Bool) (xs : List TLock) : List Int := (xs.filter p).map (·.Tx)
theorem txsB_step (p : TLock → Bool) {xs : List TLock} {i : Nat} (hi : i < xs.length) : txsB p (xs.take (i + 1)) = txsB p (xs.take i) ++ (if p xs[i] = true then [xs[i].Tx] else []) := by
 unfold txsB
 rw [List.take_succ_eq_append_getElem hi, List.filter_append, List.map_append]
 by_cases h : p xs[i] = true <;> simp [h]
theorem insB_step (p : TLock → Bool) {xs : List TLock} {i : Nat} (hi : i < xs.length) : insAll (txsB p (xs.take (i + 1))) = if p xs[i] = true then iL xs[i].Tx (insAll (txsB p (xs.take i))) false else insAll (txsB p (xs.take i)) := by
 rw [txsB_step p hi]
 by_cases h : p xs[i] = true
 ·simp only [h, if_true, insAll_snoc]
 ·simp [h]
theorem insB_len (p : TLock → Bool) (xs : List TLock) (i : Nat) : (insAll (txsB p (xs.take i))).length ≤ xs.length := by
 have := (insAll_spec (txsB p (xs.take i))).2.2
 unfold txsB at this ⊢
 rw [List.length_map] at this
 have h2 := List.length_filter_le p (xs.take i)
 simp at h2
 omega
def waitB (tx : Int) (held : List Int) (t : Int) : Bool := decide (t < tx) || held.contains t
theorem p_l12Has (xs : List Int) (x : Int) (h : xs.length ≤ 1048576) : m_spec_l12Has xs x = some (xs.contains x) := by
 unfold m_spec_l12Has
 rw [iter_any xs (fun c => decide (c = x)) (some true) (some false) (by omega) (fun kb i hi => ?_) (fun kb => ?_)]
 ·have e : xs.any (fun c => decide (c = x)) = xs.contains x := by
   rw [Bool.eq_iff_iff, List.any_eq_true, List.contains_iff_mem]
   simp
  rw [e]
  cases xs.contains x <;> rfl
 ·unfold spec_l12Has_b5
  simp only [idx_nat hi, Option.bind_some, step1 i _ hi (by omega)]
  rw [if_pos (by omega)]
  by_cases e : xs[i] = x <;> simp [e]
 ·unfold spec_l12Has_b5 spec_l12Has_j3
  rw [if_neg (by omega)]
theorem p_Contains_int (xs : List Int) (x : Int) (h : xs.length ≤ 1048576) : m_slices_Contains_int xs x = some (xs.contains x) := by
 unfold m_slices_Contains_int m_slices_Index_int
 rw [iter_index xs (fun c => decide (x = c)) (by omega) (fun kb i hi => ?_) (fun kb => ?_)]
 ·simp only [Option.bind_some, idxOf_nonneg]
  congr 1
  rw [Bool.eq_iff_iff, List.any_eq_true, List.contains_iff_mem]
  simp
 ·unfold slices_Index_int_b5
  simp only [idx_nat hi, Option.bind_some, step1 i _ hi (by omega)]
  rw [if_pos (by omega)]
  by_cases e : x = xs[i] <;> simp [e]
 ·unfold slices_Index_int_b5
  rw [if_neg (by omega)]; rfl
theorem lockRange {xs : List TLock} (hg : locksGood xs = true) {i : Nat} (hi : i < xs.length) : rangeOk ⟨xs[i].Lo, xs[i].Hi⟩ = true := by
 have := locksGood_at hg hi
 unfold lockAlone at this
 simp only [Bool.and_eq_true] at this
 exact this.1.2
theorem p_l12Foes (xs : List TLock) (l : TLock) (hg : locksGood xs = true) (hl : rangeOk ⟨l.Lo, l.Hi⟩ = true) : m_spec_l12Foes xs l = some (insAll (txsB (clashB l) xs)) := by
 have hle := locksGood_le hg
 unfold m_spec_l12Foes
 refine iter_all (fun i => (insAll (txsB (clashB l) (xs.take i)), (i : Int))) _ xs.length (by omega) (fun kb i hi => ?_) (fun kb => ?_) (by simp [insAll, txsB])
 ·unfold spec_l12Foes_b5
  have hlen := insB_len (clashB l) xs i
  simp only [idx_nat hi, Option.bind_some, p_l12Clash _ _ (lockRange hg hi) hl, step1 i _ hi (by omega), clash_comm xs[i] l, p_l12Put _ xs[i].Tx (show (insAll (txsB (clashB l) (xs.take i))).length ≤ 1048576 by omega), insB_step _ hi]
  rw [if_pos (by omega)]
  split <;> rfl
 ·unfold spec_l12Foes_b5 spec_l12Foes_j3
  rw [if_neg (by omega), List.take_length]
theorem p_clashing (xs : List TLock) (held : List Int) (l : TLock) (hle : xs.length ≤ 1000) (hh : held.length ≤ 1048576) : m_impl_clashing xs held l = some (insAll (txsB (clashB l) xs), insAll (txsB (fun x => clashB l x && waitB l.Tx held x.Tx) xs)) := by
 unfold m_impl_clashing
 refine iter_all (fun i => (insAll (txsB (clashB l) (xs.take i)), insAll (txsB (fun x => clashB l x && waitB l.Tx held x.Tx) (xs.take i)), (i : Int))) _ xs.length (by omega) (fun kb i hi => ?_) (fun kb => ?_) (by simp [insAll, txsB])
 ·unfold impl_clashing_b6 impl_clashing_j16
  have h1 := insB_len (clashB l) xs i
  have h2 := insB_len (fun x => clashB l x && waitB l.Tx held x.Tx) xs i
  have a1 := (insAll_spec (txsB (clashB l) (xs.take i))).1
  have a2 := (insAll_spec (txsB (fun x => clashB l x && waitB l.Tx held x.Tx) (xs.take i))).1
  simp only [idx_nat hi, Option.bind_some, p_impl_clash, step1 i _ hi (by omega), p_inserted _ xs[i].Tx a1 (by omega), p_inserted _ xs[i].Tx a2 (by omega), p_Contains_int _ _ hh, insB_step _ hi]
  rw [if_pos (by omega)]
  cases hc : clashB l xs[i] with
  | false => simp
  | true =>
   simp only [if_true, Bool.true_and]
   unfold waitB
   by_cases hx : xs[i].Tx < l.Tx
   ·simp [hx]
   ·simp only [hx, if_false, decide_false, Bool.false_or]
    cases held.contains xs[i].Tx <;> simp
 ·unfold impl_clashing_b6 impl_clashing_j4
  rw [if_neg (Int.lt_irrefl _), List.take_length]
theorem waits_eq (xs : List TLock) (held : List Int) (l : TLock) : insAll (txsB (fun x => clashB l x && waitB l.Tx held x.Tx) xs) = (insAll (txsB (clashB l) xs)).filter (waitB l.Tx held) := by
 obtain ⟨a1, m1, _⟩ := insAll_spec (txsB (fun x => clashB l x && waitB l.Tx held x.Tx) xs)
 obtain ⟨a2, m2, _⟩ := insAll_spec (txsB (clashB l) xs)
 refine ascI_uniq a1 (List.Pairwise.sublist List.filter_sublist a2) fun z => ?_
 rw [m1, List.mem_filter, m2]
 unfold txsB
 simp only [List.mem_map, List.mem_filter, Bool.and_eq_true]
 constructor
 ·rintro ⟨x, ⟨hx, hc, hw⟩, rfl⟩
  exact ⟨⟨x, ⟨hx, hc⟩, rfl⟩, hw⟩
 ·rintro ⟨⟨x, ⟨hx, hc⟩, rfl⟩, hw⟩
  exact ⟨x, ⟨hx, hc, hw⟩, rfl⟩
def askOk (xs : List TLock) (held : List Int) (tx : Int) (a : TRange) (mode : Int) : Bool := locksGood xs && decide ((held.length : Int) ≤ 60) && within tx 1 60 && rangeOk a && modeOk mode
theorem p_l12Right (xs : List TLock) (held : List Int) (tx : Int) (a : TRange) (mode : Int) (h : xs.length ≤ 1048576) : m_spec_l12Right xs held tx a mode = some (askOk xs held tx a mode) := by
 unfold m_spec_l12Right askOk
 simp only [p_spec_LocksOk _ h, p_l12Tx, p_spec_RangeOk, p_l12Mode, Option.bind_some]
 cases locksGood xs <;> by_cases h1 : (held.length : Int) ≤ 60 <;> cases within tx 1 60 <;> cases rangeOk a <;> simp [h1]
def foesOf (xs : List TLock) (tx : Int) (a : TRange) (mode : Int) : List Int := insAll (txsB (clashB ⟨tx, a.Lo, a.Hi, mode⟩) xs)
theorem foesOf_len (xs : List TLock) (tx : Int) (a : TRange) (mode : Int) : (foesOf xs tx a mode).length ≤ xs.length := by
 have := insB_len (clashB ⟨tx, a.Lo, a.Hi, mode⟩) xs xs.length
 rw [List.take_length] at this
 exact this
def waitsOf (xs : List TLock) (held : List Int) (tx : Int) (a : TRange) (mode : Int) : List Int := if askOk xs held tx a mode && !xs.any (holdsB tx a mode) then (foesOf xs tx a mode).filter (waitB tx held) else []
theorem p_spec_LocksWaits (xs : List TLock) (held : List Int) (tx : Int) (a : TRange) (mode : Int) (h : xs.length ≤ 1048576) (h2 : held.length ≤ 1048576) : m_spec_LocksWaits xs held tx a mode = some (waitsOf xs held tx a mode) := by
 unfold m_spec_LocksWaits spec_LocksWaits_j6 waitsOf
 simp only [p_l12Right _ _ _ _ _ h, Option.bind_some]
 cases hk : askOk xs held tx a mode
 ·simp
 ·have hk' := hk
  unfold askOk at hk'
  simp only [Bool.and_eq_true, decide_eq_true_eq] at hk'
  obtain ⟨⟨⟨⟨hg, _⟩, _⟩, hr⟩, hm⟩ := hk'
  simp only [if_true, p_l12Holds xs tx a mode hg hr hm, Option.bind_some, Bool.true_and]
  cases xs.any (holdsB tx a mode)
  ·simp only [Bool.false_eq_true, if_false, Bool.not_false, if_true, p_l12Foes xs ⟨tx, a.Lo, a.Hi, mode⟩ hg hr, Option.bind_some]
   have hfl := foesOf_len xs tx a mode
   have hle := locksGood_le hg
   show iter (spec_LocksWaits_b13 (foesOf xs tx a mode) tx held spec_LocksWaits_j11) FU ([], 0) = _
   generalize foesOf xs tx a mode = fs at hfl
   rw [iter_filter fs (waitB tx held) (fun ys => some ys) (by omega) (fun kb ys i hi hy => ?_) (fun kb ys => ?_)]
   ·unfold spec_LocksWaits_b13 spec_LocksWaits_j16
    simp only [idx_nat hi, Option.bind_some, step1 i _ hi (by omega), p_l12Has _ _ h2]
    rw [if_pos (by omega)]
    unfold waitB
    by_cases hx : fs[i] < tx
    ·simp [hx]; omega
    ·simp only [hx, if_false, decide_false, Bool.false_or]
     cases held.contains fs[i]
     ·simp
     ·simp; omega
   ·unfold spec_LocksWaits_b13 spec_LocksWaits_j11
    rw [if_neg (by omega)]
  ·simp
theorem p_LockAsk_1 (v : TLock) (foes : List Int) (h : foes.length ≤ 1048576) : m_impl_LockAsk_1 v foes = some (foes.contains v.Tx) := by
 unfold m_impl_LockAsk_1
 simp only [p_Contains_int _ _ h, Option.bind_some]
def askOf (xs : List TLock) (held : List Int) (tx : Int) (a : TRange) (mode : Int) : List TLock × List Int × Int :=
 if askOk xs held tx a mode = true then
  if xs.any (holdsB tx a mode) = true then (xs, [], 0) else
  if 0 < ((foesOf xs tx a mode).filter (waitB tx held)).length then (xs, [], 2) else
  if (xs.filter fun l => !(foesOf xs tx a mode).contains l.Tx).length = 40 then (xs, [], 3) else
  ((xs.filter fun l => !(foesOf xs tx a mode).contains l.Tx) ++ [TLock.mk tx a.Lo a.Hi mode], foesOf xs tx a mode, 0)
 else ([], [], 1)
theorem p_impl_LockAsk (xs : List TLock) (held : List Int) (tx : Int) (a : TRange) (mode : Int) (h : xs.length ≤ 1048576) (h2 : held.length ≤ 1048576) : m_impl_LockAsk xs held tx a mode = some (askOf xs held tx a mode) := by
 have J : ∀ b : Bool, (b = true → askOk xs held tx a mode = false) → (b = false → askOk xs held tx a mode = true) → impl_LockAsk_j6 xs tx a mode held b = some (askOf xs held tx a mode) := by
  intro b hb1 hb2
  unfold impl_LockAsk_j6 askOf
  cases b with
  | true => rw [if_pos rfl, hb1 rfl]; rfl
  | false =>
   have hk := hb2 rfl
   have hk' := hk
   unfold askOk at hk'
   simp only [Bool.and_eq_true, decide_eq_true_eq] at hk'
   obtain ⟨⟨⟨⟨hg, _⟩, _⟩, hr⟩, hm⟩ := hk'
   have hle := locksGood_le hg
   have hfl := foesOf_len xs tx a mode
   have hd := p_Del_Lock__LockAsk_1 xs (foesOf xs tx a mode) (fun l => (foesOf xs tx a mode).contains l.Tx) (fun v => p_LockAsk_1 v _ (by omega)) h
   have hf := List.length_filter_le (fun l : TLock => !(foesOf xs tx a mode).contains l.Tx) xs
   have hc : m_impl_clashing xs held (TLock.mk tx a.Lo a.Hi mode) = some (foesOf xs tx a mode, (foesOf xs tx a mode).filter (waitB tx held)) := by
    rw [p_clashing xs held _ (by omega) h2, waits_eq]
    rfl
   have hh : m_impl_LocksHold xs tx a mode = some (xs.any (holdsB tx a mode)) := by
    rw [p_impl_LocksHold _ _ _ _ h]
    unfold locksHold
    rw [hg, hr, hm]
    rfl
   rw [if_neg (by simp), hk, if_pos rfl]
   simp only [p_Clone_Lock _ h, hh, Option.bind_some, hc, hd]
   by_cases c1 : xs.any (holdsB tx a mode) = true
   ·rw [if_pos c1, if_pos c1]
   ·rw [if_neg c1, if_neg c1]
    by_cases c2 : 0 < ((foesOf xs tx a mode).filter (waitB tx held)).length
    ·rw [if_pos c2, if_pos (by omega)]
    ·rw [if_neg c2, if_neg (by omega)]
     by_cases c3 : (xs.filter fun l => !(foesOf xs tx a mode).contains l.Tx).length = 40
     ·rw [if_pos c3, if_pos (by omega)]
     ·rw [if_neg c3, if_neg (by omega), if_pos (by rw [List.length_append, List.length_singleton]; omega)]
 unfold m_impl_LockAsk
 simp only [p_impl_LocksOk _ h, Option.bind_some, p_isTx, p_impl_RangeOk, p_isMode]
 cases c1 : locksGood xs
 ·simp only [Bool.false_eq_true, if_false]
  exact J true (fun _ => by unfold askOk; rw [c1]; rfl) (fun h => by cases h)
 ·simp only [if_true]
  by_cases c2 : 60 < (held.length : Int)
  ·rw [if_pos c2]
   exact J true (fun _ => by unfold askOk; rw [c1, decide_eq_false (by omega)]; rfl) (fun h => by cases h)
  ·rw [if_neg c2]
   cases c3 : within tx 1 60
   ·simp only [Bool.false_eq_true, if_false]
    exact J true (fun _ => by unfold askOk; rw [c3]; simp) (fun h => by cases h)
   ·simp only [if_true]
    cases c4 : rangeOk a
    ·simp only [Bool.false_eq_true, if_false]
     exact J true (fun _ => by unfold askOk; rw [c4]; simp) (fun h => by cases h)
    ·simp only [if_true]
     refine J _ (fun h => ?_) (fun h => ?_)
     ·unfold askOk; simp at h; rw [h]; simp
     ·unfold askOk; simp at h; rw [h, c1, c3, c4, decide_eq_true (by omega)]; rfl
theorem p_impl_LocksWaits (xs : List TLock) (held : List Int) (tx : Int) (a : TRange) (mode : Int) (h : xs.length ≤ 1048576) (h2 : held.length ≤ 1048576) : m_impl_LocksWaits xs held tx a mode = some (waitsOf xs held tx a mode) := by
 unfold m_impl_LocksWaits
 simp only [p_impl_LockAsk xs held tx a mode h h2, Option.bind_some]
 unfold askOf waitsOf
 cases hk : askOk xs held tx a mode
 ·simp
 ·have hk' := hk
  unfold askOk at hk'
  simp only [Bool.and_eq_true, decide_eq_true_eq] at hk'
  obtain ⟨⟨⟨⟨hg, _⟩, _⟩, hr⟩, hm⟩ := hk'
  have hle := locksGood_le hg
  have hc : m_impl_clashing xs held (TLock.mk tx a.Lo a.Hi mode) = some (foesOf xs tx a mode, (foesOf xs tx a mode).filter (waitB tx held)) := by
   rw [p_clashing xs held _ (by omega) h2, waits_eq]
   rfl
  cases c1 : xs.any (holdsB tx a mode)
  ·simp only [if_true, Bool.false_eq_true, if_false, Bool.not_false, Bool.and_self, hc, Option.bind_some]
   by_cases c2 : 0 < ((foesOf xs tx a mode).filter (waitB tx held)).length
   ·rw [if_pos c2]; simp
   ·rw [if_neg c2]
    have e : (foesOf xs tx a mode).filter (waitB tx held) = [] := List.eq_nil_of_length_eq_zero (by omega)
    rw [e]
    by_cases c3 : (xs.filter fun l => !(foesOf xs tx a mode).contains l.Tx).length = 40
    ·rw [if_pos c3]; simp
    ·rw [if_neg c3]; simp
  ·simp
theorem keep_step (xs : List TLock) (fs : List Int) {j : Nat} (hj : j < fs.length) : (xs.filter fun l => !(fs.take j).contains l.Tx).filter (fun l => decide (l.Tx = fs[j]) == false) = xs.filter fun l => !(fs.take (j + 1)).contains l.Tx := by
 rw [List.filter_filter]
 refine List.filter_congr fun l _ => ?_
 rw [List.take_succ_eq_append_getElem hj, List.contains_eq_any_beq, List.contains_eq_any_beq, List.any_append]
 by_cases h : l.Tx = fs[j] <;> cases (fs.take j).any (fun a => l.Tx == a) <;> simp [h]
theorem p_spec_LockAsk (xs : List TLock) (held : List Int) (tx : Int) (a : TRange) (mode : Int) (h : xs.length ≤ 1048576) (h2 : held.length ≤ 1048576) : m_spec_LockAsk xs held tx a mode = some (askOf xs held tx a mode) := by
 unfold m_spec_LockAsk askOf
 simp only [p_l12Right _ _ _ _ _ h, Option.bind_some]
 cases hk : askOk xs held tx a mode
 ·simp
 ·have hk' := hk
  unfold askOk at hk'
  simp only [Bool.and_eq_true, decide_eq_true_eq] at hk'
  obtain ⟨⟨⟨⟨hg, _⟩, _⟩, hr⟩, hm⟩ := hk'
  have hle := locksGood_le hg
  rw [if_pos rfl, if_pos rfl, if_pos (by omega)]
  simp only [p_l12Holds xs tx a mode hg hr hm, p_spec_LocksWaits _ _ _ _ _ h h2, p_l12Foes xs ⟨tx, a.Lo, a.Hi, mode⟩ hg hr, Option.bind_some]
  by_cases c1 : xs.any (holdsB tx a mode) = true
  ·rw [if_pos c1, if_pos c1]
  ·rw [if_neg c1, if_neg c1]
   have hw : waitsOf xs held tx a mode = (foesOf xs tx a mode).filter (waitB tx held) := by
    unfold waitsOf
    rw [hk, Bool.eq_false_iff.2 c1]
    rfl
   rw [hw]
   by_cases c2 : 0 < ((foesOf xs tx a mode).filter (waitB tx held)).length
   ·rw [if_pos c2, if_pos (by omega)]
   ·rw [if_neg c2, if_neg (by omega)]
    have hfl := foesOf_len xs tx a mode
    show iter (spec_LockAsk_b23 (foesOf xs tx a mode) (spec_LockAsk_j18 xs tx a mode (foesOf xs tx a mode))) FU (xs, 0) = _
    generalize foesOf xs tx a mode = fs at hfl
    have hF := fun j => List.length_filter_le (fun l : TLock => !(fs.take j).contains l.Tx) xs
    have h0 : xs.filter (fun l : TLock => !(fs.take 0).contains l.Tx) = xs := by simp
    refine iter_all (fun j => (xs.filter fun l => !(fs.take j).contains l.Tx, (j : Int))) _ fs.length (by omega) (fun kb j hj => ?_) (fun kb => ?_) (by rw [h0]; rfl)
    ·have hl := hF j
     unfold spec_LockAsk_b23
     simp only [idx_nat hj, Option.bind_some, step1 j _ hj (by omega), p_l12Keep _ _ _ (show (xs.filter fun l => !(fs.take j).contains l.Tx).length ≤ 1048576 by omega), keep_step xs fs hj]
     rw [if_pos (by omega)]
    ·have hl := hF fs.length
     rw [List.take_length] at hl ⊢
     unfold spec_LockAsk_b23 spec_LockAsk_j18
     rw [if_neg (Int.lt_irrefl _)]
     dsimp only
     by_cases c3 : (xs.filter fun l => !fs.contains l.Tx).length = 40
     ·rw [if_pos c3, if_pos (by omega), if_pos (by omega)]
     ·rw [if_neg c3, if_neg (by omega), if_pos (by rw [List.length_append, List.length_singleton]; omega)]
theorem askOf_len (xs : List TLock) (held : List Int) (tx : Int) (a : TRange) (mode : Int) : (askOf xs held tx a mode).1.length ≤ xs.length + 1 ∧ (askOf xs held tx a mode).2.1.length ≤ xs.length ∧ (askOk xs held tx a mode = true → xs.length ≤ 40) := by
 have hf := List.length_filter_le (fun l : TLock => !(foesOf xs tx a mode).contains l.Tx) xs
 have hfl := foesOf_len xs tx a mode
 refine ⟨?_, ?_, fun hk => ?_⟩
 ·unfold askOf
  split
  ·split
   ·simp
   ·split
    ·simp
    ·split
     ·simp
     ·show (_ ++ _ : List TLock).length ≤ _
      rw [List.length_append, List.length_singleton]; omega
  ·simp
 ·unfold askOf
  split
  ·split
   ·simp
   ·split
    ·simp
    ·split
     ·simp
     ·exact hfl
  ·simp
 ·unfold askOk at hk
  simp only [Bool.and_eq_true, decide_eq_true_eq] at hk
  exact locksGood_le hk.1.1.1.1
theorem p_l10DrawRange {cb : List Int} {c : Int × Int} (h : goodC cb c) : Drawn cb (fun _ : TRange => True) (m_spec_l10DrawRange cb c) := by
 unfold m_spec_l10DrawRange
 refine (p_l1Below h 30).bind fun x c1 h1 _ => (p_l1Below h1 12).bind fun y c2 h2 _ => (p_l1Below h2 20).bind fun z c3 h3 _ => ?_
 split
 ·exact (p_l1Below h3 2).bind fun u c4 h4 _ => Drawn.some h4 trivial
 ·split
  ·exact (p_l1PickInt h3 _ (by simp)).bind fun u c4 h4 _ => (p_l1PickInt h4 _ (by simp)).bind fun v c5 h5 _ => Drawn.some h5 trivial
  ·exact Drawn.some h3 trivial
theorem p_l12DrawLocks {cb : List Int} {c : Int × Int} (h : goodC cb c) (most : Int) (h0 : 0 ≤ most) (hm : most ≤ 100) : Drawn cb (fun xs : List TLock => xs.length ≤ 200) (m_spec_l12DrawLocks cb c most) := by
 have loop : ∀ (n : Nat) (c : Int × Int), n ≤ 200 → goodC cb c → Drawn cb (fun xs : List TLock => xs.length ≤ 200) (spec_l12DrawLocks_j6 cb ((n : Int), c.1, c.2)) := by
  intro n c hn hc
  unfold spec_l12DrawLocks_j6
  refine iter_inv (fun (i : Nat) (s : List TLock × Int × Int × Int) => s.1.length ≤ i ∧ s.2.1 = (i : Int) ∧ goodC cb s.2.2) n (by omega) ⟨by simp, rfl, hc⟩ (Drawn cb (fun xs : List TLock => xs.length ≤ 200)) (fun i hi s ⟨h1, h2, h3⟩ kb => ?_) (fun s ⟨h1, h2, h3⟩ kb => ?_)
  ·unfold spec_l12DrawLocks_b10
   simp only [h2]
   rw [if_pos (by omega)]
   obtain ⟨x1, c1, e1, g1, _⟩ := p_l1Below h3 40
   obtain ⟨x2, c2, e2, g2, _⟩ := p_l1Below g1 9
   obtain ⟨x3, c3, e3, g3, _⟩ := p_l1Below g2 6
   obtain ⟨x4, c4, e4, g4, _⟩ := p_l1Below g3 3
   simp only [e1, e2, e3, e4, Option.bind_some]
   rw [p_spec_LockAsk _ _ _ _ _ (by omega) (by simp)]
   simp only [Option.bind_some, step1 i _ hi (by omega)]
   have hl := (askOf_len s.1 [1, 2, 3, 4, 5, 6, 7, 8, 9] (IntKind.wrap .i64 (1 + x2)) (TRange.mk x1 (IntKind.wrap .i64 ((IntKind.wrap .i64 (x1 + 1)) + x3))) (IntKind.wrap .i64 (1 + (IntKind.wrap .i64 (Int.tdiv x4 2))))).1
   split
   ·exact ⟨_, ⟨by simp only; omega, rfl, g4⟩, rfl⟩
   ·exact ⟨_, ⟨by simp only; omega, rfl, g4⟩, rfl⟩
  ·unfold spec_l12DrawLocks_b10 spec_l12DrawLocks_j8
   simp only [h2]
   rw [if_neg (by omega)]
   exact Drawn.some h3 (by omega)
 unfold m_spec_l12DrawLocks
 rw [w64 (by omega) (by omega)]
 refine (p_l1Below h _).bind fun n c1 hc1 ⟨n1, n2, _⟩ => (p_l1Once hc1 15).bind fun b c2 hc2 _ => ?_
 have n2 := n2 (by omega)
 obtain ⟨k, rfl⟩ : ∃ k : Nat, n = (k : Int) := ⟨n.toNat, by omega⟩
 split
 ·exact loop 120 c2 (by omega) hc2
 ·exact loop k c2 (by omega) hc2
theorem p_l12DrawAny {cb : List Int} {c : Int × Int} (h : goodC cb c) (most : Int) (h0 : 0 ≤ most) (hm : most ≤ 100) : Drawn cb (fun xs : List TLock => xs.length ≤ 201) (m_spec_l12DrawAny cb c most) := by
 unfold m_spec_l12DrawAny
 refine (p_l12DrawLocks h most h0 hm).bind fun xs c1 hc1 hl => (p_l1Below hc1 25).bind fun z c2 hc2 _ => ?_
 split
 ·refine (p_l1PickInt hc2 _ (by simp)).bind fun v c3 hc3 _ => ?_
  rw [if_pos (by simp; omega)]
  exact Drawn.some hc3 (by simp; omega)
 ·split
  ·refine (p_l1PickInt hc2 _ (by simp)).bind fun v c3 hc3 _ => (p_l1Below hc3 4).bind fun u c4 hc4 _ => ?_
   rw [if_pos (by simp; omega)]
   exact Drawn.some hc4 (by simp; omega)
  ·exact Drawn.some hc2 (by simp only; omega)
def Asker (xs : List TLock) (r : Option (List TLock × List Int × Int × TRange × Int)) : Prop := ∃ held tx a mode, r = some (xs, held, tx, a, mode) ∧ held.length ≤ 100
theorem p_l12DrawAsk (cb : List Int) (h : cb.length ≤ 1048576) : ∃ xs : List TLock, xs.length ≤ 201 ∧ Asker xs (m_spec_l12DrawAsk cb) := by
 obtain ⟨c, ec, hc⟩ := p_l1New cb h
 obtain ⟨n, en, n1, n2⟩ := p_l1Size cb h 20 (by omega)
 obtain ⟨xs, c1, ex, hc1, hl⟩ := p_l12DrawAny hc n (by omega) (by omega)
 refine ⟨xs, hl, ?_⟩
 unfold m_spec_l12DrawAsk
 simp only [ec, en, ex, Option.bind_some]
 have last : ∀ (held : List Int) (q : List Int × Int × Int) (t : Int × Int × Int × Int) (m : Int × Int × Int), q.1.length ≤ 100 → goodC cb m.2 → Asker xs (spec_l12DrawAsk_j20 cb (xs, c1) q t m) := by
  intro held q t m hq hm
  unfold spec_l12DrawAsk_j20 spec_l12DrawAsk_j24
  obtain ⟨x1, d1, e1, g1, _⟩ := p_l1Below hm 10
  obtain ⟨x2, d2, e2, g2, _⟩ := p_l1Once g1 20
  obtain ⟨x3, d3, e3, g3, _⟩ := p_l1PickInt g2 [0, 60, 61] (by simp)
  simp only [e1, e2, e3, Option.bind_some]
  split
  ·exact ⟨_, _, _, _, rfl, hq⟩
  ·exact ⟨_, _, _, _, rfl, hq⟩
 have mode : ∀ (q : List Int × Int × Int) (t : Int × Int × Int × Int), q.1.length ≤ 100 → goodC cb t.2.2 → Asker xs (spec_l12DrawAsk_j16 cb (xs, c1) q t) := by
  intro q t hq ht
  unfold spec_l12DrawAsk_j16
  obtain ⟨x1, d1, e1, g1, _⟩ := p_l1Below ht 2
  obtain ⟨x2, d2, e2, g2, _⟩ := p_l1Once g1 20
  obtain ⟨x3, d3, e3, g3, _⟩ := p_l1Below g2 4
  simp only [e1, e2, e3, Option.bind_some]
  split
  ·exact last [] q t _ hq g3
  ·exact last [] q t _ hq g2
 have range : ∀ (q : List Int × Int × Int), q.1.length ≤ 100 → goodC cb q.2 → Asker xs (spec_l12DrawAsk_j10 cb (xs, c1) q) := by
  intro q hq hc
  unfold spec_l12DrawAsk_j10
  obtain ⟨x1, d1, e1, g1, _⟩ := p_l1Below hc 40
  obtain ⟨x2, d2, e2, g2, _⟩ := p_l1Below g1 6
  obtain ⟨x3, d3, e3, g3, _⟩ := p_l1Once g2 15
  obtain ⟨x4, d4, e4, g4, _⟩ := p_l10DrawRange g3
  simp only [e1, e2, e3, e4, Option.bind_some]
  split
  ·exact mode q _ hq g4
  ·exact mode q _ hq g3
 refine iter_inv (fun (i : Nat) (s : List Int × Int × Int × Int) => s.1.length ≤ i ∧ s.2.1 = (i : Int) + 1 ∧ goodC cb s.2.2) 8 (by omega) ⟨by simp, rfl, hc1⟩ (Asker xs) (fun i hi s ⟨h1, h2, h3⟩ kb => ?_) (fun s ⟨h1, h2, h3⟩ kb => ?_)
 ·unfold spec_l12DrawAsk_b47
  simp only [h2]
  rw [if_pos (by omega)]
  obtain ⟨b, d1, e1, g1, _⟩ := p_l1Once h3 4
  simp only [e1, Option.bind_some]
  rw [w64 (by omega) (by omega)]
  split
  ·rw [if_pos (by simp; omega)]
   exact ⟨_, ⟨by simp; omega, by simp, g1⟩, rfl⟩
  ·exact ⟨_, ⟨by simp only; omega, by simp, g1⟩, rfl⟩
 ·unfold spec_l12DrawAsk_b47 spec_l12DrawAsk_j8
  simp only [h2]
  rw [if_neg (by omega)]
  obtain ⟨b, d1, e1, g1, _⟩ := p_l1Once h3 30
  obtain ⟨x2, d2, e2, g2, k1, k2, _⟩ := p_l1Below g1 2
  have k2 := k2 (by omega)
  simp only [e1, e2, Option.bind_some]
  split
  ·have hw : IntKind.wrap .i64 (60 + x2) = 60 + x2 := w64 (by omega) (by omega)
   rw [hw, if_pos (by omega)]
   exact range _ (by simp only [List.length_replicate]; omega) g2
  ·exact range _ (by simp only; omega) g1
theorem p_within_int (xs : List Int) (x : Int) (h : xs.length ≤ 1048576) : m_laws_within xs x = some (xs.contains x) := by
 unfold m_laws_within
 rw [iter_any xs (fun y => decide (y = x)) (some true) (some false) (by omega) (fun kb i hi => ?_) (fun kb => ?_)]
 ·have : xs.contains x = xs.any fun y => decide (y = x) := by
   rw [Bool.eq_iff_iff]
   simp
  rw [this]
  cases xs.any fun y => decide (y = x) <;> rfl
 ·unfold laws_within_b5
  simp only [idx_nat hi, Option.bind_some, step1 i _ hi (by omega)]
  rw [if_pos (by omega)]
  by_cases c : xs[i] = x <;> simp [c]
 ·unfold laws_within_b5 laws_within_j3
  rw [if_neg (by omega)]
theorem p_sameInts (xs : List Int) (h : xs.length ≤ 1048576) : m_laws_sameInts xs xs = some true := by
 unfold m_laws_sameInts
 rw [if_neg (by simp)]
 refine iter_all (fun i => (i : Int)) _ xs.length (by omega) (fun kb i hi => ?_) (fun kb => ?_) rfl
 ·unfold laws_sameInts_b6
  simp only [idx_nat hi, Option.bind_some, step1 i _ hi (by omega)]
  rw [if_pos (by omega), if_neg (by simp)]
 ·unfold laws_sameInts_b6 laws_sameInts_j4
  rw [if_neg (by omega)]
theorem foes_mem {xs : List TLock} {tx : Int} {a : TRange} {mode f : Int} (h : f ∈ foesOf xs tx a mode) : ∃ l ∈ xs, clashB ⟨tx, a.Lo, a.Hi, mode⟩ l = true ∧ l.Tx = f := by
 unfold foesOf at h
 rw [(insAll_spec _).2.1] at h
 unfold txsB at h
 simp only [List.mem_map, List.mem_filter] at h
 obtain ⟨l, ⟨h1, h2⟩, h3⟩ := h
 exact ⟨l, h1, h2, h3⟩
theorem wait_how (xs : List TLock) (held : List Int) (tx : Int) (a : TRange) (mode : Int) : decide ((askOf xs held tx a mode).2.2 = 2) = decide (0 < ((waitsOf xs held tx a mode).length : Int)) := by
 unfold askOf waitsOf
 cases askOk xs held tx a mode with
 | false => simp
 | true =>
  cases xs.any (holdsB tx a mode) with
  | true => simp
  | false =>
   simp only [if_true, Bool.false_eq_true, if_false, Bool.not_false, Bool.and_self]
   by_cases c : 0 < ((foesOf xs tx a mode).filter (waitB tx held)).length
   ·rw [if_pos c]
    simp only [decide_true]
    rw [eq_comm, decide_eq_true_eq]
    omega
   ·rw [if_neg c]
    have : decide (0 < (((foesOf xs tx a mode).filter (waitB tx held)).length : Int)) = false := by
     rw [decide_eq_false_iff_not]; omega
    rw [this]
    split <;> simp
theorem p_FnWaits (a1 : List Int) (h : okS (inK .u8) a1) : m_laws_FnWaits a1 = some true := by
 unfold m_laws_FnWaits m_laws_big
 simp only [Option.bind_some, decide_eq_true_eq]
 split
 ·rfl
 rename_i hbig
 have hn : a1.length ≤ 1048576 := by omega
 obtain ⟨xs, hl, held, tx, a, mode, e, hh⟩ := p_l12DrawAsk a1 hn
 have ed : m_spec_DrawLocksWaits a1 = some (xs, held, tx, a, mode) := by
  unfold m_spec_DrawLocksWaits
  rw [e]; rfl
 have hx : xs.length ≤ 1048576 := by omega
 have hh' : held.length ≤ 1048576 := by omega
 have hwl : (waitsOf xs held tx a mode).length ≤ 1048576 := by
  unfold waitsOf
  split
  ·have := List.length_filter_le (waitB tx held) (foesOf xs tx a mode)
   have := foesOf_len xs tx a mode
   omega
  ·simp
 simp only [ed, Option.bind_some, p_impl_LocksWaits xs held tx a mode hx hh', p_spec_LocksWaits xs held tx a mode hx hh', p_impl_LockAsk xs held tx a mode hx hh', p_sameInts _ hwl, if_true, wait_how]
 unfold laws_FnWaits_j13
 rw [if_neg (by simp)]
 refine iter_all (fun i => (i : Int)) _ (waitsOf xs held tx a mode).length (by omega) (fun kb i hi => ?_) (fun kb => ?_) rfl
 ·unfold laws_FnWaits_b18
  rw [if_pos (by omega)]
  have hm : (waitsOf xs held tx a mode)[i] ∈ waitsOf xs held tx a mode := List.getElem_mem hi
  have hidx := idx_nat hi
  generalize (waitsOf xs held tx a mode)[i] = f at hm hidx
  simp only [hidx, Option.bind_some]
  have hok : askOk xs held tx a mode = true ∧ f ∈ foesOf xs tx a mode ∧ waitB tx held f = true := by
   unfold waitsOf at hm
   split at hm
   ·rename_i c
    simp only [Bool.and_eq_true] at c
    rw [List.mem_filter] at hm
    exact ⟨c.1, hm.1, hm.2⟩
   ·cases hm
  obtain ⟨k1, k2, k3⟩ := hok
  obtain ⟨l, hl1, hc, hf⟩ := foes_mem k2
  unfold clashB meetsB at hc
  simp only [Bool.and_eq_true, decide_eq_true_eq] at hc
  have hne : ¬ f = tx := fun h => hc.1.1 (by rw [hf, h])
  rw [if_neg hne]
  have hg : locksGood xs = true := by
   unfold askOk at k1
   simp only [Bool.and_eq_true] at k1
   exact k1.1.1.1.1
  have rest : laws_FnWaits_j23 (waitsOf xs held tx a mode) (i : Int) (xs, held, tx, a, mode) (laws_FnWaits_j21 kb (i : Int)) false = kb ((i + 1 : Nat) : Int) := by
   unfold laws_FnWaits_j23
   rw [if_neg (by simp), hidx]
   simp only [Option.bind_some, p_impl_LocksOf xs f hx]
   have hk : locksKeep xs f true = xs.filter (fun l => decide (l.Tx = f) == true) := by unfold locksKeep; rw [if_pos hg]
   rw [hk]
   have hmem : l ∈ xs.filter (fun l => decide (l.Tx = f) == true) := List.mem_filter.2 ⟨hl1, by simp [hf]⟩
   have hle := List.length_filter_le (fun l : TLock => decide (l.Tx = f) == true) xs
   generalize xs.filter (fun l => decide (l.Tx = f) == true) = ls at hmem hle
   refine iter_all (fun k => ((ls.take k).any fun l => decide (l.Lo < a.Hi) && decide (a.Lo < l.Hi), (k : Int))) _ ls.length (by omega) (fun kb2 k hk2 => ?_) (fun kb2 => ?_) rfl
   ·unfold laws_FnWaits_b33
    simp only [idx_nat hk2, Option.bind_some, step1 k _ hk2 (by omega)]
    rw [if_pos (by omega), List.take_succ_eq_append_getElem hk2, List.any_append]
    cases (ls.take k).any fun l => decide (l.Lo < a.Hi) && decide (a.Lo < l.Hi) with
    | true => simp
    | false =>
     by_cases c1 : ls[k].Lo < a.Hi <;> simp [c1]
   ·unfold laws_FnWaits_b33 laws_FnWaits_j30 laws_FnWaits_j21
    rw [if_neg (by simp), List.take_length]
    have : (ls.any fun l => decide (l.Lo < a.Hi) && decide (a.Lo < l.Hi)) = true := by
     rw [List.any_eq_true]
     exact ⟨l, hmem, by simp only [Bool.and_eq_true, decide_eq_true_eq]; exact ⟨hc.2.2, hc.2.1⟩⟩
    rw [this, if_pos rfl, step1 i _ hi (by omega)]
  by_cases cg : tx < f
  ·rw [if_pos cg]
   have : held.contains f = true := by
    unfold waitB at k3
    simp only [Bool.or_eq_true, decide_eq_true_eq] at k3
    exact k3.resolve_left (by omega)
   simp only [p_within_int held f hh', this, Option.bind_some, Bool.not_true]
   exact rest
  ·rw [if_neg cg]
   exact rest
 ·unfold laws_FnWaits_b18 laws_FnWaits_j16
  rw [if_neg (by omega)]
end Go.AW
