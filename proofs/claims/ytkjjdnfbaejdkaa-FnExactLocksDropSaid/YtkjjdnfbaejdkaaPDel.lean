/- Plain laws: what the plain functions answer. Conditions: each theorem's own. -/
import Derived.Test.YtkjjdnfbaejdkaaMDel
set_option linter.unusedVariables false
set_option linter.unusedSimpArgs false
set_option maxRecDepth 100000
namespace Go.AW

theorem w64 {n : Int} (h1 : -9223372036854775808 ≤ n) (h2 : n < 9223372036854775808) : IntKind.wrap .i64 n = n := by
  rw [IntKind.wrap_i64]; omega

theorem inK64 {n : Int} (h : inK .i64 n) : -9223372036854775808 ≤ n ∧ n < 9223372036854775808 := by
  unfold inK IntKind.min IntKind.max at h
  simp only [IntKind.bits, IntKind.signed] at h
  simp at h
  omega

theorem idx_nat {α : Type} {xs : List α} {i : Nat} (h : i < xs.length) : idx xs (i : Int) = some xs[i] := by
  unfold idx
  rw [if_pos (by omega)]
  simp [h]

theorem idx_ofNat {α : Type} (xs : List α) (i : Nat) : idx xs (i : Int) = xs[i]? := by
  unfold idx
  rw [if_pos (by omega)]
  simp

/-- Rounds that go from one state to the next, or end the whole. -/
theorem iter_ex {S R : Type} {f : (S → Option R) → S → Option R} (st : Nat → S) (stop : Nat → Option (Option R)) (k : Option R) (n : Nat)
    (hs : ∀ kb i, i < n → (∀ j, j < i → stop j = none) → f kb (st i) = match stop i with | some r => r | none => kb (st (i + 1))) (he : ∀ kb, (∀ j, j < n → stop j = none) → f kb (st n) = k) :
    ∀ (m i : Nat), i ≤ n → (∀ j, j < i → stop j = none) → n - i < m → iter f m (st i) = match ((List.range n).drop i).findSome? stop with | some r => r | none => k
  | 0, i, _, _, h => by omega
  | m + 1, i, hi, hp, h => by
    unfold iter
    by_cases e : i = n
    · subst e
      rw [he _ hp]
      simp [List.drop_eq_nil_of_le]
    · have hlt : i < n := by omega
      rw [hs _ i hlt hp, List.drop_eq_getElem_cons (by simpa using hlt)]
      simp only [List.getElem_range, List.findSome?_cons]
      cases hq : stop i with
      | some r => rfl
      | none => exact iter_ex st stop k n hs he m (i + 1) (by omega) (fun j hj => by
          by_cases e' : j = i
          · subst e'; exact hq
          · exact hp j (by omega)) (by omega)

/-- A loop over 0 .. n-1 that may end early. -/
theorem iter_stopH {S R : Type} {f : (S → Option R) → S → Option R} (st : Nat → S) (stop : Nat → Option (Option R)) (k : Option R) (n : Nat) (hn : n ≤ 1152921504606846976)
    (hs : ∀ kb i, i < n → (∀ j, j < i → stop j = none) → f kb (st i) = match stop i with | some r => r | none => kb (st (i + 1))) (he : ∀ kb, (∀ j, j < n → stop j = none) → f kb (st n) = k) {s0 : S} (h0 : s0 = st 0) :
    iter f FU s0 = match (List.range n).findSome? stop with | some r => r | none => k := by
  subst h0
  have := iter_ex st stop k n hs he FU 0 (by omega) (fun j hj => by omega) (by unfold FU; omega)
  simpa using this

theorem iter_stop {S R : Type} {f : (S → Option R) → S → Option R} (st : Nat → S) (stop : Nat → Option (Option R)) (k : Option R) (n : Nat) (hn : n ≤ 1152921504606846976)
    (hs : ∀ kb i, i < n → f kb (st i) = match stop i with | some r => r | none => kb (st (i + 1))) (he : ∀ kb, f kb (st n) = k) {s0 : S} (h0 : s0 = st 0) :
    iter f FU s0 = match (List.range n).findSome? stop with | some r => r | none => k :=
  iter_stopH st stop k n hn (fun kb i hi _ => hs kb i hi) (fun kb _ => he kb) h0

/-- A loop over 0 .. n-1 that does not end early. -/
theorem iter_all {S R : Type} {f : (S → Option R) → S → Option R} (st : Nat → S) (k : Option R) (n : Nat) (hn : n ≤ 1152921504606846976)
    (hs : ∀ kb i, i < n → f kb (st i) = kb (st (i + 1))) (he : ∀ kb, f kb (st n) = k) {s0 : S} (h0 : s0 = st 0) : iter f FU s0 = k := by
  rw [iter_stop st (fun _ => none) k n hn (fun kb i hi => hs kb i hi) he h0]
  have : (List.range n).findSome? (fun _ => (none : Option (Option R))) = none := by
    rw [List.findSome?_eq_none_iff]; intro x _; rfl
  rw [this]

/-- A loop that ends with r at the first place that is not good. -/
theorem iter_goodH {S R : Type} {f : (S → Option R) → S → Option R} (st : Nat → S) (good : Nat → Bool) (r k : Option R) (n : Nat) (hn : n ≤ 1152921504606846976)
    (hs : ∀ kb i, i < n → (∀ j, j < i → good j = true) → f kb (st i) = if good i = true then kb (st (i + 1)) else r) (he : ∀ kb, (∀ j, j < n → good j = true) → f kb (st n) = k) {s0 : S} (h0 : s0 = st 0) :
    iter f FU s0 = if (List.range n).all good = true then k else r := by
  have tr : ∀ j, (if good j = true then (none : Option (Option R)) else some r) = none → good j = true := fun j h => by
    split at h
    · assumption
    · cases h
  rw [iter_stopH st (fun i => if good i = true then none else some r) k n hn (fun kb i hi hp => by rw [hs kb i hi (fun j hj => tr j (hp j hj))]; split <;> rfl) (fun kb hp => he kb (fun j hj => tr j (hp j hj))) h0]
  by_cases e : (List.range n).all good = true
  · have : (List.range n).findSome? (fun i => if good i = true then none else some r) = none := by
      rw [List.findSome?_eq_none_iff]
      intro x hx
      rw [List.all_eq_true] at e
      simp [e x hx]
    rw [this, if_pos e]
  · rw [if_neg e]
    cases h : (List.range n).findSome? (fun i => if good i = true then none else some r) with
    | none =>
      exfalso
      apply e
      rw [List.all_eq_true]
      intro x hx
      rw [List.findSome?_eq_none_iff] at h
      exact tr x (h x hx)
    | some q =>
      obtain ⟨x, hx, hq⟩ := List.exists_of_findSome?_eq_some h
      split at hq
      · cases hq
      · cases hq; rfl

theorem iter_good {S R : Type} {f : (S → Option R) → S → Option R} (st : Nat → S) (good : Nat → Bool) (r k : Option R) (n : Nat) (hn : n ≤ 1152921504606846976)
    (hs : ∀ kb i, i < n → f kb (st i) = if good i = true then kb (st (i + 1)) else r) (he : ∀ kb, f kb (st n) = k) {s0 : S} (h0 : s0 = st 0) :
    iter f FU s0 = if (List.range n).all good = true then k else r :=
  iter_goodH st good r k n hn (fun kb i hi _ => hs kb i hi) (fun kb _ => he kb) h0

/-- To copy a list into zeros, element by element. -/
theorem iter_copy {α R : Type} {f : (List α × Int → Option R) → List α × Int → Option R} (xs : List α) (z : α) (k : List α → Option R) (hn : xs.length ≤ 2147483648)
    (hs : ∀ kb (ys : List α) (i : Nat) (hi : i < xs.length), ys.length = xs.length → f kb (ys, (i : Int)) = kb (ys.set i xs[i], ((i + 1 : Nat) : Int)))
    (he : ∀ kb (ys : List α), f kb (ys, (xs.length : Int)) = k ys) : iter f FU (List.replicate xs.length z, 0) = k xs := by
  refine iter_all (fun i => (xs.take i ++ List.replicate (xs.length - i) z, (i : Int))) _ xs.length (by omega) (fun kb i hi => ?_) (fun kb => ?_) (by simp)
  · rw [hs kb _ i hi (by simp; omega)]
    congr 2
    have : xs.length - i = (xs.length - (i + 1)) + 1 := by omega
    have hk : min i xs.length = i := by omega
    show _ = (List.take (i + 1) xs ++ _)
    rw [this, List.replicate_succ, List.set_append_right _ _ (by simp; omega), show List.take (i + 1) xs = List.take i xs ++ [xs[i]] from List.take_succ_eq_append_getElem hi]
    simp only [List.length_take, hk, Nat.sub_self, List.set_cons_zero]
    rw [List.append_assoc]
    rfl
  · rw [he]
    simp

theorem all_range_eq {α : Type} [DecidableEq α] {xs ys : List α} (h : xs.length = ys.length) : (List.range xs.length).all (fun i => decide (xs[i]? = ys[i]?)) = decide (xs = ys) := by
  by_cases e : xs = ys
  · subst e; simp
  · rw [decide_eq_false e, List.all_eq_false]
    apply Classical.byContradiction
    intro hc
    apply e
    apply List.ext_getElem? 
    intro i
    by_cases hi : i < xs.length
    · apply Classical.byContradiction
      intro hne
      exact hc ⟨i, List.mem_range.2 hi, by simpa using hne⟩
    · rw [List.getElem?_eq_none (by omega), List.getElem?_eq_none (by omega)]

theorem step1 (i : Nat) (n : Nat) (h : i < n) (hn : n ≤ 1152921504606846976) : IntKind.wrap .i64 ((i : Int) + 1) = ((i + 1 : Nat) : Int) := by
  rw [w64 (by omega) (by omega)]; omega

/-- The first place where p holds, or -1. -/
def idxOf {α : Type} (p : α → Bool) (xs : List α) : Int := match xs.findIdx? p with
  | some k => (k : Int)
  | none => -1

theorem idxOf_nonneg {α : Type} (p : α → Bool) (xs : List α) : decide (0 ≤ idxOf p xs) = xs.any p := by
  unfold idxOf
  cases h : xs.findIdx? p with
  | none =>
    rw [List.findIdx?_eq_none_iff] at h
    have : xs.any p = false := by rw [List.any_eq_false]; intro x hx; simp [h x hx]
    simp [this]
  | some k =>
    rw [List.findIdx?_eq_some_iff_getElem] at h
    obtain ⟨hk, hp, _⟩ := h
    have : xs.any p = true := List.any_eq_true.2 ⟨xs[k], List.getElem_mem hk, hp⟩
    simp [this]

theorem iter_index {α : Type} (xs : List α) (p : α → Bool) {f : (Int → Option Int) → Int → Option Int} (hn : xs.length ≤ 1152921504606846976)
    (hs : ∀ kb (i : Nat) (hi : i < xs.length), f kb (i : Int) = if p xs[i] = true then some (i : Int) else kb ((i + 1 : Nat) : Int)) (he : ∀ kb, f kb (xs.length : Int) = some (-1)) : iter f FU 0 = some (idxOf p xs) := by
  rw [iter_stop (s0 := (0 : Int)) (fun i => (i : Int)) (fun i : Nat => (xs[i]?).bind fun x => if p x = true then some (some (i : Int)) else none) (some (-1)) xs.length hn (fun kb i hi => ?_) (fun kb => he kb) rfl]
  · have key : ∀ (ys : List α) (o : Nat), (List.range ys.length).findSome? (fun i : Nat => (ys[i]?).bind fun x => if p x = true then some (some ((o + i : Nat) : Int)) else none) = (ys.findIdx? p).map fun k => some ((o + k : Nat) : Int) := by
      intro ys
      induction ys with
      | nil => intro o; rfl
      | cons y ys ih =>
        intro o
        rw [List.length_cons, List.range_succ_eq_map, List.findSome?_cons, List.findSome?_map, List.findIdx?_cons]
        simp only [List.getElem?_cons_zero, Option.bind_some]
        by_cases e : p y = true
        · simp [e]
        · simp only [e, if_false, Function.comp_def, List.getElem?_cons_succ, Bool.false_eq_true]
          have := ih (o + 1)
          rw [show (fun i : Nat => (ys[i]?).bind fun x => if p x = true then some (some ((o + (i + 1) : Nat) : Int)) else none) = fun i : Nat => (ys[i]?).bind fun x => if p x = true then some (some ((o + 1 + i : Nat) : Int)) else none from by funext i; rw [show o + (i + 1) = o + 1 + i by omega]]
          rw [this]
          cases ys.findIdx? p <;> simp; omega
    have := key xs 0
    simp only [Nat.zero_add] at this
    rw [this]
    unfold idxOf
    cases xs.findIdx? p <;> rfl
  · rw [hs kb i hi, List.getElem?_eq_getElem hi]
    simp only [Option.bind_some]
    by_cases e : p xs[i] = true <;> simp [e]

theorem all_range {α : Type} (xs : List α) (p : α → Bool) : ((List.range xs.length).all fun i => ((xs[i]?).map p).getD true) = xs.all p := by
  rw [Bool.eq_iff_iff, List.all_eq_true, List.all_eq_true]
  constructor
  · intro H x hx
    obtain ⟨i, hi, rfl⟩ := List.mem_iff_getElem.1 hx
    have := H i (List.mem_range.2 hi)
    rw [List.getElem?_eq_getElem hi] at this
    exact this
  · intro H i hi
    have hi := List.mem_range.1 hi
    rw [List.getElem?_eq_getElem hi]
    exact H _ (List.getElem_mem hi)

/-- A loop that ends with r at the first element for which p holds, and with k if there is none. -/
theorem iter_any {α R : Type} (xs : List α) (p : α → Bool) (r k : Option R) {f : (Int → Option R) → Int → Option R} (hn : xs.length ≤ 1152921504606846976)
    (hs : ∀ kb (i : Nat) (hi : i < xs.length), f kb (i : Int) = if p xs[i] = true then r else kb ((i + 1 : Nat) : Int)) (he : ∀ kb, f kb (xs.length : Int) = k) : iter f FU 0 = if xs.any p = true then r else k := by
  rw [iter_good (s0 := (0 : Int)) (fun i => (i : Int)) (fun i => ((xs[i]?).map fun x => !p x).getD true) r k xs.length hn (fun kb i hi => ?_) (fun kb => he kb) rfl, all_range xs fun x => !p x]
  · cases h : xs.any p with
    | true =>
      have : (xs.all fun x => !p x) = false := by
        rw [List.all_eq_false]; obtain ⟨x, hx, hp⟩ := List.any_eq_true.1 h; exact ⟨x, hx, by simp [hp]⟩
      simp [this]
    | false =>
      have : (xs.all fun x => !p x) = true := by
        rw [List.all_eq_true]; intro x hx; rw [List.any_eq_false] at h; simp [h x hx]
      simp [this]
  · rw [hs kb i hi, List.getElem?_eq_getElem hi]
    cases h : p xs[i] <;> simp [h]

/-- A loop over all elements that ends with r at the first for which p does not hold. -/
theorem iter_every {α R : Type} (xs : List α) (p : α → Bool) (r k : Option R) {f : (Int → Option R) → Int → Option R} (hn : xs.length ≤ 1152921504606846976)
    (hs : ∀ kb (i : Nat) (hi : i < xs.length), f kb (i : Int) = if p xs[i] = true then kb ((i + 1 : Nat) : Int) else r) (he : ∀ kb, f kb (xs.length : Int) = k) : iter f FU 0 = if xs.all p = true then k else r := by
  rw [iter_good (s0 := (0 : Int)) (fun i => (i : Int)) (fun i => ((xs[i]?).map p).getD true) r k xs.length hn (fun kb i hi => ?_) (fun kb => he kb) rfl, all_range xs p]
  rw [hs kb i hi, List.getElem?_eq_getElem hi]
  rfl

/-- The sum of the elements' numbers. -/
def sumB {α : Type} (f : α → Nat) : List α → Nat
  | [] => 0
  | x :: xs => f x + sumB f xs
theorem sumB_append {α : Type} (f : α → Nat) : ∀ (xs ys : List α), sumB f (xs ++ ys) = sumB f xs + sumB f ys
  | [], ys => by simp [sumB]
  | x :: xs, ys => by simp [sumB, sumB_append f xs ys]; omega
theorem sumB_step {α : Type} (f : α → Nat) {xs : List α} {i : Nat} (hi : i < xs.length) : sumB f (xs.take (i + 1)) = sumB f (xs.take i) + f xs[i] := by
  rw [List.take_succ_eq_append_getElem hi, sumB_append]
  simp [sumB]
theorem sumB_take {α : Type} (f : α → Nat) (xs : List α) (i : Nat) : sumB f (xs.take i) ≤ sumB f xs := by
  have := sumB_append f (xs.take i) (xs.drop i)
  rw [List.take_append_drop] at this
  omega
theorem sumB_mem {α : Type} (f : α → Nat) {xs : List α} {i : Nat} (hi : i < xs.length) : f xs[i] ≤ sumB f xs := by
  have h1 := sumB_step f hi
  have h2 := sumB_take f xs (i + 1)
  omega
theorem cut_take {α : Type} {xs : List α} {i : Nat} (h : i ≤ xs.length) : cut xs 0 (i : Int) = some (xs.take i) := by
  unfold cut
  rw [if_pos ⟨by omega, by omega, by omega⟩]
  simp
theorem cnt_step {α : Type} (p : α → Bool) {xs : List α} {i : Nat} (hi : i < xs.length) : (xs.take (i + 1)).countP p = (xs.take i).countP p + if p xs[i] = true then 1 else 0 := by
  rw [List.take_succ_eq_append_getElem hi, List.countP_append]
  simp [List.countP_cons]
theorem cnt_le {α : Type} (p : α → Bool) (xs : List α) (i : Nat) : (xs.take i).countP p ≤ xs.length := by
  have h1 := List.countP_le_length (p := p) (l := xs.take i)
  have h2 : (xs.take i).length ≤ xs.length := by simp; omega
  omega

/-- A row of which the first i elements are turned. -/
def rowM {α : Type} (g : Nat → α) (xs : List α) (i : Nat) : List α := (List.range i).map g ++ xs.drop i
theorem rowM_len {α : Type} (g : Nat → α) {xs : List α} {i : Nat} (h : i ≤ xs.length) : (rowM g xs i).length = xs.length := by
  unfold rowM
  simp
  omega
theorem rowM_idx {α : Type} (g : Nat → α) {xs : List α} {i : Nat} (h : i < xs.length) : idx (rowM g xs i) (i : Int) = some xs[i] := by
  rw [idx_ofNat]
  unfold rowM
  rw [List.getElem?_append_right (by simp)]
  simp [h]
theorem rowM_set {α : Type} (g : Nat → α) {xs : List α} {i : Nat} (h : i < xs.length) : (rowM g xs i).set i (g i) = rowM g xs (i + 1) := by
  unfold rowM
  rw [List.set_append, if_neg (by simp), List.range_succ, List.map_append, List.append_assoc]
  congr 1
  have e : i - ((List.range i).map g).length = 0 := by simp
  rw [e, List.drop_eq_getElem_cons h]
  rfl
theorem rowM_zero {α : Type} (g : Nat → α) (xs : List α) : rowM g xs 0 = xs := by simp [rowM]
theorem rowM_all {α : Type} (g : Nat → α) (xs : List α) : rowM g xs xs.length = (List.range xs.length).map g := by simp [rowM]
theorem idx_set_same {α : Type} {xs : List α} {i : Nat} {a : α} (h : i < xs.length) : idx (xs.set i a) (i : Int) = some a := by
  rw [idx_nat (by simpa using h)]
  simp
theorem idx_range {α : Type} (g : Nat → α) {n i : Nat} (h : i < n) : idx ((List.range n).map g) (i : Int) = some (g i) := by
  rw [idx_nat (by simpa using h)]
  simp
/-- A loop that gathers the elements of which q holds. -/
theorem iter_filter {α R : Type} {f : (List α × Int → Option R) → List α × Int → Option R} (xs : List α) (q : α → Bool) (k : List α → Option R) (hn : xs.length ≤ 1048576)
    (hs : ∀ kb (ys : List α) (i : Nat) (hi : i < xs.length), ys.length ≤ i → f kb (ys, (i : Int)) = if q xs[i] = true then kb (ys ++ [xs[i]], ((i + 1 : Nat) : Int)) else kb (ys, ((i + 1 : Nat) : Int)))
    (he : ∀ kb (ys : List α), f kb (ys, (xs.length : Int)) = k ys) : iter f FU ([], 0) = k (xs.filter q) := by
  refine iter_all (fun i => ((xs.take i).filter q, (i : Int))) _ xs.length (by omega) (fun kb i hi => ?_) (fun kb => ?_) (by simp)
  · rw [hs kb _ i hi (Nat.le_trans (List.length_filter_le _ _) (by simp; omega))]
    rw [List.take_succ_eq_append_getElem hi, List.filter_append]
    by_cases h : q xs[i] = true <;> simp [h]
  · rw [he, List.take_length]
/-- To move what is kept to the front. -/
def delY {α : Type} (xs : List α) (p : α → Bool) (k0 : Nat) : Nat → List α × Nat
  | 0 => (xs, k0)
  | n + 1 => match xs[k0 + 1 + n]? with
    | some x => if p x then delY xs p k0 n else ((delY xs p k0 n).1.set (delY xs p k0 n).2 x, (delY xs p k0 n).2 + 1)
    | none => delY xs p k0 n
theorem delY_spec {α : Type} (xs : List α) (p : α → Bool) (k0 : Nat) (hk : k0 < xs.length) (h0 : (xs.take (k0 + 1)).filter (fun x => !p x) = xs.take k0) : ∀ n, k0 + 1 + n ≤ xs.length →
    (delY xs p k0 n).1.length = xs.length ∧ (delY xs p k0 n).2 < k0 + 1 + n ∧ (delY xs p k0 n).1.take (delY xs p k0 n).2 = (xs.take (k0 + 1 + n)).filter (fun x => !p x) ∧ ∀ m, k0 + 1 + n ≤ m → (delY xs p k0 n).1[m]? = xs[m]?
  | 0, h => by
    refine ⟨rfl, by simp [delY], ?_, fun m _ => rfl⟩
    simp only [delY, Nat.add_zero]
    rw [h0]
  | n + 1, h => by
    obtain ⟨h1, h2, h3, h4⟩ := delY_spec xs p k0 hk h0 n (by omega)
    have hlt : k0 + 1 + n < xs.length := by omega
    simp only [delY, List.getElem?_eq_getElem hlt]
    have ht : (xs.take (k0 + 1 + (n + 1))).filter (fun x => !p x) = (xs.take (k0 + 1 + n)).filter (fun x => !p x) ++ (if p xs[k0 + 1 + n] = true then [] else [xs[k0 + 1 + n]]) := by
      rw [show k0 + 1 + (n + 1) = (k0 + 1 + n) + 1 by omega, List.take_succ_eq_append_getElem hlt, List.filter_append]
      congr 1
      by_cases c : p xs[k0 + 1 + n] = true <;> simp [c]
    by_cases c : p xs[k0 + 1 + n] = true
    · simp only [c, if_true]
      refine ⟨h1, by omega, by rw [ht, c]; simpa using h3, fun m hm => h4 m (by omega)⟩
    · simp only [c, Bool.false_eq_true, if_false]
      refine ⟨by simpa using h1, by omega, ?_, fun m hm => ?_⟩
      · rw [ht, ← h3]
        rw [if_neg c, List.take_succ_eq_append_getElem (by rw [List.length_set, h1]; omega), List.take_set_of_le (Nat.le_refl _)]
        simp
      · rw [List.getElem?_set_ne (by omega)]
        exact h4 m (by omega)
theorem iter_del {α R : Type} {f : (List α × Int × Int → Option R) → List α × Int × Int → Option R} (xs : List α) (p : α → Bool) (k : List α → Nat → Option R) (hn : xs.length ≤ 1048576) (k0 : Nat) (hk : k0 < xs.length) (h0 : (xs.take (k0 + 1)).filter (fun x => !p x) = xs.take k0)
    (hs : ∀ kb (ys : List α) (i j : Nat) (hj : j < xs.length), i < j → ys.length = xs.length → ys[j]? = some xs[j] → f kb (ys, (i : Int), (j : Int)) = if p xs[j] = true then kb (ys, (i : Int), ((j + 1 : Nat) : Int)) else kb (ys.set i xs[j], ((i + 1 : Nat) : Int), ((j + 1 : Nat) : Int)))
    (he : ∀ kb (ys : List α) (i : Nat), i ≤ xs.length → ys.length = xs.length → f kb (ys, (i : Int), (xs.length : Int)) = k ys i) :
    ∃ ys, ys.length = xs.length ∧ (xs.filter fun x => !p x).length ≤ xs.length ∧ ys.take (xs.filter fun x => !p x).length = xs.filter (fun x => !p x) ∧ iter f FU (xs, (k0 : Int), ((k0 + 1 : Nat) : Int)) = k ys (xs.filter fun x => !p x).length := by
  obtain ⟨h1, h2, h3, _⟩ := delY_spec xs p k0 hk h0 (xs.length - (k0 + 1)) (by omega)
  rw [show k0 + 1 + (xs.length - (k0 + 1)) = xs.length by omega, List.take_length] at h3
  rw [show k0 + 1 + (xs.length - (k0 + 1)) = xs.length by omega] at h2
  have hl : (delY xs p k0 (xs.length - (k0 + 1))).2 = (xs.filter fun x => !p x).length := by
    rw [← h3, List.length_take, h1]; omega
  refine ⟨_, h1, List.length_filter_le _ _, by rw [← hl]; exact h3, ?_⟩
  rw [← hl]
  refine iter_all (fun n => ((delY xs p k0 n).1, ((delY xs p k0 n).2 : Int), ((k0 + 1 + n : Nat) : Int))) _ (xs.length - (k0 + 1)) (by omega) (fun kb n hlt => ?_) (fun kb => ?_) (by simp [delY])
  · obtain ⟨g1, g2, g3, g4⟩ := delY_spec xs p k0 hk h0 n (by omega)
    have hj : k0 + 1 + n < xs.length := by omega
    show f kb ((delY xs p k0 n).1, ((delY xs p k0 n).2 : Int), ((k0 + 1 + n : Nat) : Int)) = kb ((delY xs p k0 (n + 1)).1, ((delY xs p k0 (n + 1)).2 : Int), ((k0 + 1 + (n + 1) : Nat) : Int))
    rw [hs kb _ _ _ hj g2 g1 (by rw [g4 _ (Nat.le_refl _), List.getElem?_eq_getElem hj])]
    have e : delY xs p k0 (n + 1) = if p xs[k0 + 1 + n] = true then delY xs p k0 n else ((delY xs p k0 n).1.set (delY xs p k0 n).2 xs[k0 + 1 + n], (delY xs p k0 n).2 + 1) := by
      simp only [delY, List.getElem?_eq_getElem hj]
    rw [e]
    by_cases c : p xs[k0 + 1 + n] = true
    · simp only [c, if_true]; rfl
    · simp only [c, Bool.false_eq_true, if_false]; rfl
  · show f kb ((delY xs p k0 (xs.length - (k0 + 1))).1, ((delY xs p k0 (xs.length - (k0 + 1))).2 : Int), ((k0 + 1 + (xs.length - (k0 + 1)) : Nat) : Int)) = _
    rw [show k0 + 1 + (xs.length - (k0 + 1)) = xs.length by omega]
    exact he kb _ _ (by omega) h1
theorem idx_none {α : Type} {p : α → Bool} {xs : List α} (e : idxOf p xs = -1) : xs.filter (fun x => !p x) = xs := by
  unfold idxOf at e
  split at e
  · omega
  · rename_i h
    rw [List.findIdx?_eq_none_iff] at h
    rw [List.filter_eq_self]
    intro x hx
    simp [h x hx]
theorem idx_some' {α : Type} {p : α → Bool} {xs : List α} (e : ¬ idxOf p xs = -1) : ∃ k : Nat, idxOf p xs = (k : Int) ∧ k < xs.length ∧ (xs.take (k + 1)).filter (fun x => !p x) = xs.take k := by
  unfold idxOf at e ⊢
  split
  · rename_i k h
    rw [List.findIdx?_eq_some_iff_getElem] at h
    obtain ⟨hk, hp, hb⟩ := h
    refine ⟨k, rfl, hk, ?_⟩
    rw [List.take_succ_eq_append_getElem hk, List.filter_append, List.filter_eq_self.2 ?_]
    · simp [hp]
    · intro x hx
      obtain ⟨j, hj, rfl⟩ := List.getElem_of_mem hx
      have hj' : j < k := by simp at hj; omega
      have := hb j hj'
      simp only [List.getElem_take]
      simpa using this
  · rename_i h
    rw [h] at e
    exact absurd rfl e
theorem take_front {α : Type} {ys : List α} {i : Nat} (zs ws : List α) (h : i ≤ ys.length) : List.take i (List.take i ys ++ zs ++ ws) = List.take i ys := by
  rw [List.append_assoc, List.take_append_of_le_length (by simp; omega), List.take_take, Nat.min_self]
/-- A row of which the first i elements are turned, each by itself. -/
def rowF {α : Type} (g : α → α) (xs : List α) (i : Nat) : List α := (xs.take i).map g ++ xs.drop i
theorem rowF_len {α : Type} (g : α → α) (xs : List α) (i : Nat) : (rowF g xs i).length = xs.length := by
  unfold rowF
  simp
  omega
theorem rowF_idx {α : Type} (g : α → α) {xs : List α} {i : Nat} (h : i < xs.length) : idx (rowF g xs i) (i : Int) = some xs[i] := by
  rw [idx_ofNat]
  unfold rowF
  rw [List.getElem?_append_right (by simp; omega)]
  have e : i - ((xs.take i).map g).length = 0 := by simp; omega
  rw [e]
  simp [h]
theorem rowF_set {α : Type} (g : α → α) {xs : List α} {i : Nat} (h : i < xs.length) : (rowF g xs i).set i (g xs[i]) = rowF g xs (i + 1) := by
  unfold rowF
  rw [List.set_append, if_neg (by simp; omega), List.take_succ_eq_append_getElem h, List.map_append, List.append_assoc]
  congr 1
  have e : i - ((xs.take i).map g).length = 0 := by simp; omega
  rw [e, List.drop_eq_getElem_cons h]
  rfl
theorem rowF_same {α : Type} (g : α → α) {xs : List α} {i : Nat} (h : i < xs.length) (hg : g xs[i] = xs[i]) : rowF g xs (i + 1) = rowF g xs i := by
  rw [← rowF_set g h, hg]
  have hl : i < (rowF g xs i).length := by rw [rowF_len]; exact h
  have := rowF_idx g h
  rw [idx_nat hl] at this
  have := Option.some.inj this
  rw [← this]
  exact List.set_getElem_self hl
theorem rowF_zero {α : Type} (g : α → α) (xs : List α) : rowF g xs 0 = xs := by simp [rowF]
theorem rowF_all {α : Type} (g : α → α) (xs : List α) : rowF g xs xs.length = xs.map g := by simp [rowF]

def within (z lo hi : Int) : Bool := decide (lo ≤ z) && decide (z ≤ hi)

theorem p_l1In (z lo hi : Int) : m_spec_l1In z lo hi = some (within z lo hi) := by
  unfold m_spec_l1In within; by_cases h : lo ≤ z <;> simp [h]
theorem p_from (z lo hi : Int) : m_impl_from z lo hi = some (within z lo hi) := by
  unfold m_impl_from within; by_cases h : lo ≤ z <;> simp [h]
theorem p_l10Key (z : Int) : m_spec_l10Key z = some (within z 0 999) := by simp [m_spec_l10Key, p_l1In]
theorem p_isKey (z : Int) : m_impl_isKey z = some (within z 0 999) := by simp [m_impl_isKey, p_from]
theorem p_l1Whole (z : Int) : m_spec_l1Whole z = some (within z 0 1000000000) := by simp [m_spec_l1Whole, p_l1In]
theorem p_isWhole (z : Int) : m_impl_isWhole z = some (within z 0 1000000000) := by simp [m_impl_isWhole, p_from]

theorem p_l12Tx (z : Int) : m_spec_l12Tx z = some (within z 1 60) := by simp [m_spec_l12Tx, p_l1In]
theorem p_isTx (z : Int) : m_impl_isTx z = some (within z 1 60) := by simp [m_impl_isTx, p_from]

def rangeOk (a : TRange) : Bool := decide (0 ≤ a.Lo) && decide (a.Lo < a.Hi) && decide (a.Hi ≤ 1000)
theorem p_spec_RangeOk (a : TRange) : m_spec_RangeOk a = some (rangeOk a) := by
  unfold m_spec_RangeOk rangeOk; by_cases h : 0 ≤ a.Lo <;> by_cases h' : a.Lo < a.Hi <;> simp [h, h']
theorem p_impl_RangeOk (a : TRange) : m_impl_RangeOk a = some (rangeOk a) := by
  unfold m_impl_RangeOk rangeOk; by_cases h : 0 ≤ a.Lo <;> by_cases h' : a.Lo < a.Hi <;> simp [h, h']
def cellGood (xs : List TCell) (i : Nat) : Bool := match xs[i]? with
  | none => true
  | some c => within c.Key 0 999 && within c.Value 0 1000000000 && (i == 0 || match xs[i - 1]? with | some p => decide (p.Key < c.Key) | none => true)

def storeGood (xs : List TCell) : Bool := decide (xs.length ≤ 60) && (List.range xs.length).all (cellGood xs)

theorem p_spec_StoreOk (xs : List TCell) (h : xs.length ≤ 1048576) : m_spec_StoreOk xs = some (storeGood xs) := by
  unfold m_spec_StoreOk storeGood
  split
  · rename_i h1
    have : ¬ xs.length ≤ 60 := by omega
    simp [this]
  · rename_i h1
    have : xs.length ≤ 60 := by omega
    rw [iter_good (s0 := (0 : Int)) (fun i => (i : Int)) (cellGood xs) (some false) (some true) xs.length (by omega) (fun kb i hi => ?_) (fun kb => ?_) rfl]
    · simp only [this, decide_true, Bool.true_and]; split <;> simp_all
    · unfold spec_StoreOk_b5 spec_StoreOk_j8 cellGood
      simp only [idx_nat hi, p_l10Key, p_l1Whole, Option.bind_some, step1 i _ hi (by omega), List.getElem?_eq_getElem hi]
      rw [if_pos (by omega)]
      cases within xs[i].Key 0 999 <;> simp
      cases within xs[i].Value 0 1000000000 <;> simp
      by_cases h0 : 0 < i
      · have h2 : IntKind.wrap .i64 ((i : Int) - 1) = ((i - 1 : Nat) : Int) := by rw [w64 (by omega) (by omega)]; omega
        have h3 : i - 1 < xs.length := by omega
        have h4 : ¬ i = 0 := by omega
        simp only [h0, if_true, h2, idx_nat h3, Option.bind_some, List.getElem?_eq_getElem h3, h4, false_or]
        by_cases h5 : xs[i].Key ≤ xs[i - 1].Key
        · have : ¬ xs[i - 1].Key < xs[i].Key := by omega
          simp [h5, this]
        · have : xs[i - 1].Key < xs[i].Key := by omega
          simp [h5, this]
      · have h4 : i = 0 := by omega
        simp [h4]
    · unfold spec_StoreOk_b5
      rw [if_neg (by omega)]; rfl

theorem p_impl_StoreOk (xs : List TCell) (h : xs.length ≤ 1048576) : m_impl_StoreOk xs = some (storeGood xs) := by
  unfold m_impl_StoreOk storeGood
  rw [iter_good (s0 := (0 : Int)) (fun i => (i : Int)) (cellGood xs) (some false) (some (decide (xs.length ≤ 60))) xs.length (by omega) (fun kb i hi => ?_) (fun kb => ?_) rfl]
  · split <;> simp_all
  · unfold impl_StoreOk_b4 impl_StoreOk_j9 cellGood
    simp only [idx_nat hi, p_isKey, p_isWhole, Option.bind_some, step1 i _ hi (by omega), List.getElem?_eq_getElem hi]
    rw [if_pos (by omega)]
    cases within xs[i].Key 0 999 <;> simp
    cases within xs[i].Value 0 1000000000 <;> simp
    by_cases h0 : 0 < i
    · have h2 : IntKind.wrap .i64 ((i : Int) - 1) = ((i - 1 : Nat) : Int) := by rw [w64 (by omega) (by omega)]; omega
      have h3 : i - 1 < xs.length := by omega
      have h4 : ¬ i = 0 := by omega
      simp only [h0, if_true, h2, idx_nat h3, Option.bind_some, List.getElem?_eq_getElem h3, h4, false_or]
      by_cases h5 : xs[i].Key ≤ xs[i - 1].Key
      · have : ¬ xs[i - 1].Key < xs[i].Key := by omega
        simp [h5, this]
      · have : xs[i - 1].Key < xs[i].Key := by omega
        simp [h5, this]
    · have h4 : i = 0 := by omega
      simp [h4]
  · unfold impl_StoreOk_b4 impl_StoreOk_j2
    rw [if_neg (by omega)]
    have : ((xs.length : Int) ≤ 60) ↔ xs.length ≤ 60 := by omega
    simp [this]

/-- The cells lie in the range. -/
def inB (lo hi : Int) (c : TCell) : Bool := within c.Key lo (IntKind.wrap .i64 (hi - 1))
theorem p_Range_has (a : TRange) (z : Int) : m_impl_Range_has a z = some (within z a.Lo (IntKind.wrap .i64 (a.Hi - 1))) := by
  unfold m_impl_Range_has; simp [p_from]
theorem p_Index_Cell__within_1 (xs : List TCell) (c0 : TRange) (c1 : Bool) (p : TCell → Bool) (hp : ∀ v, m_impl_within_1 v c0 c1 = some (p v)) (h : xs.length ≤ 1048576) : m_slices_IndexFunc_Cell__within_1 xs c0 c1 = some (idxOf p xs) := by
  unfold m_slices_IndexFunc_Cell__within_1
  refine iter_index xs p (by omega) (fun kb i hi => ?_) (fun kb => ?_)
  · unfold slices_IndexFunc_Cell__within_1_b6
    simp only [idx_nat hi, Option.bind_some, hp, step1 i _ hi (by omega)]
    rw [if_pos (by omega)]
  · unfold slices_IndexFunc_Cell__within_1_b6
    rw [if_neg (by omega)]; rfl
theorem p_Del_Cell__within_1 (xs : List TCell) (c0 : TRange) (c1 : Bool) (p : TCell → Bool) (hp : ∀ v, m_impl_within_1 v c0 c1 = some (p v)) (h : xs.length ≤ 1048576) : m_slices_DeleteFunc_Cell__within_1 xs c0 c1 = some (xs.filter fun x => !p x) := by
  unfold m_slices_DeleteFunc_Cell__within_1
  simp only [p_Index_Cell__within_1 xs c0 c1 p hp h, Option.bind_some]
  split
  · rename_i e; rw [idx_none e]
  · rename_i e
    obtain ⟨k0, e1, hk, h0⟩ := idx_some' e
    rw [e1, step1 k0 _ hk (by omega)]
    obtain ⟨ys, g1, g2, g3, g4⟩ := iter_del (f := slices_DeleteFunc_Cell__within_1_b12 c0 c1 slices_DeleteFunc_Cell__within_1_j7) xs p (fun ys i => some (ys.take i)) h k0 hk h0 (fun kb ys i j hj hij hl hx => by
      unfold slices_DeleteFunc_Cell__within_1_b12
      have hi : i < ys.length := by omega
      simp only [idx_ofNat, hx, hp, Option.bind_some, step1 j _ hj (by omega), step1 i _ hi (by omega), Int.toNat_natCast, List.getElem?_eq_getElem hi]
      rw [if_pos (by omega)]) (fun kb ys i hi hl => by
      unfold slices_DeleteFunc_Cell__within_1_b12 slices_DeleteFunc_Cell__within_1_j7
      simp only [Int.toNat_natCast]
      rw [if_neg (by omega), if_pos ⟨by omega, by omega, by omega⟩, if_pos (by omega), if_pos ⟨by omega, by omega, by omega⟩, take_front _ _ (by omega)])
    rw [g4, g3]

theorem p_Clone_Cell (xs : List TCell) (h : xs.length ≤ 1048576) : m_slices_Clone_Cell xs = some xs := by
  unfold m_slices_Clone_Cell slices_Clone_Cell_j2
  split <;> first | (simp; done) | (simp; omega)
theorem p_Clone_Lock (xs : List TLock) (h : xs.length ≤ 1048576) : m_slices_Clone_Lock xs = some xs := by
  unfold m_slices_Clone_Lock slices_Clone_Lock_j2
  split <;> first | (simp; done) | (simp; omega)
def scanned (xs : List TCell) (a : TRange) (b : Bool) : List TCell := if storeGood xs && rangeOk a then xs.filter (fun c => inB a.Lo a.Hi c == b) else []
theorem scanned_len (xs : List TCell) (a : TRange) (b : Bool) : (scanned xs a b).length ≤ xs.length := by
  unfold scanned
  split
  · exact List.length_filter_le _ _
  · simp
theorem p_l11Scan (xs : List TCell) (a : TRange) (b : Bool) (h : xs.length ≤ 1048576) : m_spec_l11Scan xs a b = some (scanned xs a b) := by
  unfold m_spec_l11Scan scanned
  by_cases hg : storeGood xs = true
  · by_cases hr : rangeOk a = true
    · rw [iter_filter xs (fun c => inB a.Lo a.Hi c == b) (fun ys => some ys) h (fun kb ys i hi hy => ?_) (fun kb ys => ?_)]
      · simp [hg, hr]
      · unfold spec_l11Scan_b6
        simp only [p_spec_StoreOk _ h, p_spec_RangeOk, hg, hr, idx_nat hi, Option.bind_some, p_l1In, step1 i _ hi (by omega), if_true]
        rw [if_pos (by omega)]
        by_cases c : (inB a.Lo a.Hi xs[i] == b) = true
        · rw [if_pos c, if_pos (by unfold inB at c; exact c), if_pos (by simp; omega)]
        · rw [if_neg c, if_neg (by unfold inB at c; exact c)]
      · unfold spec_l11Scan_b6 spec_l11Scan_j4
        rw [if_neg (by omega)]
    · unfold FU iter spec_l11Scan_b6 spec_l11Scan_j4
      simp [p_spec_StoreOk _ h, p_spec_RangeOk, hg, hr]
  · unfold FU iter spec_l11Scan_b6 spec_l11Scan_j4
    simp [p_spec_StoreOk _ h, hg]
theorem p_within (xs : List TCell) (a : TRange) (b : Bool) (h : xs.length ≤ 1048576) : m_impl_within xs a b = some (scanned xs a b) := by
  unfold m_impl_within scanned impl_within_j4
  simp only [p_impl_StoreOk _ h, p_impl_RangeOk, Option.bind_some, p_Clone_Cell _ h, p_Del_Cell__within_1 xs a b (fun c => (inB a.Lo a.Hi c != b)) (fun v => by simp [m_impl_within_1, p_Range_has, inB]) h]
  cases storeGood xs <;> cases rangeOk a <;> simp <;> exact List.filter_congr fun x _ => by cases inB a.Lo a.Hi x <;> cases b <;> rfl

theorem p_szCellS (xs : List TCell) (h : xs.length ≤ maxLen) (z : Int) (h1 : 0 ≤ z) (h2 : z ≤ 1048576) : m_laws_szCellS xs z = some (if z < xs.length then -1 else z - xs.length) := by
  unfold m_laws_szCellS
  have : IntKind.wrap .i64 (z - (xs.length : Int)) = z - xs.length := by unfold maxLen at h; exact w64 (by omega) (by omega)
  rw [this]
  split <;> split <;> first | rfl | omega

theorem p_toCellS (xs : List TCell) (h : xs.length ≤ 1048576) : m_laws_toCellS xs = some xs := by
  unfold m_laws_toCellS
  rw [if_pos ⟨by omega, by omega⟩]
  simp only [Int.toNat_natCast]
  refine iter_copy xs _ laws_toCellS_j3 (by omega) (fun kb ys i hi hy => ?_) (fun kb ys => ?_)
  · unfold laws_toCellS_b5
    simp only [idx_nat hi, idx_nat (show i < ys.length by omega), m_laws_toCell, Option.bind_some, Int.toNat_natCast, step1 i _ hi (by omega)]
    rw [if_pos (by omega)]
  · unfold laws_toCellS_b5
    rw [if_neg (by omega)]

theorem p_eqCell (a b : TCell) : m_laws_eqCell a b = some (decide (a = b)) := by
  unfold m_laws_eqCell
  cases a; cases b
  simp only [TCell.mk.injEq]
  repeat' split
  all_goals simp_all

theorem p_eqCellS (xs ys : List TCell) (h : xs.length ≤ 1048576) : m_laws_eqCellS xs ys = some (decide (xs = ys)) := by
  unfold m_laws_eqCellS
  split
  · rename_i hl
    have : ¬ xs = ys := fun e => hl (by rw [e])
    simp [this]
  · rename_i hl
    have hl : xs.length = ys.length := by omega
    rw [iter_good (s0 := (0 : Int)) (fun i => (i : Int)) (fun i => decide (xs[i]? = ys[i]?)) (some false) (some true) xs.length (by omega) (fun kb i hi => ?_) (fun kb => ?_) rfl, all_range_eq hl]
    · by_cases e : xs = ys <;> simp [e]
    · unfold laws_eqCellS_b6
      simp only [idx_nat hi, idx_nat (show i < ys.length by omega), p_eqCell, Option.bind_some, step1 i _ hi (by omega)]
      rw [if_pos (by omega), List.getElem?_eq_getElem hi, List.getElem?_eq_getElem (show i < ys.length by omega)]
      simp
    · unfold laws_eqCellS_b6
      rw [if_neg (by omega)]
      rfl

def mk_Cell (k : Int) : TCell := ⟨k, k + 1⟩
def marks_Cell (k : Int) (n : Nat) : List TCell := (List.range n).map fun (i : Nat) => mk_Cell (k + 2 * (i : Int))
theorem marks_Cell_len (k : Int) (n : Nat) : (marks_Cell k n).length = n := by simp [marks_Cell]
theorem p_markCellS (xs : List TCell) (k : Int) (h : xs.length ≤ 1048576) (hk : 0 ≤ k) (hk' : k ≤ 1000000000000) : m_laws_markCellS xs k = some (k + 2 * (xs.length : Int), marks_Cell k xs.length) := by
  unfold m_laws_markCellS
  refine iter_all (fun i => (rowM (fun (i : Nat) => mk_Cell (k + 2 * (i : Int))) xs i, k + 2 * (i : Int), (i : Int))) _ xs.length (by omega) (fun kb i hi => ?_) (fun kb => ?_) (by simp [rowM_zero])
  · unfold laws_markCellS_b6
    have hl := rowM_len (fun (i : Nat) => mk_Cell (k + 2 * (i : Int))) (Nat.le_of_lt hi)
    have w1 : IntKind.wrap .i64 (k + 2 * (i : Int) + 1) = k + 2 * (i : Int) + 1 := w64 (by omega) (by omega)
    have w2 : IntKind.wrap .i64 (k + 2 * (i : Int) + 1 + 1) = k + 2 * (i : Int) + 2 := by rw [w64 (by omega) (by omega)]; omega
    have e : k + 2 * ((i + 1 : Nat) : Int) = k + 2 * (i : Int) + 2 := by omega
    have hs := rowM_set (fun (i : Nat) => mk_Cell (k + 2 * (i : Int))) hi
    have hx := rowM_idx (fun (i : Nat) => mk_Cell (k + 2 * (i : Int))) hi
    show _ = kb (rowM (fun (i : Nat) => mk_Cell (k + 2 * (i : Int))) xs (i + 1), k + 2 * ((i + 1 : Nat) : Int), ((i + 1 : Nat) : Int))
    rw [← hs, e]
    generalize rowM (fun (i : Nat) => mk_Cell (k + 2 * (i : Int))) xs i = row at hl hx
    have hii : i < row.length := by rw [hl]; exact hi
    simp only [hx, Option.bind_some, Int.toNat_natCast, idx_set_same hii, List.set_set, step1 i _ hi (by omega), w1, w2, hl, mk_Cell]
    rw [if_pos (by omega)]
  · unfold laws_markCellS_b6 laws_markCellS_j3
    have hl := rowM_len (fun (i : Nat) => mk_Cell (k + 2 * (i : Int))) (Nat.le_refl xs.length)
    rw [if_neg (by simp only [hl]; omega), if_pos hl, rowM_all]
    rfl
theorem p_heldCellS (n : Nat) (k : Int) (h : n ≤ 1048576) (hk : 0 ≤ k) (hk' : k ≤ 1000000000000) : m_laws_heldCellS (marks_Cell k n) k = some (k + 2 * (n : Int)) := by
  unfold m_laws_heldCellS
  refine iter_all (fun i => (k + 2 * (i : Int), (i : Int))) _ n (by omega) (fun kb i hi => ?_) (fun kb => ?_) (by simp)
  · unfold laws_heldCellS_b5
    have w1 : IntKind.wrap .i64 (k + 2 * (i : Int) + 1) = k + 2 * (i : Int) + 1 := w64 (by omega) (by omega)
    have w2 : IntKind.wrap .i64 (k + 2 * (i : Int) + 1 + 1) = k + 2 * (i : Int) + 2 := by rw [w64 (by omega) (by omega)]; omega
    have e : k + 2 * ((i + 1 : Nat) : Int) = k + 2 * (i : Int) + 2 := by omega
    have hx : idx (marks_Cell k n) (i : Int) = some (mk_Cell (k + 2 * (i : Int))) := idx_range _ hi
    simp only [hx, Option.bind_some, step1 i _ hi (by omega), w1, w2, mk_Cell, marks_Cell_len, not_true, if_false, e]
    rw [if_pos (by omega)]
  · unfold laws_heldCellS_b5 laws_heldCellS_j3
    rw [if_neg (by simp only [marks_Cell_len]; omega)]

theorem p_FnExactStoreCut (a1 : List TCell) (a2 : TRange) (h : okS ok_TCell a1) (h2 : ok_TRange a2) : m_laws_FnExactStoreCut a1 a2 = some true := by
  unfold m_laws_FnExactStoreCut
  rw [p_szCellS a1 h.1 _ (by omega) (by omega)]
  simp only [Option.bind_some]
  split
  · rfl
  · rename_i h1
    have hl : a1.length ≤ 1048576 := by omega
    have e1 : m_spec_StoreCut a1 a2 = some (scanned a1 a2 false) := by simp [m_spec_StoreCut, p_l11Scan _ _ _ hl]
    have e2 : m_impl_StoreCut a1 a2 = some (scanned a1 a2 false) := by simp [m_impl_StoreCut, p_within _ _ _ hl]
    have hs := scanned_len a1 a2 false
    generalize scanned a1 a2 false = r at *
    have hr : r.length ≤ 1048576 := by omega
    have q1 : ¬ (1 + 2 * (a1.length : Int) < 0) := by omega
    have q2 : ¬ (1 + 2 * (r.length : Int) < 0) := by omega
    simp [q1, q2, p_toCellS _ hl, m_laws_toRange, e1, e2, p_eqCellS _ _ hr, p_eqCellS _ _ hl, p_markCellS a1 1 hl (by omega) (by omega), p_markCellS r 1 hr (by omega) (by omega), marks_Cell_len, p_heldCellS r.length 1 hr (by omega) (by omega), laws_FnExactStoreCut_j29]

theorem p_FnExactStoreScan (a1 : List TCell) (a2 : TRange) (h : okS ok_TCell a1) (h2 : ok_TRange a2) : m_laws_FnExactStoreScan a1 a2 = some true := by
  unfold m_laws_FnExactStoreScan
  rw [p_szCellS a1 h.1 _ (by omega) (by omega)]
  simp only [Option.bind_some]
  split
  · rfl
  · rename_i h1
    have hl : a1.length ≤ 1048576 := by omega
    have e1 : m_spec_StoreScan a1 a2 = some (scanned a1 a2 true) := by simp [m_spec_StoreScan, p_l11Scan _ _ _ hl]
    have e2 : m_impl_StoreScan a1 a2 = some (scanned a1 a2 true) := by simp [m_impl_StoreScan, p_within _ _ _ hl]
    have hs := scanned_len a1 a2 true
    generalize scanned a1 a2 true = r at *
    have hr : r.length ≤ 1048576 := by omega
    have q1 : ¬ (1 + 2 * (a1.length : Int) < 0) := by omega
    have q2 : ¬ (1 + 2 * (r.length : Int) < 0) := by omega
    simp [q1, q2, p_toCellS _ hl, m_laws_toRange, e1, e2, p_eqCellS _ _ hr, p_eqCellS _ _ hl, p_markCellS a1 1 hl (by omega) (by omega), p_markCellS r 1 hr (by omega) (by omega), marks_Cell_len, p_heldCellS r.length 1 hr (by omega) (by omega), laws_FnExactStoreScan_j29]

def modeOk (m : Int) : Bool := decide (m = 1) || decide (m = 2)
theorem p_l12Mode (m : Int) : m_spec_l12Mode m = some (modeOk m) := by
  unfold m_spec_l12Mode modeOk; by_cases h : m = 1 <;> simp [h]
theorem p_isMode (m : Int) : m_impl_isMode m = some (modeOk m) := by
  unfold m_impl_isMode modeOk; by_cases h : m = 1 <;> simp [h]

def meetsB (a b : TRange) : Bool := decide (a.Lo < b.Hi) && decide (b.Lo < a.Hi)
theorem p_meets (a b : TRange) : m_impl_meets a b = some (meetsB a b) := by
  unfold m_impl_meets meetsB; by_cases h : a.Lo < b.Hi <;> simp [h]

def clashB (a b : TLock) : Bool := decide (¬ a.Tx = b.Tx) && (decide (a.Mode = 2) || decide (b.Mode = 2)) && meetsB ⟨a.Lo, a.Hi⟩ ⟨b.Lo, b.Hi⟩
theorem p_impl_clash (a b : TLock) : m_impl_clash a b = some (clashB a b) := by
  unfold m_impl_clash m_impl_Lock_keys clashB
  simp only [p_meets, Option.bind_some]
  by_cases h : a.Tx = b.Tx <;> by_cases h1 : a.Mode = 2 <;> by_cases h2 : b.Mode = 2 <;> simp [h, h1, h2]

theorem p_l1Min (a b : Int) : m_spec_l1Min a b = some (min a b) := by
  unfold m_spec_l1Min; split <;> congr 1 <;> omega
theorem p_l1Max (a b : Int) : m_spec_l1Max a b = some (max a b) := by
  unfold m_spec_l1Max; split <;> congr 1 <;> omega

theorem p_RangeMeet (a b : TRange) : m_spec_RangeMeet a b = some (if rangeOk a && rangeOk b && rangeOk ⟨max a.Lo b.Lo, min a.Hi b.Hi⟩ then (⟨max a.Lo b.Lo, min a.Hi b.Hi⟩, true) else (⟨0, 0⟩, false)) := by
  unfold m_spec_RangeMeet spec_RangeMeet_j7
  simp only [p_l1Min, p_l1Max, p_spec_RangeOk, Option.bind_some]
  cases rangeOk a <;> cases rangeOk b <;> cases rangeOk ⟨max a.Lo b.Lo, min a.Hi b.Hi⟩ <;> simp

theorem meet_ok {a b : TRange} (ha : rangeOk a = true) (hb : rangeOk b = true) : rangeOk ⟨max a.Lo b.Lo, min a.Hi b.Hi⟩ = meetsB a b := by
  unfold rangeOk at *
  unfold meetsB
  simp only [Bool.and_eq_true, decide_eq_true_eq] at ha hb
  rw [Bool.eq_iff_iff]
  simp only [Bool.and_eq_true, decide_eq_true_eq]
  omega

theorem p_l12Clash (a b : TLock) (ha : rangeOk ⟨a.Lo, a.Hi⟩ = true) (hb : rangeOk ⟨b.Lo, b.Hi⟩ = true) : m_spec_l12Clash a b = some (clashB a b) := by
  unfold m_spec_l12Clash m_spec_l12Range clashB
  simp only [p_RangeMeet, Option.bind_some, ha, hb, Bool.true_and]
  have := meet_ok ha hb
  simp only at this
  rw [this]
  cases meetsB ⟨a.Lo, a.Hi⟩ ⟨b.Lo, b.Hi⟩ <;> by_cases h : a.Tx = b.Tx <;> by_cases h1 : a.Mode = 2 <;> simp [h, h1]

theorem clash_comm (a b : TLock) : clashB a b = clashB b a := by
  unfold clashB meetsB
  rw [Bool.eq_iff_iff]
  simp only [Bool.and_eq_true, Bool.or_eq_true, decide_eq_true_eq]
  constructor <;> rintro ⟨⟨h1, h2⟩, h3, h4⟩ <;> exact ⟨⟨fun e => h1 e.symm, h2.symm⟩, h4, h3⟩

/-- One lock by itself, and against those ahead of it. -/
def lockAlone (a : TLock) : Bool := within a.Tx 1 60 && rangeOk ⟨a.Lo, a.Hi⟩ && modeOk a.Mode
def lockGood (xs : List TLock) (i : Nat) : Bool := match xs[i]? with
  | none => true
  | some a => lockAlone a && (xs.take i).all fun b => !clashB a b
def locksGood (xs : List TLock) : Bool := decide (xs.length ≤ 40) && (List.range xs.length).all (lockGood xs)

def optAll {α : Type} (f : α → Bool) : Option α → Bool
  | some b => f b
  | none => true

theorem all_take {α : Type} (xs : List α) (f : α → Bool) (n : Nat) (h : n ≤ xs.length) : (xs.take n).all f = (List.range n).all fun k => optAll f xs[k]? := by
  rw [Bool.eq_iff_iff, List.all_eq_true, List.all_eq_true]
  constructor
  · intro H k hk
    have hk := List.mem_range.1 hk
    have : k < xs.length := by omega
    rw [List.getElem?_eq_getElem this]
    show f _ = true
    exact H _ (by rw [List.mem_take_iff_getElem]; exact ⟨k, by omega, rfl⟩)
  · intro H x hx
    rw [List.mem_take_iff_getElem] at hx
    obtain ⟨k, hk, rfl⟩ := hx
    have := H k (List.mem_range.2 (by omega))
    rw [List.getElem?_eq_getElem (by omega)] at this
    exact this

theorem good_before {xs : List TLock} {i : Nat} (h : ∀ k, k < i → lockGood xs k = true) {k : Nat} (hk : k < i) (hl : k < xs.length) : rangeOk ⟨xs[k].Lo, xs[k].Hi⟩ = true := by
  have := h k hk
  unfold lockGood lockAlone at this
  rw [List.getElem?_eq_getElem hl] at this
  simp only [Bool.and_eq_true] at this
  exact this.1.1.2

theorem p_spec_LocksOk (xs : List TLock) (h : xs.length ≤ 1048576) : m_spec_LocksOk xs = some (locksGood xs) := by
  unfold m_spec_LocksOk locksGood
  split
  · have : ¬ xs.length ≤ 40 := by omega
    simp [this]
  · have : xs.length ≤ 40 := by omega
    rw [iter_goodH (s0 := (0 : Int)) (fun i => (i : Int)) (lockGood xs) (some false) (some true) xs.length (by omega) (fun kb i hi hp => ?_) (fun kb _ => ?_) rfl]
    · simp only [this, decide_true, Bool.true_and]; split <;> simp_all
    · unfold spec_LocksOk_b5 spec_LocksOk_j10 lockGood lockAlone
      simp only [idx_nat hi, p_l12Tx, p_l12Mode, p_spec_RangeOk, m_spec_l12Range, Option.bind_some, List.getElem?_eq_getElem hi]
      rw [if_pos (by omega)]
      generalize hg : (List.take i xs).all (fun b => !clashB xs[i] b) = g
      cases h1 : within xs[i].Tx 1 60 <;> simp
      cases h2 : rangeOk ⟨xs[i].Lo, xs[i].Hi⟩ <;> simp
      cases h3 : modeOk xs[i].Mode <;> simp
      rw [iter_good (s0 := (0 : Int)) (fun k => (k : Int)) (fun k => optAll (fun b => !clashB xs[i] b) xs[k]?) (some false) (kb ((i + 1 : Nat) : Int)) i (by omega) (fun kb' k hk => ?_) (fun kb' => ?_) rfl]
      · rw [← hg, all_take xs _ i (by omega)]
        simp only [Int.natCast_add, Int.cast_ofNat_Int]
      · unfold spec_LocksOk_b13
        have hkl : k < xs.length := by omega
        simp only [idx_nat hi, idx_nat hkl, Option.bind_some, p_l12Clash _ _ h2 (good_before hp hk hkl), step1 k _ hk (by omega), List.getElem?_eq_getElem hkl, optAll]
        rw [if_pos (by omega)]
        cases clashB xs[i] xs[k] <;> simp
      · unfold spec_LocksOk_b13 spec_LocksOk_j8
        rw [if_neg (by omega), step1 i _ hi (by omega)]
    · unfold spec_LocksOk_b5
      rw [if_neg (by omega)]; rfl

theorem p_Contains_LocksOk (xs : List TLock) (a : TLock) (h : xs.length ≤ 1048576) : m_slices_ContainsFunc_Lock__LocksOk_1 xs a = some (!xs.all fun b => !clashB a b) := by
  unfold m_slices_ContainsFunc_Lock__LocksOk_1 m_slices_IndexFunc_Lock__LocksOk_1
  have hb : ∀ x, m_impl_LocksOk_1 x a = some (clashB a x) := fun x => by simp [m_impl_LocksOk_1, p_impl_clash]
  rw [iter_stop (s0 := (0 : Int)) (fun i => (i : Int)) (fun i : Nat => match xs[i]? with | some b => if clashB a b = true then some (some (i : Int)) else none | none => none) (some (-1)) xs.length (by omega) (fun kb i hi => ?_) (fun kb => ?_) rfl]
  · cases hf : (List.range xs.length).findSome? (fun i : Nat => match xs[i]? with | some b => if clashB a b = true then some (some (i : Int)) else none | none => none) with
    | none =>
      rw [List.findSome?_eq_none_iff] at hf
      have : (xs.all fun b => !clashB a b) = true := by
        rw [List.all_eq_true]
        intro x hx
        obtain ⟨k, hk, rfl⟩ := List.mem_iff_getElem.1 hx
        have := hf k (List.mem_range.2 hk)
        rw [List.getElem?_eq_getElem hk] at this
        cases hc : clashB a xs[k] with
        | false => rfl
        | true => simp [hc] at this
      simp [this]
    | some q =>
      obtain ⟨x, hx, hq⟩ := List.exists_of_findSome?_eq_some hf
      have hk := List.mem_range.1 hx
      rw [List.getElem?_eq_getElem hk] at hq
      simp only at hq
      split at hq
      · rename_i hc
        cases hq
        have : (xs.all fun b => !clashB a b) = false := by
          rw [List.all_eq_false]
          exact ⟨xs[x], List.getElem_mem hk, by simp [hc]⟩
        simp [this]
      · cases hq
  · unfold slices_IndexFunc_Lock__LocksOk_1_b5
    simp only [idx_nat hi, Option.bind_some, hb, step1 i _ hi (by omega), List.getElem?_eq_getElem hi]
    rw [if_pos (by omega)]
    cases clashB a xs[i] <;> simp
  · unfold slices_IndexFunc_Lock__LocksOk_1_b5
    rw [if_neg (by omega)]; rfl

theorem p_impl_LocksOk (xs : List TLock) (h : xs.length ≤ 1048576) : m_impl_LocksOk xs = some (locksGood xs) := by
  unfold m_impl_LocksOk locksGood
  rw [iter_good (s0 := (0 : Int)) (fun i => (i : Int)) (lockGood xs) (some false) (some (decide (xs.length ≤ 40))) xs.length (by omega) (fun kb i hi => ?_) (fun kb => ?_) rfl]
  · split <;> simp_all
  · unfold impl_LocksOk_b4 impl_LocksOk_j9 lockGood lockAlone
    have hc : cut xs 0 (i : Int) = some (xs.take i) := by
      unfold cut
      rw [if_pos ⟨by omega, by omega, by omega⟩]
      simp
    simp only [idx_nat hi, p_isTx, p_isMode, p_impl_RangeOk, m_impl_Lock_keys, Option.bind_some, List.getElem?_eq_getElem hi, hc, p_Contains_LocksOk (xs.take i) xs[i] (by simp; omega), step1 i _ hi (by omega)]
    rw [if_pos (by omega)]
    generalize hg : (List.take i xs).all (fun b => !clashB xs[i] b) = g
    cases h1 : within xs[i].Tx 1 60 <;> simp
    cases h2 : rangeOk ⟨xs[i].Lo, xs[i].Hi⟩ <;> simp
    cases h3 : modeOk xs[i].Mode <;> simp
    cases g <;> simp
  · unfold impl_LocksOk_b4 impl_LocksOk_j2
    rw [if_neg (by omega)]
    have : ((xs.length : Int) ≤ 40) ↔ xs.length ≤ 40 := by omega
    simp [this]

theorem p_Index_Lock__LocksOf_1 (xs : List TLock) (c0 : Int) (p : TLock → Bool) (hp : ∀ v, m_impl_LocksOf_1 v c0 = some (p v)) (h : xs.length ≤ 1048576) : m_slices_IndexFunc_Lock__LocksOf_1 xs c0 = some (idxOf p xs) := by
  unfold m_slices_IndexFunc_Lock__LocksOf_1
  refine iter_index xs p (by omega) (fun kb i hi => ?_) (fun kb => ?_)
  · unfold slices_IndexFunc_Lock__LocksOf_1_b5
    simp only [idx_nat hi, Option.bind_some, hp, step1 i _ hi (by omega)]
    rw [if_pos (by omega)]
  · unfold slices_IndexFunc_Lock__LocksOf_1_b5
    rw [if_neg (by omega)]; rfl
theorem p_Del_Lock__LocksOf_1 (xs : List TLock) (c0 : Int) (p : TLock → Bool) (hp : ∀ v, m_impl_LocksOf_1 v c0 = some (p v)) (h : xs.length ≤ 1048576) : m_slices_DeleteFunc_Lock__LocksOf_1 xs c0 = some (xs.filter fun x => !p x) := by
  unfold m_slices_DeleteFunc_Lock__LocksOf_1
  simp only [p_Index_Lock__LocksOf_1 xs c0 p hp h, Option.bind_some]
  split
  · rename_i e; rw [idx_none e]
  · rename_i e
    obtain ⟨k0, e1, hk, h0⟩ := idx_some' e
    rw [e1, step1 k0 _ hk (by omega)]
    obtain ⟨ys, g1, g2, g3, g4⟩ := iter_del (f := slices_DeleteFunc_Lock__LocksOf_1_b11 c0 slices_DeleteFunc_Lock__LocksOf_1_j6) xs p (fun ys i => some (ys.take i)) h k0 hk h0 (fun kb ys i j hj hij hl hx => by
      unfold slices_DeleteFunc_Lock__LocksOf_1_b11
      have hi : i < ys.length := by omega
      simp only [idx_ofNat, hx, hp, Option.bind_some, step1 j _ hj (by omega), step1 i _ hi (by omega), Int.toNat_natCast, List.getElem?_eq_getElem hi]
      rw [if_pos (by omega)]) (fun kb ys i hi hl => by
      unfold slices_DeleteFunc_Lock__LocksOf_1_b11 slices_DeleteFunc_Lock__LocksOf_1_j6
      simp only [Int.toNat_natCast]
      rw [if_neg (by omega), if_pos ⟨by omega, by omega, by omega⟩, if_pos (by omega), if_pos ⟨by omega, by omega, by omega⟩, take_front _ _ (by omega)])
    rw [g4, g3]
theorem p_Index_Lock__LocksDrop_1 (xs : List TLock) (c0 : Int) (p : TLock → Bool) (hp : ∀ v, m_impl_LocksDrop_1 v c0 = some (p v)) (h : xs.length ≤ 1048576) : m_slices_IndexFunc_Lock__LocksDrop_1 xs c0 = some (idxOf p xs) := by
  unfold m_slices_IndexFunc_Lock__LocksDrop_1
  refine iter_index xs p (by omega) (fun kb i hi => ?_) (fun kb => ?_)
  · unfold slices_IndexFunc_Lock__LocksDrop_1_b5
    simp only [idx_nat hi, Option.bind_some, hp, step1 i _ hi (by omega)]
    rw [if_pos (by omega)]
  · unfold slices_IndexFunc_Lock__LocksDrop_1_b5
    rw [if_neg (by omega)]; rfl
theorem p_Del_Lock__LocksDrop_1 (xs : List TLock) (c0 : Int) (p : TLock → Bool) (hp : ∀ v, m_impl_LocksDrop_1 v c0 = some (p v)) (h : xs.length ≤ 1048576) : m_slices_DeleteFunc_Lock__LocksDrop_1 xs c0 = some (xs.filter fun x => !p x) := by
  unfold m_slices_DeleteFunc_Lock__LocksDrop_1
  simp only [p_Index_Lock__LocksDrop_1 xs c0 p hp h, Option.bind_some]
  split
  · rename_i e; rw [idx_none e]
  · rename_i e
    obtain ⟨k0, e1, hk, h0⟩ := idx_some' e
    rw [e1, step1 k0 _ hk (by omega)]
    obtain ⟨ys, g1, g2, g3, g4⟩ := iter_del (f := slices_DeleteFunc_Lock__LocksDrop_1_b11 c0 slices_DeleteFunc_Lock__LocksDrop_1_j6) xs p (fun ys i => some (ys.take i)) h k0 hk h0 (fun kb ys i j hj hij hl hx => by
      unfold slices_DeleteFunc_Lock__LocksDrop_1_b11
      have hi : i < ys.length := by omega
      simp only [idx_ofNat, hx, hp, Option.bind_some, step1 j _ hj (by omega), step1 i _ hi (by omega), Int.toNat_natCast, List.getElem?_eq_getElem hi]
      rw [if_pos (by omega)]) (fun kb ys i hi hl => by
      unfold slices_DeleteFunc_Lock__LocksDrop_1_b11 slices_DeleteFunc_Lock__LocksDrop_1_j6
      simp only [Int.toNat_natCast]
      rw [if_neg (by omega), if_pos ⟨by omega, by omega, by omega⟩, if_pos (by omega), if_pos ⟨by omega, by omega, by omega⟩, take_front _ _ (by omega)])
    rw [g4, g3]

def locksKeep (xs : List TLock) (tx : Int) (b : Bool) : List TLock := if locksGood xs then xs.filter (fun l => decide (l.Tx = tx) == b) else []
theorem locksKeep_len (xs : List TLock) (a : Int) (b : Bool) : (locksKeep xs a b).length ≤ xs.length := by
  unfold locksKeep
  split
  · exact List.length_filter_le _ _
  · simp
theorem p_l12Keep (xs : List TLock) (a : Int) (b : Bool) (h : xs.length ≤ 1048576) : m_spec_l12Keep xs a b = some (xs.filter (fun l => decide (l.Tx = a) == b)) := by
  unfold m_spec_l12Keep
  rw [iter_filter xs (fun l => decide (l.Tx = a) == b) (fun ys => some ys) h (fun kb ys i hi hy => ?_) (fun kb ys => ?_)]
  · unfold spec_l12Keep_b6
    simp only [idx_nat hi, Option.bind_some, step1 i _ hi (by omega)]
    rw [if_pos (by omega)]
    by_cases c : (decide (xs[i].Tx = a) == b) = true
    · rw [if_pos c, if_pos c, if_pos (by simp; omega)]
    · rw [if_neg c, if_neg c]
  · unfold spec_l12Keep_b6 spec_l12Keep_j4
    rw [if_neg (by omega)]
theorem p_spec_LocksOf (xs : List TLock) (a : Int) (h : xs.length ≤ 1048576) : m_spec_LocksOf xs a = some (locksKeep xs a true) := by
  unfold m_spec_LocksOf locksKeep
  simp only [p_spec_LocksOk _ h, Option.bind_some, p_l12Keep _ _ _ h]
  cases locksGood xs <;> simp
theorem p_spec_LocksDrop (xs : List TLock) (a : Int) (h : xs.length ≤ 1048576) : m_spec_LocksDrop xs a = some (locksKeep xs a false) := by
  unfold m_spec_LocksDrop locksKeep
  simp only [p_spec_LocksOk _ h, Option.bind_some, p_l12Keep _ _ _ h]
  cases locksGood xs <;> simp
theorem p_impl_LocksOf (xs : List TLock) (a : Int) (h : xs.length ≤ 1048576) : m_impl_LocksOf xs a = some (locksKeep xs a true) := by
  unfold m_impl_LocksOf locksKeep
  simp only [p_impl_LocksOk _ h, Option.bind_some, p_Clone_Lock _ h, p_Del_Lock__LocksOf_1 xs a (fun l => decide (¬ l.Tx = a)) (fun v => by simp [m_impl_LocksOf_1]) h]
  cases locksGood xs <;> simp
theorem p_impl_LocksDrop (xs : List TLock) (a : Int) (h : xs.length ≤ 1048576) : m_impl_LocksDrop xs a = some (locksKeep xs a false) := by
  unfold m_impl_LocksDrop locksKeep
  simp only [p_impl_LocksOk _ h, Option.bind_some, p_Clone_Lock _ h, p_Del_Lock__LocksDrop_1 xs a (fun l => decide (l.Tx = a)) (fun v => by simp [m_impl_LocksDrop_1]) h]
  cases locksGood xs <;> simp

theorem p_szLockS (xs : List TLock) (h : xs.length ≤ maxLen) (z : Int) (h1 : 0 ≤ z) (h2 : z ≤ 1048576) : m_laws_szLockS xs z = some (if z < xs.length then -1 else z - xs.length) := by
  unfold m_laws_szLockS
  have : IntKind.wrap .i64 (z - (xs.length : Int)) = z - xs.length := by unfold maxLen at h; exact w64 (by omega) (by omega)
  rw [this]
  split <;> split <;> first | rfl | omega

theorem p_toLockS (xs : List TLock) (h : xs.length ≤ 1048576) : m_laws_toLockS xs = some xs := by
  unfold m_laws_toLockS
  rw [if_pos ⟨by omega, by omega⟩]
  simp only [Int.toNat_natCast]
  refine iter_copy xs _ laws_toLockS_j3 (by omega) (fun kb ys i hi hy => ?_) (fun kb ys => ?_)
  · unfold laws_toLockS_b5
    simp only [idx_nat hi, idx_nat (show i < ys.length by omega), m_laws_toLock, Option.bind_some, Int.toNat_natCast, step1 i _ hi (by omega)]
    rw [if_pos (by omega)]
  · unfold laws_toLockS_b5
    rw [if_neg (by omega)]

theorem p_eqLock (a b : TLock) : m_laws_eqLock a b = some (decide (a = b)) := by
  unfold m_laws_eqLock
  cases a; cases b
  simp only [TLock.mk.injEq]
  repeat' split
  all_goals simp_all

theorem p_eqLockS (xs ys : List TLock) (h : xs.length ≤ 1048576) : m_laws_eqLockS xs ys = some (decide (xs = ys)) := by
  unfold m_laws_eqLockS
  split
  · rename_i hl
    have : ¬ xs = ys := fun e => hl (by rw [e])
    simp [this]
  · rename_i hl
    have hl : xs.length = ys.length := by omega
    rw [iter_good (s0 := (0 : Int)) (fun i => (i : Int)) (fun i => decide (xs[i]? = ys[i]?)) (some false) (some true) xs.length (by omega) (fun kb i hi => ?_) (fun kb => ?_) rfl, all_range_eq hl]
    · by_cases e : xs = ys <;> simp [e]
    · unfold laws_eqLockS_b6
      simp only [idx_nat hi, idx_nat (show i < ys.length by omega), p_eqLock, Option.bind_some, step1 i _ hi (by omega)]
      rw [if_pos (by omega), List.getElem?_eq_getElem hi, List.getElem?_eq_getElem (show i < ys.length by omega)]
      simp
    · unfold laws_eqLockS_b6
      rw [if_neg (by omega)]
      rfl

def mk_Lock (k : Int) : TLock := ⟨k, k + 1, k + 2, k + 3⟩
def marks_Lock (k : Int) (n : Nat) : List TLock := (List.range n).map fun (i : Nat) => mk_Lock (k + 4 * (i : Int))
theorem marks_Lock_len (k : Int) (n : Nat) : (marks_Lock k n).length = n := by simp [marks_Lock]
theorem p_markLockS (xs : List TLock) (k : Int) (h : xs.length ≤ 1048576) (hk : 0 ≤ k) (hk' : k ≤ 1000000000000) : m_laws_markLockS xs k = some (k + 4 * (xs.length : Int), marks_Lock k xs.length) := by
  unfold m_laws_markLockS
  refine iter_all (fun i => (rowM (fun (i : Nat) => mk_Lock (k + 4 * (i : Int))) xs i, k + 4 * (i : Int), (i : Int))) _ xs.length (by omega) (fun kb i hi => ?_) (fun kb => ?_) (by simp [rowM_zero])
  · unfold laws_markLockS_b6
    have hl := rowM_len (fun (i : Nat) => mk_Lock (k + 4 * (i : Int))) (Nat.le_of_lt hi)
    have w1 : IntKind.wrap .i64 (k + 4 * (i : Int) + 1) = k + 4 * (i : Int) + 1 := w64 (by omega) (by omega)
    have w2 : IntKind.wrap .i64 (k + 4 * (i : Int) + 1 + 1) = k + 4 * (i : Int) + 2 := by rw [w64 (by omega) (by omega)]; omega
    have w3 : IntKind.wrap .i64 (k + 4 * (i : Int) + 2 + 1) = k + 4 * (i : Int) + 3 := by rw [w64 (by omega) (by omega)]; omega
    have w4 : IntKind.wrap .i64 (k + 4 * (i : Int) + 3 + 1) = k + 4 * (i : Int) + 4 := by rw [w64 (by omega) (by omega)]; omega
    have e : k + 4 * ((i + 1 : Nat) : Int) = k + 4 * (i : Int) + 4 := by omega
    have hs := rowM_set (fun (i : Nat) => mk_Lock (k + 4 * (i : Int))) hi
    have hx := rowM_idx (fun (i : Nat) => mk_Lock (k + 4 * (i : Int))) hi
    show _ = kb (rowM (fun (i : Nat) => mk_Lock (k + 4 * (i : Int))) xs (i + 1), k + 4 * ((i + 1 : Nat) : Int), ((i + 1 : Nat) : Int))
    rw [← hs, e]
    generalize rowM (fun (i : Nat) => mk_Lock (k + 4 * (i : Int))) xs i = row at hl hx
    have hii : i < row.length := by rw [hl]; exact hi
    simp only [hx, Option.bind_some, Int.toNat_natCast, idx_set_same hii, List.set_set, step1 i _ hi (by omega), w1, w2, w3, w4, hl, mk_Lock]
    rw [if_pos (by omega)]
  · unfold laws_markLockS_b6 laws_markLockS_j3
    have hl := rowM_len (fun (i : Nat) => mk_Lock (k + 4 * (i : Int))) (Nat.le_refl xs.length)
    rw [if_neg (by simp only [hl]; omega), if_pos hl, rowM_all]
    rfl
theorem p_heldLockS (n : Nat) (k : Int) (h : n ≤ 1048576) (hk : 0 ≤ k) (hk' : k ≤ 1000000000000) : m_laws_heldLockS (marks_Lock k n) k = some (k + 4 * (n : Int)) := by
  unfold m_laws_heldLockS
  refine iter_all (fun i => (k + 4 * (i : Int), (i : Int))) _ n (by omega) (fun kb i hi => ?_) (fun kb => ?_) (by simp)
  · unfold laws_heldLockS_b5
    have w1 : IntKind.wrap .i64 (k + 4 * (i : Int) + 1) = k + 4 * (i : Int) + 1 := w64 (by omega) (by omega)
    have w2 : IntKind.wrap .i64 (k + 4 * (i : Int) + 1 + 1) = k + 4 * (i : Int) + 2 := by rw [w64 (by omega) (by omega)]; omega
    have w3 : IntKind.wrap .i64 (k + 4 * (i : Int) + 2 + 1) = k + 4 * (i : Int) + 3 := by rw [w64 (by omega) (by omega)]; omega
    have w4 : IntKind.wrap .i64 (k + 4 * (i : Int) + 3 + 1) = k + 4 * (i : Int) + 4 := by rw [w64 (by omega) (by omega)]; omega
    have e : k + 4 * ((i + 1 : Nat) : Int) = k + 4 * (i : Int) + 4 := by omega
    have hx : idx (marks_Lock k n) (i : Int) = some (mk_Lock (k + 4 * (i : Int))) := idx_range _ hi
    simp only [hx, Option.bind_some, step1 i _ hi (by omega), w1, w2, w3, w4, mk_Lock, marks_Lock_len, not_true, if_false, e]
    rw [if_pos (by omega)]
  · unfold laws_heldLockS_b5 laws_heldLockS_j3
    rw [if_neg (by simp only [marks_Lock_len]; omega)]

theorem p_FnExactLocksOf (a1 : List TLock) (a2 : Int) (h : okS ok_TLock a1) (h2 : inK .i64 a2) : m_laws_FnExactLocksOf a1 a2 = some true := by
  unfold m_laws_FnExactLocksOf
  rw [p_szLockS a1 h.1 _ (by omega) (by omega)]
  simp only [Option.bind_some]
  split
  · rfl
  · rename_i h1
    have hl : a1.length ≤ 1048576 := by omega
    have e1 := p_spec_LocksOf a1 a2 hl
    have e2 := p_impl_LocksOf a1 a2 hl
    have hs := locksKeep_len a1 a2 true
    generalize locksKeep a1 a2 true = r at *
    have hr : r.length ≤ 1048576 := by omega
    have q1 : ¬ (1 + 4 * (a1.length : Int) < 0) := by omega
    have q2 : ¬ (1 + 4 * (r.length : Int) < 0) := by omega
    simp [q1, q2, p_toLockS _ hl, e1, e2, p_eqLockS _ _ hr, p_eqLockS _ _ hl, p_markLockS a1 1 hl (by omega) (by omega), p_markLockS r 1 hr (by omega) (by omega), marks_Lock_len, p_heldLockS r.length 1 hr (by omega) (by omega), laws_FnExactLocksOf_j25]

theorem p_FnExactLocksDrop (a1 : List TLock) (a2 : Int) (h : okS ok_TLock a1) (h2 : inK .i64 a2) : m_laws_FnExactLocksDrop a1 a2 = some true := by
  unfold m_laws_FnExactLocksDrop
  rw [p_szLockS a1 h.1 _ (by omega) (by omega)]
  simp only [Option.bind_some]
  split
  · rfl
  · rename_i h1
    have hl : a1.length ≤ 1048576 := by omega
    have e1 := p_spec_LocksDrop a1 a2 hl
    have e2 := p_impl_LocksDrop a1 a2 hl
    have hs := locksKeep_len a1 a2 false
    generalize locksKeep a1 a2 false = r at *
    have hr : r.length ≤ 1048576 := by omega
    have q1 : ¬ (1 + 4 * (a1.length : Int) < 0) := by omega
    have q2 : ¬ (1 + 4 * (r.length : Int) < 0) := by omega
    simp [q1, q2, p_toLockS _ hl, e1, e2, p_eqLockS _ _ hr, p_eqLockS _ _ hl, p_markLockS a1 1 hl (by omega) (by omega), p_markLockS r 1 hr (by omega) (by omega), marks_Lock_len, p_heldLockS r.length 1 hr (by omega) (by omega), laws_FnExactLocksDrop_j25]


end Go.AW
