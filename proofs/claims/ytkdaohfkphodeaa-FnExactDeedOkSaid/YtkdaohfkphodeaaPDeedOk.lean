/- Plain laws: what the plain functions answer. Conditions: each theorem's own. -/
import Derived.Test.YtkdaohfkphodeaaMDeedOk
set_option linter.unusedVariables false
set_option linter.unusedSimpArgs false
set_option maxRecDepth 100000
namespace Go.AW

theorem w64 {n : Int} (h1 : -9223372036854775808 ≤ n) (h2 : n < 9223372036854775808) : IntKind.wrap .i64 n = n := by
  rw [IntKind.wrap_i64]; omega

theorem inK64 {n : Int} (h : inK .i64 n) : -9223372036854775808 ≤ n ∧ n < 9223372036854775808 := by
  unfold inK IntKind.min IntKind.max at h
  simp only [IntKind.bits, IntKind.signed] at h
  simp at h
  omega

theorem idx_nat {α : Type} {xs : List α} {i : Nat} (h : i < xs.length) : idx xs (i : Int) = some xs[i] := by
  unfold idx
  rw [if_pos (by omega)]
  simp [h]

theorem idx_ofNat {α : Type} (xs : List α) (i : Nat) : idx xs (i : Int) = xs[i]? := by
  unfold idx
  rw [if_pos (by omega)]
  simp

/-- Rounds that go from one state to the next, or end the whole. -/
theorem iter_ex {S R : Type} {f : (S → Option R) → S → Option R} (st : Nat → S) (stop : Nat → Option (Option R)) (k : Option R) (n : Nat)
    (hs : ∀ kb i, i < n → (∀ j, j < i → stop j = none) → f kb (st i) = match stop i with | some r => r | none => kb (st (i + 1))) (he : ∀ kb, (∀ j, j < n → stop j = none) → f kb (st n) = k) :
    ∀ (m i : Nat), i ≤ n → (∀ j, j < i → stop j = none) → n - i < m → iter f m (st i) = match ((List.range n).drop i).findSome? stop with | some r => r | none => k
  | 0, i, _, _, h => by omega
  | m + 1, i, hi, hp, h => by
    unfold iter
    by_cases e : i = n
    · subst e
      rw [he _ hp]
      simp [List.drop_eq_nil_of_le]
    · have hlt : i < n := by omega
      rw [hs _ i hlt hp, List.drop_eq_getElem_cons (by simpa using hlt)]
      simp only [List.getElem_range, List.findSome?_cons]
      cases hq : stop i with
      | some r => rfl
      | none => exact iter_ex st stop k n hs he m (i + 1) (by omega) (fun j hj => by
          by_cases e' : j = i
          · subst e'; exact hq
          · exact hp j (by omega)) (by omega)

/-- A loop over 0 .. n-1 that may end early. -/
theorem iter_stopH {S R : Type} {f : (S → Option R) → S → Option R} (st : Nat → S) (stop : Nat → Option (Option R)) (k : Option R) (n : Nat) (hn : n ≤ 1152921504606846976)
    (hs : ∀ kb i, i < n → (∀ j, j < i → stop j = none) → f kb (st i) = match stop i with | some r => r | none => kb (st (i + 1))) (he : ∀ kb, (∀ j, j < n → stop j = none) → f kb (st n) = k) {s0 : S} (h0 : s0 = st 0) :
    iter f FU s0 = match (List.range n).findSome? stop with | some r => r | none => k := by
  subst h0
  have := iter_ex st stop k n hs he FU 0 (by omega) (fun j hj => by omega) (by unfold FU; omega)
  simpa using this

theorem iter_stop {S R : Type} {f : (S → Option R) → S → Option R} (st : Nat → S) (stop : Nat → Option (Option R)) (k : Option R) (n : Nat) (hn : n ≤ 1152921504606846976)
    (hs : ∀ kb i, i < n → f kb (st i) = match stop i with | some r => r | none => kb (st (i + 1))) (he : ∀ kb, f kb (st n) = k) {s0 : S} (h0 : s0 = st 0) :
    iter f FU s0 = match (List.range n).findSome? stop with | some r => r | none => k :=
  iter_stopH st stop k n hn (fun kb i hi _ => hs kb i hi) (fun kb _ => he kb) h0

/-- A loop over 0 .. n-1 that does not end early. -/
theorem iter_all {S R : Type} {f : (S → Option R) → S → Option R} (st : Nat → S) (k : Option R) (n : Nat) (hn : n ≤ 1152921504606846976)
    (hs : ∀ kb i, i < n → f kb (st i) = kb (st (i + 1))) (he : ∀ kb, f kb (st n) = k) {s0 : S} (h0 : s0 = st 0) : iter f FU s0 = k := by
  rw [iter_stop st (fun _ => none) k n hn (fun kb i hi => hs kb i hi) he h0]
  have : (List.range n).findSome? (fun _ => (none : Option (Option R))) = none := by
    rw [List.findSome?_eq_none_iff]; intro x _; rfl
  rw [this]

/-- A loop that ends with r at the first place that is not good. -/
theorem iter_goodH {S R : Type} {f : (S → Option R) → S → Option R} (st : Nat → S) (good : Nat → Bool) (r k : Option R) (n : Nat) (hn : n ≤ 1152921504606846976)
    (hs : ∀ kb i, i < n → (∀ j, j < i → good j = true) → f kb (st i) = if good i = true then kb (st (i + 1)) else r) (he : ∀ kb, (∀ j, j < n → good j = true) → f kb (st n) = k) {s0 : S} (h0 : s0 = st 0) :
    iter f FU s0 = if (List.range n).all good = true then k else r := by
  have tr : ∀ j, (if good j = true then (none : Option (Option R)) else some r) = none → good j = true := fun j h => by
    split at h
    · assumption
    · cases h
  rw [iter_stopH st (fun i => if good i = true then none else some r) k n hn (fun kb i hi hp => by rw [hs kb i hi (fun j hj => tr j (hp j hj))]; split <;> rfl) (fun kb hp => he kb (fun j hj => tr j (hp j hj))) h0]
  by_cases e : (List.range n).all good = true
  · have : (List.range n).findSome? (fun i => if good i = true then none else some r) = none := by
      rw [List.findSome?_eq_none_iff]
      intro x hx
      rw [List.all_eq_true] at e
      simp [e x hx]
    rw [this, if_pos e]
  · rw [if_neg e]
    cases h : (List.range n).findSome? (fun i => if good i = true then none else some r) with
    | none =>
      exfalso
      apply e
      rw [List.all_eq_true]
      intro x hx
      rw [List.findSome?_eq_none_iff] at h
      exact tr x (h x hx)
    | some q =>
      obtain ⟨x, hx, hq⟩ := List.exists_of_findSome?_eq_some h
      split at hq
      · cases hq
      · cases hq; rfl

theorem iter_good {S R : Type} {f : (S → Option R) → S → Option R} (st : Nat → S) (good : Nat → Bool) (r k : Option R) (n : Nat) (hn : n ≤ 1152921504606846976)
    (hs : ∀ kb i, i < n → f kb (st i) = if good i = true then kb (st (i + 1)) else r) (he : ∀ kb, f kb (st n) = k) {s0 : S} (h0 : s0 = st 0) :
    iter f FU s0 = if (List.range n).all good = true then k else r :=
  iter_goodH st good r k n hn (fun kb i hi _ => hs kb i hi) (fun kb _ => he kb) h0

/-- To copy a list into zeros, element by element. -/
theorem iter_copy {α R : Type} {f : (List α × Int → Option R) → List α × Int → Option R} (xs : List α) (z : α) (k : List α → Option R) (hn : xs.length ≤ 2147483648)
    (hs : ∀ kb (ys : List α) (i : Nat) (hi : i < xs.length), ys.length = xs.length → f kb (ys, (i : Int)) = kb (ys.set i xs[i], ((i + 1 : Nat) : Int)))
    (he : ∀ kb (ys : List α), f kb (ys, (xs.length : Int)) = k ys) : iter f FU (List.replicate xs.length z, 0) = k xs := by
  refine iter_all (fun i => (xs.take i ++ List.replicate (xs.length - i) z, (i : Int))) _ xs.length (by omega) (fun kb i hi => ?_) (fun kb => ?_) (by simp)
  · rw [hs kb _ i hi (by simp; omega)]
    congr 2
    have : xs.length - i = (xs.length - (i + 1)) + 1 := by omega
    have hk : min i xs.length = i := by omega
    show _ = (List.take (i + 1) xs ++ _)
    rw [this, List.replicate_succ, List.set_append_right _ _ (by simp; omega), show List.take (i + 1) xs = List.take i xs ++ [xs[i]] from List.take_succ_eq_append_getElem hi]
    simp only [List.length_take, hk, Nat.sub_self, List.set_cons_zero]
    rw [List.append_assoc]
    rfl
  · rw [he]
    simp

theorem all_range_eq {α : Type} [DecidableEq α] {xs ys : List α} (h : xs.length = ys.length) : (List.range xs.length).all (fun i => decide (xs[i]? = ys[i]?)) = decide (xs = ys) := by
  by_cases e : xs = ys
  · subst e; simp
  · rw [decide_eq_false e, List.all_eq_false]
    apply Classical.byContradiction
    intro hc
    apply e
    apply List.ext_getElem? 
    intro i
    by_cases hi : i < xs.length
    · apply Classical.byContradiction
      intro hne
      exact hc ⟨i, List.mem_range.2 hi, by simpa using hne⟩
    · rw [List.getElem?_eq_none (by omega), List.getElem?_eq_none (by omega)]

theorem step1 (i : Nat) (n : Nat) (h : i < n) (hn : n ≤ 1152921504606846976) : IntKind.wrap .i64 ((i : Int) + 1) = ((i + 1 : Nat) : Int) := by
  rw [w64 (by omega) (by omega)]; omega

/-- The first place where p holds, or -1. -/
def idxOf {α : Type} (p : α → Bool) (xs : List α) : Int := match xs.findIdx? p with
  | some k => (k : Int)
  | none => -1

theorem idxOf_nonneg {α : Type} (p : α → Bool) (xs : List α) : decide (0 ≤ idxOf p xs) = xs.any p := by
  unfold idxOf
  cases h : xs.findIdx? p with
  | none =>
    rw [List.findIdx?_eq_none_iff] at h
    have : xs.any p = false := by rw [List.any_eq_false]; intro x hx; simp [h x hx]
    simp [this]
  | some k =>
    rw [List.findIdx?_eq_some_iff_getElem] at h
    obtain ⟨hk, hp, _⟩ := h
    have : xs.any p = true := List.any_eq_true.2 ⟨xs[k], List.getElem_mem hk, hp⟩
    simp [this]

theorem iter_index {α : Type} (xs : List α) (p : α → Bool) {f : (Int → Option Int) → Int → Option Int} (hn : xs.length ≤ 1152921504606846976)
    (hs : ∀ kb (i : Nat) (hi : i < xs.length), f kb (i : Int) = if p xs[i] = true then some (i : Int) else kb ((i + 1 : Nat) : Int)) (he : ∀ kb, f kb (xs.length : Int) = some (-1)) : iter f FU 0 = some (idxOf p xs) := by
  rw [iter_stop (s0 := (0 : Int)) (fun i => (i : Int)) (fun i : Nat => (xs[i]?).bind fun x => if p x = true then some (some (i : Int)) else none) (some (-1)) xs.length hn (fun kb i hi => ?_) (fun kb => he kb) rfl]
  · have key : ∀ (ys : List α) (o : Nat), (List.range ys.length).findSome? (fun i : Nat => (ys[i]?).bind fun x => if p x = true then some (some ((o + i : Nat) : Int)) else none) = (ys.findIdx? p).map fun k => some ((o + k : Nat) : Int) := by
      intro ys
      induction ys with
      | nil => intro o; rfl
      | cons y ys ih =>
        intro o
        rw [List.length_cons, List.range_succ_eq_map, List.findSome?_cons, List.findSome?_map, List.findIdx?_cons]
        simp only [List.getElem?_cons_zero, Option.bind_some]
        by_cases e : p y = true
        · simp [e]
        · simp only [e, if_false, Function.comp_def, List.getElem?_cons_succ, Bool.false_eq_true]
          have := ih (o + 1)
          rw [show (fun i : Nat => (ys[i]?).bind fun x => if p x = true then some (some ((o + (i + 1) : Nat) : Int)) else none) = fun i : Nat => (ys[i]?).bind fun x => if p x = true then some (some ((o + 1 + i : Nat) : Int)) else none from by funext i; rw [show o + (i + 1) = o + 1 + i by omega]]
          rw [this]
          cases ys.findIdx? p <;> simp; omega
    have := key xs 0
    simp only [Nat.zero_add] at this
    rw [this]
    unfold idxOf
    cases xs.findIdx? p <;> rfl
  · rw [hs kb i hi, List.getElem?_eq_getElem hi]
    simp only [Option.bind_some]
    by_cases e : p xs[i] = true <;> simp [e]

theorem all_range {α : Type} (xs : List α) (p : α → Bool) : ((List.range xs.length).all fun i => ((xs[i]?).map p).getD true) = xs.all p := by
  rw [Bool.eq_iff_iff, List.all_eq_true, List.all_eq_true]
  constructor
  · intro H x hx
    obtain ⟨i, hi, rfl⟩ := List.mem_iff_getElem.1 hx
    have := H i (List.mem_range.2 hi)
    rw [List.getElem?_eq_getElem hi] at this
    exact this
  · intro H i hi
    have hi := List.mem_range.1 hi
    rw [List.getElem?_eq_getElem hi]
    exact H _ (List.getElem_mem hi)

/-- A loop that ends with r at the first element for which p holds, and with k if there is none. -/
theorem iter_any {α R : Type} (xs : List α) (p : α → Bool) (r k : Option R) {f : (Int → Option R) → Int → Option R} (hn : xs.length ≤ 1152921504606846976)
    (hs : ∀ kb (i : Nat) (hi : i < xs.length), f kb (i : Int) = if p xs[i] = true then r else kb ((i + 1 : Nat) : Int)) (he : ∀ kb, f kb (xs.length : Int) = k) : iter f FU 0 = if xs.any p = true then r else k := by
  rw [iter_good (s0 := (0 : Int)) (fun i => (i : Int)) (fun i => ((xs[i]?).map fun x => !p x).getD true) r k xs.length hn (fun kb i hi => ?_) (fun kb => he kb) rfl, all_range xs fun x => !p x]
  · cases h : xs.any p with
    | true =>
      have : (xs.all fun x => !p x) = false := by
        rw [List.all_eq_false]; obtain ⟨x, hx, hp⟩ := List.any_eq_true.1 h; exact ⟨x, hx, by simp [hp]⟩
      simp [this]
    | false =>
      have : (xs.all fun x => !p x) = true := by
        rw [List.all_eq_true]; intro x hx; rw [List.any_eq_false] at h; simp [h x hx]
      simp [this]
  · rw [hs kb i hi, List.getElem?_eq_getElem hi]
    cases h : p xs[i] <;> simp [h]

/-- A loop over all elements that ends with r at the first for which p does not hold. -/
theorem iter_every {α R : Type} (xs : List α) (p : α → Bool) (r k : Option R) {f : (Int → Option R) → Int → Option R} (hn : xs.length ≤ 1152921504606846976)
    (hs : ∀ kb (i : Nat) (hi : i < xs.length), f kb (i : Int) = if p xs[i] = true then kb ((i + 1 : Nat) : Int) else r) (he : ∀ kb, f kb (xs.length : Int) = k) : iter f FU 0 = if xs.all p = true then k else r := by
  rw [iter_good (s0 := (0 : Int)) (fun i => (i : Int)) (fun i => ((xs[i]?).map p).getD true) r k xs.length hn (fun kb i hi => ?_) (fun kb => he kb) rfl, all_range xs p]
  rw [hs kb i hi, List.getElem?_eq_getElem hi]
  rfl

/-- The sum of the elements' numbers. -/
def sumB {α : Type} (f : α → Nat) : List α → Nat
  | [] => 0
  | x :: xs => f x + sumB f xs
theorem sumB_append {α : Type} (f : α → Nat) : ∀ (xs ys : List α), sumB f (xs ++ ys) = sumB f xs + sumB f ys
  | [], ys => by simp [sumB]
  | x :: xs, ys => by simp [sumB, sumB_append f xs ys]; omega
theorem sumB_step {α : Type} (f : α → Nat) {xs : List α} {i : Nat} (hi : i < xs.length) : sumB f (xs.take (i + 1)) = sumB f (xs.take i) + f xs[i] := by
  rw [List.take_succ_eq_append_getElem hi, sumB_append]
  simp [sumB]
theorem sumB_take {α : Type} (f : α → Nat) (xs : List α) (i : Nat) : sumB f (xs.take i) ≤ sumB f xs := by
  have := sumB_append f (xs.take i) (xs.drop i)
  rw [List.take_append_drop] at this
  omega
theorem sumB_mem {α : Type} (f : α → Nat) {xs : List α} {i : Nat} (hi : i < xs.length) : f xs[i] ≤ sumB f xs := by
  have h1 := sumB_step f hi
  have h2 := sumB_take f xs (i + 1)
  omega

def within (z lo hi : Int) : Bool := decide (lo ≤ z) && decide (z ≤ hi)

theorem p_l1In (z lo hi : Int) : m_spec_l1In z lo hi = some (within z lo hi) := by
  unfold m_spec_l1In within; by_cases h : lo ≤ z <;> simp [h]
theorem p_from (z lo hi : Int) : m_impl_from z lo hi = some (within z lo hi) := by
  unfold m_impl_from within; by_cases h : lo ≤ z <;> simp [h]
theorem p_l10Key (z : Int) : m_spec_l10Key z = some (within z 0 999) := by simp [m_spec_l10Key, p_l1In]
theorem p_isKey (z : Int) : m_impl_isKey z = some (within z 0 999) := by simp [m_impl_isKey, p_from]
theorem p_l12Tx (z : Int) : m_spec_l12Tx z = some (within z 1 60) := by simp [m_spec_l12Tx, p_l1In]
theorem p_isTx (z : Int) : m_impl_isTx z = some (within z 1 60) := by simp [m_impl_isTx, p_from]

def rangeOk (a : TRange) : Bool := decide (0 ≤ a.Lo) && decide (a.Lo < a.Hi) && decide (a.Hi ≤ 1000)
theorem p_spec_RangeOk (a : TRange) : m_spec_RangeOk a = some (rangeOk a) := by
  unfold m_spec_RangeOk rangeOk; by_cases h : 0 ≤ a.Lo <;> by_cases h' : a.Lo < a.Hi <;> simp [h, h']
theorem p_impl_RangeOk (a : TRange) : m_impl_RangeOk a = some (rangeOk a) := by
  unfold m_impl_RangeOk rangeOk; by_cases h : 0 ≤ a.Lo <;> by_cases h' : a.Lo < a.Hi <;> simp [h, h']

def modeOk (m : Int) : Bool := decide (m = 1) || decide (m = 2)
def meetsB (a b : TRange) : Bool := decide (a.Lo < b.Hi) && decide (b.Lo < a.Hi)
theorem meet_ok {a b : TRange} (ha : rangeOk a = true) (hb : rangeOk b = true) : rangeOk ⟨max a.Lo b.Lo, min a.Hi b.Hi⟩ = meetsB a b := by
  unfold rangeOk at *
  unfold meetsB
  simp only [Bool.and_eq_true, decide_eq_true_eq] at ha hb
  rw [Bool.eq_iff_iff]
  simp only [Bool.and_eq_true, decide_eq_true_eq]
  omega

def optAll {α : Type} (f : α → Bool) : Option α → Bool
  | some b => f b
  | none => true

theorem all_take {α : Type} (xs : List α) (f : α → Bool) (n : Nat) (h : n ≤ xs.length) : (xs.take n).all f = (List.range n).all fun k => optAll f xs[k]? := by
  rw [Bool.eq_iff_iff, List.all_eq_true, List.all_eq_true]
  constructor
  · intro H k hk
    have hk := List.mem_range.1 hk
    have : k < xs.length := by omega
    rw [List.getElem?_eq_getElem this]
    show f _ = true
    exact H _ (by rw [List.mem_take_iff_getElem]; exact ⟨k, by omega, rfl⟩)
  · intro H x hx
    rw [List.mem_take_iff_getElem] at hx
    obtain ⟨k, hk, rfl⟩ := hx
    have := H k (List.mem_range.2 (by omega))
    rw [List.getElem?_eq_getElem (by omega)] at this
    exact this

theorem p_isAnswer (z : Int) : m_impl_isAnswer z = some (within z (-1) 1000000000) := by simp [m_impl_isAnswer, p_from]

theorem p_l16RangeOk (lo hi : Int) : m_spec_l16RangeOk lo hi = some (rangeOk ⟨lo, hi⟩) := by
  unfold m_spec_l16RangeOk; simp [p_spec_RangeOk, rangeOk]
theorem p_l15Group (z : Int) : m_spec_l15Group z = some (within z 0 3) := by simp [m_spec_l15Group, p_l1In]
theorem p_isGroup (z : Int) : m_impl_isGroup z = some (within z 0 3) := by simp [m_impl_isGroup, p_from]

theorem itb (w b : Bool) : (if w = true then some b else some false) = some (w && b) := by cases w <;> rfl
theorem p_DeedOk (a : TDeed) : ∃ r, m_spec_DeedOk a = some r ∧ m_impl_DeedOk a = some r := by
  unfold m_spec_DeedOk m_impl_DeedOk
  simp only [spec_DeedOk_j6, spec_DeedOk_j23, spec_DeedOk_j32, impl_DeedOk_j5, impl_DeedOk_j11, impl_DeedOk_j19, impl_DeedOk_j29, impl_DeedOk_j35, impl_DeedOk_j42, impl_DeedOk_j51, impl_DeedOk_j2,
    p_l1In, p_from, p_l10Key, p_isKey, p_l12Tx, p_isTx, p_l16RangeOk, p_impl_RangeOk, p_l15Group, p_isGroup, p_isAnswer, Option.bind_some]
  generalize within a.At 0 5 = w1
  generalize within a.At 0 59 = w2
  generalize within a.At 1 60 = w3
  generalize within a.To 0 59 = w4
  generalize within a.To 0 3 = w5
  generalize within a.Key 0 999 = w6
  generalize within a.Value (-1) 1000000000 = w7
  generalize rangeOk ⟨a.Lo, a.Hi⟩ = w8
  by_cases hk : a.Kind = 1 ∨ a.Kind = 2 ∨ a.Kind = 3 ∨ a.Kind = 4 ∨ a.Kind = 5 ∨ a.Kind = 6 ∨ a.Kind = 7 ∨ a.Kind = 8 ∨ a.Kind = 9 ∨ a.Kind = 10 ∨ a.Kind = 11 ∨ a.Kind = 12 ∨ a.Kind = 13 ∨ a.Kind = 14 ∨ a.Kind = 15
  · rcases hk with h | h | h | h | h | h | h | h | h | h | h | h | h | h | h <;> simp [h, itb]
  · simp only [not_or] at hk
    simp [hk]

theorem p_FnExactDeedOk (a : TDeed) (h : ok_TDeed a) : m_laws_FnExactDeedOk a = some true := by
  unfold m_laws_FnExactDeedOk
  obtain ⟨r, e1, e2⟩ := p_DeedOk a
  simp [m_laws_toDeed, e1, e2]

end Go.AW
