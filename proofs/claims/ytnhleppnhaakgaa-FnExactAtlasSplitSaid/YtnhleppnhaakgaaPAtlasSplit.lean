/- Plain laws: what the plain functions answer. Conditions: each theorem's own. -/
import Derived.Test.YtnhleppnhaakgaaMAtlasSplit
set_option linter.unusedVariables false
set_option linter.unusedSimpArgs false
set_option maxRecDepth 100000
namespace Go.AW

theorem w64 {n : Int} (h1 : -9223372036854775808 ≤ n) (h2 : n < 9223372036854775808) : IntKind.wrap .i64 n = n := by
  rw [IntKind.wrap_i64]; omega

theorem inK64 {n : Int} (h : inK .i64 n) : -9223372036854775808 ≤ n ∧ n < 9223372036854775808 := by
  unfold inK IntKind.min IntKind.max at h
  simp only [IntKind.bits, IntKind.signed] at h
  simp at h
  omega

theorem idx_nat {α : Type} {xs : List α} {i : Nat} (h : i < xs.length) : idx xs (i : Int) = some xs[i] := by
  unfold idx
  rw [if_pos (by omega)]
  simp [h]

theorem idx_ofNat {α : Type} (xs : List α) (i : Nat) : idx xs (i : Int) = xs[i]? := by
  unfold idx
  rw [if_pos (by omega)]
  simp

/-- Rounds that go from one state to the next, or end the whole. -/
theorem iter_ex {S R : Type} {f : (S → Option R) → S → Option R} (st : Nat → S) (stop : Nat → Option (Option R)) (k : Option R) (n : Nat)
    (hs : ∀ kb i, i < n → (∀ j, j < i → stop j = none) → f kb (st i) = match stop i with | some r => r | none => kb (st (i + 1))) (he : ∀ kb, (∀ j, j < n → stop j = none) → f kb (st n) = k) :
    ∀ (m i : Nat), i ≤ n → (∀ j, j < i → stop j = none) → n - i < m → iter f m (st i) = match ((List.range n).drop i).findSome? stop with | some r => r | none => k
  | 0, i, _, _, h => by omega
  | m + 1, i, hi, hp, h => by
    unfold iter
    by_cases e : i = n
    · subst e
      rw [he _ hp]
      simp [List.drop_eq_nil_of_le]
    · have hlt : i < n := by omega
      rw [hs _ i hlt hp, List.drop_eq_getElem_cons (by simpa using hlt)]
      simp only [List.getElem_range, List.findSome?_cons]
      cases hq : stop i with
      | some r => rfl
      | none => exact iter_ex st stop k n hs he m (i + 1) (by omega) (fun j hj => by
          by_cases e' : j = i
          · subst e'; exact hq
          · exact hp j (by omega)) (by omega)

/-- A loop over 0 .. n-1 that may end early. -/
theorem iter_stopH {S R : Type} {f : (S → Option R) → S → Option R} (st : Nat → S) (stop : Nat → Option (Option R)) (k : Option R) (n : Nat) (hn : n ≤ 1152921504606846976)
    (hs : ∀ kb i, i < n → (∀ j, j < i → stop j = none) → f kb (st i) = match stop i with | some r => r | none => kb (st (i + 1))) (he : ∀ kb, (∀ j, j < n → stop j = none) → f kb (st n) = k) {s0 : S} (h0 : s0 = st 0) :
    iter f FU s0 = match (List.range n).findSome? stop with | some r => r | none => k := by
  subst h0
  have := iter_ex st stop k n hs he FU 0 (by omega) (fun j hj => by omega) (by unfold FU; omega)
  simpa using this

theorem iter_stop {S R : Type} {f : (S → Option R) → S → Option R} (st : Nat → S) (stop : Nat → Option (Option R)) (k : Option R) (n : Nat) (hn : n ≤ 1152921504606846976)
    (hs : ∀ kb i, i < n → f kb (st i) = match stop i with | some r => r | none => kb (st (i + 1))) (he : ∀ kb, f kb (st n) = k) {s0 : S} (h0 : s0 = st 0) :
    iter f FU s0 = match (List.range n).findSome? stop with | some r => r | none => k :=
  iter_stopH st stop k n hn (fun kb i hi _ => hs kb i hi) (fun kb _ => he kb) h0

/-- A loop over 0 .. n-1 that does not end early. -/
theorem iter_all {S R : Type} {f : (S → Option R) → S → Option R} (st : Nat → S) (k : Option R) (n : Nat) (hn : n ≤ 1152921504606846976)
    (hs : ∀ kb i, i < n → f kb (st i) = kb (st (i + 1))) (he : ∀ kb, f kb (st n) = k) {s0 : S} (h0 : s0 = st 0) : iter f FU s0 = k := by
  rw [iter_stop st (fun _ => none) k n hn (fun kb i hi => hs kb i hi) he h0]
  have : (List.range n).findSome? (fun _ => (none : Option (Option R))) = none := by
    rw [List.findSome?_eq_none_iff]; intro x _; rfl
  rw [this]

/-- A loop that ends with r at the first place that is not good. -/
theorem iter_goodH {S R : Type} {f : (S → Option R) → S → Option R} (st : Nat → S) (good : Nat → Bool) (r k : Option R) (n : Nat) (hn : n ≤ 1152921504606846976)
    (hs : ∀ kb i, i < n → (∀ j, j < i → good j = true) → f kb (st i) = if good i = true then kb (st (i + 1)) else r) (he : ∀ kb, (∀ j, j < n → good j = true) → f kb (st n) = k) {s0 : S} (h0 : s0 = st 0) :
    iter f FU s0 = if (List.range n).all good = true then k else r := by
  have tr : ∀ j, (if good j = true then (none : Option (Option R)) else some r) = none → good j = true := fun j h => by
    split at h
    · assumption
    · cases h
  rw [iter_stopH st (fun i => if good i = true then none else some r) k n hn (fun kb i hi hp => by rw [hs kb i hi (fun j hj => tr j (hp j hj))]; split <;> rfl) (fun kb hp => he kb (fun j hj => tr j (hp j hj))) h0]
  by_cases e : (List.range n).all good = true
  · have : (List.range n).findSome? (fun i => if good i = true then none else some r) = none := by
      rw [List.findSome?_eq_none_iff]
      intro x hx
      rw [List.all_eq_true] at e
      simp [e x hx]
    rw [this, if_pos e]
  · rw [if_neg e]
    cases h : (List.range n).findSome? (fun i => if good i = true then none else some r) with
    | none =>
      exfalso
      apply e
      rw [List.all_eq_true]
      intro x hx
      rw [List.findSome?_eq_none_iff] at h
      exact tr x (h x hx)
    | some q =>
      obtain ⟨x, hx, hq⟩ := List.exists_of_findSome?_eq_some h
      split at hq
      · cases hq
      · cases hq; rfl

theorem iter_good {S R : Type} {f : (S → Option R) → S → Option R} (st : Nat → S) (good : Nat → Bool) (r k : Option R) (n : Nat) (hn : n ≤ 1152921504606846976)
    (hs : ∀ kb i, i < n → f kb (st i) = if good i = true then kb (st (i + 1)) else r) (he : ∀ kb, f kb (st n) = k) {s0 : S} (h0 : s0 = st 0) :
    iter f FU s0 = if (List.range n).all good = true then k else r :=
  iter_goodH st good r k n hn (fun kb i hi _ => hs kb i hi) (fun kb _ => he kb) h0

/-- To copy a list into zeros, element by element. -/
theorem iter_copy {α R : Type} {f : (List α × Int → Option R) → List α × Int → Option R} (xs : List α) (z : α) (k : List α → Option R) (hn : xs.length ≤ 2147483648)
    (hs : ∀ kb (ys : List α) (i : Nat) (hi : i < xs.length), ys.length = xs.length → f kb (ys, (i : Int)) = kb (ys.set i xs[i], ((i + 1 : Nat) : Int)))
    (he : ∀ kb (ys : List α), f kb (ys, (xs.length : Int)) = k ys) : iter f FU (List.replicate xs.length z, 0) = k xs := by
  refine iter_all (fun i => (xs.take i ++ List.replicate (xs.length - i) z, (i : Int))) _ xs.length (by omega) (fun kb i hi => ?_) (fun kb => ?_) (by simp)
  · rw [hs kb _ i hi (by simp; omega)]
    congr 2
    have : xs.length - i = (xs.length - (i + 1)) + 1 := by omega
    have hk : min i xs.length = i := by omega
    show _ = (List.take (i + 1) xs ++ _)
    rw [this, List.replicate_succ, List.set_append_right _ _ (by simp; omega), show List.take (i + 1) xs = List.take i xs ++ [xs[i]] from List.take_succ_eq_append_getElem hi]
    simp only [List.length_take, hk, Nat.sub_self, List.set_cons_zero]
    rw [List.append_assoc]
    rfl
  · rw [he]
    simp

theorem all_range_eq {α : Type} [DecidableEq α] {xs ys : List α} (h : xs.length = ys.length) : (List.range xs.length).all (fun i => decide (xs[i]? = ys[i]?)) = decide (xs = ys) := by
  by_cases e : xs = ys
  · subst e; simp
  · rw [decide_eq_false e, List.all_eq_false]
    apply Classical.byContradiction
    intro hc
    apply e
    apply List.ext_getElem? 
    intro i
    by_cases hi : i < xs.length
    · apply Classical.byContradiction
      intro hne
      exact hc ⟨i, List.mem_range.2 hi, by simpa using hne⟩
    · rw [List.getElem?_eq_none (by omega), List.getElem?_eq_none (by omega)]

theorem step1 (i : Nat) (n : Nat) (h : i < n) (hn : n ≤ 1152921504606846976) : IntKind.wrap .i64 ((i : Int) + 1) = ((i + 1 : Nat) : Int) := by
  rw [w64 (by omega) (by omega)]; omega

/-- The first place where p holds, or -1. -/
def idxOf {α : Type} (p : α → Bool) (xs : List α) : Int := match xs.findIdx? p with
  | some k => (k : Int)
  | none => -1

theorem idxOf_nonneg {α : Type} (p : α → Bool) (xs : List α) : decide (0 ≤ idxOf p xs) = xs.any p := by
  unfold idxOf
  cases h : xs.findIdx? p with
  | none =>
    rw [List.findIdx?_eq_none_iff] at h
    have : xs.any p = false := by rw [List.any_eq_false]; intro x hx; simp [h x hx]
    simp [this]
  | some k =>
    rw [List.findIdx?_eq_some_iff_getElem] at h
    obtain ⟨hk, hp, _⟩ := h
    have : xs.any p = true := List.any_eq_true.2 ⟨xs[k], List.getElem_mem hk, hp⟩
    simp [this]

theorem iter_index {α : Type} (xs : List α) (p : α → Bool) {f : (Int → Option Int) → Int → Option Int} (hn : xs.length ≤ 1152921504606846976)
    (hs : ∀ kb (i : Nat) (hi : i < xs.length), f kb (i : Int) = if p xs[i] = true then some (i : Int) else kb ((i + 1 : Nat) : Int)) (he : ∀ kb, f kb (xs.length : Int) = some (-1)) : iter f FU 0 = some (idxOf p xs) := by
  rw [iter_stop (s0 := (0 : Int)) (fun i => (i : Int)) (fun i : Nat => (xs[i]?).bind fun x => if p x = true then some (some (i : Int)) else none) (some (-1)) xs.length hn (fun kb i hi => ?_) (fun kb => he kb) rfl]
  · have key : ∀ (ys : List α) (o : Nat), (List.range ys.length).findSome? (fun i : Nat => (ys[i]?).bind fun x => if p x = true then some (some ((o + i : Nat) : Int)) else none) = (ys.findIdx? p).map fun k => some ((o + k : Nat) : Int) := by
      intro ys
      induction ys with
      | nil => intro o; rfl
      | cons y ys ih =>
        intro o
        rw [List.length_cons, List.range_succ_eq_map, List.findSome?_cons, List.findSome?_map, List.findIdx?_cons]
        simp only [List.getElem?_cons_zero, Option.bind_some]
        by_cases e : p y = true
        · simp [e]
        · simp only [e, if_false, Function.comp_def, List.getElem?_cons_succ, Bool.false_eq_true]
          have := ih (o + 1)
          rw [show (fun i : Nat => (ys[i]?).bind fun x => if p x = true then some (some ((o + (i + 1) : Nat) : Int)) else none) = fun i : Nat => (ys[i]?).bind fun x => if p x = true then some (some ((o + 1 + i : Nat) : Int)) else none from by funext i; rw [show o + (i + 1) = o + 1 + i by omega]]
          rw [this]
          cases ys.findIdx? p <;> simp; omega
    have := key xs 0
    simp only [Nat.zero_add] at this
    rw [this]
    unfold idxOf
    cases xs.findIdx? p <;> rfl
  · rw [hs kb i hi, List.getElem?_eq_getElem hi]
    simp only [Option.bind_some]
    by_cases e : p xs[i] = true <;> simp [e]

theorem all_range {α : Type} (xs : List α) (p : α → Bool) : ((List.range xs.length).all fun i => ((xs[i]?).map p).getD true) = xs.all p := by
  rw [Bool.eq_iff_iff, List.all_eq_true, List.all_eq_true]
  constructor
  · intro H x hx
    obtain ⟨i, hi, rfl⟩ := List.mem_iff_getElem.1 hx
    have := H i (List.mem_range.2 hi)
    rw [List.getElem?_eq_getElem hi] at this
    exact this
  · intro H i hi
    have hi := List.mem_range.1 hi
    rw [List.getElem?_eq_getElem hi]
    exact H _ (List.getElem_mem hi)

/-- A loop that ends with r at the first element for which p holds, and with k if there is none. -/
theorem iter_any {α R : Type} (xs : List α) (p : α → Bool) (r k : Option R) {f : (Int → Option R) → Int → Option R} (hn : xs.length ≤ 1152921504606846976)
    (hs : ∀ kb (i : Nat) (hi : i < xs.length), f kb (i : Int) = if p xs[i] = true then r else kb ((i + 1 : Nat) : Int)) (he : ∀ kb, f kb (xs.length : Int) = k) : iter f FU 0 = if xs.any p = true then r else k := by
  rw [iter_good (s0 := (0 : Int)) (fun i => (i : Int)) (fun i => ((xs[i]?).map fun x => !p x).getD true) r k xs.length hn (fun kb i hi => ?_) (fun kb => he kb) rfl, all_range xs fun x => !p x]
  · cases h : xs.any p with
    | true =>
      have : (xs.all fun x => !p x) = false := by
        rw [List.all_eq_false]; obtain ⟨x, hx, hp⟩ := List.any_eq_true.1 h; exact ⟨x, hx, by simp [hp]⟩
      simp [this]
    | false =>
      have : (xs.all fun x => !p x) = true := by
        rw [List.all_eq_true]; intro x hx; rw [List.any_eq_false] at h; simp [h x hx]
      simp [this]
  · rw [hs kb i hi, List.getElem?_eq_getElem hi]
    cases h : p xs[i] <;> simp [h]

/-- A loop over all elements that ends with r at the first for which p does not hold. -/
theorem iter_every {α R : Type} (xs : List α) (p : α → Bool) (r k : Option R) {f : (Int → Option R) → Int → Option R} (hn : xs.length ≤ 1152921504606846976)
    (hs : ∀ kb (i : Nat) (hi : i < xs.length), f kb (i : Int) = if p xs[i] = true then kb ((i + 1 : Nat) : Int) else r) (he : ∀ kb, f kb (xs.length : Int) = k) : iter f FU 0 = if xs.all p = true then k else r := by
  rw [iter_good (s0 := (0 : Int)) (fun i => (i : Int)) (fun i => ((xs[i]?).map p).getD true) r k xs.length hn (fun kb i hi => ?_) (fun kb => he kb) rfl, all_range xs p]
  rw [hs kb i hi, List.getElem?_eq_getElem hi]
  rfl

/-- The sum of the elements' numbers. -/
def sumB {α : Type} (f : α → Nat) : List α → Nat
  | [] => 0
  | x :: xs => f x + sumB f xs
theorem sumB_append {α : Type} (f : α → Nat) : ∀ (xs ys : List α), sumB f (xs ++ ys) = sumB f xs + sumB f ys
  | [], ys => by simp [sumB]
  | x :: xs, ys => by simp [sumB, sumB_append f xs ys]; omega
theorem sumB_step {α : Type} (f : α → Nat) {xs : List α} {i : Nat} (hi : i < xs.length) : sumB f (xs.take (i + 1)) = sumB f (xs.take i) + f xs[i] := by
  rw [List.take_succ_eq_append_getElem hi, sumB_append]
  simp [sumB]
theorem sumB_take {α : Type} (f : α → Nat) (xs : List α) (i : Nat) : sumB f (xs.take i) ≤ sumB f xs := by
  have := sumB_append f (xs.take i) (xs.drop i)
  rw [List.take_append_drop] at this
  omega
theorem sumB_mem {α : Type} (f : α → Nat) {xs : List α} {i : Nat} (hi : i < xs.length) : f xs[i] ≤ sumB f xs := by
  have h1 := sumB_step f hi
  have h2 := sumB_take f xs (i + 1)
  omega
theorem cut_take {α : Type} {xs : List α} {i : Nat} (h : i ≤ xs.length) : cut xs 0 (i : Int) = some (xs.take i) := by
  unfold cut
  rw [if_pos ⟨by omega, by omega, by omega⟩]
  simp
theorem cnt_step {α : Type} (p : α → Bool) {xs : List α} {i : Nat} (hi : i < xs.length) : (xs.take (i + 1)).countP p = (xs.take i).countP p + if p xs[i] = true then 1 else 0 := by
  rw [List.take_succ_eq_append_getElem hi, List.countP_append]
  simp [List.countP_cons]
theorem cnt_le {α : Type} (p : α → Bool) (xs : List α) (i : Nat) : (xs.take i).countP p ≤ xs.length := by
  have h1 := List.countP_le_length (p := p) (l := xs.take i)
  have h2 : (xs.take i).length ≤ xs.length := by simp; omega
  omega

def within (z lo hi : Int) : Bool := decide (lo ≤ z) && decide (z ≤ hi)

theorem p_l1In (z lo hi : Int) : m_spec_l1In z lo hi = some (within z lo hi) := by
  unfold m_spec_l1In within; by_cases h : lo ≤ z <;> simp [h]
theorem p_from (z lo hi : Int) : m_impl_from z lo hi = some (within z lo hi) := by
  unfold m_impl_from within; by_cases h : lo ≤ z <;> simp [h]
theorem p_l10Key (z : Int) : m_spec_l10Key z = some (within z 0 999) := by simp [m_spec_l10Key, p_l1In]
theorem p_isKey (z : Int) : m_impl_isKey z = some (within z 0 999) := by simp [m_impl_isKey, p_from]
theorem p_l1Whole (z : Int) : m_spec_l1Whole z = some (within z 0 1000000000) := by simp [m_spec_l1Whole, p_l1In]
theorem p_isWhole (z : Int) : m_impl_isWhole z = some (within z 0 1000000000) := by simp [m_impl_isWhole, p_from]

def rangeOk (a : TRange) : Bool := decide (0 ≤ a.Lo) && decide (a.Lo < a.Hi) && decide (a.Hi ≤ 1000)
theorem p_spec_RangeOk (a : TRange) : m_spec_RangeOk a = some (rangeOk a) := by
  unfold m_spec_RangeOk rangeOk; by_cases h : 0 ≤ a.Lo <;> by_cases h' : a.Lo < a.Hi <;> simp [h, h']
theorem p_impl_RangeOk (a : TRange) : m_impl_RangeOk a = some (rangeOk a) := by
  unfold m_impl_RangeOk rangeOk; by_cases h : 0 ≤ a.Lo <;> by_cases h' : a.Lo < a.Hi <;> simp [h, h']
theorem p_l15Group (z : Int) : m_spec_l15Group z = some (within z 0 3) := by simp [m_spec_l15Group, p_l1In]
theorem p_isGroup (z : Int) : m_impl_isGroup z = some (within z 0 3) := by simp [m_impl_isGroup, p_from]

/-- Where the next part has to begin. -/
def hiAt (xs : List TPart) : Nat → Int
  | 0 => 0
  | i + 1 => match xs[i]? with
    | some p => p.Hi
    | none => 0
theorem hiAt_succ {xs : List TPart} {i : Nat} (h : i < xs.length) : hiAt xs (i + 1) = xs[i].Hi := by
  simp only [hiAt, List.getElem?_eq_getElem h]
def partGood (xs : List TPart) (i : Nat) : Bool := match xs[i]? with
  | some p => decide (p.Lo = hiAt xs i) && decide (p.Lo < p.Hi) && within p.Owner 0 3
  | none => true
def partsGood (xs : List TPart) : Bool := within xs.length 1 16 && decide (hiAt xs xs.length = 1000) && (List.range xs.length).all (partGood xs)

theorem p_impl_PartsOk (xs : List TPart) (h : xs.length ≤ 1048576) : m_impl_PartsOk xs = some (partsGood xs) := by
  unfold m_impl_PartsOk
  rw [iter_good (s0 := ((0 : Int), (0 : Int))) (fun i => (hiAt xs i, (i : Int))) (partGood xs) (some false) (some (within xs.length 1 16 && decide (hiAt xs xs.length = 1000))) xs.length (by omega) (fun kb i hi => ?_) (fun kb => ?_) rfl]
  · unfold partsGood
    split <;> simp_all
  · unfold impl_PartsOk_b7 impl_PartsOk_j12 partGood
    simp only [idx_nat hi, p_isGroup, Option.bind_some, step1 i _ hi (by omega), List.getElem?_eq_getElem hi, hiAt_succ hi]
    rw [if_pos (by omega)]
    by_cases h1 : xs[i].Lo = hiAt xs i <;> simp [h1]
    by_cases h2 : hiAt xs i < xs[i].Hi
    · rw [if_neg (by omega)]
      cases within xs[i].Owner 0 3 <;> simp [h2]
    · rw [if_pos (by omega)]
      simp [h2]
  · unfold impl_PartsOk_b7 impl_PartsOk_j2
    rw [if_neg (by omega)]
    simp only [p_from, Option.bind_some]
    cases within (xs.length : Int) 1 16 <;> simp

/-- The parts follow each other: all ends lie between. -/
theorem parts_mono {xs : List TPart} (H : ∀ i, i < xs.length → partGood xs i = true) : ∀ i j, i ≤ j → j ≤ xs.length → hiAt xs i ≤ hiAt xs j
  | i, 0, h1, h2 => by have : i = 0 := by omega
                       subst this; omega
  | i, j + 1, h1, h2 => by
    by_cases e : i = j + 1
    · subst e; omega
    · have h3 := parts_mono H i j (by omega) (by omega)
      have h4 := H j (by omega)
      unfold partGood at h4
      simp only [List.getElem?_eq_getElem (show j < xs.length by omega), Bool.and_eq_true, decide_eq_true_eq] at h4
      rw [hiAt_succ (show j < xs.length by omega)]
      omega

def partGood' (xs : List TPart) (i : Nat) : Bool := match xs[i]? with
  | some p => decide (p.Lo < p.Hi) && decide (0 ≤ p.Lo) && decide (p.Hi ≤ 1000) && within p.Owner 0 3 && (i == 0 || decide (hiAt xs i = p.Lo))
  | none => true

theorem partsGood_at {xs : List TPart} (H : partsGood xs = true) {i : Nat} (hi : i < xs.length) : 0 ≤ xs[i].Lo ∧ xs[i].Lo < xs[i].Hi ∧ xs[i].Hi ≤ 1000 ∧ within xs[i].Owner 0 3 = true ∧ xs[i].Lo = hiAt xs i := by
  unfold partsGood at H
  simp only [Bool.and_eq_true, decide_eq_true_eq, List.all_eq_true, List.mem_range] at H
  obtain ⟨⟨H1, H2⟩, H3⟩ := H
  have m1 := parts_mono H3 0 i (by omega) (by omega)
  have m2 := parts_mono H3 (i + 1) xs.length (by omega) (by omega)
  have h := H3 i hi
  unfold partGood at h
  simp only [List.getElem?_eq_getElem hi, Bool.and_eq_true, decide_eq_true_eq] at h
  rw [hiAt_succ hi] at m2
  rw [show hiAt xs 0 = 0 from rfl] at m1
  exact ⟨by omega, h.1.2, by omega, h.2, h.1.1⟩

theorem parts_same (xs : List TPart) (h0 : 0 < xs.length) (h1 : xs[0].Lo = 0) (h2 : hiAt xs xs.length = 1000) (h3 : within xs.length 1 16 = true) :
    (List.range xs.length).all (partGood' xs) = partsGood xs := by
  rw [Bool.eq_iff_iff]
  constructor
  · intro H
    unfold partsGood
    simp only [Bool.and_eq_true, decide_eq_true_eq, List.all_eq_true, List.mem_range] at H ⊢
    refine ⟨⟨h3, h2⟩, fun i hi => ?_⟩
    have h := H i hi
    unfold partGood' at h
    unfold partGood
    simp only [List.getElem?_eq_getElem hi, Bool.and_eq_true, Bool.or_eq_true, beq_iff_eq, decide_eq_true_eq] at h ⊢
    refine ⟨⟨?_, h.1.1.1.1⟩, h.1.2⟩
    rcases h.2 with e | e
    · subst e; exact h1
    · exact e.symm
  · intro H
    simp only [List.all_eq_true, List.mem_range]
    intro i hi
    obtain ⟨a1, a2, a3, a4, a5⟩ := partsGood_at H hi
    unfold partGood'
    simp only [List.getElem?_eq_getElem hi, Bool.and_eq_true, Bool.or_eq_true, beq_iff_eq, decide_eq_true_eq]
    exact ⟨⟨⟨⟨a2, a1⟩, a3⟩, a4⟩, .inr a5.symm⟩

theorem p_spec_PartsOk (xs : List TPart) (h : xs.length ≤ 1048576) : m_spec_PartsOk xs = some (partsGood xs) := by
  unfold m_spec_PartsOk
  simp only [p_l1In, Option.bind_some]
  cases h3 : within (xs.length : Int) 1 16 with
  | false => simp [spec_PartsOk_j2, partsGood, h3]
  | true =>
    have h0 : 0 < xs.length := by unfold within at h3; simp at h3; omega
    have hi0 : idx xs 0 = some xs[0] := idx_nat (i := 0) h0
    have hw : IntKind.wrap .i64 ((xs.length : Int) - 1) = ((xs.length - 1 : Nat) : Int) := by rw [w64 (by omega) (by omega)]; omega
    have hiN : idx xs (IntKind.wrap .i64 ((xs.length : Int) - 1)) = some xs[xs.length - 1] := by rw [hw]; exact idx_nat (by omega)
    have hN : hiAt xs xs.length = xs[xs.length - 1].Hi := by
      obtain ⟨n, hn⟩ : ∃ n, xs.length = n + 1 := ⟨xs.length - 1, by omega⟩
      have e : hiAt xs (n + 1) = xs[n].Hi := hiAt_succ (by omega)
      simp only [hn, Nat.add_sub_cancel] at e ⊢
      exact e
    simp only [hi0, hiN, Option.bind_some, if_true]
    by_cases h1 : xs[0].Lo = 0
    · rw [if_neg (by simpa using h1)]
      by_cases h2 : xs[xs.length - 1].Hi = 1000
      · simp only [h2, not_true, decide_false, spec_PartsOk_j2, Bool.false_eq_true, if_false]
        rw [iter_good (s0 := (0 : Int)) (fun i => (i : Int)) (partGood' xs) (some false) (some true) xs.length (by omega) (fun kb i hi => ?_) (fun kb => ?_) rfl, parts_same xs h0 h1 (by rw [hN]; exact h2) h3]
        · cases partsGood xs <;> simp
        · unfold spec_PartsOk_b7 spec_PartsOk_j12 partGood'
          simp only [idx_nat hi, p_l1In, Option.bind_some, step1 i _ hi (by omega), List.getElem?_eq_getElem hi]
          rw [if_pos (by omega)]
          by_cases c1 : xs[i].Lo < xs[i].Hi
          · rw [if_neg (by omega)]
            by_cases c2 : 0 ≤ xs[i].Lo
            · rw [if_neg (by omega)]
              by_cases c3 : xs[i].Hi ≤ 1000
              · rw [if_neg (by omega)]
                cases within xs[i].Owner 0 3 <;> simp [c1, c2, c3]
                cases i with
                | zero => simp
                | succ j =>
                  have hj : j < xs.length := by omega
                  have hwj : IntKind.wrap .i64 (((j + 1 : Nat) : Int) - 1) = (j : Int) := by rw [w64 (by omega) (by omega)]; omega
                  have hpos : (0 : Int) < ((j + 1 : Nat) : Int) := by omega
                  simp only [hiAt_succ hj, Int.natCast_add, Int.natCast_one]
                  rw [show IntKind.wrap .i64 ((j : Int) + 1 - 1) = (j : Int) from by rw [w64 (by omega) (by omega)]; omega, idx_nat hj]
                  simp only [Option.bind_some]
                  rw [if_pos (by omega)]
                  by_cases c4 : xs[j].Hi = xs[j + 1].Lo <;> simp [c4]
              · rw [if_pos (by omega)]; simp [c3]
            · rw [if_pos (by omega)]; simp [c2]
          · rw [if_pos (by omega)]; simp [c1]
        · unfold spec_PartsOk_b7
          rw [if_neg (by omega)]; rfl
      · simp [h2, spec_PartsOk_j2, partsGood, hN]
    · rw [if_pos (by simpa using h1)]
      have : partGood xs 0 = false := by unfold partGood; simp [List.getElem?_eq_getElem h0, hiAt, h1]
      have : (List.range xs.length).all (partGood xs) = false := by
        rw [List.all_eq_false]; exact ⟨0, List.mem_range.2 h0, by simp [this]⟩
      simp [spec_PartsOk_j2, partsGood, this]

def cellGood (xs : List TCell) (i : Nat) : Bool := match xs[i]? with
  | none => true
  | some c => within c.Key 0 999 && within c.Value 0 1000000000 && (i == 0 || match xs[i - 1]? with | some p => decide (p.Key < c.Key) | none => true)

def storeGood (xs : List TCell) : Bool := decide (xs.length ≤ 60) && (List.range xs.length).all (cellGood xs)

theorem p_spec_StoreOk (xs : List TCell) (h : xs.length ≤ 1048576) : m_spec_StoreOk xs = some (storeGood xs) := by
  unfold m_spec_StoreOk storeGood
  split
  · rename_i h1
    have : ¬ xs.length ≤ 60 := by omega
    simp [this]
  · rename_i h1
    have : xs.length ≤ 60 := by omega
    rw [iter_good (s0 := (0 : Int)) (fun i => (i : Int)) (cellGood xs) (some false) (some true) xs.length (by omega) (fun kb i hi => ?_) (fun kb => ?_) rfl]
    · simp only [this, decide_true, Bool.true_and]; split <;> simp_all
    · unfold spec_StoreOk_b5 spec_StoreOk_j8 cellGood
      simp only [idx_nat hi, p_l10Key, p_l1Whole, Option.bind_some, step1 i _ hi (by omega), List.getElem?_eq_getElem hi]
      rw [if_pos (by omega)]
      cases within xs[i].Key 0 999 <;> simp
      cases within xs[i].Value 0 1000000000 <;> simp
      by_cases h0 : 0 < i
      · have h2 : IntKind.wrap .i64 ((i : Int) - 1) = ((i - 1 : Nat) : Int) := by rw [w64 (by omega) (by omega)]; omega
        have h3 : i - 1 < xs.length := by omega
        have h4 : ¬ i = 0 := by omega
        simp only [h0, if_true, h2, idx_nat h3, Option.bind_some, List.getElem?_eq_getElem h3, h4, false_or]
        by_cases h5 : xs[i].Key ≤ xs[i - 1].Key
        · have : ¬ xs[i - 1].Key < xs[i].Key := by omega
          simp [h5, this]
        · have : xs[i - 1].Key < xs[i].Key := by omega
          simp [h5, this]
      · have h4 : i = 0 := by omega
        simp [h4]
    · unfold spec_StoreOk_b5
      rw [if_neg (by omega)]; rfl

theorem p_impl_StoreOk (xs : List TCell) (h : xs.length ≤ 1048576) : m_impl_StoreOk xs = some (storeGood xs) := by
  unfold m_impl_StoreOk storeGood
  rw [iter_good (s0 := (0 : Int)) (fun i => (i : Int)) (cellGood xs) (some false) (some (decide (xs.length ≤ 60))) xs.length (by omega) (fun kb i hi => ?_) (fun kb => ?_) rfl]
  · split <;> simp_all
  · unfold impl_StoreOk_b4 impl_StoreOk_j9 cellGood
    simp only [idx_nat hi, p_isKey, p_isWhole, Option.bind_some, step1 i _ hi (by omega), List.getElem?_eq_getElem hi]
    rw [if_pos (by omega)]
    cases within xs[i].Key 0 999 <;> simp
    cases within xs[i].Value 0 1000000000 <;> simp
    by_cases h0 : 0 < i
    · have h2 : IntKind.wrap .i64 ((i : Int) - 1) = ((i - 1 : Nat) : Int) := by rw [w64 (by omega) (by omega)]; omega
      have h3 : i - 1 < xs.length := by omega
      have h4 : ¬ i = 0 := by omega
      simp only [h0, if_true, h2, idx_nat h3, Option.bind_some, List.getElem?_eq_getElem h3, h4, false_or]
      by_cases h5 : xs[i].Key ≤ xs[i - 1].Key
      · have : ¬ xs[i - 1].Key < xs[i].Key := by omega
        simp [h5, this]
      · have : xs[i - 1].Key < xs[i].Key := by omega
        simp [h5, this]
    · have h4 : i = 0 := by omega
      simp [h4]
  · unfold impl_StoreOk_b4 impl_StoreOk_j2
    rw [if_neg (by omega)]
    have : ((xs.length : Int) ≤ 60) ↔ xs.length ≤ 60 := by omega
    simp [this]

/-- The cells lie in the range. -/
def inB (lo hi : Int) (c : TCell) : Bool := within c.Key lo (IntKind.wrap .i64 (hi - 1))
theorem p_l15In (xs : List TCell) (m : TMove) (h : xs.length ≤ 1048576) : m_spec_l15In xs m = some (xs.all (inB m.Lo m.Hi)) := by
  unfold m_spec_l15In
  rw [iter_every xs (inB m.Lo m.Hi) (some false) (some true) (by omega) (fun kb i hi => ?_) (fun kb => ?_)]
  · cases xs.all (inB m.Lo m.Hi) <;> simp
  · unfold spec_l15In_b5
    simp only [idx_nat hi, p_l1In, Option.bind_some, step1 i _ hi (by omega)]
    rw [if_pos (by omega)]
    rfl
  · unfold spec_l15In_b5
    rw [if_neg (by omega)]; rfl

theorem p_Range_has (a : TRange) (z : Int) : m_impl_Range_has a z = some (within z a.Lo (IntKind.wrap .i64 (a.Hi - 1))) := by
  unfold m_impl_Range_has; simp [p_from]
theorem p_cellsIn_1 (c : TCell) (a : TRange) : m_impl_cellsIn_1 c a = some (!inB a.Lo a.Hi c) := by
  unfold m_impl_cellsIn_1; simp [p_Range_has, inB]
theorem p_Contains_cellsIn (xs : List TCell) (a : TRange) (h : xs.length ≤ 1048576) : m_slices_ContainsFunc_Cell__cellsIn_1 xs a = some (xs.any fun c => !inB a.Lo a.Hi c) := by
  unfold m_slices_ContainsFunc_Cell__cellsIn_1 m_slices_IndexFunc_Cell__cellsIn_1
  rw [iter_index xs (fun c => !inB a.Lo a.Hi c) (by omega) (fun kb i hi => ?_) (fun kb => ?_)]
  · simp [idxOf_nonneg]
  · unfold slices_IndexFunc_Cell__cellsIn_1_b5
    simp only [idx_nat hi, p_cellsIn_1, Option.bind_some, step1 i _ hi (by omega)]
    rw [if_pos (by omega)]
  · unfold slices_IndexFunc_Cell__cellsIn_1_b5
    rw [if_neg (by omega)]; rfl
theorem p_cellsIn (xs : List TCell) (a : TRange) (h : xs.length ≤ 1048576) : m_impl_cellsIn xs a = some (storeGood xs && xs.all (inB a.Lo a.Hi)) := by
  unfold m_impl_cellsIn
  simp only [p_impl_StoreOk _ h, p_Contains_cellsIn _ _ h, Option.bind_some]
  cases storeGood xs <;> simp
  rw [List.any_eq_not_all_not]; simp

theorem p_AtlasOk (a : TAtlas) (h1 : a.Parts.length ≤ 1048576) (h2 : a.Move.Cells.length ≤ 1048576) : ∃ r, m_spec_AtlasOk a = some r ∧ m_impl_AtlasOk a = some r ∧ (r = true → partsGood a.Parts = true) := by
  unfold m_spec_AtlasOk m_impl_AtlasOk m_impl_moveOk
  simp only [spec_AtlasOk_j2, spec_AtlasOk_j10, impl_moveOk_j2, m_impl_Move_keys, p_l1In, p_from, p_spec_PartsOk _ h1, p_impl_PartsOk _ h1, p_spec_StoreOk _ h2, p_spec_RangeOk, p_impl_RangeOk, p_l15Group, p_isGroup, p_l15In _ _ h2, p_cellsIn _ _ h2, Option.bind_some]
  generalize within a.Epoch 0 1000000 = w1
  generalize partsGood a.Parts = w2
  generalize within a.Move.No 0 300000 = w3
  generalize within a.Move.Stage 0 4 = w4
  generalize rangeOk ⟨a.Move.Lo, a.Move.Hi⟩ = w5
  generalize within a.Move.From 0 3 = w6
  generalize within a.Move.To 0 3 = w7
  generalize a.Move.Cells.all (inB a.Move.Lo a.Move.Hi) = w9
  have hs : a.Move.Cells.length = 0 → storeGood a.Move.Cells = true := fun h => by
    rw [List.eq_nil_of_length_eq_zero h]; rfl
  generalize storeGood a.Move.Cells = w8 at hs
  cases w1 <;> simp
  cases w2 <;> simp
  cases w3 <;> simp
  cases w4 <;> simp
  by_cases g0 : a.Move.Stage = 0
  · simp only [g0, if_true]
    cases w8 <;> simp at hs ⊢ 
    · by_cases g1 : a.Move.Lo = 0 <;> simp [g1]
      by_cases g2 : a.Move.Hi = 0 <;> simp [g2]
      by_cases g3 : a.Move.From = 0 <;> simp [g3]
      by_cases g4 : a.Move.To = 0 <;> simp [g4]
      exact hs
    · by_cases g1 : a.Move.Lo = 0 <;> simp [g1]
      by_cases g2 : a.Move.Hi = 0 <;> simp [g2]
      by_cases g3 : a.Move.From = 0 <;> simp [g3]
      by_cases g4 : a.Move.To = 0 <;> simp [g4]
      exact (Classical.em _).symm
  · simp only [g0, if_false]
    by_cases g1 : a.Move.No < 1
    · have : ¬ 1 ≤ a.Move.No := by omega
      cases w8 <;> simp [g1, this]
    · have : 1 ≤ a.Move.No := by omega
      simp only [g1, this, if_true, if_false]
      by_cases g2 : a.Move.From = a.Move.To <;> by_cases g3 : a.Move.Stage = 2 <;> cases w5 <;> cases w6 <;> cases w7 <;> cases w8 <;> cases w9 <;> simp [g2, g3]
      exact (Classical.em _).symm

/-- A row of which the first i elements are turned. -/
def rowM {α : Type} (g : Nat → α) (xs : List α) (i : Nat) : List α := (List.range i).map g ++ xs.drop i
theorem rowM_len {α : Type} (g : Nat → α) {xs : List α} {i : Nat} (h : i ≤ xs.length) : (rowM g xs i).length = xs.length := by
  unfold rowM
  simp
  omega
theorem rowM_idx {α : Type} (g : Nat → α) {xs : List α} {i : Nat} (h : i < xs.length) : idx (rowM g xs i) (i : Int) = some xs[i] := by
  rw [idx_ofNat]
  unfold rowM
  rw [List.getElem?_append_right (by simp)]
  simp [h]
theorem rowM_set {α : Type} (g : Nat → α) {xs : List α} {i : Nat} (h : i < xs.length) : (rowM g xs i).set i (g i) = rowM g xs (i + 1) := by
  unfold rowM
  rw [List.set_append, if_neg (by simp), List.range_succ, List.map_append, List.append_assoc]
  congr 1
  have e : i - ((List.range i).map g).length = 0 := by simp
  rw [e, List.drop_eq_getElem_cons h]
  rfl
theorem rowM_zero {α : Type} (g : Nat → α) (xs : List α) : rowM g xs 0 = xs := by simp [rowM]
theorem rowM_all {α : Type} (g : Nat → α) (xs : List α) : rowM g xs xs.length = (List.range xs.length).map g := by simp [rowM]
theorem idx_set_same {α : Type} {xs : List α} {i : Nat} {a : α} (h : i < xs.length) : idx (xs.set i a) (i : Int) = some a := by
  rw [idx_nat (by simpa using h)]
  simp
theorem idx_range {α : Type} (g : Nat → α) {n i : Nat} (h : i < n) : idx ((List.range n).map g) (i : Int) = some (g i) := by
  rw [idx_nat (by simpa using h)]
  simp
/-- A loop that gathers the elements of which q holds. -/
theorem iter_filter {α R : Type} {f : (List α × Int → Option R) → List α × Int → Option R} (xs : List α) (q : α → Bool) (k : List α → Option R) (hn : xs.length ≤ 1048576)
    (hs : ∀ kb (ys : List α) (i : Nat) (hi : i < xs.length), ys.length ≤ i → f kb (ys, (i : Int)) = if q xs[i] = true then kb (ys ++ [xs[i]], ((i + 1 : Nat) : Int)) else kb (ys, ((i + 1 : Nat) : Int)))
    (he : ∀ kb (ys : List α), f kb (ys, (xs.length : Int)) = k ys) : iter f FU ([], 0) = k (xs.filter q) := by
  refine iter_all (fun i => ((xs.take i).filter q, (i : Int))) _ xs.length (by omega) (fun kb i hi => ?_) (fun kb => ?_) (by simp)
  · rw [hs kb _ i hi (Nat.le_trans (List.length_filter_le _ _) (by simp; omega))]
    rw [List.take_succ_eq_append_getElem hi, List.filter_append]
    by_cases h : q xs[i] = true <;> simp [h]
  · rw [he, List.take_length]
/-- To move what is kept to the front. -/
def delY {α : Type} (xs : List α) (p : α → Bool) (k0 : Nat) : Nat → List α × Nat
  | 0 => (xs, k0)
  | n + 1 => match xs[k0 + 1 + n]? with
    | some x => if p x then delY xs p k0 n else ((delY xs p k0 n).1.set (delY xs p k0 n).2 x, (delY xs p k0 n).2 + 1)
    | none => delY xs p k0 n
theorem delY_spec {α : Type} (xs : List α) (p : α → Bool) (k0 : Nat) (hk : k0 < xs.length) (h0 : (xs.take (k0 + 1)).filter (fun x => !p x) = xs.take k0) : ∀ n, k0 + 1 + n ≤ xs.length →
    (delY xs p k0 n).1.length = xs.length ∧ (delY xs p k0 n).2 < k0 + 1 + n ∧ (delY xs p k0 n).1.take (delY xs p k0 n).2 = (xs.take (k0 + 1 + n)).filter (fun x => !p x) ∧ ∀ m, k0 + 1 + n ≤ m → (delY xs p k0 n).1[m]? = xs[m]?
  | 0, h => by
    refine ⟨rfl, by simp [delY], ?_, fun m _ => rfl⟩
    simp only [delY, Nat.add_zero]
    rw [h0]
  | n + 1, h => by
    obtain ⟨h1, h2, h3, h4⟩ := delY_spec xs p k0 hk h0 n (by omega)
    have hlt : k0 + 1 + n < xs.length := by omega
    simp only [delY, List.getElem?_eq_getElem hlt]
    have ht : (xs.take (k0 + 1 + (n + 1))).filter (fun x => !p x) = (xs.take (k0 + 1 + n)).filter (fun x => !p x) ++ (if p xs[k0 + 1 + n] = true then [] else [xs[k0 + 1 + n]]) := by
      rw [show k0 + 1 + (n + 1) = (k0 + 1 + n) + 1 by omega, List.take_succ_eq_append_getElem hlt, List.filter_append]
      congr 1
      by_cases c : p xs[k0 + 1 + n] = true <;> simp [c]
    by_cases c : p xs[k0 + 1 + n] = true
    · simp only [c, if_true]
      refine ⟨h1, by omega, by rw [ht, c]; simpa using h3, fun m hm => h4 m (by omega)⟩
    · simp only [c, Bool.false_eq_true, if_false]
      refine ⟨by simpa using h1, by omega, ?_, fun m hm => ?_⟩
      · rw [ht, ← h3]
        rw [if_neg c, List.take_succ_eq_append_getElem (by rw [List.length_set, h1]; omega), List.take_set_of_le (Nat.le_refl _)]
        simp
      · rw [List.getElem?_set_ne (by omega)]
        exact h4 m (by omega)
theorem iter_del {α R : Type} {f : (List α × Int × Int → Option R) → List α × Int × Int → Option R} (xs : List α) (p : α → Bool) (k : List α → Nat → Option R) (hn : xs.length ≤ 1048576) (k0 : Nat) (hk : k0 < xs.length) (h0 : (xs.take (k0 + 1)).filter (fun x => !p x) = xs.take k0)
    (hs : ∀ kb (ys : List α) (i j : Nat) (hj : j < xs.length), i < j → ys.length = xs.length → ys[j]? = some xs[j] → f kb (ys, (i : Int), (j : Int)) = if p xs[j] = true then kb (ys, (i : Int), ((j + 1 : Nat) : Int)) else kb (ys.set i xs[j], ((i + 1 : Nat) : Int), ((j + 1 : Nat) : Int)))
    (he : ∀ kb (ys : List α) (i : Nat), i ≤ xs.length → ys.length = xs.length → f kb (ys, (i : Int), (xs.length : Int)) = k ys i) :
    ∃ ys, ys.length = xs.length ∧ (xs.filter fun x => !p x).length ≤ xs.length ∧ ys.take (xs.filter fun x => !p x).length = xs.filter (fun x => !p x) ∧ iter f FU (xs, (k0 : Int), ((k0 + 1 : Nat) : Int)) = k ys (xs.filter fun x => !p x).length := by
  obtain ⟨h1, h2, h3, _⟩ := delY_spec xs p k0 hk h0 (xs.length - (k0 + 1)) (by omega)
  rw [show k0 + 1 + (xs.length - (k0 + 1)) = xs.length by omega, List.take_length] at h3
  rw [show k0 + 1 + (xs.length - (k0 + 1)) = xs.length by omega] at h2
  have hl : (delY xs p k0 (xs.length - (k0 + 1))).2 = (xs.filter fun x => !p x).length := by
    rw [← h3, List.length_take, h1]; omega
  refine ⟨_, h1, List.length_filter_le _ _, by rw [← hl]; exact h3, ?_⟩
  rw [← hl]
  refine iter_all (fun n => ((delY xs p k0 n).1, ((delY xs p k0 n).2 : Int), ((k0 + 1 + n : Nat) : Int))) _ (xs.length - (k0 + 1)) (by omega) (fun kb n hlt => ?_) (fun kb => ?_) (by simp [delY])
  · obtain ⟨g1, g2, g3, g4⟩ := delY_spec xs p k0 hk h0 n (by omega)
    have hj : k0 + 1 + n < xs.length := by omega
    show f kb ((delY xs p k0 n).1, ((delY xs p k0 n).2 : Int), ((k0 + 1 + n : Nat) : Int)) = kb ((delY xs p k0 (n + 1)).1, ((delY xs p k0 (n + 1)).2 : Int), ((k0 + 1 + (n + 1) : Nat) : Int))
    rw [hs kb _ _ _ hj g2 g1 (by rw [g4 _ (Nat.le_refl _), List.getElem?_eq_getElem hj])]
    have e : delY xs p k0 (n + 1) = if p xs[k0 + 1 + n] = true then delY xs p k0 n else ((delY xs p k0 n).1.set (delY xs p k0 n).2 xs[k0 + 1 + n], (delY xs p k0 n).2 + 1) := by
      simp only [delY, List.getElem?_eq_getElem hj]
    rw [e]
    by_cases c : p xs[k0 + 1 + n] = true
    · simp only [c, if_true]; rfl
    · simp only [c, Bool.false_eq_true, if_false]; rfl
  · show f kb ((delY xs p k0 (xs.length - (k0 + 1))).1, ((delY xs p k0 (xs.length - (k0 + 1))).2 : Int), ((k0 + 1 + (xs.length - (k0 + 1)) : Nat) : Int)) = _
    rw [show k0 + 1 + (xs.length - (k0 + 1)) = xs.length by omega]
    exact he kb _ _ (by omega) h1
theorem idx_none {α : Type} {p : α → Bool} {xs : List α} (e : idxOf p xs = -1) : xs.filter (fun x => !p x) = xs := by
  unfold idxOf at e
  split at e
  · omega
  · rename_i h
    rw [List.findIdx?_eq_none_iff] at h
    rw [List.filter_eq_self]
    intro x hx
    simp [h x hx]
theorem idx_some' {α : Type} {p : α → Bool} {xs : List α} (e : ¬ idxOf p xs = -1) : ∃ k : Nat, idxOf p xs = (k : Int) ∧ k < xs.length ∧ (xs.take (k + 1)).filter (fun x => !p x) = xs.take k := by
  unfold idxOf at e ⊢
  split
  · rename_i k h
    rw [List.findIdx?_eq_some_iff_getElem] at h
    obtain ⟨hk, hp, hb⟩ := h
    refine ⟨k, rfl, hk, ?_⟩
    rw [List.take_succ_eq_append_getElem hk, List.filter_append, List.filter_eq_self.2 ?_]
    · simp [hp]
    · intro x hx
      obtain ⟨j, hj, rfl⟩ := List.getElem_of_mem hx
      have hj' : j < k := by simp at hj; omega
      have := hb j hj'
      simp only [List.getElem_take]
      simpa using this
  · rename_i h
    rw [h] at e
    exact absurd rfl e
theorem take_front {α : Type} {ys : List α} {i : Nat} (zs ws : List α) (h : i ≤ ys.length) : List.take i (List.take i ys ++ zs ++ ws) = List.take i ys := by
  rw [List.append_assoc, List.take_append_of_le_length (by simp; omega), List.take_take, Nat.min_self]
/-- A row of which the first i elements are turned, each by itself. -/
def rowF {α : Type} (g : α → α) (xs : List α) (i : Nat) : List α := (xs.take i).map g ++ xs.drop i
theorem rowF_len {α : Type} (g : α → α) (xs : List α) (i : Nat) : (rowF g xs i).length = xs.length := by
  unfold rowF
  simp
  omega
theorem rowF_idx {α : Type} (g : α → α) {xs : List α} {i : Nat} (h : i < xs.length) : idx (rowF g xs i) (i : Int) = some xs[i] := by
  rw [idx_ofNat]
  unfold rowF
  rw [List.getElem?_append_right (by simp; omega)]
  have e : i - ((xs.take i).map g).length = 0 := by simp; omega
  rw [e]
  simp [h]
theorem rowF_set {α : Type} (g : α → α) {xs : List α} {i : Nat} (h : i < xs.length) : (rowF g xs i).set i (g xs[i]) = rowF g xs (i + 1) := by
  unfold rowF
  rw [List.set_append, if_neg (by simp; omega), List.take_succ_eq_append_getElem h, List.map_append, List.append_assoc]
  congr 1
  have e : i - ((xs.take i).map g).length = 0 := by simp; omega
  rw [e, List.drop_eq_getElem_cons h]
  rfl
theorem rowF_same {α : Type} (g : α → α) {xs : List α} {i : Nat} (h : i < xs.length) (hg : g xs[i] = xs[i]) : rowF g xs (i + 1) = rowF g xs i := by
  rw [← rowF_set g h, hg]
  have hl : i < (rowF g xs i).length := by rw [rowF_len]; exact h
  have := rowF_idx g h
  rw [idx_nat hl] at this
  have := Option.some.inj this
  rw [← this]
  exact List.set_getElem_self hl
theorem rowF_zero {α : Type} (g : α → α) (xs : List α) : rowF g xs 0 = xs := by simp [rowF]
theorem rowF_all {α : Type} (g : α → α) (xs : List α) : rowF g xs xs.length = xs.map g := by simp [rowF]

theorem p_szPartS (xs : List TPart) (h : xs.length ≤ maxLen) (z : Int) (h1 : 0 ≤ z) (h2 : z ≤ 1048576) : m_laws_szPartS xs z = some (if z < xs.length then -1 else z - xs.length) := by
  unfold m_laws_szPartS
  have : IntKind.wrap .i64 (z - (xs.length : Int)) = z - xs.length := by unfold maxLen at h; exact w64 (by omega) (by omega)
  rw [this]
  split <;> split <;> first | rfl | omega

theorem p_toPartS (xs : List TPart) (h : xs.length ≤ 1048576) : m_laws_toPartS xs = some xs := by
  unfold m_laws_toPartS
  rw [if_pos ⟨by omega, by omega⟩]
  simp only [Int.toNat_natCast]
  refine iter_copy xs _ laws_toPartS_j3 (by omega) (fun kb ys i hi hy => ?_) (fun kb ys => ?_)
  · unfold laws_toPartS_b5
    simp only [idx_nat hi, idx_nat (show i < ys.length by omega), m_laws_toPart, Option.bind_some, Int.toNat_natCast, step1 i _ hi (by omega)]
    rw [if_pos (by omega)]
  · unfold laws_toPartS_b5
    rw [if_neg (by omega)]

theorem p_eqPart (a b : TPart) : m_laws_eqPart a b = some (decide (a = b)) := by
  unfold m_laws_eqPart
  cases a; cases b
  simp only [TPart.mk.injEq]
  repeat' split
  all_goals simp_all

theorem p_eqPartS (xs ys : List TPart) (h : xs.length ≤ 1048576) : m_laws_eqPartS xs ys = some (decide (xs = ys)) := by
  unfold m_laws_eqPartS
  split
  · rename_i hl
    have : ¬ xs = ys := fun e => hl (by rw [e])
    simp [this]
  · rename_i hl
    have hl : xs.length = ys.length := by omega
    rw [iter_good (s0 := (0 : Int)) (fun i => (i : Int)) (fun i => decide (xs[i]? = ys[i]?)) (some false) (some true) xs.length (by omega) (fun kb i hi => ?_) (fun kb => ?_) rfl, all_range_eq hl]
    · by_cases e : xs = ys <;> simp [e]
    · unfold laws_eqPartS_b6
      simp only [idx_nat hi, idx_nat (show i < ys.length by omega), p_eqPart, Option.bind_some, step1 i _ hi (by omega)]
      rw [if_pos (by omega), List.getElem?_eq_getElem hi, List.getElem?_eq_getElem (show i < ys.length by omega)]
      simp
    · unfold laws_eqPartS_b6
      rw [if_neg (by omega)]
      rfl

def mk_Part (k : Int) : TPart := ⟨k, k + 1, k + 2⟩
def marks_Part (k : Int) (n : Nat) : List TPart := (List.range n).map fun (i : Nat) => mk_Part (k + 3 * (i : Int))
theorem marks_Part_len (k : Int) (n : Nat) : (marks_Part k n).length = n := by simp [marks_Part]
theorem p_markPartS (xs : List TPart) (k : Int) (h : xs.length ≤ 1048576) (hk : 0 ≤ k) (hk' : k ≤ 1000000000000) : m_laws_markPartS xs k = some (k + 3 * (xs.length : Int), marks_Part k xs.length) := by
  unfold m_laws_markPartS
  refine iter_all (fun i => (rowM (fun (i : Nat) => mk_Part (k + 3 * (i : Int))) xs i, k + 3 * (i : Int), (i : Int))) _ xs.length (by omega) (fun kb i hi => ?_) (fun kb => ?_) (by simp [rowM_zero])
  · unfold laws_markPartS_b6
    have hl := rowM_len (fun (i : Nat) => mk_Part (k + 3 * (i : Int))) (Nat.le_of_lt hi)
    have w1 : IntKind.wrap .i64 (k + 3 * (i : Int) + 1) = k + 3 * (i : Int) + 1 := w64 (by omega) (by omega)
    have w2 : IntKind.wrap .i64 (k + 3 * (i : Int) + 1 + 1) = k + 3 * (i : Int) + 2 := by rw [w64 (by omega) (by omega)]; omega
    have w3 : IntKind.wrap .i64 (k + 3 * (i : Int) + 2 + 1) = k + 3 * (i : Int) + 3 := by rw [w64 (by omega) (by omega)]; omega
    have e : k + 3 * ((i + 1 : Nat) : Int) = k + 3 * (i : Int) + 3 := by omega
    have hs := rowM_set (fun (i : Nat) => mk_Part (k + 3 * (i : Int))) hi
    have hx := rowM_idx (fun (i : Nat) => mk_Part (k + 3 * (i : Int))) hi
    show _ = kb (rowM (fun (i : Nat) => mk_Part (k + 3 * (i : Int))) xs (i + 1), k + 3 * ((i + 1 : Nat) : Int), ((i + 1 : Nat) : Int))
    rw [← hs, e]
    generalize rowM (fun (i : Nat) => mk_Part (k + 3 * (i : Int))) xs i = row at hl hx
    have hii : i < row.length := by rw [hl]; exact hi
    simp only [hx, Option.bind_some, Int.toNat_natCast, idx_set_same hii, List.set_set, step1 i _ hi (by omega), w1, w2, w3, hl, mk_Part]
    rw [if_pos (by omega)]
  · unfold laws_markPartS_b6 laws_markPartS_j3
    have hl := rowM_len (fun (i : Nat) => mk_Part (k + 3 * (i : Int))) (Nat.le_refl xs.length)
    rw [if_neg (by simp only [hl]; omega), if_pos hl, rowM_all]
    rfl
theorem p_heldPartS (n : Nat) (k : Int) (h : n ≤ 1048576) (hk : 0 ≤ k) (hk' : k ≤ 1000000000000) : m_laws_heldPartS (marks_Part k n) k = some (k + 3 * (n : Int)) := by
  unfold m_laws_heldPartS
  refine iter_all (fun i => (k + 3 * (i : Int), (i : Int))) _ n (by omega) (fun kb i hi => ?_) (fun kb => ?_) (by simp)
  · unfold laws_heldPartS_b5
    have w1 : IntKind.wrap .i64 (k + 3 * (i : Int) + 1) = k + 3 * (i : Int) + 1 := w64 (by omega) (by omega)
    have w2 : IntKind.wrap .i64 (k + 3 * (i : Int) + 1 + 1) = k + 3 * (i : Int) + 2 := by rw [w64 (by omega) (by omega)]; omega
    have w3 : IntKind.wrap .i64 (k + 3 * (i : Int) + 2 + 1) = k + 3 * (i : Int) + 3 := by rw [w64 (by omega) (by omega)]; omega
    have e : k + 3 * ((i + 1 : Nat) : Int) = k + 3 * (i : Int) + 3 := by omega
    have hx : idx (marks_Part k n) (i : Int) = some (mk_Part (k + 3 * (i : Int))) := idx_range _ hi
    simp only [hx, Option.bind_some, step1 i _ hi (by omega), w1, w2, w3, mk_Part, marks_Part_len, not_true, if_false, e]
    rw [if_pos (by omega)]
  · unfold laws_heldPartS_b5 laws_heldPartS_j3
    rw [if_neg (by simp only [marks_Part_len]; omega)]

theorem p_szCellS (xs : List TCell) (h : xs.length ≤ maxLen) (z : Int) (h1 : 0 ≤ z) (h2 : z ≤ 1048576) : m_laws_szCellS xs z = some (if z < xs.length then -1 else z - xs.length) := by
  unfold m_laws_szCellS
  have : IntKind.wrap .i64 (z - (xs.length : Int)) = z - xs.length := by unfold maxLen at h; exact w64 (by omega) (by omega)
  rw [this]
  split <;> split <;> first | rfl | omega

theorem p_toCellS (xs : List TCell) (h : xs.length ≤ 1048576) : m_laws_toCellS xs = some xs := by
  unfold m_laws_toCellS
  rw [if_pos ⟨by omega, by omega⟩]
  simp only [Int.toNat_natCast]
  refine iter_copy xs _ laws_toCellS_j3 (by omega) (fun kb ys i hi hy => ?_) (fun kb ys => ?_)
  · unfold laws_toCellS_b5
    simp only [idx_nat hi, idx_nat (show i < ys.length by omega), m_laws_toCell, Option.bind_some, Int.toNat_natCast, step1 i _ hi (by omega)]
    rw [if_pos (by omega)]
  · unfold laws_toCellS_b5
    rw [if_neg (by omega)]

theorem p_eqCell (a b : TCell) : m_laws_eqCell a b = some (decide (a = b)) := by
  unfold m_laws_eqCell
  cases a; cases b
  simp only [TCell.mk.injEq]
  repeat' split
  all_goals simp_all

theorem p_eqCellS (xs ys : List TCell) (h : xs.length ≤ 1048576) : m_laws_eqCellS xs ys = some (decide (xs = ys)) := by
  unfold m_laws_eqCellS
  split
  · rename_i hl
    have : ¬ xs = ys := fun e => hl (by rw [e])
    simp [this]
  · rename_i hl
    have hl : xs.length = ys.length := by omega
    rw [iter_good (s0 := (0 : Int)) (fun i => (i : Int)) (fun i => decide (xs[i]? = ys[i]?)) (some false) (some true) xs.length (by omega) (fun kb i hi => ?_) (fun kb => ?_) rfl, all_range_eq hl]
    · by_cases e : xs = ys <;> simp [e]
    · unfold laws_eqCellS_b6
      simp only [idx_nat hi, idx_nat (show i < ys.length by omega), p_eqCell, Option.bind_some, step1 i _ hi (by omega)]
      rw [if_pos (by omega), List.getElem?_eq_getElem hi, List.getElem?_eq_getElem (show i < ys.length by omega)]
      simp
    · unfold laws_eqCellS_b6
      rw [if_neg (by omega)]
      rfl

def mk_Cell (k : Int) : TCell := ⟨k, k + 1⟩
def marks_Cell (k : Int) (n : Nat) : List TCell := (List.range n).map fun (i : Nat) => mk_Cell (k + 2 * (i : Int))
theorem marks_Cell_len (k : Int) (n : Nat) : (marks_Cell k n).length = n := by simp [marks_Cell]
theorem p_markCellS (xs : List TCell) (k : Int) (h : xs.length ≤ 1048576) (hk : 0 ≤ k) (hk' : k ≤ 1000000000000) : m_laws_markCellS xs k = some (k + 2 * (xs.length : Int), marks_Cell k xs.length) := by
  unfold m_laws_markCellS
  refine iter_all (fun i => (rowM (fun (i : Nat) => mk_Cell (k + 2 * (i : Int))) xs i, k + 2 * (i : Int), (i : Int))) _ xs.length (by omega) (fun kb i hi => ?_) (fun kb => ?_) (by simp [rowM_zero])
  · unfold laws_markCellS_b6
    have hl := rowM_len (fun (i : Nat) => mk_Cell (k + 2 * (i : Int))) (Nat.le_of_lt hi)
    have w1 : IntKind.wrap .i64 (k + 2 * (i : Int) + 1) = k + 2 * (i : Int) + 1 := w64 (by omega) (by omega)
    have w2 : IntKind.wrap .i64 (k + 2 * (i : Int) + 1 + 1) = k + 2 * (i : Int) + 2 := by rw [w64 (by omega) (by omega)]; omega
    have e : k + 2 * ((i + 1 : Nat) : Int) = k + 2 * (i : Int) + 2 := by omega
    have hs := rowM_set (fun (i : Nat) => mk_Cell (k + 2 * (i : Int))) hi
    have hx := rowM_idx (fun (i : Nat) => mk_Cell (k + 2 * (i : Int))) hi
    show _ = kb (rowM (fun (i : Nat) => mk_Cell (k + 2 * (i : Int))) xs (i + 1), k + 2 * ((i + 1 : Nat) : Int), ((i + 1 : Nat) : Int))
    rw [← hs, e]
    generalize rowM (fun (i : Nat) => mk_Cell (k + 2 * (i : Int))) xs i = row at hl hx
    have hii : i < row.length := by rw [hl]; exact hi
    simp only [hx, Option.bind_some, Int.toNat_natCast, idx_set_same hii, List.set_set, step1 i _ hi (by omega), w1, w2, hl, mk_Cell]
    rw [if_pos (by omega)]
  · unfold laws_markCellS_b6 laws_markCellS_j3
    have hl := rowM_len (fun (i : Nat) => mk_Cell (k + 2 * (i : Int))) (Nat.le_refl xs.length)
    rw [if_neg (by simp only [hl]; omega), if_pos hl, rowM_all]
    rfl
theorem p_heldCellS (n : Nat) (k : Int) (h : n ≤ 1048576) (hk : 0 ≤ k) (hk' : k ≤ 1000000000000) : m_laws_heldCellS (marks_Cell k n) k = some (k + 2 * (n : Int)) := by
  unfold m_laws_heldCellS
  refine iter_all (fun i => (k + 2 * (i : Int), (i : Int))) _ n (by omega) (fun kb i hi => ?_) (fun kb => ?_) (by simp)
  · unfold laws_heldCellS_b5
    have w1 : IntKind.wrap .i64 (k + 2 * (i : Int) + 1) = k + 2 * (i : Int) + 1 := w64 (by omega) (by omega)
    have w2 : IntKind.wrap .i64 (k + 2 * (i : Int) + 1 + 1) = k + 2 * (i : Int) + 2 := by rw [w64 (by omega) (by omega)]; omega
    have e : k + 2 * ((i + 1 : Nat) : Int) = k + 2 * (i : Int) + 2 := by omega
    have hx : idx (marks_Cell k n) (i : Int) = some (mk_Cell (k + 2 * (i : Int))) := idx_range _ hi
    simp only [hx, Option.bind_some, step1 i _ hi (by omega), w1, w2, mk_Cell, marks_Cell_len, not_true, if_false, e]
    rw [if_pos (by omega)]
  · unfold laws_heldCellS_b5 laws_heldCellS_j3
    rw [if_neg (by simp only [marks_Cell_len]; omega)]

def size_Move (x : TMove) : Nat := x.Cells.length

theorem p_szMove (x : TMove) (h : ok_TMove x) (z : Int) (h1 : 0 ≤ z) (h2 : z ≤ 1048576) : m_laws_szMove x z = some (if z < (size_Move x : Int) then -1 else z - (size_Move x : Int)) := by
  unfold ok_TMove at h
  obtain ⟨o0, o1, o2, o3, o4, o5, o6⟩ := h
  unfold m_laws_szMove size_Move
  rw [p_szCellS x.Cells o6.1 _ (by omega) (by omega)]
  simp only [Option.bind_some]
  by_cases c0 : z < (x.Cells.length : Int)
  · rw [if_pos c0, if_pos (by omega)]; try rw [if_pos (by omega)]
  rw [if_neg c0, if_neg (by omega)]
  try rw [if_neg (by omega)]
  try (congr 1; omega)

theorem p_toMove (x : TMove) (h : size_Move x ≤ 1048576) : m_laws_toMove x = some x := by simp [m_laws_toMove, p_toCellS _ (show x.Cells.length ≤ 1048576 by unfold size_Move at h; omega)]

theorem p_eqMove (x y : TMove) (h : size_Move x ≤ 1048576) : m_laws_eqMove x y = some (decide (x = y)) := by
  unfold m_laws_eqMove
  simp only [p_eqCellS _ _ (show x.Cells.length ≤ 1048576 by unfold size_Move at h; omega), Option.bind_some]
  cases x; cases y
  simp only [TMove.mk.injEq]
  repeat' split
  all_goals simp_all

def size_Atlas (x : TAtlas) : Nat := x.Parts.length + size_Move x.Move

theorem p_szAtlas (x : TAtlas) (h : ok_TAtlas x) (z : Int) (h1 : 0 ≤ z) (h2 : z ≤ 1048576) : m_laws_szAtlas x z = some (if z < (size_Atlas x : Int) then -1 else z - (size_Atlas x : Int)) := by
  unfold ok_TAtlas at h
  obtain ⟨o0, o1, o2⟩ := h
  unfold m_laws_szAtlas size_Atlas
  rw [p_szPartS x.Parts o1.1 _ (by omega) (by omega)]
  simp only [Option.bind_some]
  by_cases c0 : z < (x.Parts.length : Int)
  · rw [if_pos c0, if_pos (by omega)]; try rw [if_pos (by omega)]
  rw [if_neg c0, if_neg (by omega)]
  rw [p_szMove x.Move o2 _ (by omega) (by omega)]
  simp only [Option.bind_some]
  by_cases c1 : z - (x.Parts.length : Int) < (size_Move x.Move : Int)
  · rw [if_pos c1, if_pos (by omega)]; try rw [if_pos (by omega)]
  rw [if_neg c1, if_neg (by omega)]
  try rw [if_neg (by omega)]
  try (congr 1; omega)

theorem p_toAtlas (x : TAtlas) (h : size_Atlas x ≤ 1048576) : m_laws_toAtlas x = some x := by simp [m_laws_toAtlas, p_toPartS _ (show x.Parts.length ≤ 1048576 by unfold size_Atlas at h; omega), p_toMove _ (show size_Move x.Move ≤ 1048576 by unfold size_Atlas at h; omega)]

theorem p_eqAtlas (x y : TAtlas) (h : size_Atlas x ≤ 1048576) : m_laws_eqAtlas x y = some (decide (x = y)) := by
  unfold m_laws_eqAtlas
  simp only [p_eqPartS _ _ (show x.Parts.length ≤ 1048576 by unfold size_Atlas at h; omega), p_eqMove _ _ (show size_Move x.Move ≤ 1048576 by unfold size_Atlas at h; omega), Option.bind_some]
  cases x; cases y
  simp only [TAtlas.mk.injEq]
  repeat' split
  all_goals simp_all

theorem p_markMove (x : TMove) (k : Int) (h : x.Cells.length ≤ 1048576) (hk : 0 ≤ k) (hk' : k ≤ 1000000000000) : m_laws_markMove x k = some (k + 2 * (x.Cells.length : Int), TMove.mk x.No x.Stage x.Lo x.Hi x.From x.To (marks_Cell k x.Cells.length)) := by
  unfold m_laws_markMove
  simp [p_markCellS x.Cells k h hk hk', marks_Cell_len]
theorem p_markAtlas (x : TAtlas) (k : Int) (h : size_Atlas x ≤ 1048576) (hk : 0 ≤ k) (hk' : k ≤ 1000000000) : m_laws_markAtlas x k = some (k + 3 * (x.Parts.length : Int) + 2 * (x.Move.Cells.length : Int), TAtlas.mk x.Epoch (marks_Part k x.Parts.length) (TMove.mk x.Move.No x.Move.Stage x.Move.Lo x.Move.Hi x.Move.From x.Move.To (marks_Cell (k + 3 * (x.Parts.length : Int)) x.Move.Cells.length))) := by
  unfold size_Atlas size_Move at h
  unfold m_laws_markAtlas
  simp [p_markPartS x.Parts k (by omega) hk (by omega), marks_Part_len, p_markMove x.Move (k + 3 * (x.Parts.length : Int)) (by omega) (by omega) (by omega), marks_Cell_len]
theorem p_heldMove (x : TMove) (k : Int) (n : Nat) (e : x.Cells = marks_Cell k n) (h : n ≤ 1048576) (hk : 0 ≤ k) (hk' : k ≤ 1000000000000) : m_laws_heldMove x k = some (k + 2 * (n : Int)) := by
  unfold m_laws_heldMove
  rw [e, p_heldCellS n k h hk hk']
  simp only [Option.bind_some]
  rw [if_neg (by omega)]
theorem p_heldAtlas (x : TAtlas) (k : Int) (n m : Nat) (e1 : x.Parts = marks_Part k n) (e2 : x.Move.Cells = marks_Cell (k + 3 * (n : Int)) m) (h : n + m ≤ 1048576) (hk : 0 ≤ k) (hk' : k ≤ 1000000000) : m_laws_heldAtlas x k = some (k + 3 * (n : Int) + 2 * (m : Int)) := by
  unfold m_laws_heldAtlas
  rw [e1, p_heldPartS n k (by omega) hk (by omega)]
  simp only [Option.bind_some]
  rw [if_neg (by omega), p_heldMove x.Move _ m e2 (by omega) (by omega) (by omega)]
  simp only [Option.bind_some]
  rw [if_neg (by omega)]
/-- What a law asks of an atlas that the program has handed back. -/
theorem hold_Atlas (x : TAtlas) (h : size_Atlas x ≤ 1048576) : ∃ r : Int × TAtlas, m_laws_markAtlas x 1 = some r ∧ 0 ≤ r.1 ∧ r.2.Parts.length = x.Parts.length ∧ r.2.Move.Cells.length = x.Move.Cells.length ∧
    ∀ e a b c d f g, m_laws_heldAtlas (TAtlas.mk e r.2.Parts (TMove.mk a b c d f g r.2.Move.Cells)) 1 = some r.1 := by
  have hh := h
  unfold size_Atlas size_Move at hh
  refine ⟨_, p_markAtlas x 1 h (by omega) (by omega), by simp only; omega, by simp [marks_Part_len], by simp [marks_Cell_len], fun e a b c d f g => ?_⟩
  exact p_heldAtlas _ 1 _ _ rfl rfl hh (by omega) (by omega)

theorem p_Clone_Part (xs : List TPart) (h : xs.length ≤ 1048576) : m_slices_Clone_Part xs = some xs := by
  unfold m_slices_Clone_Part slices_Clone_Part_j2
  split <;> first | (simp; done) | (simp; omega)
theorem p_Clone_Cell (xs : List TCell) (h : xs.length ≤ 1048576) : m_slices_Clone_Cell xs = some xs := by
  unfold m_slices_Clone_Cell slices_Clone_Cell_j2
  split <;> first | (simp; done) | (simp; omega)
def partHas (k : Int) (p : TPart) : Bool := decide (p.Lo ≤ k) && decide (k < p.Hi)
def partAt (xs : List TPart) (k : Int) : Int := if partsGood xs = true then idxOf (partHas k) xs else -1

theorem p_spec_PartAt (xs : List TPart) (k : Int) (h : xs.length ≤ 1048576) : m_spec_PartAt xs k = some (partAt xs k) := by
  unfold m_spec_PartAt partAt
  cases hg : partsGood xs with
  | true =>
    rw [iter_index xs (partHas k) (by omega) (fun kb i hi => ?_) (fun kb => ?_)]
    · simp
    · unfold spec_PartAt_b5 spec_PartAt_j11 partHas
      simp only [p_spec_PartsOk _ h, hg, idx_nat hi, Option.bind_some, step1 i _ hi (by omega)]
      rw [if_pos (by omega)]
      by_cases c : xs[i].Lo ≤ k <;> simp [c]
    · unfold spec_PartAt_b5
      rw [if_neg (by omega)]; rfl
  | false =>
    show iter _ (FU) 0 = _
    rw [show FU = (FU - 1) + 1 from by unfold FU; omega]
    unfold iter
    unfold spec_PartAt_b5
    simp only [p_spec_PartsOk _ h, hg, Option.bind_some]
    split <;> rfl

theorem idxOf_congr {α : Type} {p q : α → Bool} : ∀ {xs : List α}, (∀ x ∈ xs, p x = q x) → idxOf p xs = idxOf q xs := by
  intro xs H
  unfold idxOf
  have : xs.findIdx? p = xs.findIdx? q := by
    induction xs with
    | nil => rfl
    | cons x xs ih =>
      simp only [List.findIdx?_cons, H x (by simp)]
      rw [ih (fun y hy => H y (by simp [hy]))]
  rw [this]

theorem p_impl_partAt (xs : List TPart) (k : Int) (h : xs.length ≤ 1048576) (hg : partsGood xs = true) : m_impl_partAt xs k = some (partAt xs k) := by
  unfold m_impl_partAt m_slices_IndexFunc_Part__partAt_1 partAt
  rw [iter_index xs (fun p => within k p.Lo (IntKind.wrap .i64 (p.Hi - 1))) (by omega) (fun kb i hi => ?_) (fun kb => ?_)]
  · simp only [Option.bind_some, hg, if_true]
    congr 1
    refine idxOf_congr fun p hp => ?_
    obtain ⟨i, hi, rfl⟩ := List.mem_iff_getElem.1 hp
    obtain ⟨a1, a2, a3, _⟩ := partsGood_at hg hi
    unfold within partHas
    rw [w64 (by omega) (by omega)]
    congr 1
    rw [decide_eq_decide]; omega
  · unfold slices_IndexFunc_Part__partAt_1_b5 m_impl_partAt_1
    simp only [idx_nat hi, p_from, Option.bind_some, step1 i _ hi (by omega)]
    rw [if_pos (by omega)]
  · unfold slices_IndexFunc_Part__partAt_1_b5
    rw [if_neg (by omega)]; rfl

theorem idxOf_idx {α : Type} (p : α → Bool) (xs : List α) (h : ¬ idxOf p xs < 0) : ∃ x, idx xs (idxOf p xs) = some x := by
  unfold idxOf at h ⊢
  cases hf : xs.findIdx? p with
  | none => simp [hf] at h
  | some k =>
    rw [List.findIdx?_eq_some_iff_getElem] at hf
    obtain ⟨hk, _⟩ := hf
    exact ⟨_, idx_nat hk⟩


theorem atlasOk_facts (a : TAtlas) (h1 : a.Parts.length ≤ 1048576) (h2 : a.Move.Cells.length ≤ 1048576) (H : m_impl_AtlasOk a = some true) :
    partsGood a.Parts = true ∧ within a.Epoch 0 1000000 = true ∧ within a.Move.No 0 300000 = true ∧ within a.Move.Stage 0 4 = true ∧ (¬ a.Move.Stage = 0 → rangeOk ⟨a.Move.Lo, a.Move.Hi⟩ = true) := by
  unfold m_impl_AtlasOk m_impl_moveOk at H
  simp only [impl_moveOk_j2, m_impl_Move_keys, p_from, p_impl_PartsOk _ h1, p_impl_RangeOk, p_isGroup, p_cellsIn _ _ h2, Option.bind_some] at H
  generalize within a.Epoch 0 1000000 = w1 at H ⊢
  generalize partsGood a.Parts = w2 at H ⊢
  generalize within a.Move.No 0 300000 = w3 at H ⊢
  generalize within a.Move.Stage 0 4 = w4 at H ⊢
  generalize rangeOk ⟨a.Move.Lo, a.Move.Hi⟩ = w5 at H ⊢
  cases w1 <;> simp at H ⊢
  cases w2 <;> simp at H ⊢
  cases w3 <;> simp at H ⊢
  cases w4 <;> simp at H ⊢
  intro g0
  simp only [g0, if_false] at H
  by_cases g1 : 1 ≤ a.Move.No
  · cases w5
    · simp [g1] at H
    · rfl
  · simp [g1] at H
def atlas0 : TAtlas := TAtlas.mk 0 [] (TMove.mk 0 0 0 0 0 0 [])
theorem p_l15Copy (a : TAtlas) (h1 : a.Parts.length ≤ 1048576) (h2 : a.Move.Cells.length ≤ 1048576) : m_spec_l15Copy a = some a := by
  unfold m_spec_l15Copy
  rw [if_pos (by omega), if_pos (by omega)]
theorem p_copyAtlas (a : TAtlas) (h1 : a.Parts.length ≤ 1048576) (h2 : a.Move.Cells.length ≤ 1048576) : m_impl_copyAtlas a = some a := by
  simp [m_impl_copyAtlas, p_Clone_Part _ h1, p_Clone_Cell _ h2]
/-- Both ways of an operation on an atlas answer alike, and what they answer is no greater. -/
def AtlasAns (a : TAtlas) (n : Nat) (x y : Option (TAtlas × Int)) : Prop := ∃ r : TAtlas × Int, x = some r ∧ y = some r ∧ size_Atlas r.1 ≤ size_Atlas a + n
theorem AtlasAns.zero {a : TAtlas} {n : Nat} {z : Int} : AtlasAns a n (some (atlas0, z)) (some (atlas0, z)) := ⟨_, rfl, rfl, by simp [size_Atlas, size_Move, atlas0]⟩
theorem AtlasAns.same {a : TAtlas} {n : Nat} {z : Int} : AtlasAns a n (some (a, z)) (some (a, z)) := ⟨_, rfl, rfl, by simp⟩
def moved (a : TAtlas) (p : TPart) : TPart := if a.Move.Lo ≤ p.Lo ∧ p.Hi ≤ a.Move.Hi then TPart.mk p.Lo p.Hi a.Move.To else p
theorem p_eqAtlas2 (x y : TAtlas) (h1 : x.Parts.length ≤ 1048576) (h2 : x.Move.Cells.length ≤ 1048576) : m_laws_eqAtlas x y = some (decide (x = y)) := by
  unfold m_laws_eqAtlas
  simp only [p_eqPartS _ _ h1, p_eqMove _ _ (show size_Move x.Move ≤ 1048576 by unfold size_Move; omega), Option.bind_some]
  cases x; cases y
  simp only [TAtlas.mk.injEq]
  repeat' split
  all_goals simp_all
theorem hold_Atlas2 (x : TAtlas) (h1 : x.Parts.length ≤ 1048576) (h2 : x.Move.Cells.length ≤ 1048576) : ∃ r : Int × TAtlas, m_laws_markAtlas x 1 = some r ∧ 0 ≤ r.1 ∧ r.2.Parts.length = x.Parts.length ∧ r.2.Move.Cells.length = x.Move.Cells.length ∧
    ∀ e a b c d f g, m_laws_heldAtlas (TAtlas.mk e r.2.Parts (TMove.mk a b c d f g r.2.Move.Cells)) 1 = some r.1 := by
  have e1 : m_laws_markAtlas x 1 = some (1 + 3 * (x.Parts.length : Int) + 2 * (x.Move.Cells.length : Int), TAtlas.mk x.Epoch (marks_Part 1 x.Parts.length) (TMove.mk x.Move.No x.Move.Stage x.Move.Lo x.Move.Hi x.Move.From x.Move.To (marks_Cell (1 + 3 * (x.Parts.length : Int)) x.Move.Cells.length))) := by
    unfold m_laws_markAtlas
    simp [p_markPartS x.Parts 1 (by omega) (by omega) (by omega), marks_Part_len, p_markMove x.Move (1 + 3 * (x.Parts.length : Int)) (by omega) (by omega) (by omega), marks_Cell_len]
  refine ⟨_, e1, by simp only; omega, by simp [marks_Part_len], by simp [marks_Cell_len], fun e a b c d f g => ?_⟩
  unfold m_laws_heldAtlas
  simp only
  rw [p_heldPartS _ 1 h1 (by omega) (by omega)]
  simp only [Option.bind_some]
  rw [if_neg (by omega), p_heldMove _ (1 + 3 * (x.Parts.length : Int)) x.Move.Cells.length rfl (by omega) (by omega) (by omega)]
  simp only [Option.bind_some]
  rw [if_neg (by omega)]
theorem p_impl_PartAt (xs : List TPart) (k : Int) (h : xs.length ≤ 1048576) : m_impl_PartAt xs k = some (partAt xs k) := by
  unfold m_impl_PartAt
  simp only [p_impl_PartsOk _ h, Option.bind_some]
  cases hg : partsGood xs with
  | true => simp only [if_true, p_impl_partAt _ _ h hg, Option.bind_some]
  | false => unfold partAt; simp [hg]
theorem partAt_nat (xs : List TPart) (k : Int) (h : ¬ partAt xs k < 0) : ∃ n : Nat, n < xs.length ∧ partAt xs k = (n : Int) ∧ partsGood xs = true := by
  unfold partAt at h ⊢
  cases hg : partsGood xs with
  | false => simp [hg] at h
  | true =>
    simp only [hg, if_true] at h ⊢
    unfold idxOf at h ⊢
    cases hf : xs.findIdx? (partHas k) with
    | none => simp [hf] at h
    | some n =>
      rw [List.findIdx?_eq_some_iff_getElem] at hf
      exact ⟨n, hf.1, rfl, trivial⟩
/-- A part cut in two at k. -/
def cutIn (xs : List TPart) (v : Nat) (k : Int) : List TPart := match xs[v]? with
  | some p => xs.take v ++ ([TPart.mk p.Lo k p.Owner, TPart.mk k p.Hi p.Owner] ++ xs.drop (v + 1))
  | none => []
def cutF (xs : List TPart) (v : Nat) (k : Int) : Nat → List TPart
  | 0 => []
  | i + 1 => cutF xs v k i ++ match xs[i]? with
    | some p => if i = v then [TPart.mk p.Lo k p.Owner, TPart.mk k p.Hi p.Owner] else [p]
    | none => []
theorem cutF_len (xs : List TPart) (v : Nat) (k : Int) : ∀ i, (cutF xs v k i).length ≤ 2 * i
  | 0 => by simp [cutF]
  | i + 1 => by
    have ih := cutF_len xs v k i
    simp only [cutF, List.length_append]
    cases xs[i]? with
    | none => simp; omega
    | some p => simp only; split <;> simp <;> omega
theorem cutF_lo (xs : List TPart) (v : Nat) (k : Int) : ∀ i, i ≤ v → i ≤ xs.length → cutF xs v k i = xs.take i
  | 0, _, _ => by simp [cutF]
  | i + 1, h1, h2 => by
    have hi : i < xs.length := by omega
    rw [cutF, cutF_lo xs v k i (by omega) (by omega), List.getElem?_eq_getElem hi]
    simp only
    rw [if_neg (by omega), List.take_succ_eq_append_getElem hi]
theorem cutF_hi (xs : List TPart) (v : Nat) (k : Int) (hv : v < xs.length) : ∀ j, v + 1 + j ≤ xs.length → cutF xs v k (v + 1 + j) = xs.take v ++ ([TPart.mk xs[v].Lo k xs[v].Owner, TPart.mk k xs[v].Hi xs[v].Owner] ++ (xs.drop (v + 1)).take j)
  | 0, _ => by
    rw [Nat.add_zero, cutF, cutF_lo xs v k v (Nat.le_refl _) (by omega), List.getElem?_eq_getElem hv]
    simp
  | j + 1, h => by
    have hi : v + 1 + j < xs.length := by omega
    rw [show v + 1 + (j + 1) = (v + 1 + j) + 1 by omega, cutF, cutF_hi xs v k hv j (by omega), List.getElem?_eq_getElem hi]
    simp only
    rw [if_neg (by omega)]
    have hd : j < (xs.drop (v + 1)).length := by simp; omega
    rw [List.take_succ_eq_append_getElem hd, List.getElem_drop]
    simp
theorem cutF_all (xs : List TPart) (v : Nat) (k : Int) (hv : v < xs.length) : cutF xs v k xs.length = cutIn xs v k := by
  have := cutF_hi xs v k hv (xs.length - (v + 1)) (by omega)
  rw [show v + 1 + (xs.length - (v + 1)) = xs.length by omega] at this
  rw [this]
  unfold cutIn
  rw [List.getElem?_eq_getElem hv]
  simp only
  rw [show (xs.drop (v + 1)).take (xs.length - (v + 1)) = xs.drop (v + 1) from List.take_of_length_le (by rw [List.length_drop]; exact Nat.le_refl _)]
theorem cutIn_len (xs : List TPart) (v : Nat) (k : Int) : (cutIn xs v k).length ≤ xs.length + 1 := by
  unfold cutIn
  cases h : xs[v]? with
  | none => simp
  | some p =>
    have := (List.getElem?_eq_some_iff.1 h).1
    simp; omega
def splitAt (xs : List TPart) (k : Int) : List TPart × Bool :=
  if partAt xs k < 0 then ([], false) else
  match xs[(partAt xs k).toNat]? with
  | some p => if p.Lo = k then ([], false) else if (xs.length : Int) = 16 then ([], false) else (cutIn xs (partAt xs k).toNat k, true)
  | none => ([], false)
theorem p_spec_SplitAt (xs : List TPart) (k : Int) (h : xs.length ≤ 1048576) : m_spec_SplitAt xs k = some (splitAt xs k) := by
  unfold m_spec_SplitAt splitAt
  simp only [p_spec_PartAt _ _ h, Option.bind_some]
  by_cases c1 : partAt xs k < 0
  · rw [if_pos c1, if_pos c1]; rfl
  · rw [if_neg c1, if_neg c1]
    obtain ⟨v, hv, e, _⟩ := partAt_nat xs k c1
    simp only [e, Int.toNat_natCast, List.getElem?_eq_getElem hv, idx_nat hv, Option.bind_some]
    by_cases c2 : xs[v].Lo = k
    · rw [if_pos c2, if_pos c2]; rfl
    · rw [if_neg c2, if_neg c2]
      by_cases c3 : (xs.length : Int) = 16
      · simp only [c3, decide_true, if_true]; rfl
      · simp only [c3, decide_false, if_false]
        unfold spec_SplitAt_j5
        rw [if_neg (by simp)]
        refine iter_all (fun i => (cutF xs v k i, (i : Int))) _ xs.length (by omega) (fun kb i hi => ?_) (fun kb => ?_) rfl
        · have hl := cutF_len xs v k i
          unfold spec_SplitAt_b10 spec_SplitAt_j15
          simp only [idx_nat hi, Option.bind_some, step1 i _ hi (by omega), cutF, List.getElem?_eq_getElem hi]
          rw [if_pos (by omega)]
          by_cases c : i = v
          · subst c
            simp only [if_true]
            rw [if_pos (by simp; omega), if_pos (by simp; omega)]
            simp
          · rw [if_neg (by omega), if_neg c, if_pos (by simp; omega)]
        · unfold spec_SplitAt_b10 spec_SplitAt_j8
          rw [if_neg (by simp)]
          simp only [cutF_all xs v k hv]
theorem p_impl_SplitAt (xs : List TPart) (k : Int) (h : xs.length ≤ 1048576) : m_impl_SplitAt xs k = some (splitAt xs k) := by
  unfold m_impl_SplitAt splitAt
  simp only [p_impl_PartAt _ _ h, Option.bind_some]
  by_cases c1 : partAt xs k < 0
  · rw [if_pos c1, if_pos c1]; rfl
  · rw [if_neg c1, if_neg c1]
    obtain ⟨v, hv, e, _⟩ := partAt_nat xs k c1
    simp only [e, Int.toNat_natCast, List.getElem?_eq_getElem hv, idx_nat hv, Option.bind_some]
    by_cases c2 : xs[v].Lo = k
    · rw [if_pos c2, if_pos c2]; rfl
    · rw [if_neg c2, if_neg c2]
      by_cases c3 : (xs.length : Int) = 16
      · simp only [c3, decide_true, if_true]; rfl
      · simp only [c3, decide_false, if_false]
        unfold impl_SplitAt_j5 m_slices_Insert_Part
        rw [if_neg (by simp)]
        simp only [p_Clone_Part _ h, Option.bind_some, idx_nat hv, step1 v _ hv (by omega)]
        rw [if_pos ⟨by omega, by omega, rfl, by omega⟩]
        simp only [Option.bind_some, Int.toNat_natCast]
        rw [List.take_succ_eq_append_getElem hv]
        have hr : xs.take v ++ [xs[v]] ++ ([TPart.mk k xs[v].Hi xs[v].Owner] ++ xs.drop (v + 1)) = xs.take v ++ (xs[v] :: ([TPart.mk k xs[v].Hi xs[v].Owner] ++ xs.drop (v + 1))) := by rw [List.append_assoc]; rfl
        have hl : (xs.take v).length = v := by simp; omega
        have hx : idx (xs.take v ++ (xs[v] :: ([TPart.mk k xs[v].Hi xs[v].Owner] ++ xs.drop (v + 1)))) (v : Int) = some xs[v] := by
          have hi : v < (xs.take v ++ (xs[v] :: ([TPart.mk k xs[v].Hi xs[v].Owner] ++ xs.drop (v + 1)))).length := by simp; omega
          rw [idx_nat hi, List.getElem_append_right (by omega)]
          simp [hl]
        rw [hr, hx]
        simp only [Option.bind_some]
        congr 2
        rw [List.set_append_right _ _ (by omega), hl, Nat.sub_self]
        unfold cutIn
        rw [List.getElem?_eq_getElem hv]
        simp
theorem p_AtlasSplit (a : TAtlas) (k : Int) (h : size_Atlas a ≤ 1048576) : AtlasAns a 1 (m_spec_AtlasSplit a k) (m_impl_AtlasSplit a k) ∧ ∀ r, m_impl_AtlasSplit a k = some r → r.1.Parts.length ≤ 1048576 ∧ r.1.Move.Cells.length ≤ 1048576 := by
  have hh := h
  unfold size_Atlas size_Move at hh
  have h1 : a.Parts.length ≤ 1048576 := by omega
  have h2 : a.Move.Cells.length ≤ 1048576 := by omega
  obtain ⟨b, e1, e2, _⟩ := p_AtlasOk a h1 h2
  unfold m_spec_AtlasSplit m_impl_AtlasSplit
  simp only [e1, e2, p_l15Copy a h1 h2, p_copyAtlas a h1 h2, Option.bind_some]
  cases b with
  | false => exact ⟨AtlasAns.zero, fun r hr => by cases hr; simp⟩
  | true =>
    obtain ⟨hg, _, _, _, _⟩ := atlasOk_facts a h1 h2 e2
    simp only [if_true, p_spec_SplitAt _ k h1, p_impl_SplitAt _ k h1, Option.bind_some]
    have hs : (splitAt a.Parts k).1.length ≤ a.Parts.length + 1 := by
      unfold splitAt
      split
      · simp
      · split
        · split
          · simp
          · split
            · simp
            · exact cutIn_len _ _ _
        · simp
    have hp : a.Parts.length ≤ 16 := by
      unfold partsGood within at hg
      simp only [Bool.and_eq_true, decide_eq_true_eq] at hg
      omega
    generalize splitAt a.Parts k = sp at hs
    obtain ⟨ps, ok⟩ := sp
    simp only at hs
    unfold spec_AtlasSplit_j10 impl_AtlasSplit_j10
    cases ok with
    | false =>
      simp only [Bool.false_eq_true, if_false, if_true]
      exact ⟨AtlasAns.same, fun r hr => by cases hr; exact ⟨h1, h2⟩⟩
    | true =>
      simp only [if_true]
      by_cases c : a.Epoch = 1000000
      · simp only [c, decide_true, if_true]
        exact ⟨AtlasAns.same, fun r hr => by cases hr; exact ⟨h1, h2⟩⟩
      · simp only [c, decide_false, Bool.false_eq_true, if_false]
        refine ⟨⟨_, rfl, rfl, ?_⟩, fun r hr => by cases hr; exact ⟨by simp only; omega, h2⟩⟩
        simp [size_Atlas, size_Move]
        omega

theorem p_FnExactAtlasSplit (a1 : TAtlas) (a2 : Int) (h : ok_TAtlas a1) (h2 : inK .i64 a2) : m_laws_FnExactAtlasSplit a1 a2 = some true := by
  unfold m_laws_FnExactAtlasSplit
  rw [p_szAtlas a1 h _ (by omega) (by omega)]
  simp only [Option.bind_some]
  split
  · rfl
  · rename_i h1
    have hl : size_Atlas a1 ≤ 1048576 := by omega
    obtain ⟨⟨r, e1, e2, _⟩, hb⟩ := p_AtlasSplit a1 a2 hl
    obtain ⟨b1, b2⟩ := hb r e2
    obtain ⟨m, g1, g2, g3, g4, g5⟩ := hold_Atlas2 r.1 b1 b2
    obtain ⟨m', k1, k2, k3, k4, _⟩ := hold_Atlas a1 hl
    have q1 : ¬ m.1 < 0 := by omega
    have q2 : ¬ m'.1 < 0 := by omega
    simp [p_toAtlas _ hl, e1, e2, p_eqAtlas2 _ _ b1 b2, p_eqAtlas _ _ hl, k1, k3, k4, q2, g1, g3, g4, g5, q1, laws_FnExactAtlasSplit_j14, laws_FnExactAtlasSplit_j26, laws_FnExactAtlasSplit_j41]

end Go.AW
