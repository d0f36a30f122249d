/- Plain laws: what the plain functions answer. Conditions: each theorem's own. -/
import Derived.Test.YtpnkbfanecbmgaaMClientOk
set_option linter.unusedVariables false
set_option linter.unusedSimpArgs false
set_option maxRecDepth 100000
namespace Go.AW

theorem w64 {n : Int} (h1 : -9223372036854775808 ≤ n) (h2 : n < 9223372036854775808) : IntKind.wrap .i64 n = n := by
  rw [IntKind.wrap_i64]; omega

theorem inK64 {n : Int} (h : inK .i64 n) : -9223372036854775808 ≤ n ∧ n < 9223372036854775808 := by
  unfold inK IntKind.min IntKind.max at h
  simp only [IntKind.bits, IntKind.signed] at h
  simp at h
  omega

theorem idx_nat {α : Type} {xs : List α} {i : Nat} (h : i < xs.length) : idx xs (i : Int) = some xs[i] := by
  unfold idx
  rw [if_pos (by omega)]
  simp [h]

theorem idx_ofNat {α : Type} (xs : List α) (i : Nat) : idx xs (i : Int) = xs[i]? := by
  unfold idx
  rw [if_pos (by omega)]
  simp

/-- Rounds that go from one state to the next, or end the whole. -/
theorem iter_ex {S R : Type} {f : (S → Option R) → S → Option R} (st : Nat → S) (stop : Nat → Option (Option R)) (k : Option R) (n : Nat)
    (hs : ∀ kb i, i < n → (∀ j, j < i → stop j = none) → f kb (st i) = match stop i with | some r => r | none => kb (st (i + 1))) (he : ∀ kb, (∀ j, j < n → stop j = none) → f kb (st n) = k) :
    ∀ (m i : Nat), i ≤ n → (∀ j, j < i → stop j = none) → n - i < m → iter f m (st i) = match ((List.range n).drop i).findSome? stop with | some r => r | none => k
  | 0, i, _, _, h => by omega
  | m + 1, i, hi, hp, h => by
    unfold iter
    by_cases e : i = n
    · subst e
      rw [he _ hp]
      simp [List.drop_eq_nil_of_le]
    · have hlt : i < n := by omega
      rw [hs _ i hlt hp, List.drop_eq_getElem_cons (by simpa using hlt)]
      simp only [List.getElem_range, List.findSome?_cons]
      cases hq : stop i with
      | some r => rfl
      | none => exact iter_ex st stop k n hs he m (i + 1) (by omega) (fun j hj => by
          by_cases e' : j = i
          · subst e'; exact hq
          · exact hp j (by omega)) (by omega)

/-- A loop over 0 .. n-1 that may end early. -/
theorem iter_stopH {S R : Type} {f : (S → Option R) → S → Option R} (st : Nat → S) (stop : Nat → Option (Option R)) (k : Option R) (n : Nat) (hn : n ≤ 1152921504606846976)
    (hs : ∀ kb i, i < n → (∀ j, j < i → stop j = none) → f kb (st i) = match stop i with | some r => r | none => kb (st (i + 1))) (he : ∀ kb, (∀ j, j < n → stop j = none) → f kb (st n) = k) {s0 : S} (h0 : s0 = st 0) :
    iter f FU s0 = match (List.range n).findSome? stop with | some r => r | none => k := by
  subst h0
  have := iter_ex st stop k n hs he FU 0 (by omega) (fun j hj => by omega) (by unfold FU; omega)
  simpa using this

theorem iter_stop {S R : Type} {f : (S → Option R) → S → Option R} (st : Nat → S) (stop : Nat → Option (Option R)) (k : Option R) (n : Nat) (hn : n ≤ 1152921504606846976)
    (hs : ∀ kb i, i < n → f kb (st i) = match stop i with | some r => r | none => kb (st (i + 1))) (he : ∀ kb, f kb (st n) = k) {s0 : S} (h0 : s0 = st 0) :
    iter f FU s0 = match (List.range n).findSome? stop with | some r => r | none => k :=
  iter_stopH st stop k n hn (fun kb i hi _ => hs kb i hi) (fun kb _ => he kb) h0

/-- A loop over 0 .. n-1 that does not end early. -/
theorem iter_all {S R : Type} {f : (S → Option R) → S → Option R} (st : Nat → S) (k : Option R) (n : Nat) (hn : n ≤ 1152921504606846976)
    (hs : ∀ kb i, i < n → f kb (st i) = kb (st (i + 1))) (he : ∀ kb, f kb (st n) = k) {s0 : S} (h0 : s0 = st 0) : iter f FU s0 = k := by
  rw [iter_stop st (fun _ => none) k n hn (fun kb i hi => hs kb i hi) he h0]
  have : (List.range n).findSome? (fun _ => (none : Option (Option R))) = none := by
    rw [List.findSome?_eq_none_iff]; intro x _; rfl
  rw [this]

/-- A loop that ends with r at the first place that is not good. -/
theorem iter_goodH {S R : Type} {f : (S → Option R) → S → Option R} (st : Nat → S) (good : Nat → Bool) (r k : Option R) (n : Nat) (hn : n ≤ 1152921504606846976)
    (hs : ∀ kb i, i < n → (∀ j, j < i → good j = true) → f kb (st i) = if good i = true then kb (st (i + 1)) else r) (he : ∀ kb, (∀ j, j < n → good j = true) → f kb (st n) = k) {s0 : S} (h0 : s0 = st 0) :
    iter f FU s0 = if (List.range n).all good = true then k else r := by
  have tr : ∀ j, (if good j = true then (none : Option (Option R)) else some r) = none → good j = true := fun j h => by
    split at h
    · assumption
    · cases h
  rw [iter_stopH st (fun i => if good i = true then none else some r) k n hn (fun kb i hi hp => by rw [hs kb i hi (fun j hj => tr j (hp j hj))]; split <;> rfl) (fun kb hp => he kb (fun j hj => tr j (hp j hj))) h0]
  by_cases e : (List.range n).all good = true
  · have : (List.range n).findSome? (fun i => if good i = true then none else some r) = none := by
      rw [List.findSome?_eq_none_iff]
      intro x hx
      rw [List.all_eq_true] at e
      simp [e x hx]
    rw [this, if_pos e]
  · rw [if_neg e]
    cases h : (List.range n).findSome? (fun i => if good i = true then none else some r) with
    | none =>
      exfalso
      apply e
      rw [List.all_eq_true]
      intro x hx
      rw [List.findSome?_eq_none_iff] at h
      exact tr x (h x hx)
    | some q =>
      obtain ⟨x, hx, hq⟩ := List.exists_of_findSome?_eq_some h
      split at hq
      · cases hq
      · cases hq; rfl

theorem iter_good {S R : Type} {f : (S → Option R) → S → Option R} (st : Nat → S) (good : Nat → Bool) (r k : Option R) (n : Nat) (hn : n ≤ 1152921504606846976)
    (hs : ∀ kb i, i < n → f kb (st i) = if good i = true then kb (st (i + 1)) else r) (he : ∀ kb, f kb (st n) = k) {s0 : S} (h0 : s0 = st 0) :
    iter f FU s0 = if (List.range n).all good = true then k else r :=
  iter_goodH st good r k n hn (fun kb i hi _ => hs kb i hi) (fun kb _ => he kb) h0

/-- To copy a list into zeros, element by element. -/
theorem iter_copy {α R : Type} {f : (List α × Int → Option R) → List α × Int → Option R} (xs : List α) (z : α) (k : List α → Option R) (hn : xs.length ≤ 2147483648)
    (hs : ∀ kb (ys : List α) (i : Nat) (hi : i < xs.length), ys.length = xs.length → f kb (ys, (i : Int)) = kb (ys.set i xs[i], ((i + 1 : Nat) : Int)))
    (he : ∀ kb (ys : List α), f kb (ys, (xs.length : Int)) = k ys) : iter f FU (List.replicate xs.length z, 0) = k xs := by
  refine iter_all (fun i => (xs.take i ++ List.replicate (xs.length - i) z, (i : Int))) _ xs.length (by omega) (fun kb i hi => ?_) (fun kb => ?_) (by simp)
  · rw [hs kb _ i hi (by simp; omega)]
    congr 2
    have : xs.length - i = (xs.length - (i + 1)) + 1 := by omega
    have hk : min i xs.length = i := by omega
    show _ = (List.take (i + 1) xs ++ _)
    rw [this, List.replicate_succ, List.set_append_right _ _ (by simp; omega), show List.take (i + 1) xs = List.take i xs ++ [xs[i]] from List.take_succ_eq_append_getElem hi]
    simp only [List.length_take, hk, Nat.sub_self, List.set_cons_zero]
    rw [List.append_assoc]
    rfl
  · rw [he]
    simp

theorem all_range_eq {α : Type} [DecidableEq α] {xs ys : List α} (h : xs.length = ys.length) : (List.range xs.length).all (fun i => decide (xs[i]? = ys[i]?)) = decide (xs = ys) := by
  by_cases e : xs = ys
  · subst e; simp
  · rw [decide_eq_false e, List.all_eq_false]
    apply Classical.byContradiction
    intro hc
    apply e
    apply List.ext_getElem? 
    intro i
    by_cases hi : i < xs.length
    · apply Classical.byContradiction
      intro hne
      exact hc ⟨i, List.mem_range.2 hi, by simpa using hne⟩
    · rw [List.getElem?_eq_none (by omega), List.getElem?_eq_none (by omega)]

theorem step1 (i : Nat) (n : Nat) (h : i < n) (hn : n ≤ 1152921504606846976) : IntKind.wrap .i64 ((i : Int) + 1) = ((i + 1 : Nat) : Int) := by
  rw [w64 (by omega) (by omega)]; omega

/-- The first place where p holds, or -1. -/
def idxOf {α : Type} (p : α → Bool) (xs : List α) : Int := match xs.findIdx? p with
  | some k => (k : Int)
  | none => -1

theorem idxOf_nonneg {α : Type} (p : α → Bool) (xs : List α) : decide (0 ≤ idxOf p xs) = xs.any p := by
  unfold idxOf
  cases h : xs.findIdx? p with
  | none =>
    rw [List.findIdx?_eq_none_iff] at h
    have : xs.any p = false := by rw [List.any_eq_false]; intro x hx; simp [h x hx]
    simp [this]
  | some k =>
    rw [List.findIdx?_eq_some_iff_getElem] at h
    obtain ⟨hk, hp, _⟩ := h
    have : xs.any p = true := List.any_eq_true.2 ⟨xs[k], List.getElem_mem hk, hp⟩
    simp [this]

theorem iter_index {α : Type} (xs : List α) (p : α → Bool) {f : (Int → Option Int) → Int → Option Int} (hn : xs.length ≤ 1152921504606846976)
    (hs : ∀ kb (i : Nat) (hi : i < xs.length), f kb (i : Int) = if p xs[i] = true then some (i : Int) else kb ((i + 1 : Nat) : Int)) (he : ∀ kb, f kb (xs.length : Int) = some (-1)) : iter f FU 0 = some (idxOf p xs) := by
  rw [iter_stop (s0 := (0 : Int)) (fun i => (i : Int)) (fun i : Nat => (xs[i]?).bind fun x => if p x = true then some (some (i : Int)) else none) (some (-1)) xs.length hn (fun kb i hi => ?_) (fun kb => he kb) rfl]
  · have key : ∀ (ys : List α) (o : Nat), (List.range ys.length).findSome? (fun i : Nat => (ys[i]?).bind fun x => if p x = true then some (some ((o + i : Nat) : Int)) else none) = (ys.findIdx? p).map fun k => some ((o + k : Nat) : Int) := by
      intro ys
      induction ys with
      | nil => intro o; rfl
      | cons y ys ih =>
        intro o
        rw [List.length_cons, List.range_succ_eq_map, List.findSome?_cons, List.findSome?_map, List.findIdx?_cons]
        simp only [List.getElem?_cons_zero, Option.bind_some]
        by_cases e : p y = true
        · simp [e]
        · simp only [e, if_false, Function.comp_def, List.getElem?_cons_succ, Bool.false_eq_true]
          have := ih (o + 1)
          rw [show (fun i : Nat => (ys[i]?).bind fun x => if p x = true then some (some ((o + (i + 1) : Nat) : Int)) else none) = fun i : Nat => (ys[i]?).bind fun x => if p x = true then some (some ((o + 1 + i : Nat) : Int)) else none from by funext i; rw [show o + (i + 1) = o + 1 + i by omega]]
          rw [this]
          cases ys.findIdx? p <;> simp; omega
    have := key xs 0
    simp only [Nat.zero_add] at this
    rw [this]
    unfold idxOf
    cases xs.findIdx? p <;> rfl
  · rw [hs kb i hi, List.getElem?_eq_getElem hi]
    simp only [Option.bind_some]
    by_cases e : p xs[i] = true <;> simp [e]

theorem all_range {α : Type} (xs : List α) (p : α → Bool) : ((List.range xs.length).all fun i => ((xs[i]?).map p).getD true) = xs.all p := by
  rw [Bool.eq_iff_iff, List.all_eq_true, List.all_eq_true]
  constructor
  · intro H x hx
    obtain ⟨i, hi, rfl⟩ := List.mem_iff_getElem.1 hx
    have := H i (List.mem_range.2 hi)
    rw [List.getElem?_eq_getElem hi] at this
    exact this
  · intro H i hi
    have hi := List.mem_range.1 hi
    rw [List.getElem?_eq_getElem hi]
    exact H _ (List.getElem_mem hi)

/-- A loop that ends with r at the first element for which p holds, and with k if there is none. -/
theorem iter_any {α R : Type} (xs : List α) (p : α → Bool) (r k : Option R) {f : (Int → Option R) → Int → Option R} (hn : xs.length ≤ 1152921504606846976)
    (hs : ∀ kb (i : Nat) (hi : i < xs.length), f kb (i : Int) = if p xs[i] = true then r else kb ((i + 1 : Nat) : Int)) (he : ∀ kb, f kb (xs.length : Int) = k) : iter f FU 0 = if xs.any p = true then r else k := by
  rw [iter_good (s0 := (0 : Int)) (fun i => (i : Int)) (fun i => ((xs[i]?).map fun x => !p x).getD true) r k xs.length hn (fun kb i hi => ?_) (fun kb => he kb) rfl, all_range xs fun x => !p x]
  · cases h : xs.any p with
    | true =>
      have : (xs.all fun x => !p x) = false := by
        rw [List.all_eq_false]; obtain ⟨x, hx, hp⟩ := List.any_eq_true.1 h; exact ⟨x, hx, by simp [hp]⟩
      simp [this]
    | false =>
      have : (xs.all fun x => !p x) = true := by
        rw [List.all_eq_true]; intro x hx; rw [List.any_eq_false] at h; simp [h x hx]
      simp [this]
  · rw [hs kb i hi, List.getElem?_eq_getElem hi]
    cases h : p xs[i] <;> simp [h]

/-- A loop over all elements that ends with r at the first for which p does not hold. -/
theorem iter_every {α R : Type} (xs : List α) (p : α → Bool) (r k : Option R) {f : (Int → Option R) → Int → Option R} (hn : xs.length ≤ 1152921504606846976)
    (hs : ∀ kb (i : Nat) (hi : i < xs.length), f kb (i : Int) = if p xs[i] = true then kb ((i + 1 : Nat) : Int) else r) (he : ∀ kb, f kb (xs.length : Int) = k) : iter f FU 0 = if xs.all p = true then k else r := by
  rw [iter_good (s0 := (0 : Int)) (fun i => (i : Int)) (fun i => ((xs[i]?).map p).getD true) r k xs.length hn (fun kb i hi => ?_) (fun kb => he kb) rfl, all_range xs p]
  rw [hs kb i hi, List.getElem?_eq_getElem hi]
  rfl

/-- The sum of the elements' numbers. -/
def sumB {α : Type} (f : α → Nat) : List α → Nat
  | [] => 0
  | x :: xs => f x + sumB f xs
theorem sumB_append {α : Type} (f : α → Nat) : ∀ (xs ys : List α), sumB f (xs ++ ys) = sumB f xs + sumB f ys
  | [], ys => by simp [sumB]
  | x :: xs, ys => by simp [sumB, sumB_append f xs ys]; omega
theorem sumB_step {α : Type} (f : α → Nat) {xs : List α} {i : Nat} (hi : i < xs.length) : sumB f (xs.take (i + 1)) = sumB f (xs.take i) + f xs[i] := by
  rw [List.take_succ_eq_append_getElem hi, sumB_append]
  simp [sumB]
theorem sumB_take {α : Type} (f : α → Nat) (xs : List α) (i : Nat) : sumB f (xs.take i) ≤ sumB f xs := by
  have := sumB_append f (xs.take i) (xs.drop i)
  rw [List.take_append_drop] at this
  omega
theorem sumB_mem {α : Type} (f : α → Nat) {xs : List α} {i : Nat} (hi : i < xs.length) : f xs[i] ≤ sumB f xs := by
  have h1 := sumB_step f hi
  have h2 := sumB_take f xs (i + 1)
  omega
theorem cut_take {α : Type} {xs : List α} {i : Nat} (h : i ≤ xs.length) : cut xs 0 (i : Int) = some (xs.take i) := by
  unfold cut
  rw [if_pos ⟨by omega, by omega, by omega⟩]
  simp
theorem cnt_step {α : Type} (p : α → Bool) {xs : List α} {i : Nat} (hi : i < xs.length) : (xs.take (i + 1)).countP p = (xs.take i).countP p + if p xs[i] = true then 1 else 0 := by
  rw [List.take_succ_eq_append_getElem hi, List.countP_append]
  simp [List.countP_cons]
theorem cnt_le {α : Type} (p : α → Bool) (xs : List α) (i : Nat) : (xs.take i).countP p ≤ xs.length := by
  have h1 := List.countP_le_length (p := p) (l := xs.take i)
  have h2 : (xs.take i).length ≤ xs.length := by simp; omega
  omega

def within (z lo hi : Int) : Bool := decide (lo ≤ z) && decide (z ≤ hi)

theorem p_l1In (z lo hi : Int) : m_spec_l1In z lo hi = some (within z lo hi) := by
  unfold m_spec_l1In within; by_cases h : lo ≤ z <;> simp [h]
theorem p_from (z lo hi : Int) : m_impl_from z lo hi = some (within z lo hi) := by
  unfold m_impl_from within; by_cases h : lo ≤ z <;> simp [h]
theorem p_l10Key (z : Int) : m_spec_l10Key z = some (within z 0 999) := by simp [m_spec_l10Key, p_l1In]
theorem p_isKey (z : Int) : m_impl_isKey z = some (within z 0 999) := by simp [m_impl_isKey, p_from]
theorem p_l1Whole (z : Int) : m_spec_l1Whole z = some (within z 0 1000000000) := by simp [m_spec_l1Whole, p_l1In]
theorem p_isWhole (z : Int) : m_impl_isWhole z = some (within z 0 1000000000) := by simp [m_impl_isWhole, p_from]

theorem p_l12Tx (z : Int) : m_spec_l12Tx z = some (within z 1 60) := by simp [m_spec_l12Tx, p_l1In]
theorem p_isTx (z : Int) : m_impl_isTx z = some (within z 1 60) := by simp [m_impl_isTx, p_from]

def rangeOk (a : TRange) : Bool := decide (0 ≤ a.Lo) && decide (a.Lo < a.Hi) && decide (a.Hi ≤ 1000)
theorem p_spec_RangeOk (a : TRange) : m_spec_RangeOk a = some (rangeOk a) := by
  unfold m_spec_RangeOk rangeOk; by_cases h : 0 ≤ a.Lo <;> by_cases h' : a.Lo < a.Hi <;> simp [h, h']
theorem p_impl_RangeOk (a : TRange) : m_impl_RangeOk a = some (rangeOk a) := by
  unfold m_impl_RangeOk rangeOk; by_cases h : 0 ≤ a.Lo <;> by_cases h' : a.Lo < a.Hi <;> simp [h, h']
theorem p_l16RangeOk (lo hi : Int) : m_spec_l16RangeOk lo hi = some (rangeOk ⟨lo, hi⟩) := by
  unfold m_spec_l16RangeOk; simp [p_spec_RangeOk, rangeOk]
theorem p_l15Group (z : Int) : m_spec_l15Group z = some (within z 0 3) := by simp [m_spec_l15Group, p_l1In]
theorem p_isGroup (z : Int) : m_impl_isGroup z = some (within z 0 3) := by simp [m_impl_isGroup, p_from]

/-- Where the next part has to begin. -/
def hiAt (xs : List TPart) : Nat → Int
  | 0 => 0
  | i + 1 => match xs[i]? with
    | some p => p.Hi
    | none => 0
theorem hiAt_succ {xs : List TPart} {i : Nat} (h : i < xs.length) : hiAt xs (i + 1) = xs[i].Hi := by
  simp only [hiAt, List.getElem?_eq_getElem h]
def partGood (xs : List TPart) (i : Nat) : Bool := match xs[i]? with
  | some p => decide (p.Lo = hiAt xs i) && decide (p.Lo < p.Hi) && within p.Owner 0 3
  | none => true
def partsGood (xs : List TPart) : Bool := within xs.length 1 16 && decide (hiAt xs xs.length = 1000) && (List.range xs.length).all (partGood xs)

theorem p_impl_PartsOk (xs : List TPart) (h : xs.length ≤ 1048576) : m_impl_PartsOk xs = some (partsGood xs) := by
  unfold m_impl_PartsOk
  rw [iter_good (s0 := ((0 : Int), (0 : Int))) (fun i => (hiAt xs i, (i : Int))) (partGood xs) (some false) (some (within xs.length 1 16 && decide (hiAt xs xs.length = 1000))) xs.length (by omega) (fun kb i hi => ?_) (fun kb => ?_) rfl]
  · unfold partsGood
    split <;> simp_all
  · unfold impl_PartsOk_b7 impl_PartsOk_j12 partGood
    simp only [idx_nat hi, p_isGroup, Option.bind_some, step1 i _ hi (by omega), List.getElem?_eq_getElem hi, hiAt_succ hi]
    rw [if_pos (by omega)]
    by_cases h1 : xs[i].Lo = hiAt xs i <;> simp [h1]
    by_cases h2 : hiAt xs i < xs[i].Hi
    · rw [if_neg (by omega)]
      cases within xs[i].Owner 0 3 <;> simp [h2]
    · rw [if_pos (by omega)]
      simp [h2]
  · unfold impl_PartsOk_b7 impl_PartsOk_j2
    rw [if_neg (by omega)]
    simp only [p_from, Option.bind_some]
    cases within (xs.length : Int) 1 16 <;> simp

/-- The parts follow each other: all ends lie between. -/
theorem parts_mono {xs : List TPart} (H : ∀ i, i < xs.length → partGood xs i = true) : ∀ i j, i ≤ j → j ≤ xs.length → hiAt xs i ≤ hiAt xs j
  | i, 0, h1, h2 => by have : i = 0 := by omega
                       subst this; omega
  | i, j + 1, h1, h2 => by
    by_cases e : i = j + 1
    · subst e; omega
    · have h3 := parts_mono H i j (by omega) (by omega)
      have h4 := H j (by omega)
      unfold partGood at h4
      simp only [List.getElem?_eq_getElem (show j < xs.length by omega), Bool.and_eq_true, decide_eq_true_eq] at h4
      rw [hiAt_succ (show j < xs.length by omega)]
      omega

def partGood' (xs : List TPart) (i : Nat) : Bool := match xs[i]? with
  | some p => decide (p.Lo < p.Hi) && decide (0 ≤ p.Lo) && decide (p.Hi ≤ 1000) && within p.Owner 0 3 && (i == 0 || decide (hiAt xs i = p.Lo))
  | none => true

theorem partsGood_at {xs : List TPart} (H : partsGood xs = true) {i : Nat} (hi : i < xs.length) : 0 ≤ xs[i].Lo ∧ xs[i].Lo < xs[i].Hi ∧ xs[i].Hi ≤ 1000 ∧ within xs[i].Owner 0 3 = true ∧ xs[i].Lo = hiAt xs i := by
  unfold partsGood at H
  simp only [Bool.and_eq_true, decide_eq_true_eq, List.all_eq_true, List.mem_range] at H
  obtain ⟨⟨H1, H2⟩, H3⟩ := H
  have m1 := parts_mono H3 0 i (by omega) (by omega)
  have m2 := parts_mono H3 (i + 1) xs.length (by omega) (by omega)
  have h := H3 i hi
  unfold partGood at h
  simp only [List.getElem?_eq_getElem hi, Bool.and_eq_true, decide_eq_true_eq] at h
  rw [hiAt_succ hi] at m2
  rw [show hiAt xs 0 = 0 from rfl] at m1
  exact ⟨by omega, h.1.2, by omega, h.2, h.1.1⟩

theorem parts_same (xs : List TPart) (h0 : 0 < xs.length) (h1 : xs[0].Lo = 0) (h2 : hiAt xs xs.length = 1000) (h3 : within xs.length 1 16 = true) :
    (List.range xs.length).all (partGood' xs) = partsGood xs := by
  rw [Bool.eq_iff_iff]
  constructor
  · intro H
    unfold partsGood
    simp only [Bool.and_eq_true, decide_eq_true_eq, List.all_eq_true, List.mem_range] at H ⊢
    refine ⟨⟨h3, h2⟩, fun i hi => ?_⟩
    have h := H i hi
    unfold partGood' at h
    unfold partGood
    simp only [List.getElem?_eq_getElem hi, Bool.and_eq_true, Bool.or_eq_true, beq_iff_eq, decide_eq_true_eq] at h ⊢
    refine ⟨⟨?_, h.1.1.1.1⟩, h.1.2⟩
    rcases h.2 with e | e
    · subst e; exact h1
    · exact e.symm
  · intro H
    simp only [List.all_eq_true, List.mem_range]
    intro i hi
    obtain ⟨a1, a2, a3, a4, a5⟩ := partsGood_at H hi
    unfold partGood'
    simp only [List.getElem?_eq_getElem hi, Bool.and_eq_true, Bool.or_eq_true, beq_iff_eq, decide_eq_true_eq]
    exact ⟨⟨⟨⟨a2, a1⟩, a3⟩, a4⟩, .inr a5.symm⟩

theorem p_spec_PartsOk (xs : List TPart) (h : xs.length ≤ 1048576) : m_spec_PartsOk xs = some (partsGood xs) := by
  unfold m_spec_PartsOk
  simp only [p_l1In, Option.bind_some]
  cases h3 : within (xs.length : Int) 1 16 with
  | false => simp [spec_PartsOk_j2, partsGood, h3]
  | true =>
    have h0 : 0 < xs.length := by unfold within at h3; simp at h3; omega
    have hi0 : idx xs 0 = some xs[0] := idx_nat (i := 0) h0
    have hw : IntKind.wrap .i64 ((xs.length : Int) - 1) = ((xs.length - 1 : Nat) : Int) := by rw [w64 (by omega) (by omega)]; omega
    have hiN : idx xs (IntKind.wrap .i64 ((xs.length : Int) - 1)) = some xs[xs.length - 1] := by rw [hw]; exact idx_nat (by omega)
    have hN : hiAt xs xs.length = xs[xs.length - 1].Hi := by
      obtain ⟨n, hn⟩ : ∃ n, xs.length = n + 1 := ⟨xs.length - 1, by omega⟩
      have e : hiAt xs (n + 1) = xs[n].Hi := hiAt_succ (by omega)
      simp only [hn, Nat.add_sub_cancel] at e ⊢
      exact e
    simp only [hi0, hiN, Option.bind_some, if_true]
    by_cases h1 : xs[0].Lo = 0
    · rw [if_neg (by simpa using h1)]
      by_cases h2 : xs[xs.length - 1].Hi = 1000
      · simp only [h2, not_true, decide_false, spec_PartsOk_j2, Bool.false_eq_true, if_false]
        rw [iter_good (s0 := (0 : Int)) (fun i => (i : Int)) (partGood' xs) (some false) (some true) xs.length (by omega) (fun kb i hi => ?_) (fun kb => ?_) rfl, parts_same xs h0 h1 (by rw [hN]; exact h2) h3]
        · cases partsGood xs <;> simp
        · unfold spec_PartsOk_b7 spec_PartsOk_j12 partGood'
          simp only [idx_nat hi, p_l1In, Option.bind_some, step1 i _ hi (by omega), List.getElem?_eq_getElem hi]
          rw [if_pos (by omega)]
          by_cases c1 : xs[i].Lo < xs[i].Hi
          · rw [if_neg (by omega)]
            by_cases c2 : 0 ≤ xs[i].Lo
            · rw [if_neg (by omega)]
              by_cases c3 : xs[i].Hi ≤ 1000
              · rw [if_neg (by omega)]
                cases within xs[i].Owner 0 3 <;> simp [c1, c2, c3]
                cases i with
                | zero => simp
                | succ j =>
                  have hj : j < xs.length := by omega
                  have hwj : IntKind.wrap .i64 (((j + 1 : Nat) : Int) - 1) = (j : Int) := by rw [w64 (by omega) (by omega)]; omega
                  have hpos : (0 : Int) < ((j + 1 : Nat) : Int) := by omega
                  simp only [hiAt_succ hj, Int.natCast_add, Int.natCast_one]
                  rw [show IntKind.wrap .i64 ((j : Int) + 1 - 1) = (j : Int) from by rw [w64 (by omega) (by omega)]; omega, idx_nat hj]
                  simp only [Option.bind_some]
                  rw [if_pos (by omega)]
                  by_cases c4 : xs[j].Hi = xs[j + 1].Lo <;> simp [c4]
              · rw [if_pos (by omega)]; simp [c3]
            · rw [if_pos (by omega)]; simp [c2]
          · rw [if_pos (by omega)]; simp [c1]
        · unfold spec_PartsOk_b7
          rw [if_neg (by omega)]; rfl
      · simp [h2, spec_PartsOk_j2, partsGood, hN]
    · rw [if_pos (by simpa using h1)]
      have : partGood xs 0 = false := by unfold partGood; simp [List.getElem?_eq_getElem h0, hiAt, h1]
      have : (List.range xs.length).all (partGood xs) = false := by
        rw [List.all_eq_false]; exact ⟨0, List.mem_range.2 h0, by simp [this]⟩
      simp [spec_PartsOk_j2, partsGood, this]

def cellGood (xs : List TCell) (i : Nat) : Bool := match xs[i]? with
  | none => true
  | some c => within c.Key 0 999 && within c.Value 0 1000000000 && (i == 0 || match xs[i - 1]? with | some p => decide (p.Key < c.Key) | none => true)

def storeGood (xs : List TCell) : Bool := decide (xs.length ≤ 60) && (List.range xs.length).all (cellGood xs)

theorem p_isAnswer (z : Int) : m_impl_isAnswer z = some (within z (-1) 1000000000) := by simp [m_impl_isAnswer, p_from]

def writeGood (xs : List TCell) (i : Nat) : Bool := match xs[i]? with
  | none => true
  | some c => within c.Key 0 999 && within c.Value (-1) 1000000000 && (i == 0 || match xs[i - 1]? with | some p => decide (p.Key < c.Key) | none => true)

def writesGood (xs : List TCell) : Bool := decide (xs.length ≤ 60) && (List.range xs.length).all (writeGood xs)

theorem p_spec_WritesOk (xs : List TCell) (h : xs.length ≤ 1048576) : m_spec_WritesOk xs = some (writesGood xs) := by
  unfold m_spec_WritesOk writesGood
  split
  · rename_i h1
    have : ¬ xs.length ≤ 60 := by omega
    simp [this]
  · rename_i h1
    have : xs.length ≤ 60 := by omega
    rw [iter_good (s0 := (0 : Int)) (fun i => (i : Int)) (writeGood xs) (some false) (some true) xs.length (by omega) (fun kb i hi => ?_) (fun kb => ?_) rfl]
    · simp only [this, decide_true, Bool.true_and]; split <;> simp_all
    · unfold spec_WritesOk_b5 spec_WritesOk_j8 writeGood
      simp only [idx_nat hi, p_l10Key, p_l1In, Option.bind_some, step1 i _ hi (by omega), List.getElem?_eq_getElem hi]
      rw [if_pos (by omega)]
      cases within xs[i].Key 0 999 <;> simp
      cases within xs[i].Value (-1) 1000000000 <;> simp
      by_cases h0 : 0 < i
      · have h2 : IntKind.wrap .i64 ((i : Int) - 1) = ((i - 1 : Nat) : Int) := by rw [w64 (by omega) (by omega)]; omega
        have h3 : i - 1 < xs.length := by omega
        have h4 : ¬ i = 0 := by omega
        simp only [h0, if_true, h2, idx_nat h3, Option.bind_some, List.getElem?_eq_getElem h3, h4, false_or]
        by_cases h5 : xs[i].Key ≤ xs[i - 1].Key
        · have : ¬ xs[i - 1].Key < xs[i].Key := by omega
          simp [h5, this]
        · have : xs[i - 1].Key < xs[i].Key := by omega
          simp [h5, this]
      · have h4 : i = 0 := by omega
        simp [h4]
    · unfold spec_WritesOk_b5
      rw [if_neg (by omega)]; rfl

theorem p_impl_WritesOk (xs : List TCell) (h : xs.length ≤ 1048576) : m_impl_WritesOk xs = some (writesGood xs) := by
  unfold m_impl_WritesOk writesGood
  rw [iter_good (s0 := (0 : Int)) (fun i => (i : Int)) (writeGood xs) (some false) (some (decide (xs.length ≤ 60))) xs.length (by omega) (fun kb i hi => ?_) (fun kb => ?_) rfl]
  · split <;> simp_all
  · unfold impl_WritesOk_b4 impl_WritesOk_j9 writeGood
    simp only [idx_nat hi, p_isKey, p_isAnswer, Option.bind_some, step1 i _ hi (by omega), List.getElem?_eq_getElem hi]
    rw [if_pos (by omega)]
    cases within xs[i].Key 0 999 <;> simp
    cases within xs[i].Value (-1) 1000000000 <;> simp
    by_cases h0 : 0 < i
    · have h2 : IntKind.wrap .i64 ((i : Int) - 1) = ((i - 1 : Nat) : Int) := by rw [w64 (by omega) (by omega)]; omega
      have h3 : i - 1 < xs.length := by omega
      have h4 : ¬ i = 0 := by omega
      simp only [h0, if_true, h2, idx_nat h3, Option.bind_some, List.getElem?_eq_getElem h3, h4, false_or]
      by_cases h5 : xs[i].Key ≤ xs[i - 1].Key
      · have : ¬ xs[i - 1].Key < xs[i].Key := by omega
        simp [h5, this]
      · have : xs[i - 1].Key < xs[i].Key := by omega
        simp [h5, this]
    · have h4 : i = 0 := by omega
      simp [h4]
  · unfold impl_WritesOk_b4 impl_WritesOk_j2
    rw [if_neg (by omega)]
    have : ((xs.length : Int) ≤ 60) ↔ xs.length ≤ 60 := by omega
    simp [this]

theorem writesGood_at {xs : List TCell} (h : writesGood xs = true) {i : Nat} (hi : i < xs.length) : -1 ≤ xs[i].Value ∧ 0 ≤ xs[i].Key ∧ xs[i].Key ≤ 999 := by
  unfold writesGood at h
  simp only [Bool.and_eq_true, List.all_eq_true] at h
  have := h.2 i (List.mem_range.2 hi)
  unfold writeGood within at this
  rw [List.getElem?_eq_getElem hi] at this
  simp only [Bool.and_eq_true, decide_eq_true_eq] at this
  exact ⟨this.1.2.1, this.1.1.1, this.1.1.2⟩
theorem writesGood_le {xs : List TCell} (h : writesGood xs = true) : xs.length ≤ 60 := by
  unfold writesGood at h; simp at h; exact h.1

def seenGood (s : TSeen) : Bool := within s.Group 0 3 && rangeOk ⟨s.Lo, s.Hi⟩
theorem p_l16SeenOk (xs : List TSeen) (h : xs.length ≤ 1048576) : m_spec_l16SeenOk xs = some (decide (xs.length ≤ 16) && xs.all seenGood) := by
  unfold m_spec_l16SeenOk
  split
  · rename_i h1
    have : ¬ xs.length ≤ 16 := by omega
    simp [this]
  · rename_i h1
    have : xs.length ≤ 16 := by omega
    rw [iter_every xs seenGood (some false) (some true) (by omega) (fun kb i hi => ?_) (fun kb => ?_)]
    · cases xs.all seenGood <;> simp [this]
    · unfold spec_l16SeenOk_b5 spec_l16SeenOk_j8 seenGood
      simp only [idx_nat hi, p_l15Group, p_l16RangeOk, Option.bind_some, step1 i _ hi (by omega)]
      rw [if_pos (by omega)]
      cases within xs[i].Group 0 3 <;> simp
      cases rangeOk ⟨xs[i].Lo, xs[i].Hi⟩ <;> simp
    · unfold spec_l16SeenOk_b5
      rw [if_neg (by omega)]; rfl
theorem p_ClientOk_1 (s : TSeen) : m_impl_ClientOk_1 s = some (!seenGood s) := by
  unfold m_impl_ClientOk_1 m_impl_Seen_keys seenGood
  simp only [p_isGroup, p_impl_RangeOk, Option.bind_some]
  cases within s.Group 0 3 <;> simp
theorem p_Contains_ClientOk (xs : List TSeen) (h : xs.length ≤ 1048576) : m_slices_ContainsFunc_Seen__ClientOk_1 xs = some (xs.any fun c => !seenGood c) := by
  unfold m_slices_ContainsFunc_Seen__ClientOk_1 m_slices_IndexFunc_Seen__ClientOk_1
  rw [iter_index xs (fun c => !seenGood c) (by omega) (fun kb i hi => ?_) (fun kb => ?_)]
  · simp [idxOf_nonneg]
  · unfold slices_IndexFunc_Seen__ClientOk_1_b4
    simp only [idx_nat hi, p_ClientOk_1, Option.bind_some, step1 i _ hi (by omega)]
    rw [if_pos (by omega)]
  · unfold slices_IndexFunc_Seen__ClientOk_1_b4
    rw [if_neg (by omega)]; rfl

theorem p_ClientOk (a : TClient) (h1 : a.Buf.length ≤ 1048576) (h2 : a.Seen.length ≤ 1048576) (h3 : a.Parts.length ≤ 1048576) : ∃ r, m_spec_ClientOk a = some r ∧ m_impl_ClientOk a = some r := by
  unfold m_spec_ClientOk m_impl_ClientOk
  have hb : decide ((a.Seen.length : Int) ≤ 16) = decide (a.Seen.length ≤ 16) := by rw [decide_eq_decide]; omega
  have hw : IntKind.wrap .i64 (IntKind.wrap .i64 ((a.Buf.length : Int) + (a.Seen.length : Int)) + (a.Parts.length : Int)) = ((a.Buf.length + a.Seen.length + a.Parts.length : Nat) : Int) := by
    rw [w64 (n := (a.Buf.length : Int) + (a.Seen.length : Int)) (by omega) (by omega), w64 (by omega) (by omega)]; omega
  simp only [spec_ClientOk_j2, spec_ClientOk_j5, spec_ClientOk_j12, impl_ClientOk_j2, impl_ClientOk_j5, impl_ClientOk_j7, impl_ClientOk_j12, hw,
    p_l1In, p_from, p_l1Whole, p_isWhole, p_l12Tx, p_isTx, p_l16RangeOk, p_impl_RangeOk, p_l15Group, p_isGroup, p_spec_WritesOk _ h1, p_impl_WritesOk _ h1, p_l16SeenOk _ h2, p_Contains_ClientOk _ h2, p_spec_PartsOk _ h3, p_impl_PartsOk _ h3, Option.bind_some]
  have hany : (a.Seen.any fun c => !seenGood c) = !a.Seen.all seenGood := by rw [List.any_eq_not_all_not]; simp
  rw [hany]
  generalize a.Seen.all seenGood = w9
  by_cases hst : a.Stage = 0 ∨ a.Stage = 1 ∨ a.Stage = 2 ∨ a.Stage = 3 ∨ a.Stage = 4 ∨ a.Stage = 5
  · have hw1 : within a.Stage 0 5 = true := by unfold within; rcases hst with h | h | h | h | h | h <;> simp [h]
    simp only [hw1, if_true]
    generalize within a.Req 0 1000000000 = w2
    generalize rangeOk ⟨a.Lo, a.Hi⟩ = w3
    generalize within a.To 0 3 = w4
    generalize within a.Tx 1 60 = w5
    generalize writesGood a.Buf = w6
    generalize partsGood a.Parts = w7
    have e16 : ((a.Seen.length : Int) ≤ 16) ↔ a.Seen.length ≤ 16 := by omega
    have e0 : ((a.Buf.length + a.Seen.length + a.Parts.length : Nat) : Int) = 0 ↔ a.Buf.length = 0 ∧ a.Seen.length = 0 ∧ a.Parts.length = 0 := by omega
    have z1 : (a.Buf.length : Int) = 0 ↔ a.Buf.length = 0 := by omega
    have z2 : (a.Seen.length : Int) = 0 ↔ a.Seen.length = 0 := by omega
    have z3 : (a.Parts.length : Int) = 0 ↔ a.Parts.length = 0 := by omega
    simp only [e16, e0, z1, z2, z3]
    by_cases c16 : a.Seen.length ≤ 16 <;> by_cases cq : a.Req = 0 <;> by_cases cl : a.Lo = 0 <;> by_cases ch : a.Hi = 0 <;> by_cases ct : a.To = 0 <;> cases w2 <;> simp only [c16, cq, cl, ch, ct, if_true, if_false] <;>
      rcases hst with h | h | h | h | h | h <;> simp [h] <;>
      first
      | (cases w3 <;> cases w4 <;> cases w5 <;> cases w6 <;> cases w7 <;> cases w9 <;> simp; done)
      | (by_cases cx : a.Tx = 0 <;> by_cases cb : a.Buf = [] <;> by_cases cs : a.Seen = [] <;> by_cases cp : a.Parts = [] <;> simp [cx, cb, cs, cp]; done)
  · have hw1 : within a.Stage 0 5 = false := by
      cases hw : within a.Stage 0 5 with
      | false => rfl
      | true => unfold within at hw; simp at hw; omega
    simp [hw1]

theorem p_szWriteS (xs : List TCell) (h : xs.length ≤ maxLen) (z : Int) (h1 : 0 ≤ z) (h2 : z ≤ 1048576) : m_laws_szWriteS xs z = some (if z < xs.length then -1 else z - xs.length) := by
  unfold m_laws_szWriteS
  have : IntKind.wrap .i64 (z - (xs.length : Int)) = z - xs.length := by unfold maxLen at h; exact w64 (by omega) (by omega)
  rw [this]
  split <;> split <;> first | rfl | omega

theorem p_toWriteS (xs : List TCell) (h : xs.length ≤ 1048576) : m_laws_toWriteS xs = some xs := by
  unfold m_laws_toWriteS
  rw [if_pos ⟨by omega, by omega⟩]
  simp only [Int.toNat_natCast]
  refine iter_copy xs _ laws_toWriteS_j3 (by omega) (fun kb ys i hi hy => ?_) (fun kb ys => ?_)
  · unfold laws_toWriteS_b5
    simp only [idx_nat hi, idx_nat (show i < ys.length by omega), m_laws_toWrite, Option.bind_some, Int.toNat_natCast, step1 i _ hi (by omega)]
    rw [if_pos (by omega)]
  · unfold laws_toWriteS_b5
    rw [if_neg (by omega)]

theorem p_eqWrite (a b : TCell) : m_laws_eqWrite a b = some (decide (a = b)) := by
  unfold m_laws_eqWrite
  cases a; cases b
  simp only [TCell.mk.injEq]
  repeat' split
  all_goals simp_all

theorem p_eqWriteS (xs ys : List TCell) (h : xs.length ≤ 1048576) : m_laws_eqWriteS xs ys = some (decide (xs = ys)) := by
  unfold m_laws_eqWriteS
  split
  · rename_i hl
    have : ¬ xs = ys := fun e => hl (by rw [e])
    simp [this]
  · rename_i hl
    have hl : xs.length = ys.length := by omega
    rw [iter_good (s0 := (0 : Int)) (fun i => (i : Int)) (fun i => decide (xs[i]? = ys[i]?)) (some false) (some true) xs.length (by omega) (fun kb i hi => ?_) (fun kb => ?_) rfl, all_range_eq hl]
    · by_cases e : xs = ys <;> simp [e]
    · unfold laws_eqWriteS_b6
      simp only [idx_nat hi, idx_nat (show i < ys.length by omega), p_eqWrite, Option.bind_some, step1 i _ hi (by omega)]
      rw [if_pos (by omega), List.getElem?_eq_getElem hi, List.getElem?_eq_getElem (show i < ys.length by omega)]
      simp
    · unfold laws_eqWriteS_b6
      rw [if_neg (by omega)]
      rfl

theorem p_szSeenS (xs : List TSeen) (h : xs.length ≤ maxLen) (z : Int) (h1 : 0 ≤ z) (h2 : z ≤ 1048576) : m_laws_szSeenS xs z = some (if z < xs.length then -1 else z - xs.length) := by
  unfold m_laws_szSeenS
  have : IntKind.wrap .i64 (z - (xs.length : Int)) = z - xs.length := by unfold maxLen at h; exact w64 (by omega) (by omega)
  rw [this]
  split <;> split <;> first | rfl | omega

theorem p_toSeenS (xs : List TSeen) (h : xs.length ≤ 1048576) : m_laws_toSeenS xs = some xs := by
  unfold m_laws_toSeenS
  rw [if_pos ⟨by omega, by omega⟩]
  simp only [Int.toNat_natCast]
  refine iter_copy xs _ laws_toSeenS_j3 (by omega) (fun kb ys i hi hy => ?_) (fun kb ys => ?_)
  · unfold laws_toSeenS_b5
    simp only [idx_nat hi, idx_nat (show i < ys.length by omega), m_laws_toSeen, Option.bind_some, Int.toNat_natCast, step1 i _ hi (by omega)]
    rw [if_pos (by omega)]
  · unfold laws_toSeenS_b5
    rw [if_neg (by omega)]

theorem p_eqSeen (a b : TSeen) : m_laws_eqSeen a b = some (decide (a = b)) := by
  unfold m_laws_eqSeen
  cases a; cases b
  simp only [TSeen.mk.injEq]
  repeat' split
  all_goals simp_all

theorem p_eqSeenS (xs ys : List TSeen) (h : xs.length ≤ 1048576) : m_laws_eqSeenS xs ys = some (decide (xs = ys)) := by
  unfold m_laws_eqSeenS
  split
  · rename_i hl
    have : ¬ xs = ys := fun e => hl (by rw [e])
    simp [this]
  · rename_i hl
    have hl : xs.length = ys.length := by omega
    rw [iter_good (s0 := (0 : Int)) (fun i => (i : Int)) (fun i => decide (xs[i]? = ys[i]?)) (some false) (some true) xs.length (by omega) (fun kb i hi => ?_) (fun kb => ?_) rfl, all_range_eq hl]
    · by_cases e : xs = ys <;> simp [e]
    · unfold laws_eqSeenS_b6
      simp only [idx_nat hi, idx_nat (show i < ys.length by omega), p_eqSeen, Option.bind_some, step1 i _ hi (by omega)]
      rw [if_pos (by omega), List.getElem?_eq_getElem hi, List.getElem?_eq_getElem (show i < ys.length by omega)]
      simp
    · unfold laws_eqSeenS_b6
      rw [if_neg (by omega)]
      rfl

theorem p_szPartS (xs : List TPart) (h : xs.length ≤ maxLen) (z : Int) (h1 : 0 ≤ z) (h2 : z ≤ 1048576) : m_laws_szPartS xs z = some (if z < xs.length then -1 else z - xs.length) := by
  unfold m_laws_szPartS
  have : IntKind.wrap .i64 (z - (xs.length : Int)) = z - xs.length := by unfold maxLen at h; exact w64 (by omega) (by omega)
  rw [this]
  split <;> split <;> first | rfl | omega

theorem p_toPartS (xs : List TPart) (h : xs.length ≤ 1048576) : m_laws_toPartS xs = some xs := by
  unfold m_laws_toPartS
  rw [if_pos ⟨by omega, by omega⟩]
  simp only [Int.toNat_natCast]
  refine iter_copy xs _ laws_toPartS_j3 (by omega) (fun kb ys i hi hy => ?_) (fun kb ys => ?_)
  · unfold laws_toPartS_b5
    simp only [idx_nat hi, idx_nat (show i < ys.length by omega), m_laws_toPart, Option.bind_some, Int.toNat_natCast, step1 i _ hi (by omega)]
    rw [if_pos (by omega)]
  · unfold laws_toPartS_b5
    rw [if_neg (by omega)]

theorem p_eqPart (a b : TPart) : m_laws_eqPart a b = some (decide (a = b)) := by
  unfold m_laws_eqPart
  cases a; cases b
  simp only [TPart.mk.injEq]
  repeat' split
  all_goals simp_all

theorem p_eqPartS (xs ys : List TPart) (h : xs.length ≤ 1048576) : m_laws_eqPartS xs ys = some (decide (xs = ys)) := by
  unfold m_laws_eqPartS
  split
  · rename_i hl
    have : ¬ xs = ys := fun e => hl (by rw [e])
    simp [this]
  · rename_i hl
    have hl : xs.length = ys.length := by omega
    rw [iter_good (s0 := (0 : Int)) (fun i => (i : Int)) (fun i => decide (xs[i]? = ys[i]?)) (some false) (some true) xs.length (by omega) (fun kb i hi => ?_) (fun kb => ?_) rfl, all_range_eq hl]
    · by_cases e : xs = ys <;> simp [e]
    · unfold laws_eqPartS_b6
      simp only [idx_nat hi, idx_nat (show i < ys.length by omega), p_eqPart, Option.bind_some, step1 i _ hi (by omega)]
      rw [if_pos (by omega), List.getElem?_eq_getElem hi, List.getElem?_eq_getElem (show i < ys.length by omega)]
      simp
    · unfold laws_eqPartS_b6
      rw [if_neg (by omega)]
      rfl

def size_Client (x : TClient) : Nat := x.Buf.length + x.Seen.length + x.Parts.length

theorem p_szClient (x : TClient) (h : ok_TClient x) (z : Int) (h1 : 0 ≤ z) (h2 : z ≤ 1048576) : m_laws_szClient x z = some (if z < (size_Client x : Int) then -1 else z - (size_Client x : Int)) := by
  unfold ok_TClient at h
  obtain ⟨o0, o1, o2, o3, o4, o5, o6, o7, o8⟩ := h
  unfold m_laws_szClient size_Client
  rw [p_szWriteS x.Buf o3.1 _ (by omega) (by omega)]
  simp only [Option.bind_some]
  by_cases c0 : z < (x.Buf.length : Int)
  · rw [if_pos c0, if_pos (by omega)]; try rw [if_pos (by omega)]
  rw [if_neg c0, if_neg (by omega)]
  rw [p_szSeenS x.Seen o4.1 _ (by omega) (by omega)]
  simp only [Option.bind_some]
  by_cases c1 : z - (x.Buf.length : Int) < (x.Seen.length : Int)
  · rw [if_pos c1, if_pos (by omega)]; try rw [if_pos (by omega)]
  rw [if_neg c1, if_neg (by omega)]
  rw [p_szPartS x.Parts o8.1 _ (by omega) (by omega)]
  simp only [Option.bind_some]
  by_cases c2 : z - (x.Buf.length : Int) - (x.Seen.length : Int) < (x.Parts.length : Int)
  · rw [if_pos c2, if_pos (by omega)]; try rw [if_pos (by omega)]
  rw [if_neg c2, if_neg (by omega)]
  try rw [if_neg (by omega)]
  try (congr 1; omega)

theorem p_toClient (x : TClient) (h : size_Client x ≤ 1048576) : m_laws_toClient x = some x := by simp [m_laws_toClient, p_toWriteS _ (show x.Buf.length ≤ 1048576 by unfold size_Client at h; omega), p_toSeenS _ (show x.Seen.length ≤ 1048576 by unfold size_Client at h; omega), p_toPartS _ (show x.Parts.length ≤ 1048576 by unfold size_Client at h; omega)]

theorem p_eqClient (x y : TClient) (h : size_Client x ≤ 1048576) : m_laws_eqClient x y = some (decide (x = y)) := by
  unfold m_laws_eqClient
  simp only [p_eqWriteS _ _ (show x.Buf.length ≤ 1048576 by unfold size_Client at h; omega), p_eqSeenS _ _ (show x.Seen.length ≤ 1048576 by unfold size_Client at h; omega), p_eqPartS _ _ (show x.Parts.length ≤ 1048576 by unfold size_Client at h; omega), Option.bind_some]
  cases x; cases y
  simp only [TClient.mk.injEq]
  repeat' split
  all_goals simp_all

theorem p_FnExactClientOk (a1 : TClient) (h : ok_TClient a1) : m_laws_FnExactClientOk a1 = some true := by
  unfold m_laws_FnExactClientOk
  rw [p_szClient a1 h _ (by omega) (by omega)]
  simp only [Option.bind_some]
  split
  · rfl
  · rename_i h1
    have hl : size_Client a1 ≤ 1048576 := by omega
    obtain ⟨r, e1, e2⟩ := p_ClientOk a1 (by unfold size_Client at hl; omega) (by unfold size_Client at hl; omega) (by unfold size_Client at hl; omega)
    simp [p_toClient _ hl, e1, e2, p_eqClient _ _ hl]

end Go.AW
