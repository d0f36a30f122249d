/- Plain laws: what the plain functions answer. Conditions: each theorem's own. -/
import Derived.Test.YtkdaohfkphodeaaMLocksHold
set_option linter.unusedVariables false
set_option linter.unusedSimpArgs false
set_option maxRecDepth 100000
namespace Go.AW

theorem w64 {n : Int} (h1 : -9223372036854775808 ≤ n) (h2 : n < 9223372036854775808) : IntKind.wrap .i64 n = n := by
  rw [IntKind.wrap_i64]; omega

theorem inK64 {n : Int} (h : inK .i64 n) : -9223372036854775808 ≤ n ∧ n < 9223372036854775808 := by
  unfold inK IntKind.min IntKind.max at h
  simp only [IntKind.bits, IntKind.signed] at h
  simp at h
  omega

theorem idx_nat {α : Type} {xs : List α} {i : Nat} (h : i < xs.length) : idx xs (i : Int) = some xs[i] := by
  unfold idx
  rw [if_pos (by omega)]
  simp [h]

theorem idx_ofNat {α : Type} (xs : List α) (i : Nat) : idx xs (i : Int) = xs[i]? := by
  unfold idx
  rw [if_pos (by omega)]
  simp

/-- Rounds that go from one state to the next, or end the whole. -/
theorem iter_ex {S R : Type} {f : (S → Option R) → S → Option R} (st : Nat → S) (stop : Nat → Option (Option R)) (k : Option R) (n : Nat)
    (hs : ∀ kb i, i < n → (∀ j, j < i → stop j = none) → f kb (st i) = match stop i with | some r => r | none => kb (st (i + 1))) (he : ∀ kb, (∀ j, j < n → stop j = none) → f kb (st n) = k) :
    ∀ (m i : Nat), i ≤ n → (∀ j, j < i → stop j = none) → n - i < m → iter f m (st i) = match ((List.range n).drop i).findSome? stop with | some r => r | none => k
  | 0, i, _, _, h => by omega
  | m + 1, i, hi, hp, h => by
    unfold iter
    by_cases e : i = n
    · subst e
      rw [he _ hp]
      simp [List.drop_eq_nil_of_le]
    · have hlt : i < n := by omega
      rw [hs _ i hlt hp, List.drop_eq_getElem_cons (by simpa using hlt)]
      simp only [List.getElem_range, List.findSome?_cons]
      cases hq : stop i with
      | some r => rfl
      | none => exact iter_ex st stop k n hs he m (i + 1) (by omega) (fun j hj => by
          by_cases e' : j = i
          · subst e'; exact hq
          · exact hp j (by omega)) (by omega)

/-- A loop over 0 .. n-1 that may end early. -/
theorem iter_stopH {S R : Type} {f : (S → Option R) → S → Option R} (st : Nat → S) (stop : Nat → Option (Option R)) (k : Option R) (n : Nat) (hn : n ≤ 1152921504606846976)
    (hs : ∀ kb i, i < n → (∀ j, j < i → stop j = none) → f kb (st i) = match stop i with | some r => r | none => kb (st (i + 1))) (he : ∀ kb, (∀ j, j < n → stop j = none) → f kb (st n) = k) {s0 : S} (h0 : s0 = st 0) :
    iter f FU s0 = match (List.range n).findSome? stop with | some r => r | none => k := by
  subst h0
  have := iter_ex st stop k n hs he FU 0 (by omega) (fun j hj => by omega) (by unfold FU; omega)
  simpa using this

theorem iter_stop {S R : Type} {f : (S → Option R) → S → Option R} (st : Nat → S) (stop : Nat → Option (Option R)) (k : Option R) (n : Nat) (hn : n ≤ 1152921504606846976)
    (hs : ∀ kb i, i < n → f kb (st i) = match stop i with | some r => r | none => kb (st (i + 1))) (he : ∀ kb, f kb (st n) = k) {s0 : S} (h0 : s0 = st 0) :
    iter f FU s0 = match (List.range n).findSome? stop with | some r => r | none => k :=
  iter_stopH st stop k n hn (fun kb i hi _ => hs kb i hi) (fun kb _ => he kb) h0

/-- A loop over 0 .. n-1 that does not end early. -/
theorem iter_all {S R : Type} {f : (S → Option R) → S → Option R} (st : Nat → S) (k : Option R) (n : Nat) (hn : n ≤ 1152921504606846976)
    (hs : ∀ kb i, i < n → f kb (st i) = kb (st (i + 1))) (he : ∀ kb, f kb (st n) = k) {s0 : S} (h0 : s0 = st 0) : iter f FU s0 = k := by
  rw [iter_stop st (fun _ => none) k n hn (fun kb i hi => hs kb i hi) he h0]
  have : (List.range n).findSome? (fun _ => (none : Option (Option R))) = none := by
    rw [List.findSome?_eq_none_iff]; intro x _; rfl
  rw [this]

/-- A loop that ends with r at the first place that is not good. -/
theorem iter_goodH {S R : Type} {f : (S → Option R) → S → Option R} (st : Nat → S) (good : Nat → Bool) (r k : Option R) (n : Nat) (hn : n ≤ 1152921504606846976)
    (hs : ∀ kb i, i < n → (∀ j, j < i → good j = true) → f kb (st i) = if good i = true then kb (st (i + 1)) else r) (he : ∀ kb, (∀ j, j < n → good j = true) → f kb (st n) = k) {s0 : S} (h0 : s0 = st 0) :
    iter f FU s0 = if (List.range n).all good = true then k else r := by
  have tr : ∀ j, (if good j = true then (none : Option (Option R)) else some r) = none → good j = true := fun j h => by
    split at h
    · assumption
    · cases h
  rw [iter_stopH st (fun i => if good i = true then none else some r) k n hn (fun kb i hi hp => by rw [hs kb i hi (fun j hj => tr j (hp j hj))]; split <;> rfl) (fun kb hp => he kb (fun j hj => tr j (hp j hj))) h0]
  by_cases e : (List.range n).all good = true
  · have : (List.range n).findSome? (fun i => if good i = true then none else some r) = none := by
      rw [List.findSome?_eq_none_iff]
      intro x hx
      rw [List.all_eq_true] at e
      simp [e x hx]
    rw [this, if_pos e]
  · rw [if_neg e]
    cases h : (List.range n).findSome? (fun i => if good i = true then none else some r) with
    | none =>
      exfalso
      apply e
      rw [List.all_eq_true]
      intro x hx
      rw [List.findSome?_eq_none_iff] at h
      exact tr x (h x hx)
    | some q =>
      obtain ⟨x, hx, hq⟩ := List.exists_of_findSome?_eq_some h
      split at hq
      · cases hq
      · cases hq; rfl

theorem iter_good {S R : Type} {f : (S → Option R) → S → Option R} (st : Nat → S) (good : Nat → Bool) (r k : Option R) (n : Nat) (hn : n ≤ 1152921504606846976)
    (hs : ∀ kb i, i < n → f kb (st i) = if good i = true then kb (st (i + 1)) else r) (he : ∀ kb, f kb (st n) = k) {s0 : S} (h0 : s0 = st 0) :
    iter f FU s0 = if (List.range n).all good = true then k else r :=
  iter_goodH st good r k n hn (fun kb i hi _ => hs kb i hi) (fun kb _ => he kb) h0

/-- To copy a list into zeros, element by element. -/
theorem iter_copy {α R : Type} {f : (List α × Int → Option R) → List α × Int → Option R} (xs : List α) (z : α) (k : List α → Option R) (hn : xs.length ≤ 2147483648)
    (hs : ∀ kb (ys : List α) (i : Nat) (hi : i < xs.length), ys.length = xs.length → f kb (ys, (i : Int)) = kb (ys.set i xs[i], ((i + 1 : Nat) : Int)))
    (he : ∀ kb (ys : List α), f kb (ys, (xs.length : Int)) = k ys) : iter f FU (List.replicate xs.length z, 0) = k xs := by
  refine iter_all (fun i => (xs.take i ++ List.replicate (xs.length - i) z, (i : Int))) _ xs.length (by omega) (fun kb i hi => ?_) (fun kb => ?_) (by simp)
  · rw [hs kb _ i hi (by simp; omega)]
    congr 2
    have : xs.length - i = (xs.length - (i + 1)) + 1 := by omega
    have hk : min i xs.length = i := by omega
    show _ = (List.take (i + 1) xs ++ _)
    rw [this, List.replicate_succ, List.set_append_right _ _ (by simp; omega), show List.take (i + 1) xs = List.take i xs ++ [xs[i]] from List.take_succ_eq_append_getElem hi]
    simp only [List.length_take, hk, Nat.sub_self, List.set_cons_zero]
    rw [List.append_assoc]
    rfl
  · rw [he]
    simp

theorem all_range_eq {α : Type} [DecidableEq α] {xs ys : List α} (h : xs.length = ys.length) : (List.range xs.length).all (fun i => decide (xs[i]? = ys[i]?)) = decide (xs = ys) := by
  by_cases e : xs = ys
  · subst e; simp
  · rw [decide_eq_false e, List.all_eq_false]
    apply Classical.byContradiction
    intro hc
    apply e
    apply List.ext_getElem? 
    intro i
    by_cases hi : i < xs.length
    · apply Classical.byContradiction
      intro hne
      exact hc ⟨i, List.mem_range.2 hi, by simpa using hne⟩
    · rw [List.getElem?_eq_none (by omega), List.getElem?_eq_none (by omega)]

theorem step1 (i : Nat) (n : Nat) (h : i < n) (hn : n ≤ 1152921504606846976) : IntKind.wrap .i64 ((i : Int) + 1) = ((i + 1 : Nat) : Int) := by
  rw [w64 (by omega) (by omega)]; omega

/-- The first place where p holds, or -1. -/
def idxOf {α : Type} (p : α → Bool) (xs : List α) : Int := match xs.findIdx? p with
  | some k => (k : Int)
  | none => -1

theorem idxOf_nonneg {α : Type} (p : α → Bool) (xs : List α) : decide (0 ≤ idxOf p xs) = xs.any p := by
  unfold idxOf
  cases h : xs.findIdx? p with
  | none =>
    rw [List.findIdx?_eq_none_iff] at h
    have : xs.any p = false := by rw [List.any_eq_false]; intro x hx; simp [h x hx]
    simp [this]
  | some k =>
    rw [List.findIdx?_eq_some_iff_getElem] at h
    obtain ⟨hk, hp, _⟩ := h
    have : xs.any p = true := List.any_eq_true.2 ⟨xs[k], List.getElem_mem hk, hp⟩
    simp [this]

theorem iter_index {α : Type} (xs : List α) (p : α → Bool) {f : (Int → Option Int) → Int → Option Int} (hn : xs.length ≤ 1152921504606846976)
    (hs : ∀ kb (i : Nat) (hi : i < xs.length), f kb (i : Int) = if p xs[i] = true then some (i : Int) else kb ((i + 1 : Nat) : Int)) (he : ∀ kb, f kb (xs.length : Int) = some (-1)) : iter f FU 0 = some (idxOf p xs) := by
  rw [iter_stop (s0 := (0 : Int)) (fun i => (i : Int)) (fun i : Nat => (xs[i]?).bind fun x => if p x = true then some (some (i : Int)) else none) (some (-1)) xs.length hn (fun kb i hi => ?_) (fun kb => he kb) rfl]
  · have key : ∀ (ys : List α) (o : Nat), (List.range ys.length).findSome? (fun i : Nat => (ys[i]?).bind fun x => if p x = true then some (some ((o + i : Nat) : Int)) else none) = (ys.findIdx? p).map fun k => some ((o + k : Nat) : Int) := by
      intro ys
      induction ys with
      | nil => intro o; rfl
      | cons y ys ih =>
        intro o
        rw [List.length_cons, List.range_succ_eq_map, List.findSome?_cons, List.findSome?_map, List.findIdx?_cons]
        simp only [List.getElem?_cons_zero, Option.bind_some]
        by_cases e : p y = true
        · simp [e]
        · simp only [e, if_false, Function.comp_def, List.getElem?_cons_succ, Bool.false_eq_true]
          have := ih (o + 1)
          rw [show (fun i : Nat => (ys[i]?).bind fun x => if p x = true then some (some ((o + (i + 1) : Nat) : Int)) else none) = fun i : Nat => (ys[i]?).bind fun x => if p x = true then some (some ((o + 1 + i : Nat) : Int)) else none from by funext i; rw [show o + (i + 1) = o + 1 + i by omega]]
          rw [this]
          cases ys.findIdx? p <;> simp; omega
    have := key xs 0
    simp only [Nat.zero_add] at this
    rw [this]
    unfold idxOf
    cases xs.findIdx? p <;> rfl
  · rw [hs kb i hi, List.getElem?_eq_getElem hi]
    simp only [Option.bind_some]
    by_cases e : p xs[i] = true <;> simp [e]

theorem all_range {α : Type} (xs : List α) (p : α → Bool) : ((List.range xs.length).all fun i => ((xs[i]?).map p).getD true) = xs.all p := by
  rw [Bool.eq_iff_iff, List.all_eq_true, List.all_eq_true]
  constructor
  · intro H x hx
    obtain ⟨i, hi, rfl⟩ := List.mem_iff_getElem.1 hx
    have := H i (List.mem_range.2 hi)
    rw [List.getElem?_eq_getElem hi] at this
    exact this
  · intro H i hi
    have hi := List.mem_range.1 hi
    rw [List.getElem?_eq_getElem hi]
    exact H _ (List.getElem_mem hi)

/-- A loop that ends with r at the first element for which p holds, and with k if there is none. -/
theorem iter_any {α R : Type} (xs : List α) (p : α → Bool) (r k : Option R) {f : (Int → Option R) → Int → Option R} (hn : xs.length ≤ 1152921504606846976)
    (hs : ∀ kb (i : Nat) (hi : i < xs.length), f kb (i : Int) = if p xs[i] = true then r else kb ((i + 1 : Nat) : Int)) (he : ∀ kb, f kb (xs.length : Int) = k) : iter f FU 0 = if xs.any p = true then r else k := by
  rw [iter_good (s0 := (0 : Int)) (fun i => (i : Int)) (fun i => ((xs[i]?).map fun x => !p x).getD true) r k xs.length hn (fun kb i hi => ?_) (fun kb => he kb) rfl, all_range xs fun x => !p x]
  · cases h : xs.any p with
    | true =>
      have : (xs.all fun x => !p x) = false := by
        rw [List.all_eq_false]; obtain ⟨x, hx, hp⟩ := List.any_eq_true.1 h; exact ⟨x, hx, by simp [hp]⟩
      simp [this]
    | false =>
      have : (xs.all fun x => !p x) = true := by
        rw [List.all_eq_true]; intro x hx; rw [List.any_eq_false] at h; simp [h x hx]
      simp [this]
  · rw [hs kb i hi, List.getElem?_eq_getElem hi]
    cases h : p xs[i] <;> simp [h]

/-- A loop over all elements that ends with r at the first for which p does not hold. -/
theorem iter_every {α R : Type} (xs : List α) (p : α → Bool) (r k : Option R) {f : (Int → Option R) → Int → Option R} (hn : xs.length ≤ 1152921504606846976)
    (hs : ∀ kb (i : Nat) (hi : i < xs.length), f kb (i : Int) = if p xs[i] = true then kb ((i + 1 : Nat) : Int) else r) (he : ∀ kb, f kb (xs.length : Int) = k) : iter f FU 0 = if xs.all p = true then k else r := by
  rw [iter_good (s0 := (0 : Int)) (fun i => (i : Int)) (fun i => ((xs[i]?).map p).getD true) r k xs.length hn (fun kb i hi => ?_) (fun kb => he kb) rfl, all_range xs p]
  rw [hs kb i hi, List.getElem?_eq_getElem hi]
  rfl

theorem p_szLockS (xs : List TLock) (h : xs.length ≤ maxLen) (z : Int) (h1 : 0 ≤ z) (h2 : z ≤ 1048576) : m_laws_szLockS xs z = some (if z < xs.length then -1 else z - xs.length) := by
  unfold m_laws_szLockS
  have : IntKind.wrap .i64 (z - (xs.length : Int)) = z - xs.length := by unfold maxLen at h; exact w64 (by omega) (by omega)
  rw [this]
  split <;> split <;> first | rfl | omega

theorem p_toLockS (xs : List TLock) (h : xs.length ≤ 1048576) : m_laws_toLockS xs = some xs := by
  unfold m_laws_toLockS
  rw [if_pos ⟨by omega, by omega⟩]
  simp only [Int.toNat_natCast]
  refine iter_copy xs _ laws_toLockS_j3 (by omega) (fun kb ys i hi hy => ?_) (fun kb ys => ?_)
  · unfold laws_toLockS_b5
    simp only [idx_nat hi, idx_nat (show i < ys.length by omega), m_laws_toLock, Option.bind_some, Int.toNat_natCast, step1 i _ hi (by omega)]
    rw [if_pos (by omega)]
  · unfold laws_toLockS_b5
    rw [if_neg (by omega)]

theorem p_eqLock (a b : TLock) : m_laws_eqLock a b = some (decide (a = b)) := by
  unfold m_laws_eqLock
  cases a; cases b
  simp only [TLock.mk.injEq]
  repeat' split
  all_goals simp_all

theorem p_eqLockS (xs ys : List TLock) (h : xs.length ≤ 1048576) : m_laws_eqLockS xs ys = some (decide (xs = ys)) := by
  unfold m_laws_eqLockS
  split
  · rename_i hl
    have : ¬ xs = ys := fun e => hl (by rw [e])
    simp [this]
  · rename_i hl
    have hl : xs.length = ys.length := by omega
    rw [iter_good (s0 := (0 : Int)) (fun i => (i : Int)) (fun i => decide (xs[i]? = ys[i]?)) (some false) (some true) xs.length (by omega) (fun kb i hi => ?_) (fun kb => ?_) rfl, all_range_eq hl]
    · by_cases e : xs = ys <;> simp [e]
    · unfold laws_eqLockS_b6
      simp only [idx_nat hi, idx_nat (show i < ys.length by omega), p_eqLock, Option.bind_some, step1 i _ hi (by omega)]
      rw [if_pos (by omega), List.getElem?_eq_getElem hi, List.getElem?_eq_getElem (show i < ys.length by omega)]
      simp
    · unfold laws_eqLockS_b6
      rw [if_neg (by omega)]
      rfl

def within (z lo hi : Int) : Bool := decide (lo ≤ z) && decide (z ≤ hi)

theorem p_l1In (z lo hi : Int) : m_spec_l1In z lo hi = some (within z lo hi) := by
  unfold m_spec_l1In within; by_cases h : lo ≤ z <;> simp [h]
theorem p_from (z lo hi : Int) : m_impl_from z lo hi = some (within z lo hi) := by
  unfold m_impl_from within; by_cases h : lo ≤ z <;> simp [h]
theorem p_l12Tx (z : Int) : m_spec_l12Tx z = some (within z 1 60) := by simp [m_spec_l12Tx, p_l1In]
theorem p_isTx (z : Int) : m_impl_isTx z = some (within z 1 60) := by simp [m_impl_isTx, p_from]

def rangeOk (a : TRange) : Bool := decide (0 ≤ a.Lo) && decide (a.Lo < a.Hi) && decide (a.Hi ≤ 1000)
theorem p_spec_RangeOk (a : TRange) : m_spec_RangeOk a = some (rangeOk a) := by
  unfold m_spec_RangeOk rangeOk; by_cases h : 0 ≤ a.Lo <;> by_cases h' : a.Lo < a.Hi <;> simp [h, h']
theorem p_impl_RangeOk (a : TRange) : m_impl_RangeOk a = some (rangeOk a) := by
  unfold m_impl_RangeOk rangeOk; by_cases h : 0 ≤ a.Lo <;> by_cases h' : a.Lo < a.Hi <;> simp [h, h']

def modeOk (m : Int) : Bool := decide (m = 1) || decide (m = 2)
theorem p_l12Mode (m : Int) : m_spec_l12Mode m = some (modeOk m) := by
  unfold m_spec_l12Mode modeOk; by_cases h : m = 1 <;> simp [h]
theorem p_isMode (m : Int) : m_impl_isMode m = some (modeOk m) := by
  unfold m_impl_isMode modeOk; by_cases h : m = 1 <;> simp [h]

def meetsB (a b : TRange) : Bool := decide (a.Lo < b.Hi) && decide (b.Lo < a.Hi)
theorem p_meets (a b : TRange) : m_impl_meets a b = some (meetsB a b) := by
  unfold m_impl_meets meetsB; by_cases h : a.Lo < b.Hi <;> simp [h]

def clashB (a b : TLock) : Bool := decide (¬ a.Tx = b.Tx) && (decide (a.Mode = 2) || decide (b.Mode = 2)) && meetsB ⟨a.Lo, a.Hi⟩ ⟨b.Lo, b.Hi⟩
theorem p_impl_clash (a b : TLock) : m_impl_clash a b = some (clashB a b) := by
  unfold m_impl_clash m_impl_Lock_keys clashB
  simp only [p_meets, Option.bind_some]
  by_cases h : a.Tx = b.Tx <;> by_cases h1 : a.Mode = 2 <;> by_cases h2 : b.Mode = 2 <;> simp [h, h1, h2]

theorem p_l1Min (a b : Int) : m_spec_l1Min a b = some (min a b) := by
  unfold m_spec_l1Min; split <;> congr 1 <;> omega
theorem p_l1Max (a b : Int) : m_spec_l1Max a b = some (max a b) := by
  unfold m_spec_l1Max; split <;> congr 1 <;> omega

theorem p_RangeMeet (a b : TRange) : m_spec_RangeMeet a b = some (if rangeOk a && rangeOk b && rangeOk ⟨max a.Lo b.Lo, min a.Hi b.Hi⟩ then (⟨max a.Lo b.Lo, min a.Hi b.Hi⟩, true) else (⟨0, 0⟩, false)) := by
  unfold m_spec_RangeMeet spec_RangeMeet_j7
  simp only [p_l1Min, p_l1Max, p_spec_RangeOk, Option.bind_some]
  cases rangeOk a <;> cases rangeOk b <;> cases rangeOk ⟨max a.Lo b.Lo, min a.Hi b.Hi⟩ <;> simp

theorem meet_ok {a b : TRange} (ha : rangeOk a = true) (hb : rangeOk b = true) : rangeOk ⟨max a.Lo b.Lo, min a.Hi b.Hi⟩ = meetsB a b := by
  unfold rangeOk at *
  unfold meetsB
  simp only [Bool.and_eq_true, decide_eq_true_eq] at ha hb
  rw [Bool.eq_iff_iff]
  simp only [Bool.and_eq_true, decide_eq_true_eq]
  omega

theorem p_l12Clash (a b : TLock) (ha : rangeOk ⟨a.Lo, a.Hi⟩ = true) (hb : rangeOk ⟨b.Lo, b.Hi⟩ = true) : m_spec_l12Clash a b = some (clashB a b) := by
  unfold m_spec_l12Clash m_spec_l12Range clashB
  simp only [p_RangeMeet, Option.bind_some, ha, hb, Bool.true_and]
  have := meet_ok ha hb
  simp only at this
  rw [this]
  cases meetsB ⟨a.Lo, a.Hi⟩ ⟨b.Lo, b.Hi⟩ <;> by_cases h : a.Tx = b.Tx <;> by_cases h1 : a.Mode = 2 <;> simp [h, h1]

theorem clash_comm (a b : TLock) : clashB a b = clashB b a := by
  unfold clashB meetsB
  rw [Bool.eq_iff_iff]
  simp only [Bool.and_eq_true, Bool.or_eq_true, decide_eq_true_eq]
  constructor <;> rintro ⟨⟨h1, h2⟩, h3, h4⟩ <;> exact ⟨⟨fun e => h1 e.symm, h2.symm⟩, h4, h3⟩

/-- One lock by itself, and against those ahead of it. -/
def lockAlone (a : TLock) : Bool := within a.Tx 1 60 && rangeOk ⟨a.Lo, a.Hi⟩ && modeOk a.Mode
def lockGood (xs : List TLock) (i : Nat) : Bool := match xs[i]? with
  | none => true
  | some a => lockAlone a && (xs.take i).all fun b => !clashB a b
def locksGood (xs : List TLock) : Bool := decide (xs.length ≤ 40) && (List.range xs.length).all (lockGood xs)

def optAll {α : Type} (f : α → Bool) : Option α → Bool
  | some b => f b
  | none => true

theorem all_take {α : Type} (xs : List α) (f : α → Bool) (n : Nat) (h : n ≤ xs.length) : (xs.take n).all f = (List.range n).all fun k => optAll f xs[k]? := by
  rw [Bool.eq_iff_iff, List.all_eq_true, List.all_eq_true]
  constructor
  · intro H k hk
    have hk := List.mem_range.1 hk
    have : k < xs.length := by omega
    rw [List.getElem?_eq_getElem this]
    show f _ = true
    exact H _ (by rw [List.mem_take_iff_getElem]; exact ⟨k, by omega, rfl⟩)
  · intro H x hx
    rw [List.mem_take_iff_getElem] at hx
    obtain ⟨k, hk, rfl⟩ := hx
    have := H k (List.mem_range.2 (by omega))
    rw [List.getElem?_eq_getElem (by omega)] at this
    exact this

theorem good_before {xs : List TLock} {i : Nat} (h : ∀ k, k < i → lockGood xs k = true) {k : Nat} (hk : k < i) (hl : k < xs.length) : rangeOk ⟨xs[k].Lo, xs[k].Hi⟩ = true := by
  have := h k hk
  unfold lockGood lockAlone at this
  rw [List.getElem?_eq_getElem hl] at this
  simp only [Bool.and_eq_true] at this
  exact this.1.1.2

theorem p_spec_LocksOk (xs : List TLock) (h : xs.length ≤ 1048576) : m_spec_LocksOk xs = some (locksGood xs) := by
  unfold m_spec_LocksOk locksGood
  split
  · have : ¬ xs.length ≤ 40 := by omega
    simp [this]
  · have : xs.length ≤ 40 := by omega
    rw [iter_goodH (s0 := (0 : Int)) (fun i => (i : Int)) (lockGood xs) (some false) (some true) xs.length (by omega) (fun kb i hi hp => ?_) (fun kb _ => ?_) rfl]
    · simp only [this, decide_true, Bool.true_and]; split <;> simp_all
    · unfold spec_LocksOk_b5 spec_LocksOk_j10 lockGood lockAlone
      simp only [idx_nat hi, p_l12Tx, p_l12Mode, p_spec_RangeOk, m_spec_l12Range, Option.bind_some, List.getElem?_eq_getElem hi]
      rw [if_pos (by omega)]
      generalize hg : (List.take i xs).all (fun b => !clashB xs[i] b) = g
      cases h1 : within xs[i].Tx 1 60 <;> simp
      cases h2 : rangeOk ⟨xs[i].Lo, xs[i].Hi⟩ <;> simp
      cases h3 : modeOk xs[i].Mode <;> simp
      rw [iter_good (s0 := (0 : Int)) (fun k => (k : Int)) (fun k => optAll (fun b => !clashB xs[i] b) xs[k]?) (some false) (kb ((i + 1 : Nat) : Int)) i (by omega) (fun kb' k hk => ?_) (fun kb' => ?_) rfl]
      · rw [← hg, all_take xs _ i (by omega)]
        simp only [Int.natCast_add, Int.cast_ofNat_Int]
      · unfold spec_LocksOk_b13
        have hkl : k < xs.length := by omega
        simp only [idx_nat hi, idx_nat hkl, Option.bind_some, p_l12Clash _ _ h2 (good_before hp hk hkl), step1 k _ hk (by omega), List.getElem?_eq_getElem hkl, optAll]
        rw [if_pos (by omega)]
        cases clashB xs[i] xs[k] <;> simp
      · unfold spec_LocksOk_b13 spec_LocksOk_j8
        rw [if_neg (by omega), step1 i _ hi (by omega)]
    · unfold spec_LocksOk_b5
      rw [if_neg (by omega)]; rfl

theorem p_Contains_LocksOk (xs : List TLock) (a : TLock) (h : xs.length ≤ 1048576) : m_slices_ContainsFunc_Lock__LocksOk_1 xs a = some (!xs.all fun b => !clashB a b) := by
  unfold m_slices_ContainsFunc_Lock__LocksOk_1 m_slices_IndexFunc_Lock__LocksOk_1
  have hb : ∀ x, m_impl_LocksOk_1 x a = some (clashB a x) := fun x => by simp [m_impl_LocksOk_1, p_impl_clash]
  rw [iter_stop (s0 := (0 : Int)) (fun i => (i : Int)) (fun i : Nat => match xs[i]? with | some b => if clashB a b = true then some (some (i : Int)) else none | none => none) (some (-1)) xs.length (by omega) (fun kb i hi => ?_) (fun kb => ?_) rfl]
  · cases hf : (List.range xs.length).findSome? (fun i : Nat => match xs[i]? with | some b => if clashB a b = true then some (some (i : Int)) else none | none => none) with
    | none =>
      rw [List.findSome?_eq_none_iff] at hf
      have : (xs.all fun b => !clashB a b) = true := by
        rw [List.all_eq_true]
        intro x hx
        obtain ⟨k, hk, rfl⟩ := List.mem_iff_getElem.1 hx
        have := hf k (List.mem_range.2 hk)
        rw [List.getElem?_eq_getElem hk] at this
        cases hc : clashB a xs[k] with
        | false => rfl
        | true => simp [hc] at this
      simp [this]
    | some q =>
      obtain ⟨x, hx, hq⟩ := List.exists_of_findSome?_eq_some hf
      have hk := List.mem_range.1 hx
      rw [List.getElem?_eq_getElem hk] at hq
      simp only at hq
      split at hq
      · rename_i hc
        cases hq
        have : (xs.all fun b => !clashB a b) = false := by
          rw [List.all_eq_false]
          exact ⟨xs[x], List.getElem_mem hk, by simp [hc]⟩
        simp [this]
      · cases hq
  · unfold slices_IndexFunc_Lock__LocksOk_1_b5
    simp only [idx_nat hi, Option.bind_some, hb, step1 i _ hi (by omega), List.getElem?_eq_getElem hi]
    rw [if_pos (by omega)]
    cases clashB a xs[i] <;> simp
  · unfold slices_IndexFunc_Lock__LocksOk_1_b5
    rw [if_neg (by omega)]; rfl

theorem p_impl_LocksOk (xs : List TLock) (h : xs.length ≤ 1048576) : m_impl_LocksOk xs = some (locksGood xs) := by
  unfold m_impl_LocksOk locksGood
  rw [iter_good (s0 := (0 : Int)) (fun i => (i : Int)) (lockGood xs) (some false) (some (decide (xs.length ≤ 40))) xs.length (by omega) (fun kb i hi => ?_) (fun kb => ?_) rfl]
  · split <;> simp_all
  · unfold impl_LocksOk_b4 impl_LocksOk_j9 lockGood lockAlone
    have hc : cut xs 0 (i : Int) = some (xs.take i) := by
      unfold cut
      rw [if_pos ⟨by omega, by omega, by omega⟩]
      simp
    simp only [idx_nat hi, p_isTx, p_isMode, p_impl_RangeOk, m_impl_Lock_keys, Option.bind_some, List.getElem?_eq_getElem hi, hc, p_Contains_LocksOk (xs.take i) xs[i] (by simp; omega), step1 i _ hi (by omega)]
    rw [if_pos (by omega)]
    generalize hg : (List.take i xs).all (fun b => !clashB xs[i] b) = g
    cases h1 : within xs[i].Tx 1 60 <;> simp
    cases h2 : rangeOk ⟨xs[i].Lo, xs[i].Hi⟩ <;> simp
    cases h3 : modeOk xs[i].Mode <;> simp
    cases g <;> simp
  · unfold impl_LocksOk_b4 impl_LocksOk_j2
    rw [if_neg (by omega)]
    have : ((xs.length : Int) ≤ 40) ↔ xs.length ≤ 40 := by omega
    simp [this]

def holdsB (tx : Int) (a : TRange) (mode : Int) (l : TLock) : Bool := decide (l.Tx = tx) && (decide (l.Mode = mode) || decide (l.Mode = 2)) && decide (l.Lo ≤ a.Lo) && decide (a.Hi ≤ l.Hi)

theorem locksGood_le {xs : List TLock} (h : locksGood xs = true) : xs.length ≤ 40 := by
  unfold locksGood at h; simp at h; exact h.1
theorem locksGood_at {xs : List TLock} (h : locksGood xs = true) {i : Nat} (hi : i < xs.length) : lockAlone xs[i] = true := by
  unfold locksGood at h
  simp only [Bool.and_eq_true, List.all_eq_true] at h
  have := h.2 i (List.mem_range.2 hi)
  unfold lockGood at this
  rw [List.getElem?_eq_getElem hi] at this
  simp only [Bool.and_eq_true] at this
  exact this.1

theorem p_spec_RangeIn (a b : TRange) : m_spec_RangeIn a b = some (rangeOk a && rangeOk b && decide (b.Lo ≤ a.Lo) && decide (a.Hi ≤ b.Hi)) := by
  unfold m_spec_RangeIn
  simp only [p_spec_RangeOk, Option.bind_some]
  cases rangeOk a <;> cases rangeOk b <;> by_cases h : b.Lo ≤ a.Lo <;> simp [h]

theorem p_l12Holds (xs : List TLock) (tx : Int) (a : TRange) (mode : Int) (hg : locksGood xs = true) (ha : rangeOk a = true) (hm : modeOk mode = true) : m_spec_l12Holds xs tx a mode = some (xs.any (holdsB tx a mode)) := by
  have hl := locksGood_le hg
  unfold m_spec_l12Holds
  rw [iter_any xs (holdsB tx a mode) (some true) (some false) (by omega) (fun kb i hi => ?_) (fun kb => ?_)]
  · split <;> simp_all
  · have hgi := locksGood_at hg hi
    unfold lockAlone modeOk at hgi
    unfold modeOk at hm
    unfold spec_l12Holds_b7 spec_l12Holds_j10 holdsB
    simp only [Bool.and_eq_true, Bool.or_eq_true, decide_eq_true_eq] at hgi hm
    simp only [idx_nat hi, m_spec_l12Range, p_spec_RangeIn, Option.bind_some, step1 i _ hi (by omega), ha, hgi.1.2, Bool.true_and]
    rw [if_pos (by omega)]
    by_cases h1 : xs[i].Tx = tx <;> by_cases h2 : xs[i].Lo ≤ a.Lo <;> by_cases h3 : a.Hi ≤ xs[i].Hi <;> simp [h1, h2, h3]
    have : (mode ≤ xs[i].Mode) ↔ (xs[i].Mode = mode ∨ xs[i].Mode = 2) := by omega
    simp [this]
  · unfold spec_l12Holds_b7
    rw [if_neg (by omega)]; rfl

theorem p_LocksHold_1 (l : TLock) (tx mode : Int) (a : TRange) : m_impl_LocksHold_1 l tx mode a = some (holdsB tx a mode l) := by
  unfold m_impl_LocksHold_1 holdsB
  by_cases h1 : l.Tx = tx <;> by_cases h2 : l.Lo ≤ a.Lo <;> by_cases h3 : l.Mode = mode <;> by_cases h4 : l.Mode = 2 <;> simp [h1, h2, h3, h4]

theorem p_Contains_LocksHold (xs : List TLock) (tx mode : Int) (a : TRange) (h : xs.length ≤ 1048576) : m_slices_ContainsFunc_Lock__LocksHold_1 xs tx mode a = some (xs.any (holdsB tx a mode)) := by
  unfold m_slices_ContainsFunc_Lock__LocksHold_1 m_slices_IndexFunc_Lock__LocksHold_1
  rw [iter_index xs (holdsB tx a mode) (by omega) (fun kb i hi => ?_) (fun kb => ?_)]
  · simp [idxOf_nonneg]
  · unfold slices_IndexFunc_Lock__LocksHold_1_b7
    simp only [idx_nat hi, p_LocksHold_1, Option.bind_some, step1 i _ hi (by omega)]
    rw [if_pos (by omega)]
  · unfold slices_IndexFunc_Lock__LocksHold_1_b7
    rw [if_neg (by omega)]; rfl

def locksHold (xs : List TLock) (tx : Int) (a : TRange) (mode : Int) : Bool := locksGood xs && rangeOk a && modeOk mode && xs.any (holdsB tx a mode)
theorem p_spec_LocksHold (xs : List TLock) (tx : Int) (a : TRange) (mode : Int) (h : xs.length ≤ 1048576) : m_spec_LocksHold xs tx a mode = some (locksHold xs tx a mode) := by
  unfold m_spec_LocksHold locksHold
  simp only [p_spec_LocksOk _ h, p_spec_RangeOk, p_l12Mode, Option.bind_some]
  cases h1 : locksGood xs <;> cases h2 : rangeOk a <;> cases h3 : modeOk mode <;> simp
  rw [p_l12Holds xs tx a mode h1 h2 h3]
theorem p_impl_LocksHold (xs : List TLock) (tx : Int) (a : TRange) (mode : Int) (h : xs.length ≤ 1048576) : m_impl_LocksHold xs tx a mode = some (locksHold xs tx a mode) := by
  unfold m_impl_LocksHold locksHold
  simp only [p_impl_LocksOk _ h, p_impl_RangeOk, p_isMode, p_Contains_LocksHold _ _ _ _ h, Option.bind_some]
  cases h1 : locksGood xs <;> cases h2 : rangeOk a <;> cases h3 : modeOk mode <;> simp

theorem p_FnExactLocksHold (a1 : List TLock) (a2 : Int) (a3 : TRange) (a4 : Int) (h : okS ok_TLock a1) (h2 : inK .i64 a2) (h3 : ok_TRange a3) (h4 : inK .i64 a4) : m_laws_FnExactLocksHold a1 a2 a3 a4 = some true := by
  unfold m_laws_FnExactLocksHold
  rw [p_szLockS a1 h.1 _ (by omega) (by omega)]
  simp only [Option.bind_some]
  split
  · rfl
  · rename_i h1
    have hl : a1.length ≤ 1048576 := by omega
    simp [p_toLockS _ hl, m_laws_toRange, p_spec_LocksHold _ _ _ _ hl, p_impl_LocksHold _ _ _ _ hl, p_eqLockS _ _ hl]

end Go.AW
