/- Plain laws: what the plain functions answer. Conditions: each theorem's own. -/
import Derived.Test.YtkdaohfkphodeaaMStoreNew
set_option linter.unusedVariables false
set_option linter.unusedSimpArgs false
set_option maxRecDepth 100000
namespace Go.AW

theorem w64 {n : Int} (h1 : -9223372036854775808 ≤ n) (h2 : n < 9223372036854775808) : IntKind.wrap .i64 n = n := by
  rw [IntKind.wrap_i64]; omega

theorem inK64 {n : Int} (h : inK .i64 n) : -9223372036854775808 ≤ n ∧ n < 9223372036854775808 := by
  unfold inK IntKind.min IntKind.max at h
  simp only [IntKind.bits, IntKind.signed] at h
  simp at h
  omega

theorem idx_nat {α : Type} {xs : List α} {i : Nat} (h : i < xs.length) : idx xs (i : Int) = some xs[i] := by
  unfold idx
  rw [if_pos (by omega)]
  simp [h]

theorem idx_ofNat {α : Type} (xs : List α) (i : Nat) : idx xs (i : Int) = xs[i]? := by
  unfold idx
  rw [if_pos (by omega)]
  simp

/-- Rounds that go from one state to the next, or end the whole. -/
theorem iter_ex {S R : Type} {f : (S → Option R) → S → Option R} (st : Nat → S) (stop : Nat → Option (Option R)) (k : Option R) (n : Nat)
    (hs : ∀ kb i, i < n → (∀ j, j < i → stop j = none) → f kb (st i) = match stop i with | some r => r | none => kb (st (i + 1))) (he : ∀ kb, (∀ j, j < n → stop j = none) → f kb (st n) = k) :
    ∀ (m i : Nat), i ≤ n → (∀ j, j < i → stop j = none) → n - i < m → iter f m (st i) = match ((List.range n).drop i).findSome? stop with | some r => r | none => k
  | 0, i, _, _, h => by omega
  | m + 1, i, hi, hp, h => by
    unfold iter
    by_cases e : i = n
    · subst e
      rw [he _ hp]
      simp [List.drop_eq_nil_of_le]
    · have hlt : i < n := by omega
      rw [hs _ i hlt hp, List.drop_eq_getElem_cons (by simpa using hlt)]
      simp only [List.getElem_range, List.findSome?_cons]
      cases hq : stop i with
      | some r => rfl
      | none => exact iter_ex st stop k n hs he m (i + 1) (by omega) (fun j hj => by
          by_cases e' : j = i
          · subst e'; exact hq
          · exact hp j (by omega)) (by omega)

/-- A loop over 0 .. n-1 that may end early. -/
theorem iter_stopH {S R : Type} {f : (S → Option R) → S → Option R} (st : Nat → S) (stop : Nat → Option (Option R)) (k : Option R) (n : Nat) (hn : n ≤ 1152921504606846976)
    (hs : ∀ kb i, i < n → (∀ j, j < i → stop j = none) → f kb (st i) = match stop i with | some r => r | none => kb (st (i + 1))) (he : ∀ kb, (∀ j, j < n → stop j = none) → f kb (st n) = k) {s0 : S} (h0 : s0 = st 0) :
    iter f FU s0 = match (List.range n).findSome? stop with | some r => r | none => k := by
  subst h0
  have := iter_ex st stop k n hs he FU 0 (by omega) (fun j hj => by omega) (by unfold FU; omega)
  simpa using this

theorem iter_stop {S R : Type} {f : (S → Option R) → S → Option R} (st : Nat → S) (stop : Nat → Option (Option R)) (k : Option R) (n : Nat) (hn : n ≤ 1152921504606846976)
    (hs : ∀ kb i, i < n → f kb (st i) = match stop i with | some r => r | none => kb (st (i + 1))) (he : ∀ kb, f kb (st n) = k) {s0 : S} (h0 : s0 = st 0) :
    iter f FU s0 = match (List.range n).findSome? stop with | some r => r | none => k :=
  iter_stopH st stop k n hn (fun kb i hi _ => hs kb i hi) (fun kb _ => he kb) h0

/-- A loop over 0 .. n-1 that does not end early. -/
theorem iter_all {S R : Type} {f : (S → Option R) → S → Option R} (st : Nat → S) (k : Option R) (n : Nat) (hn : n ≤ 1152921504606846976)
    (hs : ∀ kb i, i < n → f kb (st i) = kb (st (i + 1))) (he : ∀ kb, f kb (st n) = k) {s0 : S} (h0 : s0 = st 0) : iter f FU s0 = k := by
  rw [iter_stop st (fun _ => none) k n hn (fun kb i hi => hs kb i hi) he h0]
  have : (List.range n).findSome? (fun _ => (none : Option (Option R))) = none := by
    rw [List.findSome?_eq_none_iff]; intro x _; rfl
  rw [this]

/-- A loop that ends with r at the first place that is not good. -/
theorem iter_goodH {S R : Type} {f : (S → Option R) → S → Option R} (st : Nat → S) (good : Nat → Bool) (r k : Option R) (n : Nat) (hn : n ≤ 1152921504606846976)
    (hs : ∀ kb i, i < n → (∀ j, j < i → good j = true) → f kb (st i) = if good i = true then kb (st (i + 1)) else r) (he : ∀ kb, (∀ j, j < n → good j = true) → f kb (st n) = k) {s0 : S} (h0 : s0 = st 0) :
    iter f FU s0 = if (List.range n).all good = true then k else r := by
  have tr : ∀ j, (if good j = true then (none : Option (Option R)) else some r) = none → good j = true := fun j h => by
    split at h
    · assumption
    · cases h
  rw [iter_stopH st (fun i => if good i = true then none else some r) k n hn (fun kb i hi hp => by rw [hs kb i hi (fun j hj => tr j (hp j hj))]; split <;> rfl) (fun kb hp => he kb (fun j hj => tr j (hp j hj))) h0]
  by_cases e : (List.range n).all good = true
  · have : (List.range n).findSome? (fun i => if good i = true then none else some r) = none := by
      rw [List.findSome?_eq_none_iff]
      intro x hx
      rw [List.all_eq_true] at e
      simp [e x hx]
    rw [this, if_pos e]
  · rw [if_neg e]
    cases h : (List.range n).findSome? (fun i => if good i = true then none else some r) with
    | none =>
      exfalso
      apply e
      rw [List.all_eq_true]
      intro x hx
      rw [List.findSome?_eq_none_iff] at h
      exact tr x (h x hx)
    | some q =>
      obtain ⟨x, hx, hq⟩ := List.exists_of_findSome?_eq_some h
      split at hq
      · cases hq
      · cases hq; rfl

theorem iter_good {S R : Type} {f : (S → Option R) → S → Option R} (st : Nat → S) (good : Nat → Bool) (r k : Option R) (n : Nat) (hn : n ≤ 1152921504606846976)
    (hs : ∀ kb i, i < n → f kb (st i) = if good i = true then kb (st (i + 1)) else r) (he : ∀ kb, f kb (st n) = k) {s0 : S} (h0 : s0 = st 0) :
    iter f FU s0 = if (List.range n).all good = true then k else r :=
  iter_goodH st good r k n hn (fun kb i hi _ => hs kb i hi) (fun kb _ => he kb) h0

/-- To copy a list into zeros, element by element. -/
theorem iter_copy {α R : Type} {f : (List α × Int → Option R) → List α × Int → Option R} (xs : List α) (z : α) (k : List α → Option R) (hn : xs.length ≤ 2147483648)
    (hs : ∀ kb (ys : List α) (i : Nat) (hi : i < xs.length), ys.length = xs.length → f kb (ys, (i : Int)) = kb (ys.set i xs[i], ((i + 1 : Nat) : Int)))
    (he : ∀ kb (ys : List α), f kb (ys, (xs.length : Int)) = k ys) : iter f FU (List.replicate xs.length z, 0) = k xs := by
  refine iter_all (fun i => (xs.take i ++ List.replicate (xs.length - i) z, (i : Int))) _ xs.length (by omega) (fun kb i hi => ?_) (fun kb => ?_) (by simp)
  · rw [hs kb _ i hi (by simp; omega)]
    congr 2
    have : xs.length - i = (xs.length - (i + 1)) + 1 := by omega
    have hk : min i xs.length = i := by omega
    show _ = (List.take (i + 1) xs ++ _)
    rw [this, List.replicate_succ, List.set_append_right _ _ (by simp; omega), show List.take (i + 1) xs = List.take i xs ++ [xs[i]] from List.take_succ_eq_append_getElem hi]
    simp only [List.length_take, hk, Nat.sub_self, List.set_cons_zero]
    rw [List.append_assoc]
    rfl
  · rw [he]
    simp

theorem all_range_eq {α : Type} [DecidableEq α] {xs ys : List α} (h : xs.length = ys.length) : (List.range xs.length).all (fun i => decide (xs[i]? = ys[i]?)) = decide (xs = ys) := by
  by_cases e : xs = ys
  · subst e; simp
  · rw [decide_eq_false e, List.all_eq_false]
    apply Classical.byContradiction
    intro hc
    apply e
    apply List.ext_getElem? 
    intro i
    by_cases hi : i < xs.length
    · apply Classical.byContradiction
      intro hne
      exact hc ⟨i, List.mem_range.2 hi, by simpa using hne⟩
    · rw [List.getElem?_eq_none (by omega), List.getElem?_eq_none (by omega)]

theorem step1 (i : Nat) (n : Nat) (h : i < n) (hn : n ≤ 1152921504606846976) : IntKind.wrap .i64 ((i : Int) + 1) = ((i + 1 : Nat) : Int) := by
  rw [w64 (by omega) (by omega)]; omega

/-- The first place where p holds, or -1. -/
def idxOf {α : Type} (p : α → Bool) (xs : List α) : Int := match xs.findIdx? p with
  | some k => (k : Int)
  | none => -1

theorem idxOf_nonneg {α : Type} (p : α → Bool) (xs : List α) : decide (0 ≤ idxOf p xs) = xs.any p := by
  unfold idxOf
  cases h : xs.findIdx? p with
  | none =>
    rw [List.findIdx?_eq_none_iff] at h
    have : xs.any p = false := by rw [List.any_eq_false]; intro x hx; simp [h x hx]
    simp [this]
  | some k =>
    rw [List.findIdx?_eq_some_iff_getElem] at h
    obtain ⟨hk, hp, _⟩ := h
    have : xs.any p = true := List.any_eq_true.2 ⟨xs[k], List.getElem_mem hk, hp⟩
    simp [this]

theorem iter_index {α : Type} (xs : List α) (p : α → Bool) {f : (Int → Option Int) → Int → Option Int} (hn : xs.length ≤ 1152921504606846976)
    (hs : ∀ kb (i : Nat) (hi : i < xs.length), f kb (i : Int) = if p xs[i] = true then some (i : Int) else kb ((i + 1 : Nat) : Int)) (he : ∀ kb, f kb (xs.length : Int) = some (-1)) : iter f FU 0 = some (idxOf p xs) := by
  rw [iter_stop (s0 := (0 : Int)) (fun i => (i : Int)) (fun i : Nat => (xs[i]?).bind fun x => if p x = true then some (some (i : Int)) else none) (some (-1)) xs.length hn (fun kb i hi => ?_) (fun kb => he kb) rfl]
  · have key : ∀ (ys : List α) (o : Nat), (List.range ys.length).findSome? (fun i : Nat => (ys[i]?).bind fun x => if p x = true then some (some ((o + i : Nat) : Int)) else none) = (ys.findIdx? p).map fun k => some ((o + k : Nat) : Int) := by
      intro ys
      induction ys with
      | nil => intro o; rfl
      | cons y ys ih =>
        intro o
        rw [List.length_cons, List.range_succ_eq_map, List.findSome?_cons, List.findSome?_map, List.findIdx?_cons]
        simp only [List.getElem?_cons_zero, Option.bind_some]
        by_cases e : p y = true
        · simp [e]
        · simp only [e, if_false, Function.comp_def, List.getElem?_cons_succ, Bool.false_eq_true]
          have := ih (o + 1)
          rw [show (fun i : Nat => (ys[i]?).bind fun x => if p x = true then some (some ((o + (i + 1) : Nat) : Int)) else none) = fun i : Nat => (ys[i]?).bind fun x => if p x = true then some (some ((o + 1 + i : Nat) : Int)) else none from by funext i; rw [show o + (i + 1) = o + 1 + i by omega]]
          rw [this]
          cases ys.findIdx? p <;> simp; omega
    have := key xs 0
    simp only [Nat.zero_add] at this
    rw [this]
    unfold idxOf
    cases xs.findIdx? p <;> rfl
  · rw [hs kb i hi, List.getElem?_eq_getElem hi]
    simp only [Option.bind_some]
    by_cases e : p xs[i] = true <;> simp [e]

theorem all_range {α : Type} (xs : List α) (p : α → Bool) : ((List.range xs.length).all fun i => ((xs[i]?).map p).getD true) = xs.all p := by
  rw [Bool.eq_iff_iff, List.all_eq_true, List.all_eq_true]
  constructor
  · intro H x hx
    obtain ⟨i, hi, rfl⟩ := List.mem_iff_getElem.1 hx
    have := H i (List.mem_range.2 hi)
    rw [List.getElem?_eq_getElem hi] at this
    exact this
  · intro H i hi
    have hi := List.mem_range.1 hi
    rw [List.getElem?_eq_getElem hi]
    exact H _ (List.getElem_mem hi)

/-- A loop that ends with r at the first element for which p holds, and with k if there is none. -/
theorem iter_any {α R : Type} (xs : List α) (p : α → Bool) (r k : Option R) {f : (Int → Option R) → Int → Option R} (hn : xs.length ≤ 1152921504606846976)
    (hs : ∀ kb (i : Nat) (hi : i < xs.length), f kb (i : Int) = if p xs[i] = true then r else kb ((i + 1 : Nat) : Int)) (he : ∀ kb, f kb (xs.length : Int) = k) : iter f FU 0 = if xs.any p = true then r else k := by
  rw [iter_good (s0 := (0 : Int)) (fun i => (i : Int)) (fun i => ((xs[i]?).map fun x => !p x).getD true) r k xs.length hn (fun kb i hi => ?_) (fun kb => he kb) rfl, all_range xs fun x => !p x]
  · cases h : xs.any p with
    | true =>
      have : (xs.all fun x => !p x) = false := by
        rw [List.all_eq_false]; obtain ⟨x, hx, hp⟩ := List.any_eq_true.1 h; exact ⟨x, hx, by simp [hp]⟩
      simp [this]
    | false =>
      have : (xs.all fun x => !p x) = true := by
        rw [List.all_eq_true]; intro x hx; rw [List.any_eq_false] at h; simp [h x hx]
      simp [this]
  · rw [hs kb i hi, List.getElem?_eq_getElem hi]
    cases h : p xs[i] <;> simp [h]

/-- A loop over all elements that ends with r at the first for which p does not hold. -/
theorem iter_every {α R : Type} (xs : List α) (p : α → Bool) (r k : Option R) {f : (Int → Option R) → Int → Option R} (hn : xs.length ≤ 1152921504606846976)
    (hs : ∀ kb (i : Nat) (hi : i < xs.length), f kb (i : Int) = if p xs[i] = true then kb ((i + 1 : Nat) : Int) else r) (he : ∀ kb, f kb (xs.length : Int) = k) : iter f FU 0 = if xs.all p = true then k else r := by
  rw [iter_good (s0 := (0 : Int)) (fun i => (i : Int)) (fun i => ((xs[i]?).map p).getD true) r k xs.length hn (fun kb i hi => ?_) (fun kb => he kb) rfl, all_range xs p]
  rw [hs kb i hi, List.getElem?_eq_getElem hi]
  rfl

theorem p_szCellS (xs : List TCell) (h : xs.length ≤ maxLen) (z : Int) (h1 : 0 ≤ z) (h2 : z ≤ 1048576) : m_laws_szCellS xs z = some (if z < xs.length then -1 else z - xs.length) := by
  unfold m_laws_szCellS
  have : IntKind.wrap .i64 (z - (xs.length : Int)) = z - xs.length := by unfold maxLen at h; exact w64 (by omega) (by omega)
  rw [this]
  split <;> split <;> first | rfl | omega

theorem p_toCellS (xs : List TCell) (h : xs.length ≤ 1048576) : m_laws_toCellS xs = some xs := by
  unfold m_laws_toCellS
  rw [if_pos ⟨by omega, by omega⟩]
  simp only [Int.toNat_natCast]
  refine iter_copy xs _ laws_toCellS_j3 (by omega) (fun kb ys i hi hy => ?_) (fun kb ys => ?_)
  · unfold laws_toCellS_b5
    simp only [idx_nat hi, idx_nat (show i < ys.length by omega), m_laws_toCell, Option.bind_some, Int.toNat_natCast, step1 i _ hi (by omega)]
    rw [if_pos (by omega)]
  · unfold laws_toCellS_b5
    rw [if_neg (by omega)]

theorem p_eqCell (a b : TCell) : m_laws_eqCell a b = some (decide (a = b)) := by
  unfold m_laws_eqCell
  cases a; cases b
  simp only [TCell.mk.injEq]
  repeat' split
  all_goals simp_all

theorem p_eqCellS (xs ys : List TCell) (h : xs.length ≤ 1048576) : m_laws_eqCellS xs ys = some (decide (xs = ys)) := by
  unfold m_laws_eqCellS
  split
  · rename_i hl
    have : ¬ xs = ys := fun e => hl (by rw [e])
    simp [this]
  · rename_i hl
    have hl : xs.length = ys.length := by omega
    rw [iter_good (s0 := (0 : Int)) (fun i => (i : Int)) (fun i => decide (xs[i]? = ys[i]?)) (some false) (some true) xs.length (by omega) (fun kb i hi => ?_) (fun kb => ?_) rfl, all_range_eq hl]
    · by_cases e : xs = ys <;> simp [e]
    · unfold laws_eqCellS_b6
      simp only [idx_nat hi, idx_nat (show i < ys.length by omega), p_eqCell, Option.bind_some, step1 i _ hi (by omega)]
      rw [if_pos (by omega), List.getElem?_eq_getElem hi, List.getElem?_eq_getElem (show i < ys.length by omega)]
      simp
    · unfold laws_eqCellS_b6
      rw [if_neg (by omega)]
      rfl

theorem p_szWriteS (xs : List TCell) (h : xs.length ≤ maxLen) (z : Int) (h1 : 0 ≤ z) (h2 : z ≤ 1048576) : m_laws_szWriteS xs z = some (if z < xs.length then -1 else z - xs.length) := by
  unfold m_laws_szWriteS
  have : IntKind.wrap .i64 (z - (xs.length : Int)) = z - xs.length := by unfold maxLen at h; exact w64 (by omega) (by omega)
  rw [this]
  split <;> split <;> first | rfl | omega

theorem p_toWriteS (xs : List TCell) (h : xs.length ≤ 1048576) : m_laws_toWriteS xs = some xs := by
  unfold m_laws_toWriteS
  rw [if_pos ⟨by omega, by omega⟩]
  simp only [Int.toNat_natCast]
  refine iter_copy xs _ laws_toWriteS_j3 (by omega) (fun kb ys i hi hy => ?_) (fun kb ys => ?_)
  · unfold laws_toWriteS_b5
    simp only [idx_nat hi, idx_nat (show i < ys.length by omega), m_laws_toWrite, Option.bind_some, Int.toNat_natCast, step1 i _ hi (by omega)]
    rw [if_pos (by omega)]
  · unfold laws_toWriteS_b5
    rw [if_neg (by omega)]

theorem p_eqWrite (a b : TCell) : m_laws_eqWrite a b = some (decide (a = b)) := by
  unfold m_laws_eqWrite
  cases a; cases b
  simp only [TCell.mk.injEq]
  repeat' split
  all_goals simp_all

theorem p_eqWriteS (xs ys : List TCell) (h : xs.length ≤ 1048576) : m_laws_eqWriteS xs ys = some (decide (xs = ys)) := by
  unfold m_laws_eqWriteS
  split
  · rename_i hl
    have : ¬ xs = ys := fun e => hl (by rw [e])
    simp [this]
  · rename_i hl
    have hl : xs.length = ys.length := by omega
    rw [iter_good (s0 := (0 : Int)) (fun i => (i : Int)) (fun i => decide (xs[i]? = ys[i]?)) (some false) (some true) xs.length (by omega) (fun kb i hi => ?_) (fun kb => ?_) rfl, all_range_eq hl]
    · by_cases e : xs = ys <;> simp [e]
    · unfold laws_eqWriteS_b6
      simp only [idx_nat hi, idx_nat (show i < ys.length by omega), p_eqWrite, Option.bind_some, step1 i _ hi (by omega)]
      rw [if_pos (by omega), List.getElem?_eq_getElem hi, List.getElem?_eq_getElem (show i < ys.length by omega)]
      simp
    · unfold laws_eqWriteS_b6
      rw [if_neg (by omega)]
      rfl

def within (z lo hi : Int) : Bool := decide (lo ≤ z) && decide (z ≤ hi)

theorem p_l1In (z lo hi : Int) : m_spec_l1In z lo hi = some (within z lo hi) := by
  unfold m_spec_l1In within; by_cases h : lo ≤ z <;> simp [h]
theorem p_from (z lo hi : Int) : m_impl_from z lo hi = some (within z lo hi) := by
  unfold m_impl_from within; by_cases h : lo ≤ z <;> simp [h]
theorem p_l10Key (z : Int) : m_spec_l10Key z = some (within z 0 999) := by simp [m_spec_l10Key, p_l1In]
theorem p_isKey (z : Int) : m_impl_isKey z = some (within z 0 999) := by simp [m_impl_isKey, p_from]
theorem p_l1Whole (z : Int) : m_spec_l1Whole z = some (within z 0 1000000000) := by simp [m_spec_l1Whole, p_l1In]
theorem p_isWhole (z : Int) : m_impl_isWhole z = some (within z 0 1000000000) := by simp [m_impl_isWhole, p_from]


def cellGood (xs : List TCell) (i : Nat) : Bool := match xs[i]? with
  | none => true
  | some c => within c.Key 0 999 && within c.Value 0 1000000000 && (i == 0 || match xs[i - 1]? with | some p => decide (p.Key < c.Key) | none => true)

def storeGood (xs : List TCell) : Bool := decide (xs.length ≤ 60) && (List.range xs.length).all (cellGood xs)

theorem p_spec_StoreOk (xs : List TCell) (h : xs.length ≤ 1048576) : m_spec_StoreOk xs = some (storeGood xs) := by
  unfold m_spec_StoreOk storeGood
  split
  · rename_i h1
    have : ¬ xs.length ≤ 60 := by omega
    simp [this]
  · rename_i h1
    have : xs.length ≤ 60 := by omega
    rw [iter_good (s0 := (0 : Int)) (fun i => (i : Int)) (cellGood xs) (some false) (some true) xs.length (by omega) (fun kb i hi => ?_) (fun kb => ?_) rfl]
    · simp only [this, decide_true, Bool.true_and]; split <;> simp_all
    · unfold spec_StoreOk_b5 spec_StoreOk_j8 cellGood
      simp only [idx_nat hi, p_l10Key, p_l1Whole, Option.bind_some, step1 i _ hi (by omega), List.getElem?_eq_getElem hi]
      rw [if_pos (by omega)]
      cases within xs[i].Key 0 999 <;> simp
      cases within xs[i].Value 0 1000000000 <;> simp
      by_cases h0 : 0 < i
      · have h2 : IntKind.wrap .i64 ((i : Int) - 1) = ((i - 1 : Nat) : Int) := by rw [w64 (by omega) (by omega)]; omega
        have h3 : i - 1 < xs.length := by omega
        have h4 : ¬ i = 0 := by omega
        simp only [h0, if_true, h2, idx_nat h3, Option.bind_some, List.getElem?_eq_getElem h3, h4, false_or]
        by_cases h5 : xs[i].Key ≤ xs[i - 1].Key
        · have : ¬ xs[i - 1].Key < xs[i].Key := by omega
          simp [h5, this]
        · have : xs[i - 1].Key < xs[i].Key := by omega
          simp [h5, this]
      · have h4 : i = 0 := by omega
        simp [h4]
    · unfold spec_StoreOk_b5
      rw [if_neg (by omega)]; rfl

theorem p_impl_StoreOk (xs : List TCell) (h : xs.length ≤ 1048576) : m_impl_StoreOk xs = some (storeGood xs) := by
  unfold m_impl_StoreOk storeGood
  rw [iter_good (s0 := (0 : Int)) (fun i => (i : Int)) (cellGood xs) (some false) (some (decide (xs.length ≤ 60))) xs.length (by omega) (fun kb i hi => ?_) (fun kb => ?_) rfl]
  · split <;> simp_all
  · unfold impl_StoreOk_b4 impl_StoreOk_j9 cellGood
    simp only [idx_nat hi, p_isKey, p_isWhole, Option.bind_some, step1 i _ hi (by omega), List.getElem?_eq_getElem hi]
    rw [if_pos (by omega)]
    cases within xs[i].Key 0 999 <;> simp
    cases within xs[i].Value 0 1000000000 <;> simp
    by_cases h0 : 0 < i
    · have h2 : IntKind.wrap .i64 ((i : Int) - 1) = ((i - 1 : Nat) : Int) := by rw [w64 (by omega) (by omega)]; omega
      have h3 : i - 1 < xs.length := by omega
      have h4 : ¬ i = 0 := by omega
      simp only [h0, if_true, h2, idx_nat h3, Option.bind_some, List.getElem?_eq_getElem h3, h4, false_or]
      by_cases h5 : xs[i].Key ≤ xs[i - 1].Key
      · have : ¬ xs[i - 1].Key < xs[i].Key := by omega
        simp [h5, this]
      · have : xs[i - 1].Key < xs[i].Key := by omega
        simp [h5, this]
    · have h4 : i = 0 := by omega
      simp [h4]
  · unfold impl_StoreOk_b4 impl_StoreOk_j2
    rw [if_neg (by omega)]
    have : ((xs.length : Int) ≤ 60) ↔ xs.length ≤ 60 := by omega
    simp [this]

/-- Keys that go up. -/
def asc (xs : List TCell) : Prop := ∀ i j (hi : i < xs.length) (hj : j < xs.length), i < j → xs[i].Key < xs[j].Key

theorem storeGood_le {xs : List TCell} (h : storeGood xs = true) : xs.length ≤ 60 := by
  unfold storeGood at h; simp at h; exact h.1

theorem storeGood_at {xs : List TCell} (h : storeGood xs = true) {i : Nat} (hi : i < xs.length) : cellGood xs i = true := by
  unfold storeGood at h
  simp only [Bool.and_eq_true, List.all_eq_true] at h
  exact h.2 i (List.mem_range.2 hi)

theorem storeGood_key {xs : List TCell} (h : storeGood xs = true) {i : Nat} (hi : i < xs.length) : 0 ≤ xs[i].Key ∧ xs[i].Key ≤ 999 ∧ 0 ≤ xs[i].Value ∧ xs[i].Value ≤ 1000000000 := by
  have := storeGood_at h hi
  unfold cellGood within at this
  rw [List.getElem?_eq_getElem hi] at this
  simp only [Bool.and_eq_true, decide_eq_true_eq] at this
  exact ⟨this.1.1.1, this.1.1.2, this.1.2.1, this.1.2.2⟩

theorem storeGood_asc {xs : List TCell} (h : storeGood xs = true) : asc xs := by
  have step : ∀ i (hi : i + 1 < xs.length), xs[i].Key < xs[i + 1].Key := by
    intro i hi
    have := storeGood_at h hi
    unfold cellGood at this
    rw [List.getElem?_eq_getElem hi] at this
    simp only [Bool.and_eq_true, Nat.add_sub_cancel, List.getElem?_eq_getElem (show i < xs.length by omega)] at this
    simpa using this.2
  intro i j hi hj hlt
  induction j with
  | zero => omega
  | succ j ih =>
    by_cases e : i = j
    · subst e; exact step i hj
    · have := ih (by omega) (by omega)
      have := step j hj
      omega

theorem mid {a b : Nat} (h : a < b) (hb : b ≤ 1048576) : IntKind.wrap .i64 (Int.fdiv (IntKind.wrap .u64 (IntKind.wrap .i64 ((a : Int) + (b : Int)))) (2 ^ (min (Int.toNat 1) (IntKind.bits .u64)))) = (((a + b) / 2 : Nat) : Int) := by
  rw [w64 (n := (a : Int) + b) (by omega) (by omega)]
  have h1 : IntKind.wrap .u64 ((a : Int) + b) = (a : Int) + b := by
    unfold IntKind.wrap
    simp only [IntKind.bits, IntKind.signed]
    simp
    omega
  rw [h1]
  have h2 : (min (Int.toNat 1) (IntKind.bits .u64)) = 1 := by decide
  rw [h2]
  have h3 : ((a : Int) + b).fdiv (2 ^ 1) = (((a + b) / 2 : Nat) : Int) := by
    rw [Int.fdiv_eq_ediv_of_nonneg _ (by decide)]
    omega
  rw [h3]
  exact w64 (by omega) (by omega)

/-- Where a key is, or would be. -/
theorem p_bsearch (xs : List TCell) (k : Int) (hs : asc xs) (hl : xs.length ≤ 1048576) (hk : ∀ i (hi : i < xs.length), -1000000000000 ≤ xs[i].Key ∧ xs[i].Key ≤ 1000000000000) (h1 : -9000000000000000000 ≤ k) (h2 : k ≤ 9000000000000000000) :
    ∃ p : Nat, p ≤ xs.length ∧ (∀ i (hi : i < xs.length), i < p ↔ xs[i].Key < k) ∧ m_impl_cellFor xs k = some ((p : Int), decide ((xs[p]?).map (·.Key) = some k)) := by
  have hc : ∀ i (hi : i < xs.length), m_impl_cellFor_1 xs[i] k = some (xs[i].Key - k) := fun i hi => by
    unfold m_impl_cellFor_1
    have := hk i hi
    rw [w64 (by omega) (by omega)]
  -- the loop
  have loop : ∀ (m lo hi : Nat), lo ≤ hi → hi ≤ xs.length → hi - lo < m → (∀ i (h : i < xs.length), i < lo → xs[i].Key < k) → (∀ i (h : i < xs.length), hi ≤ i → ¬ xs[i].Key < k) →
      ∃ p : Nat, p ≤ xs.length ∧ (∀ i (hi : i < xs.length), i < p ↔ xs[i].Key < k) ∧
        iter (slices_BinarySearchFunc_Cell_int__cellFor_1_b10 xs k (slices_BinarySearchFunc_Cell_int__cellFor_1_j3 xs k)) m ((lo : Int), (hi : Int)) = slices_BinarySearchFunc_Cell_int__cellFor_1_j3 xs k (p : Int) := by
    intro m
    induction m with
    | zero => intro lo hi _ _ h; omega
    | succ m ih =>
      intro lo hi hle hhi hm hlow hhigh
      unfold iter
      unfold slices_BinarySearchFunc_Cell_int__cellFor_1_b10
      by_cases e : lo = hi
      · subst e
        refine ⟨lo, hhi, fun i h => ⟨hlow i h, fun hlt => ?_⟩, ?_⟩
        · apply Classical.byContradiction
          intro hn
          exact hhigh i h (by omega) hlt
        · rw [if_neg (by simp)]
      · have hlt : lo < hi := by omega
        rw [if_pos (by simp; omega)]
        simp only [mid hlt (show hi ≤ 1048576 by omega)]
        have hmid : (lo + hi) / 2 < xs.length := by omega
        rw [idx_nat hmid]
        simp only [Option.bind_some, hc _ hmid]
        by_cases hv : xs[(lo + hi) / 2].Key - k < 0
        · rw [if_pos hv, step1 ((lo + hi) / 2) (xs.length) hmid (by omega)]
          refine ih ((lo + hi) / 2 + 1) hi (by omega) hhi (by omega) (fun i h hi' => ?_) hhigh
          by_cases e2 : i = (lo + hi) / 2
          · subst e2; omega
          · have := hs i ((lo + hi) / 2) h hmid (by omega); omega
        · rw [if_neg hv]
          refine ih lo ((lo + hi) / 2) (by omega) (by omega) (by omega) hlow (fun i h hi' => ?_)
          by_cases e2 : i = (lo + hi) / 2
          · subst e2; omega
          · have := hs ((lo + hi) / 2) i hmid h (by omega); omega
  obtain ⟨p, hp, hiff, hit⟩ := loop FU 0 xs.length (by omega) (by omega) (by unfold FU; omega) (fun i h h0 => by omega) (fun i h h0 => by omega)
  refine ⟨p, hp, hiff, ?_⟩
  unfold m_impl_cellFor m_slices_BinarySearchFunc_Cell_int__cellFor_1
  have hit : iter (slices_BinarySearchFunc_Cell_int__cellFor_1_b10 xs k (slices_BinarySearchFunc_Cell_int__cellFor_1_j3 xs k)) FU (0, (xs.length : Int)) = _ := hit
  rw [hit]
  unfold slices_BinarySearchFunc_Cell_int__cellFor_1_j3
  by_cases e : p < xs.length
  · rw [if_pos (by omega), idx_nat e]
    simp only [Option.bind_some, hc p e, List.getElem?_eq_getElem e, Option.map_some]
    congr 2
    rw [decide_eq_decide]
    simp
    omega
  · rw [if_neg (by omega), List.getElem?_eq_none (by omega)]
    simp

theorem range_findSome {α β : Type} : ∀ (xs : List α) (g : α → Option β), (List.range xs.length).findSome? (fun i => (xs[i]?).bind g) = xs.findSome? g
  | [], _ => rfl
  | x :: xs, g => by
    rw [List.length_cons, List.range_succ_eq_map, List.findSome?_cons, List.findSome?_cons, List.findSome?_map]
    simp only [List.getElem?_cons_zero, Option.bind_some]
    cases g x with
    | some y => rfl
    | none =>
      simp only [Function.comp_def, List.getElem?_cons_succ]
      exact range_findSome xs g

/-- The value at a key, or -1. -/
def valueAt (xs : List TCell) (k : Int) : Int := match xs.find? fun c => decide (c.Key = k) with
  | some c => c.Value
  | none => -1

theorem p_l11Get (xs : List TCell) (k : Int) (hl : xs.length ≤ 1048576) : m_spec_l11Get xs k = some (valueAt xs k) := by
  unfold m_spec_l11Get
  rw [iter_stop (s0 := (0 : Int)) (fun i => (i : Int)) (fun i : Nat => match xs[i]? with | some c => if c.Key = k then some (some c.Value) else none | none => none) (some (-1)) xs.length (by omega) (fun kb i hi => ?_) (fun kb => ?_) rfl]
  · have : ∀ ys : List TCell, ys.findSome? (fun c => if c.Key = k then some (some c.Value) else none) = (ys.find? fun c => decide (c.Key = k)).map fun c => some c.Value := by
      intro ys
      induction ys with
      | nil => rfl
      | cons y ys ih =>
        simp only [List.findSome?_cons, List.find?_cons]
        by_cases e : y.Key = k
        · simp [e]
        · simp [e, ih]
    have h2 : (List.range xs.length).findSome? (fun i : Nat => match xs[i]? with | some c => if c.Key = k then some (some c.Value) else none | none => none) = xs.findSome? (fun c => if c.Key = k then some (some c.Value) else none) := by
      have key : ∀ (g : TCell → Option (Option Int)), (List.range xs.length).findSome? (fun i : Nat => match xs[i]? with | some c => g c | none => none) = xs.findSome? g := fun g => by
        have e : (fun i : Nat => match xs[i]? with | some c => g c | none => none) = fun i => (xs[i]?).bind g := by funext i; cases xs[i]? <;> rfl
        rw [e]
        exact range_findSome xs g
      exact key _
    rw [h2, this]
    unfold valueAt
    cases xs.find? fun c => decide (c.Key = k) <;> rfl
  · unfold spec_l11Get_b5
    simp only [idx_nat hi, Option.bind_some, step1 i _ hi (by omega), List.getElem?_eq_getElem hi]
    rw [if_pos (by omega)]
    by_cases e : xs[i].Key = k <;> simp [e]
  · unfold spec_l11Get_b5
    rw [if_neg (by omega)]; rfl

theorem valueAt_spec {xs : List TCell} {k : Int} (hs : asc xs) {p : Nat} (hp : p ≤ xs.length) (hiff : ∀ i (hi : i < xs.length), i < p ↔ xs[i].Key < k) :
    valueAt xs k = match xs[p]? with | some c => if c.Key = k then c.Value else -1 | none => -1 := by
  unfold valueAt
  by_cases e : ∃ h : p < xs.length, xs[p].Key = k
  · obtain ⟨h, e⟩ := e
    have : xs.find? (fun c => decide (c.Key = k)) = some xs[p] := by
      rw [List.find?_eq_some_iff_getElem]
      refine ⟨by simp [e], p, h, rfl, fun j hj => ?_⟩
      have := (hiff j (by omega)).1 hj
      simp; omega
    rw [this, List.getElem?_eq_getElem h]
    simp [e]
  · have : xs.find? (fun c => decide (c.Key = k)) = none := by
      rw [List.find?_eq_none]
      intro x hx
      obtain ⟨i, hi, rfl⟩ := List.mem_iff_getElem.1 hx
      simp only [decide_eq_true_eq]
      intro hk
      apply e
      have h1 := hiff i hi
      by_cases e1 : p < xs.length
      · refine ⟨e1, ?_⟩
        have h2 := hiff p e1
        by_cases e2 : i = p
        · subst e2; exact hk
        · have : ¬ i < p := by omega
          have h3 := hs p i e1 hi (by omega)
          omega
      · omega
    rw [this]
    by_cases e1 : p < xs.length
    · rw [List.getElem?_eq_getElem e1]
      have : ¬ xs[p].Key = k := fun h => e ⟨e1, h⟩
      simp [this]
    · rw [List.getElem?_eq_none (by omega)]

theorem p_valueOf (xs : List TCell) (k : Int) (hg : storeGood xs = true) (h1 : -9000000000000000000 ≤ k) (h2 : k ≤ 9000000000000000000) : m_impl_valueOf xs k = some (valueAt xs k) := by
  have hs := storeGood_asc hg
  have hl := storeGood_le hg
  obtain ⟨p, hp, hiff, hb⟩ := p_bsearch xs k hs (by omega) (fun i hi => by have := storeGood_key hg hi; omega) h1 h2
  unfold m_impl_valueOf
  rw [hb, valueAt_spec hs hp hiff]
  simp only [Option.bind_some, decide_eq_true_eq]
  by_cases e : p < xs.length
  · rw [List.getElem?_eq_getElem e]
    simp only [Option.map_some, Option.some.injEq, idx_nat e, Option.bind_some]
    split <;> rfl
  · rw [List.getElem?_eq_none (by omega)]
    simp

theorem p_bsearch_none (xs : List TCell) (k : Int) (hl : xs.length ≤ 1048576) (hne : ∀ i (hi : i < xs.length), IntKind.wrap .i64 (xs[i].Key - k) ≠ 0) : ∃ p : Int, m_impl_cellFor xs k = some (p, false) := by
  have loop : ∀ (m lo hi : Nat), lo ≤ hi → hi ≤ xs.length → hi - lo < m →
      ∃ p : Nat, iter (slices_BinarySearchFunc_Cell_int__cellFor_1_b10 xs k (slices_BinarySearchFunc_Cell_int__cellFor_1_j3 xs k)) m ((lo : Int), (hi : Int)) = slices_BinarySearchFunc_Cell_int__cellFor_1_j3 xs k (p : Int) := by
    intro m
    induction m with
    | zero => intro lo hi _ _ h; omega
    | succ m ih =>
      intro lo hi hle hhi hm
      unfold iter
      unfold slices_BinarySearchFunc_Cell_int__cellFor_1_b10
      by_cases e : lo = hi
      · subst e
        exact ⟨lo, by rw [if_neg (by simp)]⟩
      · have hlt : lo < hi := by omega
        rw [if_pos (by simp; omega)]
        simp only [mid hlt (show hi ≤ 1048576 by omega)]
        have hmid : (lo + hi) / 2 < xs.length := by omega
        rw [idx_nat hmid]
        simp only [Option.bind_some, m_impl_cellFor_1]
        split
        · rw [step1 ((lo + hi) / 2) (xs.length) hmid (by omega)]
          exact ih ((lo + hi) / 2 + 1) hi (by omega) hhi (by omega)
        · exact ih lo ((lo + hi) / 2) (by omega) (by omega) (by omega)
  obtain ⟨p, hit⟩ := loop FU 0 xs.length (by omega) (by omega) (by unfold FU; omega)
  refine ⟨p, ?_⟩
  unfold m_impl_cellFor m_slices_BinarySearchFunc_Cell_int__cellFor_1
  have hit : iter (slices_BinarySearchFunc_Cell_int__cellFor_1_b10 xs k (slices_BinarySearchFunc_Cell_int__cellFor_1_j3 xs k)) FU (0, (xs.length : Int)) = _ := hit
  rw [hit]
  unfold slices_BinarySearchFunc_Cell_int__cellFor_1_j3
  by_cases e : p < xs.length
  · rw [if_pos (by omega), idx_nat e]
    simp [m_impl_cellFor_1, hne p e]
  · rw [if_neg (by omega)]
    simp

theorem p_valueOf_any (xs : List TCell) (k : Int) (hg : storeGood xs = true) (h1 : -9223372036854775808 ≤ k) (h2 : k < 9223372036854775808) : m_impl_valueOf xs k = some (valueAt xs k) := by
  by_cases h : -9000000000000000000 ≤ k ∧ k ≤ 9000000000000000000
  · exact p_valueOf xs k hg h.1 h.2
  · have hl := storeGood_le hg
    obtain ⟨p, hp⟩ := p_bsearch_none xs k (by omega) (fun i hi => by
      have := storeGood_key hg hi
      rw [IntKind.wrap_i64]
      omega)
    have : xs.find? (fun c => decide (c.Key = k)) = none := by
      rw [List.find?_eq_none]
      intro x hx
      obtain ⟨i, hi, rfl⟩ := List.mem_iff_getElem.1 hx
      have := storeGood_key hg hi
      simp; omega
    unfold m_impl_valueOf valueAt
    rw [hp, this]
    simp

theorem p_isAnswer (z : Int) : m_impl_isAnswer z = some (within z (-1) 1000000000) := by simp [m_impl_isAnswer, p_from]

def writeGood (xs : List TCell) (i : Nat) : Bool := match xs[i]? with
  | none => true
  | some c => within c.Key 0 999 && within c.Value (-1) 1000000000 && (i == 0 || match xs[i - 1]? with | some p => decide (p.Key < c.Key) | none => true)

def writesGood (xs : List TCell) : Bool := decide (xs.length ≤ 60) && (List.range xs.length).all (writeGood xs)

theorem p_spec_WritesOk (xs : List TCell) (h : xs.length ≤ 1048576) : m_spec_WritesOk xs = some (writesGood xs) := by
  unfold m_spec_WritesOk writesGood
  split
  · rename_i h1
    have : ¬ xs.length ≤ 60 := by omega
    simp [this]
  · rename_i h1
    have : xs.length ≤ 60 := by omega
    rw [iter_good (s0 := (0 : Int)) (fun i => (i : Int)) (writeGood xs) (some false) (some true) xs.length (by omega) (fun kb i hi => ?_) (fun kb => ?_) rfl]
    · simp only [this, decide_true, Bool.true_and]; split <;> simp_all
    · unfold spec_WritesOk_b5 spec_WritesOk_j8 writeGood
      simp only [idx_nat hi, p_l10Key, p_l1In, Option.bind_some, step1 i _ hi (by omega), List.getElem?_eq_getElem hi]
      rw [if_pos (by omega)]
      cases within xs[i].Key 0 999 <;> simp
      cases within xs[i].Value (-1) 1000000000 <;> simp
      by_cases h0 : 0 < i
      · have h2 : IntKind.wrap .i64 ((i : Int) - 1) = ((i - 1 : Nat) : Int) := by rw [w64 (by omega) (by omega)]; omega
        have h3 : i - 1 < xs.length := by omega
        have h4 : ¬ i = 0 := by omega
        simp only [h0, if_true, h2, idx_nat h3, Option.bind_some, List.getElem?_eq_getElem h3, h4, false_or]
        by_cases h5 : xs[i].Key ≤ xs[i - 1].Key
        · have : ¬ xs[i - 1].Key < xs[i].Key := by omega
          simp [h5, this]
        · have : xs[i - 1].Key < xs[i].Key := by omega
          simp [h5, this]
      · have h4 : i = 0 := by omega
        simp [h4]
    · unfold spec_WritesOk_b5
      rw [if_neg (by omega)]; rfl

theorem p_impl_WritesOk (xs : List TCell) (h : xs.length ≤ 1048576) : m_impl_WritesOk xs = some (writesGood xs) := by
  unfold m_impl_WritesOk writesGood
  rw [iter_good (s0 := (0 : Int)) (fun i => (i : Int)) (writeGood xs) (some false) (some (decide (xs.length ≤ 60))) xs.length (by omega) (fun kb i hi => ?_) (fun kb => ?_) rfl]
  · split <;> simp_all
  · unfold impl_WritesOk_b4 impl_WritesOk_j9 writeGood
    simp only [idx_nat hi, p_isKey, p_isAnswer, Option.bind_some, step1 i _ hi (by omega), List.getElem?_eq_getElem hi]
    rw [if_pos (by omega)]
    cases within xs[i].Key 0 999 <;> simp
    cases within xs[i].Value (-1) 1000000000 <;> simp
    by_cases h0 : 0 < i
    · have h2 : IntKind.wrap .i64 ((i : Int) - 1) = ((i - 1 : Nat) : Int) := by rw [w64 (by omega) (by omega)]; omega
      have h3 : i - 1 < xs.length := by omega
      have h4 : ¬ i = 0 := by omega
      simp only [h0, if_true, h2, idx_nat h3, Option.bind_some, List.getElem?_eq_getElem h3, h4, false_or]
      by_cases h5 : xs[i].Key ≤ xs[i - 1].Key
      · have : ¬ xs[i - 1].Key < xs[i].Key := by omega
        simp [h5, this]
      · have : xs[i - 1].Key < xs[i].Key := by omega
        simp [h5, this]
    · have h4 : i = 0 := by omega
      simp [h4]
  · unfold impl_WritesOk_b4 impl_WritesOk_j2
    rw [if_neg (by omega)]
    have : ((xs.length : Int) ≤ 60) ↔ xs.length ≤ 60 := by omega
    simp [this]

theorem writesGood_at {xs : List TCell} (h : writesGood xs = true) {i : Nat} (hi : i < xs.length) : -1 ≤ xs[i].Value ∧ 0 ≤ xs[i].Key ∧ xs[i].Key ≤ 999 := by
  unfold writesGood at h
  simp only [Bool.and_eq_true, List.all_eq_true] at h
  have := h.2 i (List.mem_range.2 hi)
  unfold writeGood within at this
  rw [List.getElem?_eq_getElem hi] at this
  simp only [Bool.and_eq_true, decide_eq_true_eq] at this
  exact ⟨this.1.2.1, this.1.1.1, this.1.1.2⟩
theorem writesGood_le {xs : List TCell} (h : writesGood xs = true) : xs.length ≤ 60 := by
  unfold writesGood at h; simp at h; exact h.1

def newB (xs : List TCell) (w : TCell) : Bool := decide (0 ≤ w.Value) && decide (valueAt xs w.Key < 0)
def newCount (xs ws : List TCell) : Int := if storeGood xs && writesGood ws then ((ws.filter (newB xs)).length : Int) else -1

theorem filt_step {α : Type} {ws : List α} {p : α → Bool} {i : Nat} (hi : i < ws.length) : ((ws.take (i + 1)).filter p).length = ((ws.take i).filter p).length + if p ws[i] = true then 1 else 0 := by
  rw [List.take_succ_eq_append_getElem hi, List.filter_append, List.length_append]
  congr 1
  by_cases h : p ws[i] = true <;> simp [h]

theorem p_spec_StoreNew (xs ws : List TCell) (h : xs.length ≤ 1048576) (h' : ws.length ≤ 1048576) : m_spec_StoreNew xs ws = some (newCount xs ws) := by
  unfold m_spec_StoreNew newCount spec_StoreNew_j3
  simp only [p_spec_StoreOk _ h, p_spec_WritesOk _ h', Option.bind_some]
  cases hg : storeGood xs <;> simp
  cases hw : writesGood ws <;> simp
  rw [iter_all (s0 := ((0 : Int), (0 : Int))) (fun i => ((((ws.take i).filter (newB xs)).length : Int), (i : Int))) (some ((ws.filter (newB xs)).length : Int)) ws.length (by omega) (fun kb i hi => ?_) (fun kb => ?_) (by simp)]
  · unfold spec_StoreNew_b8 spec_StoreNew_j11
    have hle : ((ws.take i).filter (newB xs)).length ≤ ws.length := Nat.le_trans (List.length_filter_le _ _) (by simp; omega)
    have e := step1 i _ hi (by omega)
    have e3 : IntKind.wrap .i64 ((((ws.take i).filter (newB xs)).length : Int) + 1) = ((((ws.take i).filter (newB xs)).length + 1 : Nat) : Int) := by rw [w64 (by omega) (by omega)]; omega
    simp only [idx_nat hi, Option.bind_some, p_l11Get _ _ h, e, e3]
    rw [if_pos (by omega), filt_step hi]
    unfold newB
    by_cases h0 : 0 ≤ ws[i].Value <;> by_cases h1 : valueAt xs ws[i].Key < 0 <;> simp [h0, h1]
  · unfold spec_StoreNew_b8 spec_StoreNew_j6
    rw [if_neg (by simp)]
    simp

theorem p_impl_StoreNew (xs ws : List TCell) (h : xs.length ≤ 1048576) (h' : ws.length ≤ 1048576) : m_impl_StoreNew xs ws = some (newCount xs ws) := by
  unfold m_impl_StoreNew newCount impl_StoreNew_j3
  simp only [p_impl_StoreOk _ h, p_impl_WritesOk _ h', Option.bind_some]
  cases hg : storeGood xs <;> simp
  cases hw : writesGood ws <;> simp
  rw [iter_all (s0 := ((0 : Int), (0 : Int))) (fun i => ((((ws.take i).filter (newB xs)).length : Int), (i : Int))) (some ((ws.filter (newB xs)).length : Int)) ws.length (by omega) (fun kb i hi => ?_) (fun kb => ?_) (by simp)]
  · unfold impl_StoreNew_b8 impl_StoreNew_j13
    have hle : ((ws.take i).filter (newB xs)).length ≤ ws.length := Nat.le_trans (List.length_filter_le _ _) (by simp; omega)
    have e := step1 i _ hi (by omega)
    have e3 : IntKind.wrap .i64 ((((ws.take i).filter (newB xs)).length : Int) + 1) = ((((ws.take i).filter (newB xs)).length + 1 : Nat) : Int) := by rw [w64 (by omega) (by omega)]; omega
    have hv := writesGood_at hw hi
    simp only [idx_nat hi, Option.bind_some, p_valueOf xs _ hg (show -9000000000000000000 ≤ ws[i].Key by omega) (by omega), e, e3]
    rw [if_pos (by omega), filt_step hi]
    unfold newB
    by_cases h0 : 0 ≤ ws[i].Value
    · have : ¬ ws[i].Value = -1 := by omega
      by_cases h1 : valueAt xs ws[i].Key < 0 <;> simp [h0, h1, this]
    · have : ws[i].Value = -1 := by omega
      simp [this]
  · unfold impl_StoreNew_b8 impl_StoreNew_j6
    rw [if_neg (by simp)]
    simp

theorem p_FnExactStoreNew (a1 a2 : List TCell) (h : okS ok_TCell a1) (h2 : okS ok_TCell a2) : m_laws_FnExactStoreNew a1 a2 = some true := by
  unfold m_laws_FnExactStoreNew
  rw [p_szCellS a1 h.1 _ (by omega) (by omega)]
  simp only [Option.bind_some]
  split
  · rfl
  · rename_i h1
    have hl : a1.length ≤ 1048576 := by omega
    rw [if_neg (by omega), p_szWriteS a2 h2.1 _ (by omega) (by omega)]
    simp only [Option.bind_some]
    split
    · rfl
    · rename_i h3
      have hl2 : a2.length ≤ 1048576 := by omega
      have e4 : ¬ (1048576 - (a1.length : Int) - (a2.length : Int) < 0) := by omega
      simp [e4, p_toCellS _ hl, p_toWriteS _ hl2, p_spec_StoreNew _ _ hl hl2, p_impl_StoreNew _ _ hl hl2, p_eqCellS _ _ hl, p_eqWriteS _ _ hl2]

end Go.AW
