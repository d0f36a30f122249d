/- Plain laws: what the plain functions answer. Conditions: each theorem's own. -/
import Derived.Test.YtcicokdmnhbjjaaGreatMNewShard
set_option linter.unusedVariables false
set_option linter.unusedSimpArgs false
set_option maxRecDepth 100000
namespace Go.AW
theorem w64 {n : Int} (h1 : -9223372036854775808 ≤ n) (h2 : n < 9223372036854775808) : IntKind.wrap .i64 n = n := by
  rw [IntKind.wrap_i64]; omega
theorem idx_nat {α : Type} {xs : List α} {i : Nat} (h : i < xs.length) : idx xs (i : Int) = some xs[i] := by
  unfold idx
  rw [if_pos (by omega)]
  simp [h]
theorem idx_ofNat {α : Type} (xs : List α) (i : Nat) : idx xs (i : Int) = xs[i]? := by
  unfold idx
  rw [if_pos (by omega)]
  simp
theorem iter_ex {S R : Type} {f : (S → Option R) → S → Option R} (st : Nat → S) (stop : Nat → Option (Option R)) (k : Option R) (n : Nat)
    (hs : ∀ kb i, i < n → (∀ j, j < i → stop j = none) → f kb (st i) = match stop i with | some r => r | none => kb (st (i + 1))) (he : ∀ kb, (∀ j, j < n → stop j = none) → f kb (st n) = k) :
    ∀ (m i : Nat), i ≤ n → (∀ j, j < i → stop j = none) → n - i < m → iter f m (st i) = match ((List.range n).drop i).findSome? stop with | some r => r | none => k
  | 0, i, _, _, h => by omega
  | m + 1, i, hi, hp, h => by
    unfold iter
    by_cases e : i = n
    · subst e
      rw [he _ hp]
      simp [List.drop_eq_nil_of_le]
    · have hlt : i < n := by omega
      rw [hs _ i hlt hp, List.drop_eq_getElem_cons (by simpa using hlt)]
      simp only [List.getElem_range, List.findSome?_cons]
      cases hq : stop i with
      | some r => rfl
      | none => exact iter_ex st stop k n hs he m (i + 1) (by omega) (fun j hj => by
          by_cases e' : j = i
          · subst e'; exact hq
          · exact hp j (by omega)) (by omega)
theorem iter_stopH {S R : Type} {f : (S → Option R) → S → Option R} (st : Nat → S) (stop : Nat → Option (Option R)) (k : Option R) (n : Nat) (hn : n ≤ 1152921504606846976)
    (hs : ∀ kb i, i < n → (∀ j, j < i → stop j = none) → f kb (st i) = match stop i with | some r => r | none => kb (st (i + 1))) (he : ∀ kb, (∀ j, j < n → stop j = none) → f kb (st n) = k) {s0 : S} (h0 : s0 = st 0) :
    iter f FU s0 = match (List.range n).findSome? stop with | some r => r | none => k := by
  subst h0
  have := iter_ex st stop k n hs he FU 0 (by omega) (fun j hj => by omega) (by unfold FU; omega)
  simpa using this
theorem iter_stop {S R : Type} {f : (S → Option R) → S → Option R} (st : Nat → S) (stop : Nat → Option (Option R)) (k : Option R) (n : Nat) (hn : n ≤ 1152921504606846976)
    (hs : ∀ kb i, i < n → f kb (st i) = match stop i with | some r => r | none => kb (st (i + 1))) (he : ∀ kb, f kb (st n) = k) {s0 : S} (h0 : s0 = st 0) :
    iter f FU s0 = match (List.range n).findSome? stop with | some r => r | none => k :=
  iter_stopH st stop k n hn (fun kb i hi _ => hs kb i hi) (fun kb _ => he kb) h0
theorem iter_all {S R : Type} {f : (S → Option R) → S → Option R} (st : Nat → S) (k : Option R) (n : Nat) (hn : n ≤ 1152921504606846976)
    (hs : ∀ kb i, i < n → f kb (st i) = kb (st (i + 1))) (he : ∀ kb, f kb (st n) = k) {s0 : S} (h0 : s0 = st 0) : iter f FU s0 = k := by
  rw [iter_stop st (fun _ => none) k n hn (fun kb i hi => hs kb i hi) he h0]
  have : (List.range n).findSome? (fun _ => (none : Option (Option R))) = none := by
    rw [List.findSome?_eq_none_iff]; intro x _; rfl
  rw [this]
theorem iter_goodH {S R : Type} {f : (S → Option R) → S → Option R} (st : Nat → S) (good : Nat → Bool) (r k : Option R) (n : Nat) (hn : n ≤ 1152921504606846976)
    (hs : ∀ kb i, i < n → (∀ j, j < i → good j = true) → f kb (st i) = if good i = true then kb (st (i + 1)) else r) (he : ∀ kb, (∀ j, j < n → good j = true) → f kb (st n) = k) {s0 : S} (h0 : s0 = st 0) :
    iter f FU s0 = if (List.range n).all good = true then k else r := by
  have tr : ∀ j, (if good j = true then (none : Option (Option R)) else some r) = none → good j = true := fun j h => by
    split at h
    · assumption
    · cases h
  rw [iter_stopH st (fun i => if good i = true then none else some r) k n hn (fun kb i hi hp => by rw [hs kb i hi (fun j hj => tr j (hp j hj))]; split <;> rfl) (fun kb hp => he kb (fun j hj => tr j (hp j hj))) h0]
  by_cases e : (List.range n).all good = true
  · have : (List.range n).findSome? (fun i => if good i = true then none else some r) = none := by
      rw [List.findSome?_eq_none_iff]
      intro x hx
      rw [List.all_eq_true] at e
      simp [e x hx]
    rw [this, if_pos e]
  · rw [if_neg e]
    cases h : (List.range n).findSome? (fun i => if good i = true then none else some r) with
    | none =>
      exfalso
      apply e
      rw [List.all_eq_true]
      intro x hx
      rw [List.findSome?_eq_none_iff] at h
      exact tr x (h x hx)
    | some q =>
      obtain ⟨x, hx, hq⟩ := List.exists_of_findSome?_eq_some h
      split at hq
      · cases hq
      · cases hq; rfl
theorem iter_good {S R : Type} {f : (S → Option R) → S → Option R} (st : Nat → S) (good : Nat → Bool) (r k : Option R) (n : Nat) (hn : n ≤ 1152921504606846976)
    (hs : ∀ kb i, i < n → f kb (st i) = if good i = true then kb (st (i + 1)) else r) (he : ∀ kb, f kb (st n) = k) {s0 : S} (h0 : s0 = st 0) :
    iter f FU s0 = if (List.range n).all good = true then k else r :=
  iter_goodH st good r k n hn (fun kb i hi _ => hs kb i hi) (fun kb _ => he kb) h0
theorem iter_copy {α R : Type} {f : (List α × Int → Option R) → List α × Int → Option R} (xs : List α) (z : α) (k : List α → Option R) (hn : xs.length ≤ 2147483648)
    (hs : ∀ kb (ys : List α) (i : Nat) (hi : i < xs.length), ys.length = xs.length → f kb (ys, (i : Int)) = kb (ys.set i xs[i], ((i + 1 : Nat) : Int)))
    (he : ∀ kb (ys : List α), f kb (ys, (xs.length : Int)) = k ys) : iter f FU (List.replicate xs.length z, 0) = k xs := by
  refine iter_all (fun i => (xs.take i ++ List.replicate (xs.length - i) z, (i : Int))) _ xs.length (by omega) (fun kb i hi => ?_) (fun kb => ?_) (by simp)
  · rw [hs kb _ i hi (by simp; omega)]
    congr 2
    have : xs.length - i = (xs.length - (i + 1)) + 1 := by omega
    have hk : min i xs.length = i := by omega
    show _ = (List.take (i + 1) xs ++ _)
    rw [this, List.replicate_succ, List.set_append_right _ _ (by simp; omega), show List.take (i + 1) xs = List.take i xs ++ [xs[i]] from List.take_succ_eq_append_getElem hi]
    simp only [List.length_take, hk, Nat.sub_self, List.set_cons_zero]
    rw [List.append_assoc]
    rfl
  · rw [he]
    simp
theorem all_range_eq {α : Type} [DecidableEq α] {xs ys : List α} (h : xs.length = ys.length) : (List.range xs.length).all (fun i => decide (xs[i]? = ys[i]?)) = decide (xs = ys) := by
  by_cases e : xs = ys
  · subst e; simp
  · rw [decide_eq_false e, List.all_eq_false]
    apply Classical.byContradiction
    intro hc
    apply e
    apply List.ext_getElem? 
    intro i
    by_cases hi : i < xs.length
    · apply Classical.byContradiction
      intro hne
      exact hc ⟨i, List.mem_range.2 hi, by simpa using hne⟩
    · rw [List.getElem?_eq_none (by omega), List.getElem?_eq_none (by omega)]
theorem step1 (i : Nat) (n : Nat) (h : i < n) (hn : n ≤ 1152921504606846976) : IntKind.wrap .i64 ((i : Int) + 1) = ((i + 1 : Nat) : Int) := by
  rw [w64 (by omega) (by omega)]; omega
def idxOf {α : Type} (p : α → Bool) (xs : List α) : Int := match xs.findIdx? p with
  | some k => (k : Int)
  | none => -1
theorem idxOf_nonneg {α : Type} (p : α → Bool) (xs : List α) : decide (0 ≤ idxOf p xs) = xs.any p := by
  unfold idxOf
  cases h : xs.findIdx? p with
  | none =>
    rw [List.findIdx?_eq_none_iff] at h
    have : xs.any p = false := by rw [List.any_eq_false]; intro x hx; simp [h x hx]
    simp [this]
  | some k =>
    rw [List.findIdx?_eq_some_iff_getElem] at h
    obtain ⟨hk, hp, _⟩ := h
    have : xs.any p = true := List.any_eq_true.2 ⟨xs[k], List.getElem_mem hk, hp⟩
    simp [this]
theorem iter_index {α : Type} (xs : List α) (p : α → Bool) {f : (Int → Option Int) → Int → Option Int} (hn : xs.length ≤ 1152921504606846976)
    (hs : ∀ kb (i : Nat) (hi : i < xs.length), f kb (i : Int) = if p xs[i] = true then some (i : Int) else kb ((i + 1 : Nat) : Int)) (he : ∀ kb, f kb (xs.length : Int) = some (-1)) : iter f FU 0 = some (idxOf p xs) := by
  rw [iter_stop (s0 := (0 : Int)) (fun i => (i : Int)) (fun i : Nat => (xs[i]?).bind fun x => if p x = true then some (some (i : Int)) else none) (some (-1)) xs.length hn (fun kb i hi => ?_) (fun kb => he kb) rfl]
  · have key : ∀ (ys : List α) (o : Nat), (List.range ys.length).findSome? (fun i : Nat => (ys[i]?).bind fun x => if p x = true then some (some ((o + i : Nat) : Int)) else none) = (ys.findIdx? p).map fun k => some ((o + k : Nat) : Int) := by
      intro ys
      induction ys with
      | nil => intro o; rfl
      | cons y ys ih =>
        intro o
        rw [List.length_cons, List.range_succ_eq_map, List.findSome?_cons, List.findSome?_map, List.findIdx?_cons]
        simp only [List.getElem?_cons_zero, Option.bind_some]
        by_cases e : p y = true
        · simp [e]
        · simp only [e, if_false, Function.comp_def, List.getElem?_cons_succ, Bool.false_eq_true]
          have := ih (o + 1)
          rw [show (fun i : Nat => (ys[i]?).bind fun x => if p x = true then some (some ((o + (i + 1) : Nat) : Int)) else none) = fun i : Nat => (ys[i]?).bind fun x => if p x = true then some (some ((o + 1 + i : Nat) : Int)) else none from by funext i; rw [show o + (i + 1) = o + 1 + i by omega]]
          rw [this]
          cases ys.findIdx? p <;> simp; omega
    have := key xs 0
    simp only [Nat.zero_add] at this
    rw [this]
    unfold idxOf
    cases xs.findIdx? p <;> rfl
  · rw [hs kb i hi, List.getElem?_eq_getElem hi]
    simp only [Option.bind_some]
    by_cases e : p xs[i] = true <;> simp [e]
theorem all_range {α : Type} (xs : List α) (p : α → Bool) : ((List.range xs.length).all fun i => ((xs[i]?).map p).getD true) = xs.all p := by
  rw [Bool.eq_iff_iff, List.all_eq_true, List.all_eq_true]
  constructor
  · intro H x hx
    obtain ⟨i, hi, rfl⟩ := List.mem_iff_getElem.1 hx
    have := H i (List.mem_range.2 hi)
    rw [List.getElem?_eq_getElem hi] at this
    exact this
  · intro H i hi
    have hi := List.mem_range.1 hi
    rw [List.getElem?_eq_getElem hi]
    exact H _ (List.getElem_mem hi)
theorem iter_any {α R : Type} (xs : List α) (p : α → Bool) (r k : Option R) {f : (Int → Option R) → Int → Option R} (hn : xs.length ≤ 1152921504606846976)
    (hs : ∀ kb (i : Nat) (hi : i < xs.length), f kb (i : Int) = if p xs[i] = true then r else kb ((i + 1 : Nat) : Int)) (he : ∀ kb, f kb (xs.length : Int) = k) : iter f FU 0 = if xs.any p = true then r else k := by
  rw [iter_good (s0 := (0 : Int)) (fun i => (i : Int)) (fun i => ((xs[i]?).map fun x => !p x).getD true) r k xs.length hn (fun kb i hi => ?_) (fun kb => he kb) rfl, all_range xs fun x => !p x]
  · cases h : xs.any p with
    | true =>
      have : (xs.all fun x => !p x) = false := by
        rw [List.all_eq_false]; obtain ⟨x, hx, hp⟩ := List.any_eq_true.1 h; exact ⟨x, hx, by simp [hp]⟩
      simp [this]
    | false =>
      have : (xs.all fun x => !p x) = true := by
        rw [List.all_eq_true]; intro x hx; rw [List.any_eq_false] at h; simp [h x hx]
      simp [this]
  · rw [hs kb i hi, List.getElem?_eq_getElem hi]
    cases h : p xs[i] <;> simp [h]
theorem iter_every {α R : Type} (xs : List α) (p : α → Bool) (r k : Option R) {f : (Int → Option R) → Int → Option R} (hn : xs.length ≤ 1152921504606846976)
    (hs : ∀ kb (i : Nat) (hi : i < xs.length), f kb (i : Int) = if p xs[i] = true then kb ((i + 1 : Nat) : Int) else r) (he : ∀ kb, f kb (xs.length : Int) = k) : iter f FU 0 = if xs.all p = true then k else r := by
  rw [iter_good (s0 := (0 : Int)) (fun i => (i : Int)) (fun i => ((xs[i]?).map p).getD true) r k xs.length hn (fun kb i hi => ?_) (fun kb => he kb) rfl, all_range xs p]
  rw [hs kb i hi, List.getElem?_eq_getElem hi]
  rfl
def sumB {α : Type} (f : α → Nat) : List α → Nat
  | [] => 0
  | x :: xs => f x + sumB f xs
theorem sumB_append {α : Type} (f : α → Nat) : ∀ (xs ys : List α), sumB f (xs ++ ys) = sumB f xs + sumB f ys
  | [], ys => by simp [sumB]
  | x :: xs, ys => by simp [sumB, sumB_append f xs ys]; omega
theorem sumB_step {α : Type} (f : α → Nat) {xs : List α} {i : Nat} (hi : i < xs.length) : sumB f (xs.take (i + 1)) = sumB f (xs.take i) + f xs[i] := by
  rw [List.take_succ_eq_append_getElem hi, sumB_append]
  simp [sumB]
theorem sumB_take {α : Type} (f : α → Nat) (xs : List α) (i : Nat) : sumB f (xs.take i) ≤ sumB f xs := by
  have := sumB_append f (xs.take i) (xs.drop i)
  rw [List.take_append_drop] at this
  omega
theorem sumB_mem {α : Type} (f : α → Nat) {xs : List α} {i : Nat} (hi : i < xs.length) : f xs[i] ≤ sumB f xs := by
  have h1 := sumB_step f hi
  have h2 := sumB_take f xs (i + 1)
  omega
def within (z lo hi : Int) : Bool := decide (lo ≤ z) && decide (z ≤ hi)
theorem p_l1In (z lo hi : Int) : m_spec_l1In z lo hi = some (within z lo hi) := by
  unfold m_spec_l1In within; by_cases h : lo ≤ z <;> simp [h]
theorem p_from (z lo hi : Int) : m_impl_from z lo hi = some (within z lo hi) := by
  unfold m_impl_from within; by_cases h : lo ≤ z <;> simp [h]
theorem p_l10Key (z : Int) : m_spec_l10Key z = some (within z 0 999) := by simp [m_spec_l10Key, p_l1In]
theorem p_isKey (z : Int) : m_impl_isKey z = some (within z 0 999) := by simp [m_impl_isKey, p_from]
theorem p_l1Whole (z : Int) : m_spec_l1Whole z = some (within z 0 1000000000) := by simp [m_spec_l1Whole, p_l1In]
theorem p_isWhole (z : Int) : m_impl_isWhole z = some (within z 0 1000000000) := by simp [m_impl_isWhole, p_from]
theorem p_l12Tx (z : Int) : m_spec_l12Tx z = some (within z 1 60) := by simp [m_spec_l12Tx, p_l1In]
theorem p_isTx (z : Int) : m_impl_isTx z = some (within z 1 60) := by simp [m_impl_isTx, p_from]
def rangeOk (a : TRange) : Bool := decide (0 ≤ a.Lo) && decide (a.Lo < a.Hi) && decide (a.Hi ≤ 1000)
theorem p_spec_RangeOk (a : TRange) : m_spec_RangeOk a = some (rangeOk a) := by
  unfold m_spec_RangeOk rangeOk; by_cases h : 0 ≤ a.Lo <;> by_cases h' : a.Lo < a.Hi <;> simp [h, h']
theorem p_impl_RangeOk (a : TRange) : m_impl_RangeOk a = some (rangeOk a) := by
  unfold m_impl_RangeOk rangeOk; by_cases h : 0 ≤ a.Lo <;> by_cases h' : a.Lo < a.Hi <;> simp [h, h']
theorem p_isGroup (z : Int) : m_impl_isGroup z = some (within z 0 3) := by simp [m_impl_isGroup, p_from]
theorem p_szRangeS (xs : List TRange) (h : xs.length ≤ maxLen) (z : Int) (h1 : 0 ≤ z) (h2 : z ≤ 1048576) : m_laws_szRangeS xs z = some (if z < xs.length then -1 else z - xs.length) := by
  unfold m_laws_szRangeS
  have : IntKind.wrap .i64 (z - (xs.length : Int)) = z - xs.length := by unfold maxLen at h; exact w64 (by omega) (by omega)
  rw [this]
  split <;> split <;> first | rfl | omega
theorem p_toRangeS (xs : List TRange) (h : xs.length ≤ 1048576) : m_laws_toRangeS xs = some xs := by
  unfold m_laws_toRangeS
  rw [if_pos ⟨by omega, by omega⟩]
  simp only [Int.toNat_natCast]
  refine iter_copy xs _ laws_toRangeS_j3 (by omega) (fun kb ys i hi hy => ?_) (fun kb ys => ?_)
  · unfold laws_toRangeS_b5
    simp only [idx_nat hi, idx_nat (show i < ys.length by omega), m_laws_toRange, Option.bind_some, Int.toNat_natCast, step1 i _ hi (by omega)]
    rw [if_pos (by omega)]
  · unfold laws_toRangeS_b5
    rw [if_neg (by omega)]
theorem p_eqRange (a b : TRange) : m_laws_eqRange a b = some (decide (a = b)) := by
  unfold m_laws_eqRange
  cases a; cases b
  simp only [TRange.mk.injEq]
  repeat' split
  all_goals simp_all
theorem p_eqRangeS (xs ys : List TRange) (h : xs.length ≤ 1048576) : m_laws_eqRangeS xs ys = some (decide (xs = ys)) := by
  unfold m_laws_eqRangeS
  split
  · rename_i hl
    have : ¬ xs = ys := fun e => hl (by rw [e])
    simp [this]
  · rename_i hl
    have hl : xs.length = ys.length := by omega
    rw [iter_good (s0 := (0 : Int)) (fun i => (i : Int)) (fun i => decide (xs[i]? = ys[i]?)) (some false) (some true) xs.length (by omega) (fun kb i hi => ?_) (fun kb => ?_) rfl, all_range_eq hl]
    · by_cases e : xs = ys <;> simp [e]
    · unfold laws_eqRangeS_b6
      simp only [idx_nat hi, idx_nat (show i < ys.length by omega), p_eqRange, Option.bind_some, step1 i _ hi (by omega)]
      rw [if_pos (by omega), List.getElem?_eq_getElem hi, List.getElem?_eq_getElem (show i < ys.length by omega)]
      simp
    · unfold laws_eqRangeS_b6
      rw [if_neg (by omega)]
      rfl
def rangeAt (xs : List TRange) (i : Nat) : Bool := match xs[i]? with
  | none => true
  | some c => rangeOk c && (i == 0 || match xs[i - 1]? with | some p => decide (p.Hi ≤ c.Lo) | none => true)
def rangesGood (xs : List TRange) : Bool := decide (xs.length ≤ 16) && (List.range xs.length).all (rangeAt xs)
theorem p_spec_RangesOk (xs : List TRange) (h : xs.length ≤ 1048576) : m_spec_RangesOk xs = some (rangesGood xs) := by
  unfold m_spec_RangesOk rangesGood
  split
  · rename_i h1
    have : ¬ xs.length ≤ 16 := by omega
    simp [this]
  · rename_i h1
    have : xs.length ≤ 16 := by omega
    rw [iter_good (s0 := (0 : Int)) (fun i => (i : Int)) (rangeAt xs) (some false) (some true) xs.length (by omega) (fun kb i hi => ?_) (fun kb => ?_) rfl]
    · simp only [this, decide_true, Bool.true_and]; split <;> simp_all
    · unfold spec_RangesOk_b5 spec_RangesOk_j8 rangeAt
      simp only [idx_nat hi, p_spec_RangeOk, Option.bind_some, step1 i _ hi (by omega), List.getElem?_eq_getElem hi]
      rw [if_pos (by omega)]
      cases rangeOk xs[i] <;> simp
      by_cases h0 : 0 < i
      · have h2 : IntKind.wrap .i64 ((i : Int) - 1) = ((i - 1 : Nat) : Int) := by rw [w64 (by omega) (by omega)]; omega
        have h3 : i - 1 < xs.length := by omega
        have h4 : ¬ i = 0 := by omega
        simp only [h0, if_true, h2, idx_nat h3, Option.bind_some, List.getElem?_eq_getElem h3, h4, false_or]
        by_cases h5 : xs[i].Lo < xs[i - 1].Hi
        · have : ¬ xs[i - 1].Hi ≤ xs[i].Lo := by omega
          simp [h5, this]
        · have : xs[i - 1].Hi ≤ xs[i].Lo := by omega
          simp [h5, this]
      · have h4 : i = 0 := by omega
        simp [h4]
    · unfold spec_RangesOk_b5
      rw [if_neg (by omega)]; rfl
theorem p_impl_RangesOk (xs : List TRange) (h : xs.length ≤ 1048576) : m_impl_RangesOk xs = some (rangesGood xs) := by
  unfold m_impl_RangesOk rangesGood
  rw [iter_good (s0 := (0 : Int)) (fun i => (i : Int)) (rangeAt xs) (some false) (some (decide (xs.length ≤ 16))) xs.length (by omega) (fun kb i hi => ?_) (fun kb => ?_) rfl]
  · split <;> simp_all
  · unfold impl_RangesOk_b4 impl_RangesOk_j9 rangeAt
    simp only [idx_nat hi, p_impl_RangeOk, Option.bind_some, step1 i _ hi (by omega), List.getElem?_eq_getElem hi]
    rw [if_pos (by omega)]
    cases rangeOk xs[i] <;> simp
    by_cases h0 : 0 < i
    · have h2 : IntKind.wrap .i64 ((i : Int) - 1) = ((i - 1 : Nat) : Int) := by rw [w64 (by omega) (by omega)]; omega
      have h3 : i - 1 < xs.length := by omega
      have h4 : ¬ i = 0 := by omega
      simp only [h0, if_true, h2, idx_nat h3, Option.bind_some, List.getElem?_eq_getElem h3, h4, false_or]
      by_cases h5 : xs[i].Lo < xs[i - 1].Hi
      · have : ¬ xs[i - 1].Hi ≤ xs[i].Lo := by omega
        simp [h5, this]
      · have : xs[i - 1].Hi ≤ xs[i].Lo := by omega
        simp [h5, this]
    · have h4 : i = 0 := by omega
      simp [h4]
  · unfold impl_RangesOk_b4 impl_RangesOk_j2
    rw [if_neg (by omega)]
    have : ((xs.length : Int) ≤ 16) ↔ xs.length ≤ 16 := by omega
    simp [this]
theorem rangesGood_at {xs : List TRange} (h : rangesGood xs = true) {i : Nat} (hi : i < xs.length) : rangeOk xs[i] = true := by
  unfold rangesGood at h
  simp only [Bool.and_eq_true, List.all_eq_true] at h
  have := h.2 i (List.mem_range.2 hi)
  unfold rangeAt at this
  rw [List.getElem?_eq_getElem hi] at this
  simp only [Bool.and_eq_true] at this
  exact this.1
def haveTo (xs : List TRange) (z : Int) : Int := xs.foldl (fun at_ b => if b.Lo ≤ at_ ∧ at_ < b.Hi then b.Hi else at_) z
def haveB (xs : List TRange) (a : TRange) : Bool := decide (a.Hi ≤ haveTo xs a.Lo)
theorem haveTo_step {xs : List TRange} {i : Nat} (hi : i < xs.length) (z : Int) : haveTo (xs.take (i + 1)) z = if xs[i].Lo ≤ haveTo (xs.take i) z ∧ haveTo (xs.take i) z < xs[i].Hi then xs[i].Hi else haveTo (xs.take i) z := by
  unfold haveTo
  rw [List.take_succ_eq_append_getElem hi, List.foldl_append]
  rfl
theorem p_haveAll (xs : List TRange) (a : TRange) (h : xs.length ≤ 1048576) : m_impl_haveAll xs a = some (haveB xs a) := by
  unfold m_impl_haveAll haveB
  refine iter_all (fun i => (haveTo (xs.take i) a.Lo, (i : Int))) _ xs.length (by omega) (fun kb i hi => ?_) (fun kb => ?_) (by simp [haveTo])
  · unfold impl_haveAll_b5 impl_haveAll_j10
    simp only [idx_nat hi, Option.bind_some, step1 i _ hi (by omega), haveTo_step hi]
    rw [if_pos (by omega)]
    generalize haveTo (xs.take i) a.Lo = z
    by_cases c1 : xs[i].Lo ≤ z <;> by_cases c2 : z < xs[i].Hi <;> simp [c1, c2]
  · unfold impl_haveAll_b5 impl_haveAll_j3
    rw [if_neg (by simp)]
    simp
theorem p_RangesHave (xs : List TRange) (a : TRange) (h : xs.length ≤ 1048576) : m_spec_RangesHave xs a = some (rangesGood xs && rangeOk a && haveB xs a) := by
  have J : spec_RangesHave_j3 xs a false = some (haveB xs a) := by
    unfold spec_RangesHave_j3 haveB
    rw [if_neg (by simp)]
    refine iter_all (fun i => (haveTo (xs.take i) a.Lo, (i : Int))) _ xs.length (by omega) (fun kb i hi => ?_) (fun kb => ?_) (by simp [haveTo])
    · unfold spec_RangesHave_b8 spec_RangesHave_j11
      simp only [idx_nat hi, Option.bind_some, step1 i _ hi (by omega), haveTo_step hi]
      rw [if_pos (by omega)]
      generalize haveTo (xs.take i) a.Lo = z
      by_cases c1 : xs[i].Lo ≤ z <;> by_cases c2 : z < xs[i].Hi <;> simp [c1, c2]
    · unfold spec_RangesHave_b8 spec_RangesHave_j6
      rw [if_neg (by simp)]
      simp
  have J2 : spec_RangesHave_j3 xs a true = some false := rfl
  unfold m_spec_RangesHave
  simp only [p_spec_RangesOk _ h, p_spec_RangeOk, Option.bind_some]
  cases rangesGood xs <;> cases rangeOk a <;> simp [J, J2]
def txAt (xs : List Int) (i : Nat) : Bool := match xs[i]? with
  | none => true
  | some c => within c 1 60 && (i == 0 || match xs[i - 1]? with | some p => decide (p < c) | none => true)
def txsGood (xs : List Int) : Bool := (List.range xs.length).all (txAt xs)
theorem p_l13Txs (xs : List Int) (h : xs.length ≤ 1048576) : m_spec_l13Txs xs = some (txsGood xs) := by
  unfold m_spec_l13Txs txsGood
  rw [iter_good (s0 := (0 : Int)) (fun i => (i : Int)) (txAt xs) (some false) (some true) xs.length (by omega) (fun kb i hi => ?_) (fun kb => ?_) rfl]
  · split <;> simp_all
  · unfold spec_l13Txs_b4 spec_l13Txs_j7 txAt
    simp only [idx_nat hi, p_l12Tx, Option.bind_some, step1 i _ hi (by omega), List.getElem?_eq_getElem hi]
    rw [if_pos (by omega)]
    cases within xs[i] 1 60 <;> simp
    by_cases h0 : 0 < i
    · have h2 : IntKind.wrap .i64 ((i : Int) - 1) = ((i - 1 : Nat) : Int) := by rw [w64 (by omega) (by omega)]; omega
      have h3 : i - 1 < xs.length := by omega
      have h4 : ¬ i = 0 := by omega
      simp only [h0, if_true, h2, idx_nat h3, Option.bind_some, List.getElem?_eq_getElem h3, h4, false_or]
      by_cases h5 : xs[i] ≤ xs[i - 1]
      · have : ¬ xs[i - 1] < xs[i] := by omega
        simp [h5, this]
      · have : xs[i - 1] < xs[i] := by omega
        simp [h5, this]
    · have h4 : i = 0 := by omega
      simp [h4]
  · unfold spec_l13Txs_b4
    rw [if_neg (by omega)]; rfl
theorem p_ascending (xs : List Int) (h : xs.length ≤ 1048576) : m_impl_ascending xs = some (txsGood xs) := by
  unfold m_impl_ascending txsGood
  rw [iter_good (s0 := (0 : Int)) (fun i => (i : Int)) (txAt xs) (some false) (some true) xs.length (by omega) (fun kb i hi => ?_) (fun kb => ?_) rfl]
  · split <;> simp_all
  · unfold impl_ascending_b4 impl_ascending_j9 txAt
    simp only [idx_nat hi, p_isTx, Option.bind_some, step1 i _ hi (by omega), List.getElem?_eq_getElem hi]
    rw [if_pos (by omega)]
    cases within xs[i] 1 60 <;> simp
    by_cases h0 : 0 < i
    · have h2 : IntKind.wrap .i64 ((i : Int) - 1) = ((i - 1 : Nat) : Int) := by rw [w64 (by omega) (by omega)]; omega
      have h3 : i - 1 < xs.length := by omega
      have h4 : ¬ i = 0 := by omega
      simp only [h0, if_true, h2, idx_nat h3, Option.bind_some, List.getElem?_eq_getElem h3, h4, false_or]
      by_cases h5 : xs[i] ≤ xs[i - 1]
      · have : ¬ xs[i - 1] < xs[i] := by omega
        simp [h5, this]
      · have : xs[i - 1] < xs[i] := by omega
        simp [h5, this]
    · have h4 : i = 0 := by omega
      simp [h4]
  · unfold impl_ascending_b4
    rw [if_neg (by omega)]; rfl
theorem txsGood_at {xs : List Int} (h : txsGood xs = true) {i : Nat} (hi : i < xs.length) : (1 ≤ xs[i] ∧ xs[i] ≤ 60) ∧ (0 < i → xs[i - 1]'(by omega) < xs[i]) := by
  unfold txsGood at h
  simp only [List.all_eq_true] at h
  have := h i (List.mem_range.2 hi)
  unfold txAt within at this
  rw [List.getElem?_eq_getElem hi] at this
  simp only [Bool.and_eq_true, decide_eq_true_eq, Bool.or_eq_true, beq_iff_eq] at this
  refine ⟨this.1, fun h0 => ?_⟩
  rcases this.2 with e | e
  · omega
  · rw [List.getElem?_eq_getElem (show i - 1 < xs.length by omega)] at e
    simpa using e
theorem txsGood_lt {xs : List Int} (h : txsGood xs = true) : ∀ {i j : Nat} (hj : j < xs.length) (hij : i < j), xs[i]'(by omega) < xs[j]
  | i, j + 1, hj, hij => by
    have h1 := (txsGood_at h hj).2 (by omega)
    simp only [Nat.add_sub_cancel] at h1
    by_cases e : i = j
    · subst e; exact h1
    · have := txsGood_lt h (i := i) (j := j) (by omega) (by omega)
      omega
theorem txsGood_ge {xs : List Int} (h : txsGood xs = true) : ∀ {j : Nat} (hj : j < xs.length), (j : Int) + 1 ≤ xs[j]
  | 0, hj => by have := (txsGood_at h hj).1.1; omega
  | j + 1, hj => by
    have h1 := txsGood_ge h (j := j) (by omega)
    have h2 := txsGood_lt h hj (i := j) (by omega)
    omega
theorem txsGood_le {xs : List Int} (h : txsGood xs = true) : xs.length ≤ 60 := by
  by_cases e : xs.length = 0
  · omega
  · have h1 := txsGood_ge h (j := xs.length - 1) (by omega)
    have h2 := (txsGood_at h (i := xs.length - 1) (by omega)).1.2
    omega
theorem txsGood_nodup {xs : List Int} (h : txsGood xs = true) : xs.Nodup := by
  refine List.pairwise_iff_getElem.2 fun i j hi hj hij => ?_
  have := txsGood_lt h hj hij
  omega
theorem compact_all (xs : List Int) : (Go.Lib.compact xs).length = xs.length ↔ ∀ i (h : i + 1 < xs.length), xs[i + 1] ≠ xs[i] := by
  unfold Go.Lib.compact Go.Lib.compactUpTo
  rw [List.length_map]
  have : (List.filter (Go.Lib.keeps xs.toArray) (List.range xs.length)).length = xs.length ↔ ∀ i ∈ List.range xs.length, Go.Lib.keeps xs.toArray i = true := by
    have := List.length_filter_eq_length_iff (l := List.range xs.length) (p := Go.Lib.keeps xs.toArray)
    rw [List.length_range] at this
    exact this
  rw [this]
  constructor
  · intro H i hi
    have := H (i + 1) (List.mem_range.2 hi)
    unfold Go.Lib.keeps at this
    intro e
    have h1 : xs.toArray[i + 1]! = xs[i + 1] := by rw [getElem!_pos _ _ (by simpa using hi)]; simp
    have h2 : xs.toArray[i]! = xs[i] := by rw [getElem!_pos _ _ (by simp; omega)]; simp
    simp [h1, h2, e] at this
  · intro H i hi
    have hi := List.mem_range.1 hi
    unfold Go.Lib.keeps
    cases i with
    | zero => simp
    | succ i =>
      have h1 : xs.toArray[i + 1]! = xs[i + 1] := by rw [getElem!_pos _ _ (by simpa using hi)]; simp
      have h2 : xs.toArray[i]! = xs[i] := by rw [getElem!_pos _ _ (by simp; omega)]; simp
      have := H i hi
      simp [h1, h2, this]
theorem sorted_nodup {xs : List Int} (hs : xs.Pairwise (· ≤ ·)) : (∀ i (h : i + 1 < xs.length), xs[i + 1] ≠ xs[i]) ↔ xs.Nodup := by
  constructor
  · intro H
    have lt : ∀ {i j : Nat} (hj : j < xs.length) (hij : i < j), xs[i]'(by omega) < xs[j] := by
      intro i j
      induction j with
      | zero => intro _ h; omega
      | succ j ih =>
        intro hj hij
        have h1 := H j hj
        have h2 := List.pairwise_iff_getElem.1 hs j (j + 1) (by omega) hj (by omega)
        by_cases e : i = j
        · subst e; omega
        · have := ih (by omega) (by omega); omega
    refine List.pairwise_iff_getElem.2 fun i j hi hj hij => ?_
    have := lt hj hij
    omega
  · intro H i hi e
    exact List.pairwise_iff_getElem.1 H i (i + 1) (by omega) hi (by omega) e.symm
theorem sortI_perm (zs : List Int) : (sortI zs).Perm zs := List.mergeSort_perm zs _
theorem sortI_sorted (zs : List Int) : (sortI zs).Pairwise (· ≤ ·) := by
  have := List.pairwise_mergeSort (le := fun x y : Int => decide (x ≤ y)) (by intro a b c h1 h2; simp at *; omega) (by intro a b; simp; omega) zs
  exact this.imp fun h => by simpa using h
theorem distinct_iff (zs : List Int) : (Go.Lib.compact (sortI zs)).length = zs.length ↔ zs.Nodup := by
  rw [← sortI_len zs, compact_all, sorted_nodup (sortI_sorted zs)]
  exact (sortI_perm zs).nodup_iff
def rowM {α : Type} (g : Nat → α) (xs : List α) (i : Nat) : List α := (List.range i).map g ++ xs.drop i
theorem rowM_len {α : Type} (g : Nat → α) {xs : List α} {i : Nat} (h : i ≤ xs.length) : (rowM g xs i).length = xs.length := by
  unfold rowM
  simp
  omega
theorem rowM_idx {α : Type} (g : Nat → α) {xs : List α} {i : Nat} (h : i < xs.length) : idx (rowM g xs i) (i : Int) = some xs[i] := by
  rw [idx_ofNat]
  unfold rowM
  rw [List.getElem?_append_right (by simp)]
  simp [h]
theorem rowM_set {α : Type} (g : Nat → α) {xs : List α} {i : Nat} (h : i < xs.length) : (rowM g xs i).set i (g i) = rowM g xs (i + 1) := by
  unfold rowM
  rw [List.set_append, if_neg (by simp), List.range_succ, List.map_append, List.append_assoc]
  congr 1
  have e : i - ((List.range i).map g).length = 0 := by simp
  rw [e, List.drop_eq_getElem_cons h]
  rfl
theorem rowM_zero {α : Type} (g : Nat → α) (xs : List α) : rowM g xs 0 = xs := by simp [rowM]
theorem rowM_all {α : Type} (g : Nat → α) (xs : List α) : rowM g xs xs.length = (List.range xs.length).map g := by simp [rowM]
theorem idx_set_same {α : Type} {xs : List α} {i : Nat} {a : α} (h : i < xs.length) : idx (xs.set i a) (i : Int) = some a := by
  rw [idx_nat (by simpa using h)]
  simp
theorem idx_range {α : Type} (g : Nat → α) {n i : Nat} (h : i < n) : idx ((List.range n).map g) (i : Int) = some (g i) := by
  rw [idx_nat (by simpa using h)]
  simp
def cellGood (xs : List TCell) (i : Nat) : Bool := match xs[i]? with
  | none => true
  | some c => within c.Key 0 999 && within c.Value 0 1000000000 && (i == 0 || match xs[i - 1]? with | some p => decide (p.Key < c.Key) | none => true)
def storeGood (xs : List TCell) : Bool := decide (xs.length ≤ 60) && (List.range xs.length).all (cellGood xs)
theorem p_spec_StoreOk (xs : List TCell) (h : xs.length ≤ 1048576) : m_spec_StoreOk xs = some (storeGood xs) := by
  unfold m_spec_StoreOk storeGood
  split
  · rename_i h1
    have : ¬ xs.length ≤ 60 := by omega
    simp [this]
  · rename_i h1
    have : xs.length ≤ 60 := by omega
    rw [iter_good (s0 := (0 : Int)) (fun i => (i : Int)) (cellGood xs) (some false) (some true) xs.length (by omega) (fun kb i hi => ?_) (fun kb => ?_) rfl]
    · simp only [this, decide_true, Bool.true_and]; split <;> simp_all
    · unfold spec_StoreOk_b5 spec_StoreOk_j8 cellGood
      simp only [idx_nat hi, p_l10Key, p_l1Whole, Option.bind_some, step1 i _ hi (by omega), List.getElem?_eq_getElem hi]
      rw [if_pos (by omega)]
      cases within xs[i].Key 0 999 <;> simp
      cases within xs[i].Value 0 1000000000 <;> simp
      by_cases h0 : 0 < i
      · have h2 : IntKind.wrap .i64 ((i : Int) - 1) = ((i - 1 : Nat) : Int) := by rw [w64 (by omega) (by omega)]; omega
        have h3 : i - 1 < xs.length := by omega
        have h4 : ¬ i = 0 := by omega
        simp only [h0, if_true, h2, idx_nat h3, Option.bind_some, List.getElem?_eq_getElem h3, h4, false_or]
        by_cases h5 : xs[i].Key ≤ xs[i - 1].Key
        · have : ¬ xs[i - 1].Key < xs[i].Key := by omega
          simp [h5, this]
        · have : xs[i - 1].Key < xs[i].Key := by omega
          simp [h5, this]
      · have h4 : i = 0 := by omega
        simp [h4]
    · unfold spec_StoreOk_b5
      rw [if_neg (by omega)]; rfl
theorem p_impl_StoreOk (xs : List TCell) (h : xs.length ≤ 1048576) : m_impl_StoreOk xs = some (storeGood xs) := by
  unfold m_impl_StoreOk storeGood
  rw [iter_good (s0 := (0 : Int)) (fun i => (i : Int)) (cellGood xs) (some false) (some (decide (xs.length ≤ 60))) xs.length (by omega) (fun kb i hi => ?_) (fun kb => ?_) rfl]
  · split <;> simp_all
  · unfold impl_StoreOk_b4 impl_StoreOk_j9 cellGood
    simp only [idx_nat hi, p_isKey, p_isWhole, Option.bind_some, step1 i _ hi (by omega), List.getElem?_eq_getElem hi]
    rw [if_pos (by omega)]
    cases within xs[i].Key 0 999 <;> simp
    cases within xs[i].Value 0 1000000000 <;> simp
    by_cases h0 : 0 < i
    · have h2 : IntKind.wrap .i64 ((i : Int) - 1) = ((i - 1 : Nat) : Int) := by rw [w64 (by omega) (by omega)]; omega
      have h3 : i - 1 < xs.length := by omega
      have h4 : ¬ i = 0 := by omega
      simp only [h0, if_true, h2, idx_nat h3, Option.bind_some, List.getElem?_eq_getElem h3, h4, false_or]
      by_cases h5 : xs[i].Key ≤ xs[i - 1].Key
      · have : ¬ xs[i - 1].Key < xs[i].Key := by omega
        simp [h5, this]
      · have : xs[i - 1].Key < xs[i].Key := by omega
        simp [h5, this]
    · have h4 : i = 0 := by omega
      simp [h4]
  · unfold impl_StoreOk_b4 impl_StoreOk_j2
    rw [if_neg (by omega)]
    have : ((xs.length : Int) ≤ 60) ↔ xs.length ≤ 60 := by omega
    simp [this]
def asc (xs : List TCell) : Prop := ∀ i j (hi : i < xs.length) (hj : j < xs.length), i < j → xs[i].Key < xs[j].Key
theorem storeGood_le {xs : List TCell} (h : storeGood xs = true) : xs.length ≤ 60 := by
  unfold storeGood at h; simp at h; exact h.1
theorem storeGood_at {xs : List TCell} (h : storeGood xs = true) {i : Nat} (hi : i < xs.length) : cellGood xs i = true := by
  unfold storeGood at h
  simp only [Bool.and_eq_true, List.all_eq_true] at h
  exact h.2 i (List.mem_range.2 hi)
theorem storeGood_key {xs : List TCell} (h : storeGood xs = true) {i : Nat} (hi : i < xs.length) : 0 ≤ xs[i].Key ∧ xs[i].Key ≤ 999 ∧ 0 ≤ xs[i].Value ∧ xs[i].Value ≤ 1000000000 := by
  have := storeGood_at h hi
  unfold cellGood within at this
  rw [List.getElem?_eq_getElem hi] at this
  simp only [Bool.and_eq_true, decide_eq_true_eq] at this
  exact ⟨this.1.1.1, this.1.1.2, this.1.2.1, this.1.2.2⟩
theorem storeGood_asc {xs : List TCell} (h : storeGood xs = true) : asc xs := by
  have step : ∀ i (hi : i + 1 < xs.length), xs[i].Key < xs[i + 1].Key := by
    intro i hi
    have := storeGood_at h hi
    unfold cellGood at this
    rw [List.getElem?_eq_getElem hi] at this
    simp only [Bool.and_eq_true, Nat.add_sub_cancel, List.getElem?_eq_getElem (show i < xs.length by omega)] at this
    simpa using this.2
  intro i j hi hj hlt
  induction j with
  | zero => omega
  | succ j ih =>
    by_cases e : i = j
    · subst e; exact step i hj
    · have := ih (by omega) (by omega)
      have := step j hj
      omega
theorem mid {a b : Nat} (h : a < b) (hb : b ≤ 1048576) : IntKind.wrap .i64 (Int.fdiv (IntKind.wrap .u64 (IntKind.wrap .i64 ((a : Int) + (b : Int)))) (2 ^ (min (Int.toNat 1) (IntKind.bits .u64)))) = (((a + b) / 2 : Nat) : Int) := by
  rw [w64 (n := (a : Int) + b) (by omega) (by omega)]
  have h1 : IntKind.wrap .u64 ((a : Int) + b) = (a : Int) + b := by
    unfold IntKind.wrap
    simp only [IntKind.bits, IntKind.signed]
    simp
    omega
  rw [h1]
  have h2 : (min (Int.toNat 1) (IntKind.bits .u64)) = 1 := by decide
  rw [h2]
  have h3 : ((a : Int) + b).fdiv (2 ^ 1) = (((a + b) / 2 : Nat) : Int) := by
    rw [Int.fdiv_eq_ediv_of_nonneg _ (by decide)]
    omega
  rw [h3]
  exact w64 (by omega) (by omega)
theorem p_bsearch (xs : List TCell) (k : Int) (hs : asc xs) (hl : xs.length ≤ 1048576) (hk : ∀ i (hi : i < xs.length), -1000000000000 ≤ xs[i].Key ∧ xs[i].Key ≤ 1000000000000) (h1 : -9000000000000000000 ≤ k) (h2 : k ≤ 9000000000000000000) :
    ∃ p : Nat, p ≤ xs.length ∧ (∀ i (hi : i < xs.length), i < p ↔ xs[i].Key < k) ∧ m_impl_cellFor xs k = some ((p : Int), decide ((xs[p]?).map (·.Key) = some k)) := by
  have hc : ∀ i (hi : i < xs.length), m_impl_cellFor_1 xs[i] k = some (xs[i].Key - k) := fun i hi => by
    unfold m_impl_cellFor_1
    have := hk i hi
    rw [w64 (by omega) (by omega)]
  have loop : ∀ (m lo hi : Nat), lo ≤ hi → hi ≤ xs.length → hi - lo < m → (∀ i (h : i < xs.length), i < lo → xs[i].Key < k) → (∀ i (h : i < xs.length), hi ≤ i → ¬ xs[i].Key < k) →
      ∃ p : Nat, p ≤ xs.length ∧ (∀ i (hi : i < xs.length), i < p ↔ xs[i].Key < k) ∧
        iter (slices_BinarySearchFunc_Cell_int__cellFor_1_b10 xs k (slices_BinarySearchFunc_Cell_int__cellFor_1_j3 xs k)) m ((lo : Int), (hi : Int)) = slices_BinarySearchFunc_Cell_int__cellFor_1_j3 xs k (p : Int) := by
    intro m
    induction m with
    | zero => intro lo hi _ _ h; omega
    | succ m ih =>
      intro lo hi hle hhi hm hlow hhigh
      unfold iter
      unfold slices_BinarySearchFunc_Cell_int__cellFor_1_b10
      by_cases e : lo = hi
      · subst e
        refine ⟨lo, hhi, fun i h => ⟨hlow i h, fun hlt => ?_⟩, ?_⟩
        · apply Classical.byContradiction
          intro hn
          exact hhigh i h (by omega) hlt
        · rw [if_neg (by simp)]
      · have hlt : lo < hi := by omega
        rw [if_pos (by simp; omega)]
        simp only [mid hlt (show hi ≤ 1048576 by omega)]
        have hmid : (lo + hi) / 2 < xs.length := by omega
        rw [idx_nat hmid]
        simp only [Option.bind_some, hc _ hmid]
        by_cases hv : xs[(lo + hi) / 2].Key - k < 0
        · rw [if_pos hv, step1 ((lo + hi) / 2) (xs.length) hmid (by omega)]
          refine ih ((lo + hi) / 2 + 1) hi (by omega) hhi (by omega) (fun i h hi' => ?_) hhigh
          by_cases e2 : i = (lo + hi) / 2
          · subst e2; omega
          · have := hs i ((lo + hi) / 2) h hmid (by omega); omega
        · rw [if_neg hv]
          refine ih lo ((lo + hi) / 2) (by omega) (by omega) (by omega) hlow (fun i h hi' => ?_)
          by_cases e2 : i = (lo + hi) / 2
          · subst e2; omega
          · have := hs ((lo + hi) / 2) i hmid h (by omega); omega
  obtain ⟨p, hp, hiff, hit⟩ := loop FU 0 xs.length (by omega) (by omega) (by unfold FU; omega) (fun i h h0 => by omega) (fun i h h0 => by omega)
  refine ⟨p, hp, hiff, ?_⟩
  unfold m_impl_cellFor m_slices_BinarySearchFunc_Cell_int__cellFor_1
  have hit : iter (slices_BinarySearchFunc_Cell_int__cellFor_1_b10 xs k (slices_BinarySearchFunc_Cell_int__cellFor_1_j3 xs k)) FU (0, (xs.length : Int)) = _ := hit
  rw [hit]
  unfold slices_BinarySearchFunc_Cell_int__cellFor_1_j3
  by_cases e : p < xs.length
  · rw [if_pos (by omega), idx_nat e]
    simp only [Option.bind_some, hc p e, List.getElem?_eq_getElem e, Option.map_some]
    congr 2
    rw [decide_eq_decide]
    simp
    omega
  · rw [if_neg (by omega), List.getElem?_eq_none (by omega)]
    simp
theorem range_findSome {α β : Type} : ∀ (xs : List α) (g : α → Option β), (List.range xs.length).findSome? (fun i => (xs[i]?).bind g) = xs.findSome? g
  | [], _ => rfl
  | x :: xs, g => by
    rw [List.length_cons, List.range_succ_eq_map, List.findSome?_cons, List.findSome?_cons, List.findSome?_map]
    simp only [List.getElem?_cons_zero, Option.bind_some]
    cases g x with
    | some y => rfl
    | none =>
      simp only [Function.comp_def, List.getElem?_cons_succ]
      exact range_findSome xs g
def valueAt (xs : List TCell) (k : Int) : Int := match xs.find? fun c => decide (c.Key = k) with
  | some c => c.Value
  | none => -1
theorem p_l11Get (xs : List TCell) (k : Int) (hl : xs.length ≤ 1048576) : m_spec_l11Get xs k = some (valueAt xs k) := by
  unfold m_spec_l11Get
  rw [iter_stop (s0 := (0 : Int)) (fun i => (i : Int)) (fun i : Nat => match xs[i]? with | some c => if c.Key = k then some (some c.Value) else none | none => none) (some (-1)) xs.length (by omega) (fun kb i hi => ?_) (fun kb => ?_) rfl]
  · have : ∀ ys : List TCell, ys.findSome? (fun c => if c.Key = k then some (some c.Value) else none) = (ys.find? fun c => decide (c.Key = k)).map fun c => some c.Value := by
      intro ys
      induction ys with
      | nil => rfl
      | cons y ys ih =>
        simp only [List.findSome?_cons, List.find?_cons]
        by_cases e : y.Key = k
        · simp [e]
        · simp [e, ih]
    have h2 : (List.range xs.length).findSome? (fun i : Nat => match xs[i]? with | some c => if c.Key = k then some (some c.Value) else none | none => none) = xs.findSome? (fun c => if c.Key = k then some (some c.Value) else none) := by
      have key : ∀ (g : TCell → Option (Option Int)), (List.range xs.length).findSome? (fun i : Nat => match xs[i]? with | some c => g c | none => none) = xs.findSome? g := fun g => by
        have e : (fun i : Nat => match xs[i]? with | some c => g c | none => none) = fun i => (xs[i]?).bind g := by funext i; cases xs[i]? <;> rfl
        rw [e]
        exact range_findSome xs g
      exact key _
    rw [h2, this]
    unfold valueAt
    cases xs.find? fun c => decide (c.Key = k) <;> rfl
  · unfold spec_l11Get_b5
    simp only [idx_nat hi, Option.bind_some, step1 i _ hi (by omega), List.getElem?_eq_getElem hi]
    rw [if_pos (by omega)]
    by_cases e : xs[i].Key = k <;> simp [e]
  · unfold spec_l11Get_b5
    rw [if_neg (by omega)]; rfl
theorem valueAt_spec {xs : List TCell} {k : Int} (hs : asc xs) {p : Nat} (hp : p ≤ xs.length) (hiff : ∀ i (hi : i < xs.length), i < p ↔ xs[i].Key < k) :
    valueAt xs k = match xs[p]? with | some c => if c.Key = k then c.Value else -1 | none => -1 := by
  unfold valueAt
  by_cases e : ∃ h : p < xs.length, xs[p].Key = k
  · obtain ⟨h, e⟩ := e
    have : xs.find? (fun c => decide (c.Key = k)) = some xs[p] := by
      rw [List.find?_eq_some_iff_getElem]
      refine ⟨by simp [e], p, h, rfl, fun j hj => ?_⟩
      have := (hiff j (by omega)).1 hj
      simp; omega
    rw [this, List.getElem?_eq_getElem h]
    simp [e]
  · have : xs.find? (fun c => decide (c.Key = k)) = none := by
      rw [List.find?_eq_none]
      intro x hx
      obtain ⟨i, hi, rfl⟩ := List.mem_iff_getElem.1 hx
      simp only [decide_eq_true_eq]
      intro hk
      apply e
      have h1 := hiff i hi
      by_cases e1 : p < xs.length
      · refine ⟨e1, ?_⟩
        have h2 := hiff p e1
        by_cases e2 : i = p
        · subst e2; exact hk
        · have : ¬ i < p := by omega
          have h3 := hs p i e1 hi (by omega)
          omega
      · omega
    rw [this]
    by_cases e1 : p < xs.length
    · rw [List.getElem?_eq_getElem e1]
      have : ¬ xs[p].Key = k := fun h => e ⟨e1, h⟩
      simp [this]
    · rw [List.getElem?_eq_none (by omega)]
theorem p_valueOf (xs : List TCell) (k : Int) (hg : storeGood xs = true) (h1 : -9000000000000000000 ≤ k) (h2 : k ≤ 9000000000000000000) : m_impl_valueOf xs k = some (valueAt xs k) := by
  have hs := storeGood_asc hg
  have hl := storeGood_le hg
  obtain ⟨p, hp, hiff, hb⟩ := p_bsearch xs k hs (by omega) (fun i hi => by have := storeGood_key hg hi; omega) h1 h2
  unfold m_impl_valueOf
  rw [hb, valueAt_spec hs hp hiff]
  simp only [Option.bind_some, decide_eq_true_eq]
  by_cases e : p < xs.length
  · rw [List.getElem?_eq_getElem e]
    simp only [Option.map_some, Option.some.injEq, idx_nat e, Option.bind_some]
    split <;> rfl
  · rw [List.getElem?_eq_none (by omega)]
    simp
theorem p_Clone_int (xs : List Int) (h : xs.length ≤ 1048576) : m_slices_Clone_int xs = some xs := by
  unfold m_slices_Clone_int slices_Clone_int_j2
  split <;> first | (simp; done) | (simp; omega)
theorem p_Clone_Range (xs : List TRange) (h : xs.length ≤ 1048576) : m_slices_Clone_Range xs = some xs := by
  unfold m_slices_Clone_Range slices_Clone_Range_j2
  split <;> first | (simp; done) | (simp; omega)
def modeOk (m : Int) : Bool := decide (m = 1) || decide (m = 2)
theorem p_l12Mode (m : Int) : m_spec_l12Mode m = some (modeOk m) := by
  unfold m_spec_l12Mode modeOk; by_cases h : m = 1 <;> simp [h]
theorem p_isMode (m : Int) : m_impl_isMode m = some (modeOk m) := by
  unfold m_impl_isMode modeOk; by_cases h : m = 1 <;> simp [h]
def meetsB (a b : TRange) : Bool := decide (a.Lo < b.Hi) && decide (b.Lo < a.Hi)
theorem p_meets (a b : TRange) : m_impl_meets a b = some (meetsB a b) := by
  unfold m_impl_meets meetsB; by_cases h : a.Lo < b.Hi <;> simp [h]
def clashB (a b : TLock) : Bool := decide (¬ a.Tx = b.Tx) && (decide (a.Mode = 2) || decide (b.Mode = 2)) && meetsB ⟨a.Lo, a.Hi⟩ ⟨b.Lo, b.Hi⟩
theorem p_impl_clash (a b : TLock) : m_impl_clash a b = some (clashB a b) := by
  unfold m_impl_clash m_impl_Lock_keys clashB
  simp only [p_meets, Option.bind_some]
  by_cases h : a.Tx = b.Tx <;> by_cases h1 : a.Mode = 2 <;> by_cases h2 : b.Mode = 2 <;> simp [h, h1, h2]
theorem p_l1Min (a b : Int) : m_spec_l1Min a b = some (min a b) := by
  unfold m_spec_l1Min; split <;> congr 1 <;> omega
theorem p_l1Max (a b : Int) : m_spec_l1Max a b = some (max a b) := by
  unfold m_spec_l1Max; split <;> congr 1 <;> omega
theorem p_RangeMeet (a b : TRange) : m_spec_RangeMeet a b = some (if rangeOk a && rangeOk b && rangeOk ⟨max a.Lo b.Lo, min a.Hi b.Hi⟩ then (⟨max a.Lo b.Lo, min a.Hi b.Hi⟩, true) else (⟨0, 0⟩, false)) := by
  unfold m_spec_RangeMeet spec_RangeMeet_j7
  simp only [p_l1Min, p_l1Max, p_spec_RangeOk, Option.bind_some]
  cases rangeOk a <;> cases rangeOk b <;> cases rangeOk ⟨max a.Lo b.Lo, min a.Hi b.Hi⟩ <;> simp
theorem meet_ok {a b : TRange} (ha : rangeOk a = true) (hb : rangeOk b = true) : rangeOk ⟨max a.Lo b.Lo, min a.Hi b.Hi⟩ = meetsB a b := by
  unfold rangeOk at *
  unfold meetsB
  simp only [Bool.and_eq_true, decide_eq_true_eq] at ha hb
  rw [Bool.eq_iff_iff]
  simp only [Bool.and_eq_true, decide_eq_true_eq]
  omega
theorem p_l12Clash (a b : TLock) (ha : rangeOk ⟨a.Lo, a.Hi⟩ = true) (hb : rangeOk ⟨b.Lo, b.Hi⟩ = true) : m_spec_l12Clash a b = some (clashB a b) := by
  unfold m_spec_l12Clash m_spec_l12Range clashB
  simp only [p_RangeMeet, Option.bind_some, ha, hb, Bool.true_and]
  have := meet_ok ha hb
  simp only at this
  rw [this]
  cases meetsB ⟨a.Lo, a.Hi⟩ ⟨b.Lo, b.Hi⟩ <;> by_cases h : a.Tx = b.Tx <;> by_cases h1 : a.Mode = 2 <;> simp [h, h1]
def lockAlone (a : TLock) : Bool := within a.Tx 1 60 && rangeOk ⟨a.Lo, a.Hi⟩ && modeOk a.Mode
def lockGood (xs : List TLock) (i : Nat) : Bool := match xs[i]? with
  | none => true
  | some a => lockAlone a && (xs.take i).all fun b => !clashB a b
def locksGood (xs : List TLock) : Bool := decide (xs.length ≤ 40) && (List.range xs.length).all (lockGood xs)
def optAll {α : Type} (f : α → Bool) : Option α → Bool
  | some b => f b
  | none => true
theorem all_take {α : Type} (xs : List α) (f : α → Bool) (n : Nat) (h : n ≤ xs.length) : (xs.take n).all f = (List.range n).all fun k => optAll f xs[k]? := by
  rw [Bool.eq_iff_iff, List.all_eq_true, List.all_eq_true]
  constructor
  · intro H k hk
    have hk := List.mem_range.1 hk
    have : k < xs.length := by omega
    rw [List.getElem?_eq_getElem this]
    show f _ = true
    exact H _ (by rw [List.mem_take_iff_getElem]; exact ⟨k, by omega, rfl⟩)
  · intro H x hx
    rw [List.mem_take_iff_getElem] at hx
    obtain ⟨k, hk, rfl⟩ := hx
    have := H k (List.mem_range.2 (by omega))
    rw [List.getElem?_eq_getElem (by omega)] at this
    exact this
theorem good_before {xs : List TLock} {i : Nat} (h : ∀ k, k < i → lockGood xs k = true) {k : Nat} (hk : k < i) (hl : k < xs.length) : rangeOk ⟨xs[k].Lo, xs[k].Hi⟩ = true := by
  have := h k hk
  unfold lockGood lockAlone at this
  rw [List.getElem?_eq_getElem hl] at this
  simp only [Bool.and_eq_true] at this
  exact this.1.1.2
theorem p_spec_LocksOk (xs : List TLock) (h : xs.length ≤ 1048576) : m_spec_LocksOk xs = some (locksGood xs) := by
  unfold m_spec_LocksOk locksGood
  split
  · have : ¬ xs.length ≤ 40 := by omega
    simp [this]
  · have : xs.length ≤ 40 := by omega
    rw [iter_goodH (s0 := (0 : Int)) (fun i => (i : Int)) (lockGood xs) (some false) (some true) xs.length (by omega) (fun kb i hi hp => ?_) (fun kb _ => ?_) rfl]
    · simp only [this, decide_true, Bool.true_and]; split <;> simp_all
    · unfold spec_LocksOk_b5 spec_LocksOk_j10 lockGood lockAlone
      simp only [idx_nat hi, p_l12Tx, p_l12Mode, p_spec_RangeOk, m_spec_l12Range, Option.bind_some, List.getElem?_eq_getElem hi]
      rw [if_pos (by omega)]
      generalize hg : (List.take i xs).all (fun b => !clashB xs[i] b) = g
      cases h1 : within xs[i].Tx 1 60 <;> simp
      cases h2 : rangeOk ⟨xs[i].Lo, xs[i].Hi⟩ <;> simp
      cases h3 : modeOk xs[i].Mode <;> simp
      rw [iter_good (s0 := (0 : Int)) (fun k => (k : Int)) (fun k => optAll (fun b => !clashB xs[i] b) xs[k]?) (some false) (kb ((i + 1 : Nat) : Int)) i (by omega) (fun kb' k hk => ?_) (fun kb' => ?_) rfl]
      · rw [← hg, all_take xs _ i (by omega)]
        simp only [Int.natCast_add, Int.cast_ofNat_Int]
      · unfold spec_LocksOk_b13
        have hkl : k < xs.length := by omega
        simp only [idx_nat hi, idx_nat hkl, Option.bind_some, p_l12Clash _ _ h2 (good_before hp hk hkl), step1 k _ hk (by omega), List.getElem?_eq_getElem hkl, optAll]
        rw [if_pos (by omega)]
        cases clashB xs[i] xs[k] <;> simp
      · unfold spec_LocksOk_b13 spec_LocksOk_j8
        rw [if_neg (by omega), step1 i _ hi (by omega)]
    · unfold spec_LocksOk_b5
      rw [if_neg (by omega)]; rfl
theorem p_Contains_LocksOk (xs : List TLock) (a : TLock) (h : xs.length ≤ 1048576) : m_slices_ContainsFunc_Lock__LocksOk_1 xs a = some (!xs.all fun b => !clashB a b) := by
  unfold m_slices_ContainsFunc_Lock__LocksOk_1 m_slices_IndexFunc_Lock__LocksOk_1
  have hb : ∀ x, m_impl_LocksOk_1 x a = some (clashB a x) := fun x => by simp [m_impl_LocksOk_1, p_impl_clash]
  rw [iter_stop (s0 := (0 : Int)) (fun i => (i : Int)) (fun i : Nat => match xs[i]? with | some b => if clashB a b = true then some (some (i : Int)) else none | none => none) (some (-1)) xs.length (by omega) (fun kb i hi => ?_) (fun kb => ?_) rfl]
  · cases hf : (List.range xs.length).findSome? (fun i : Nat => match xs[i]? with | some b => if clashB a b = true then some (some (i : Int)) else none | none => none) with
    | none =>
      rw [List.findSome?_eq_none_iff] at hf
      have : (xs.all fun b => !clashB a b) = true := by
        rw [List.all_eq_true]
        intro x hx
        obtain ⟨k, hk, rfl⟩ := List.mem_iff_getElem.1 hx
        have := hf k (List.mem_range.2 hk)
        rw [List.getElem?_eq_getElem hk] at this
        cases hc : clashB a xs[k] with
        | false => rfl
        | true => simp [hc] at this
      simp [this]
    | some q =>
      obtain ⟨x, hx, hq⟩ := List.exists_of_findSome?_eq_some hf
      have hk := List.mem_range.1 hx
      rw [List.getElem?_eq_getElem hk] at hq
      simp only at hq
      split at hq
      · rename_i hc
        cases hq
        have : (xs.all fun b => !clashB a b) = false := by
          rw [List.all_eq_false]
          exact ⟨xs[x], List.getElem_mem hk, by simp [hc]⟩
        simp [this]
      · cases hq
  · unfold slices_IndexFunc_Lock__LocksOk_1_b5
    simp only [idx_nat hi, Option.bind_some, hb, step1 i _ hi (by omega), List.getElem?_eq_getElem hi]
    rw [if_pos (by omega)]
    cases clashB a xs[i] <;> simp
  · unfold slices_IndexFunc_Lock__LocksOk_1_b5
    rw [if_neg (by omega)]; rfl
theorem p_impl_LocksOk (xs : List TLock) (h : xs.length ≤ 1048576) : m_impl_LocksOk xs = some (locksGood xs) := by
  unfold m_impl_LocksOk locksGood
  rw [iter_good (s0 := (0 : Int)) (fun i => (i : Int)) (lockGood xs) (some false) (some (decide (xs.length ≤ 40))) xs.length (by omega) (fun kb i hi => ?_) (fun kb => ?_) rfl]
  · split <;> simp_all
  · unfold impl_LocksOk_b4 impl_LocksOk_j9 lockGood lockAlone
    have hc : cut xs 0 (i : Int) = some (xs.take i) := by
      unfold cut
      rw [if_pos ⟨by omega, by omega, by omega⟩]
      simp
    simp only [idx_nat hi, p_isTx, p_isMode, p_impl_RangeOk, m_impl_Lock_keys, Option.bind_some, List.getElem?_eq_getElem hi, hc, p_Contains_LocksOk (xs.take i) xs[i] (by simp; omega), step1 i _ hi (by omega)]
    rw [if_pos (by omega)]
    generalize hg : (List.take i xs).all (fun b => !clashB xs[i] b) = g
    cases h1 : within xs[i].Tx 1 60 <;> simp
    cases h2 : rangeOk ⟨xs[i].Lo, xs[i].Hi⟩ <;> simp
    cases h3 : modeOk xs[i].Mode <;> simp
    cases g <;> simp
  · unfold impl_LocksOk_b4 impl_LocksOk_j2
    rw [if_neg (by omega)]
    have : ((xs.length : Int) ≤ 40) ↔ xs.length ≤ 40 := by omega
    simp [this]
def holdsB (tx : Int) (a : TRange) (mode : Int) (l : TLock) : Bool := decide (l.Tx = tx) && (decide (l.Mode = mode) || decide (l.Mode = 2)) && decide (l.Lo ≤ a.Lo) && decide (a.Hi ≤ l.Hi)
theorem locksGood_le {xs : List TLock} (h : locksGood xs = true) : xs.length ≤ 40 := by
  unfold locksGood at h; simp at h; exact h.1
theorem locksGood_at {xs : List TLock} (h : locksGood xs = true) {i : Nat} (hi : i < xs.length) : lockAlone xs[i] = true := by
  unfold locksGood at h
  simp only [Bool.and_eq_true, List.all_eq_true] at h
  have := h.2 i (List.mem_range.2 hi)
  unfold lockGood at this
  rw [List.getElem?_eq_getElem hi] at this
  simp only [Bool.and_eq_true] at this
  exact this.1
theorem p_spec_RangeIn (a b : TRange) : m_spec_RangeIn a b = some (rangeOk a && rangeOk b && decide (b.Lo ≤ a.Lo) && decide (a.Hi ≤ b.Hi)) := by
  unfold m_spec_RangeIn
  simp only [p_spec_RangeOk, Option.bind_some]
  cases rangeOk a <;> cases rangeOk b <;> by_cases h : b.Lo ≤ a.Lo <;> simp [h]
theorem p_l12Holds (xs : List TLock) (tx : Int) (a : TRange) (mode : Int) (hg : locksGood xs = true) (ha : rangeOk a = true) (hm : modeOk mode = true) : m_spec_l12Holds xs tx a mode = some (xs.any (holdsB tx a mode)) := by
  have hl := locksGood_le hg
  unfold m_spec_l12Holds
  rw [iter_any xs (holdsB tx a mode) (some true) (some false) (by omega) (fun kb i hi => ?_) (fun kb => ?_)]
  · split <;> simp_all
  · have hgi := locksGood_at hg hi
    unfold lockAlone modeOk at hgi
    unfold modeOk at hm
    unfold spec_l12Holds_b7 spec_l12Holds_j10 holdsB
    simp only [Bool.and_eq_true, Bool.or_eq_true, decide_eq_true_eq] at hgi hm
    simp only [idx_nat hi, m_spec_l12Range, p_spec_RangeIn, Option.bind_some, step1 i _ hi (by omega), ha, hgi.1.2, Bool.true_and]
    rw [if_pos (by omega)]
    by_cases h1 : xs[i].Tx = tx <;> by_cases h2 : xs[i].Lo ≤ a.Lo <;> by_cases h3 : a.Hi ≤ xs[i].Hi <;> simp [h1, h2, h3]
    have : (mode ≤ xs[i].Mode) ↔ (xs[i].Mode = mode ∨ xs[i].Mode = 2) := by omega
    simp [this]
  · unfold spec_l12Holds_b7
    rw [if_neg (by omega)]; rfl
theorem p_LocksHold_1 (l : TLock) (tx mode : Int) (a : TRange) : m_impl_LocksHold_1 l tx mode a = some (holdsB tx a mode l) := by
  unfold m_impl_LocksHold_1 holdsB
  by_cases h1 : l.Tx = tx <;> by_cases h2 : l.Lo ≤ a.Lo <;> by_cases h3 : l.Mode = mode <;> by_cases h4 : l.Mode = 2 <;> simp [h1, h2, h3, h4]
theorem p_Contains_LocksHold (xs : List TLock) (tx mode : Int) (a : TRange) (h : xs.length ≤ 1048576) : m_slices_ContainsFunc_Lock__LocksHold_1 xs tx mode a = some (xs.any (holdsB tx a mode)) := by
  unfold m_slices_ContainsFunc_Lock__LocksHold_1 m_slices_IndexFunc_Lock__LocksHold_1
  rw [iter_index xs (holdsB tx a mode) (by omega) (fun kb i hi => ?_) (fun kb => ?_)]
  · simp [idxOf_nonneg]
  · unfold slices_IndexFunc_Lock__LocksHold_1_b7
    simp only [idx_nat hi, p_LocksHold_1, Option.bind_some, step1 i _ hi (by omega)]
    rw [if_pos (by omega)]
  · unfold slices_IndexFunc_Lock__LocksHold_1_b7
    rw [if_neg (by omega)]; rfl
def locksHold (xs : List TLock) (tx : Int) (a : TRange) (mode : Int) : Bool := locksGood xs && rangeOk a && modeOk mode && xs.any (holdsB tx a mode)
theorem p_impl_LocksHold (xs : List TLock) (tx : Int) (a : TRange) (mode : Int) (h : xs.length ≤ 1048576) : m_impl_LocksHold xs tx a mode = some (locksHold xs tx a mode) := by
  unfold m_impl_LocksHold locksHold
  simp only [p_impl_LocksOk _ h, p_impl_RangeOk, p_isMode, p_Contains_LocksHold _ _ _ _ h, Option.bind_some]
  cases h1 : locksGood xs <;> cases h2 : rangeOk a <;> cases h3 : modeOk mode <;> simp
theorem p_l12Has (xs : List Int) (x : Int) (h : xs.length ≤ 1048576) : m_spec_l12Has xs x = some (xs.contains x) := by
  unfold m_spec_l12Has
  rw [iter_any xs (fun c => decide (c = x)) (some true) (some false) (by omega) (fun kb i hi => ?_) (fun kb => ?_)]
  · have e : xs.any (fun c => decide (c = x)) = xs.contains x := by
      rw [Bool.eq_iff_iff, List.any_eq_true, List.contains_iff_mem]
      simp
    rw [e]
    cases xs.contains x <;> rfl
  · unfold spec_l12Has_b5
    simp only [idx_nat hi, Option.bind_some, step1 i _ hi (by omega)]
    rw [if_pos (by omega)]
    by_cases e : xs[i] = x <;> simp [e]
  · unfold spec_l12Has_b5 spec_l12Has_j3
    rw [if_neg (by omega)]
theorem p_Contains_int (xs : List Int) (x : Int) (h : xs.length ≤ 1048576) : m_slices_Contains_int xs x = some (xs.contains x) := by
  unfold m_slices_Contains_int m_slices_Index_int
  rw [iter_index xs (fun c => decide (x = c)) (by omega) (fun kb i hi => ?_) (fun kb => ?_)]
  · simp only [Option.bind_some, idxOf_nonneg]
    congr 1
    rw [Bool.eq_iff_iff, List.any_eq_true, List.contains_iff_mem]
    simp
  · unfold slices_Index_int_b5
    simp only [idx_nat hi, Option.bind_some, step1 i _ hi (by omega)]
    rw [if_pos (by omega)]
    by_cases e : x = xs[i] <;> simp [e]
  · unfold slices_Index_int_b5
    rw [if_neg (by omega)]; rfl
theorem lockRange {xs : List TLock} (hg : locksGood xs = true) {i : Nat} (hi : i < xs.length) : rangeOk ⟨xs[i].Lo, xs[i].Hi⟩ = true := by
  have := locksGood_at hg hi
  unfold lockAlone at this
  simp only [Bool.and_eq_true] at this
  exact this.1.2
theorem p_eqCell (a b : TCell) : m_laws_eqCell a b = some (decide (a = b)) := by
  unfold m_laws_eqCell
  cases a; cases b
  simp only [TCell.mk.injEq]
  repeat' split
  all_goals simp_all
theorem p_eqCellS (xs ys : List TCell) (h : xs.length ≤ 1048576) : m_laws_eqCellS xs ys = some (decide (xs = ys)) := by
  unfold m_laws_eqCellS
  split
  · rename_i hl
    have : ¬ xs = ys := fun e => hl (by rw [e])
    simp [this]
  · rename_i hl
    have hl : xs.length = ys.length := by omega
    rw [iter_good (s0 := (0 : Int)) (fun i => (i : Int)) (fun i => decide (xs[i]? = ys[i]?)) (some false) (some true) xs.length (by omega) (fun kb i hi => ?_) (fun kb => ?_) rfl, all_range_eq hl]
    · by_cases e : xs = ys <;> simp [e]
    · unfold laws_eqCellS_b6
      simp only [idx_nat hi, idx_nat (show i < ys.length by omega), p_eqCell, Option.bind_some, step1 i _ hi (by omega)]
      rw [if_pos (by omega), List.getElem?_eq_getElem hi, List.getElem?_eq_getElem (show i < ys.length by omega)]
      simp
    · unfold laws_eqCellS_b6
      rw [if_neg (by omega)]
      rfl
theorem p_eqWrite (a b : TCell) : m_laws_eqWrite a b = some (decide (a = b)) := by
  unfold m_laws_eqWrite
  cases a; cases b
  simp only [TCell.mk.injEq]
  repeat' split
  all_goals simp_all
theorem p_eqWriteS (xs ys : List TCell) (h : xs.length ≤ 1048576) : m_laws_eqWriteS xs ys = some (decide (xs = ys)) := by
  unfold m_laws_eqWriteS
  split
  · rename_i hl
    have : ¬ xs = ys := fun e => hl (by rw [e])
    simp [this]
  · rename_i hl
    have hl : xs.length = ys.length := by omega
    rw [iter_good (s0 := (0 : Int)) (fun i => (i : Int)) (fun i => decide (xs[i]? = ys[i]?)) (some false) (some true) xs.length (by omega) (fun kb i hi => ?_) (fun kb => ?_) rfl, all_range_eq hl]
    · by_cases e : xs = ys <;> simp [e]
    · unfold laws_eqWriteS_b6
      simp only [idx_nat hi, idx_nat (show i < ys.length by omega), p_eqWrite, Option.bind_some, step1 i _ hi (by omega)]
      rw [if_pos (by omega), List.getElem?_eq_getElem hi, List.getElem?_eq_getElem (show i < ys.length by omega)]
      simp
    · unfold laws_eqWriteS_b6
      rw [if_neg (by omega)]
      rfl
theorem p_isAnswer (z : Int) : m_impl_isAnswer z = some (within z (-1) 1000000000) := by simp [m_impl_isAnswer, p_from]
def writeGood (xs : List TCell) (i : Nat) : Bool := match xs[i]? with
  | none => true
  | some c => within c.Key 0 999 && within c.Value (-1) 1000000000 && (i == 0 || match xs[i - 1]? with | some p => decide (p.Key < c.Key) | none => true)
def writesGood (xs : List TCell) : Bool := decide (xs.length ≤ 60) && (List.range xs.length).all (writeGood xs)
theorem p_spec_WritesOk (xs : List TCell) (h : xs.length ≤ 1048576) : m_spec_WritesOk xs = some (writesGood xs) := by
  unfold m_spec_WritesOk writesGood
  split
  · rename_i h1
    have : ¬ xs.length ≤ 60 := by omega
    simp [this]
  · rename_i h1
    have : xs.length ≤ 60 := by omega
    rw [iter_good (s0 := (0 : Int)) (fun i => (i : Int)) (writeGood xs) (some false) (some true) xs.length (by omega) (fun kb i hi => ?_) (fun kb => ?_) rfl]
    · simp only [this, decide_true, Bool.true_and]; split <;> simp_all
    · unfold spec_WritesOk_b5 spec_WritesOk_j8 writeGood
      simp only [idx_nat hi, p_l10Key, p_l1In, Option.bind_some, step1 i _ hi (by omega), List.getElem?_eq_getElem hi]
      rw [if_pos (by omega)]
      cases within xs[i].Key 0 999 <;> simp
      cases within xs[i].Value (-1) 1000000000 <;> simp
      by_cases h0 : 0 < i
      · have h2 : IntKind.wrap .i64 ((i : Int) - 1) = ((i - 1 : Nat) : Int) := by rw [w64 (by omega) (by omega)]; omega
        have h3 : i - 1 < xs.length := by omega
        have h4 : ¬ i = 0 := by omega
        simp only [h0, if_true, h2, idx_nat h3, Option.bind_some, List.getElem?_eq_getElem h3, h4, false_or]
        by_cases h5 : xs[i].Key ≤ xs[i - 1].Key
        · have : ¬ xs[i - 1].Key < xs[i].Key := by omega
          simp [h5, this]
        · have : xs[i - 1].Key < xs[i].Key := by omega
          simp [h5, this]
      · have h4 : i = 0 := by omega
        simp [h4]
    · unfold spec_WritesOk_b5
      rw [if_neg (by omega)]; rfl
theorem p_impl_WritesOk (xs : List TCell) (h : xs.length ≤ 1048576) : m_impl_WritesOk xs = some (writesGood xs) := by
  unfold m_impl_WritesOk writesGood
  rw [iter_good (s0 := (0 : Int)) (fun i => (i : Int)) (writeGood xs) (some false) (some (decide (xs.length ≤ 60))) xs.length (by omega) (fun kb i hi => ?_) (fun kb => ?_) rfl]
  · split <;> simp_all
  · unfold impl_WritesOk_b4 impl_WritesOk_j9 writeGood
    simp only [idx_nat hi, p_isKey, p_isAnswer, Option.bind_some, step1 i _ hi (by omega), List.getElem?_eq_getElem hi]
    rw [if_pos (by omega)]
    cases within xs[i].Key 0 999 <;> simp
    cases within xs[i].Value (-1) 1000000000 <;> simp
    by_cases h0 : 0 < i
    · have h2 : IntKind.wrap .i64 ((i : Int) - 1) = ((i - 1 : Nat) : Int) := by rw [w64 (by omega) (by omega)]; omega
      have h3 : i - 1 < xs.length := by omega
      have h4 : ¬ i = 0 := by omega
      simp only [h0, if_true, h2, idx_nat h3, Option.bind_some, List.getElem?_eq_getElem h3, h4, false_or]
      by_cases h5 : xs[i].Key ≤ xs[i - 1].Key
      · have : ¬ xs[i - 1].Key < xs[i].Key := by omega
        simp [h5, this]
      · have : xs[i - 1].Key < xs[i].Key := by omega
        simp [h5, this]
    · have h4 : i = 0 := by omega
      simp [h4]
  · unfold impl_WritesOk_b4 impl_WritesOk_j2
    rw [if_neg (by omega)]
    have : ((xs.length : Int) ≤ 60) ↔ xs.length ≤ 60 := by omega
    simp [this]
theorem writesGood_at {xs : List TCell} (h : writesGood xs = true) {i : Nat} (hi : i < xs.length) : -1 ≤ xs[i].Value ∧ 0 ≤ xs[i].Key ∧ xs[i].Key ≤ 999 := by
  unfold writesGood at h
  simp only [Bool.and_eq_true, List.all_eq_true] at h
  have := h.2 i (List.mem_range.2 hi)
  unfold writeGood within at this
  rw [List.getElem?_eq_getElem hi] at this
  simp only [Bool.and_eq_true, decide_eq_true_eq] at this
  exact ⟨this.1.2.1, this.1.1.1, this.1.1.2⟩
def newB (xs : List TCell) (w : TCell) : Bool := decide (0 ≤ w.Value) && decide (valueAt xs w.Key < 0)
def newCount (xs ws : List TCell) : Int := if storeGood xs && writesGood ws then ((ws.filter (newB xs)).length : Int) else -1
theorem filt_step {α : Type} {ws : List α} {p : α → Bool} {i : Nat} (hi : i < ws.length) : ((ws.take (i + 1)).filter p).length = ((ws.take i).filter p).length + if p ws[i] = true then 1 else 0 := by
  rw [List.take_succ_eq_append_getElem hi, List.filter_append, List.length_append]
  congr 1
  by_cases h : p ws[i] = true <;> simp [h]
theorem p_spec_StoreNew (xs ws : List TCell) (h : xs.length ≤ 1048576) (h' : ws.length ≤ 1048576) : m_spec_StoreNew xs ws = some (newCount xs ws) := by
  unfold m_spec_StoreNew newCount spec_StoreNew_j3
  simp only [p_spec_StoreOk _ h, p_spec_WritesOk _ h', Option.bind_some]
  cases hg : storeGood xs <;> simp
  cases hw : writesGood ws <;> simp
  rw [iter_all (s0 := ((0 : Int), (0 : Int))) (fun i => ((((ws.take i).filter (newB xs)).length : Int), (i : Int))) (some ((ws.filter (newB xs)).length : Int)) ws.length (by omega) (fun kb i hi => ?_) (fun kb => ?_) (by simp)]
  · unfold spec_StoreNew_b8 spec_StoreNew_j11
    have hle : ((ws.take i).filter (newB xs)).length ≤ ws.length := Nat.le_trans (List.length_filter_le _ _) (by simp; omega)
    have e := step1 i _ hi (by omega)
    have e3 : IntKind.wrap .i64 ((((ws.take i).filter (newB xs)).length : Int) + 1) = ((((ws.take i).filter (newB xs)).length + 1 : Nat) : Int) := by rw [w64 (by omega) (by omega)]; omega
    simp only [idx_nat hi, Option.bind_some, p_l11Get _ _ h, e, e3]
    rw [if_pos (by omega), filt_step hi]
    unfold newB
    by_cases h0 : 0 ≤ ws[i].Value <;> by_cases h1 : valueAt xs ws[i].Key < 0 <;> simp [h0, h1]
  · unfold spec_StoreNew_b8 spec_StoreNew_j6
    rw [if_neg (by simp)]
    simp
theorem p_impl_StoreNew (xs ws : List TCell) (h : xs.length ≤ 1048576) (h' : ws.length ≤ 1048576) : m_impl_StoreNew xs ws = some (newCount xs ws) := by
  unfold m_impl_StoreNew newCount impl_StoreNew_j3
  simp only [p_impl_StoreOk _ h, p_impl_WritesOk _ h', Option.bind_some]
  cases hg : storeGood xs <;> simp
  cases hw : writesGood ws <;> simp
  rw [iter_all (s0 := ((0 : Int), (0 : Int))) (fun i => ((((ws.take i).filter (newB xs)).length : Int), (i : Int))) (some ((ws.filter (newB xs)).length : Int)) ws.length (by omega) (fun kb i hi => ?_) (fun kb => ?_) (by simp)]
  · unfold impl_StoreNew_b8 impl_StoreNew_j13
    have hle : ((ws.take i).filter (newB xs)).length ≤ ws.length := Nat.le_trans (List.length_filter_le _ _) (by simp; omega)
    have e := step1 i _ hi (by omega)
    have e3 : IntKind.wrap .i64 ((((ws.take i).filter (newB xs)).length : Int) + 1) = ((((ws.take i).filter (newB xs)).length + 1 : Nat) : Int) := by rw [w64 (by omega) (by omega)]; omega
    have hv := writesGood_at hw hi
    simp only [idx_nat hi, Option.bind_some, p_valueOf xs _ hg (show -9000000000000000000 ≤ ws[i].Key by omega) (by omega), e, e3]
    rw [if_pos (by omega), filt_step hi]
    unfold newB
    by_cases h0 : 0 ≤ ws[i].Value
    · have : ¬ ws[i].Value = -1 := by omega
      by_cases h1 : valueAt xs ws[i].Key < 0 <;> simp [h0, h1, this]
    · have : ws[i].Value = -1 := by omega
      simp [this]
  · unfold impl_StoreNew_b8 impl_StoreNew_j6
    rw [if_neg (by simp)]
    simp
theorem p_eqLock (a b : TLock) : m_laws_eqLock a b = some (decide (a = b)) := by
  unfold m_laws_eqLock
  cases a; cases b
  simp only [TLock.mk.injEq]
  repeat' split
  all_goals simp_all
theorem p_eqLockS (xs ys : List TLock) (h : xs.length ≤ 1048576) : m_laws_eqLockS xs ys = some (decide (xs = ys)) := by
  unfold m_laws_eqLockS
  split
  · rename_i hl
    have : ¬ xs = ys := fun e => hl (by rw [e])
    simp [this]
  · rename_i hl
    have hl : xs.length = ys.length := by omega
    rw [iter_good (s0 := (0 : Int)) (fun i => (i : Int)) (fun i => decide (xs[i]? = ys[i]?)) (some false) (some true) xs.length (by omega) (fun kb i hi => ?_) (fun kb => ?_) rfl, all_range_eq hl]
    · by_cases e : xs = ys <;> simp [e]
    · unfold laws_eqLockS_b6
      simp only [idx_nat hi, idx_nat (show i < ys.length by omega), p_eqLock, Option.bind_some, step1 i _ hi (by omega)]
      rw [if_pos (by omega), List.getElem?_eq_getElem hi, List.getElem?_eq_getElem (show i < ys.length by omega)]
      simp
    · unfold laws_eqLockS_b6
      rw [if_neg (by omega)]
      rfl
def size_Held (x : THeld) : Nat := x.Writes.length
theorem p_eqHeld (x y : THeld) (h : size_Held x ≤ 1048576) : m_laws_eqHeld x y = some (decide (x = y)) := by
  unfold m_laws_eqHeld
  simp only [p_eqWriteS _ _ (show x.Writes.length ≤ 1048576 by unfold size_Held at h; omega), Option.bind_some]
  cases x; cases y
  simp only [THeld.mk.injEq]
  repeat' split
  all_goals simp_all
def size_HeldS (xs : (List THeld)) : Nat := xs.length + sumB (fun y : THeld => size_Held y) xs
theorem small_HeldS {xs : (List THeld)} (h : size_HeldS xs ≤ 1048576) : xs.length ≤ 1048576 ∧ ∀ i (hi : i < xs.length), size_Held (xs[i]) ≤ 1048576 := by
  unfold size_HeldS at h
  refine ⟨by omega, fun i hi => ?_⟩
  have := sumB_mem (fun y : THeld => size_Held y) hi
  omega
theorem p_eqHeldS (xs ys : (List THeld)) (h : size_HeldS xs ≤ 1048576) : m_laws_eqHeldS xs ys = some (decide (xs = ys)) := by
  obtain ⟨hl, hs⟩ := small_HeldS h
  unfold m_laws_eqHeldS
  split
  · rename_i hl
    have : ¬ xs = ys := fun e => hl (by rw [e])
    simp [this]
  · rename_i hl
    have hl : xs.length = ys.length := by omega
    rw [iter_good (s0 := (0 : Int)) (fun i => (i : Int)) (fun i => decide (xs[i]? = ys[i]?)) (some false) (some true) xs.length (by omega) (fun kb i hi => ?_) (fun kb => ?_) rfl, all_range_eq hl]
    · by_cases e : xs = ys <;> simp [e]
    · unfold laws_eqHeldS_b6
      simp only [idx_nat hi, idx_nat (show i < ys.length by omega), p_eqHeld _ _ (hs i hi), Option.bind_some, step1 i _ hi (by omega)]
      rw [if_pos (by omega), List.getElem?_eq_getElem hi, List.getElem?_eq_getElem (show i < ys.length by omega)]
      simp
    · unfold laws_eqHeldS_b6
      rw [if_neg (by omega)]
      rfl
theorem p_eqIntS (xs ys : List Int) (h : xs.length ≤ 1048576) : m_laws_eqIntS xs ys = some (decide (xs = ys)) := by
  unfold m_laws_eqIntS
  split
  · rename_i hl
    have : ¬ xs = ys := fun e => hl (by rw [e])
    simp [this]
  · rename_i hl
    have hl : xs.length = ys.length := by omega
    rw [iter_good (s0 := (0 : Int)) (fun i => (i : Int)) (fun i => decide (xs[i]? = ys[i]?)) (some false) (some true) xs.length (by omega) (fun kb i hi => ?_) (fun kb => ?_) rfl, all_range_eq hl]
    · by_cases e : xs = ys <;> simp [e]
    · unfold laws_eqIntS_b6
      simp only [idx_nat hi, idx_nat (show i < ys.length by omega), Option.bind_some, step1 i _ hi (by omega)]
      rw [if_pos (by omega), List.getElem?_eq_getElem hi, List.getElem?_eq_getElem (show i < ys.length by omega)]
      simp
    · unfold laws_eqIntS_b6
      rw [if_neg (by omega)]
      rfl
def size_Shard (x : TShard) : Nat := x.Own.length + x.Frozen.length + x.Cells.length + x.Locks.length + size_HeldS x.Helds + x.Wounded.length + x.Ended.length
theorem p_eqShard (x y : TShard) (h : size_Shard x ≤ 1048576) : m_laws_eqShard x y = some (decide (x = y)) := by
  unfold m_laws_eqShard
  simp only [p_eqRangeS _ _ (show x.Own.length ≤ 1048576 by unfold size_Shard at h; omega), p_eqRangeS _ _ (show x.Frozen.length ≤ 1048576 by unfold size_Shard at h; omega), p_eqCellS _ _ (show x.Cells.length ≤ 1048576 by unfold size_Shard at h; omega), p_eqLockS _ _ (show x.Locks.length ≤ 1048576 by unfold size_Shard at h; omega), p_eqHeldS _ _ (show size_HeldS x.Helds ≤ 1048576 by unfold size_Shard at h; omega), p_eqIntS _ _ (show x.Wounded.length ≤ 1048576 by unfold size_Shard at h; omega), p_eqIntS _ _ (show x.Ended.length ≤ 1048576 by unfold size_Shard at h; omega), Option.bind_some]
  cases x; cases y
  simp only [TShard.mk.injEq]
  repeat' split
  all_goals simp_all
def oneR (k : Int) : TRange := TRange.mk k (IntKind.wrap .i64 (k + 1))
theorem p_l10One (k : Int) : m_spec_l10One k = some (oneR k) := rfl
theorem p_one (k : Int) : m_impl_one k = some (oneR k) := rfl
theorem oneR_ok {k : Int} (h : 0 ≤ k ∧ k ≤ 999) : rangeOk (oneR k) = true := by
  unfold oneR rangeOk
  rw [w64 (by omega) (by omega)]
  simp
  omega
theorem p_txsOf (xs : List THeld) (h : xs.length ≤ 1048576) : m_impl_txsOf xs = some (xs.map (·.Tx)) := by
  unfold m_impl_txsOf
  refine iter_all (fun i => ((xs.take i).map (·.Tx), (i : Int))) _ xs.length (by omega) (fun kb i hi => ?_) (fun kb => ?_) (by simp)
  · unfold impl_txsOf_b4
    simp only [idx_nat hi, Option.bind_some, step1 i _ hi (by omega)]
    rw [if_pos (by omega), if_pos (by simp; omega), List.take_succ_eq_append_getElem hi, List.map_append]
    rfl
  · unfold impl_txsOf_b4 impl_txsOf_j2
    rw [if_neg (by simp)]
    simp
theorem p_Concat_int (xs : List (List Int)) (h : xs.length ≤ 1048576) (hs : sumB List.length xs ≤ 100000000) : m_slices_Concat_int xs = some xs.flatten := by
  unfold m_slices_Concat_int
  have hst := fun i => sumB_take List.length xs i
  refine iter_all (fun i => (((sumB List.length (xs.take i) : Nat) : Int), (i : Int))) _ xs.length (by omega) (fun kb i hi => ?_) (fun kb => ?_) (by simp [sumB])
  · unfold slices_Concat_int_b14
    have h1 := hst (i + 1)
    have h2 := sumB_step List.length hi
    have e : IntKind.wrap .i64 (((sumB List.length (xs.take i) : Nat) : Int) + (xs[i].length : Int)) = ((sumB List.length (xs.take (i + 1)) : Nat) : Int) := by rw [w64 (by omega) (by omega), h2]; omega
    simp only [idx_nat hi, Option.bind_some, step1 i _ hi (by omega), e]
    rw [if_pos (by omega), if_neg (by omega)]
  · unfold slices_Concat_int_b14 slices_Concat_int_j2 m_slices_Grow_int
    rw [if_neg (by simp)]
    have h1 := hst xs.length
    simp only
    rw [if_pos (by omega)]
    simp only [Option.bind_some]
    refine iter_all (fun i => ((xs.take i).flatten, (i : Int))) _ xs.length (by omega) (fun kb i hi => ?_) (fun kb => ?_) (by simp)
    · unfold slices_Concat_int_b8
      have h3 := hst (i + 1)
      have hf : ∀ ys : List (List Int), ys.flatten.length = sumB List.length ys := fun ys => by
        induction ys with
        | nil => rfl
        | cons y ys ih => simp only [List.flatten_cons, List.length_append, sumB, ih]
      have h2 := sumB_step List.length hi
      have e : (xs.take (i + 1)).flatten = (xs.take i).flatten ++ xs[i] := by rw [List.take_succ_eq_append_getElem hi, List.flatten_append]; simp
      simp only [idx_nat hi, Option.bind_some, step1 i _ hi (by omega)]
      rw [if_pos (by omega), if_pos (by rw [← e, hf]; omega), e]
    · unfold slices_Concat_int_b8 slices_Concat_int_j6
      rw [if_neg (by simp)]
      simp
def newSum (xs : List TCell) (hs : List THeld) : Int := (hs.map fun h => newCount xs h.Writes).sum
theorem newCount_bd (xs ws : List TCell) : -1 ≤ newCount xs ws ∧ newCount xs ws ≤ ws.length := by
  unfold newCount
  have := List.length_filter_le (newB xs) ws
  split <;> omega
theorem newSum_bd (xs : List TCell) : ∀ hs : List THeld, -(hs.length : Int) ≤ newSum xs hs ∧ newSum xs hs ≤ (sumB (fun h : THeld => h.Writes.length) hs : Nat)
  | [] => by simp [newSum, sumB]
  | h :: hs => by
    have := newSum_bd xs hs
    have h2 := newCount_bd xs h.Writes
    unfold newSum at this ⊢
    simp only [List.map_cons, List.sum_cons, sumB, List.length_cons]
    omega
theorem newSum_step (xs : List TCell) {hs : List THeld} {i : Nat} (hi : i < hs.length) : newSum xs (hs.take (i + 1)) = newSum xs (hs.take i) + newCount xs hs[i].Writes := by
  unfold newSum
  rw [List.take_succ_eq_append_getElem hi, List.map_append, List.sum_append]
  simp
theorem size_HeldS_eq (hs : List THeld) : size_HeldS hs = hs.length + sumB (fun h : THeld => h.Writes.length) hs := rfl
theorem held_len {hs : List THeld} (h : size_HeldS hs ≤ 1048576) {i : Nat} (hi : i < hs.length) : hs[i].Writes.length ≤ 1048576 := by
  rw [size_HeldS_eq] at h
  have h1 := sumB_step (fun h : THeld => h.Writes.length) hi
  have h2 := sumB_take (fun h : THeld => h.Writes.length) hs (i + 1)
  omega
theorem p_l13New (s : TShard) (h : size_Shard s ≤ 1048576) : m_spec_l13New s = some (newSum s.Cells s.Helds) := by
  have hc : s.Cells.length ≤ 1048576 := by unfold size_Shard at h; omega
  have hh : size_HeldS s.Helds ≤ 1048576 := by unfold size_Shard at h; omega
  have hh2 := hh
  rw [size_HeldS_eq] at hh2
  unfold m_spec_l13New
  refine iter_all (fun i => (newSum s.Cells (s.Helds.take i), (i : Int))) _ s.Helds.length (by omega) (fun kb i hi => ?_) (fun kb => ?_) (by simp [newSum])
  · unfold spec_l13New_b4
    have b1 := newSum_bd s.Cells (s.Helds.take (i + 1))
    have b2 := sumB_take (fun h : THeld => h.Writes.length) s.Helds (i + 1)
    have b3 : (s.Helds.take (i + 1)).length ≤ s.Helds.length := by simp; omega
    rw [newSum_step s.Cells hi] at b1
    simp only [idx_nat hi, p_spec_StoreNew _ _ hc (held_len hh hi), Option.bind_some, step1 i _ hi (by omega), newSum_step s.Cells hi]
    rw [if_pos (by omega), w64 (by omega) (by omega)]
  · unfold spec_l13New_b4 spec_l13New_j2
    rw [if_neg (by simp)]
    simp
theorem p_room (s : TShard) (h : size_Shard s ≤ 1048576) : m_impl_room s = some ((s.Cells.length : Int) + newSum s.Cells s.Helds) := by
  have hc : s.Cells.length ≤ 1048576 := by unfold size_Shard at h; omega
  have hh : size_HeldS s.Helds ≤ 1048576 := by unfold size_Shard at h; omega
  have hh2 := hh
  rw [size_HeldS_eq] at hh2
  unfold m_impl_room
  refine iter_all (fun i => ((s.Cells.length : Int) + newSum s.Cells (s.Helds.take i), (i : Int))) _ s.Helds.length (by omega) (fun kb i hi => ?_) (fun kb => ?_) (by simp [newSum])
  · unfold impl_room_b4
    have b1 := newSum_bd s.Cells (s.Helds.take (i + 1))
    have b2 := sumB_take (fun h : THeld => h.Writes.length) s.Helds (i + 1)
    have b3 : (s.Helds.take (i + 1)).length ≤ s.Helds.length := by simp; omega
    rw [newSum_step s.Cells hi] at b1
    simp only [idx_nat hi, p_impl_StoreNew _ _ hc (held_len hh hi), Option.bind_some, step1 i _ hi (by omega), newSum_step s.Cells hi]
    rw [if_pos (by omega), w64 (by omega) (by omega), Int.add_assoc]
  · unfold impl_room_b4 impl_room_j2
    rw [if_neg (by simp)]
    simp
def hasLocks (s : TShard) (h : THeld) : Bool := h.Writes.all fun w => s.Locks.any (holdsB h.Tx (oneR w.Key) 2)
theorem p_heldsOk_1 (w : TCell) (s : TShard) (h : THeld) (hs : s.Locks.length ≤ 1048576) : m_impl_heldsOk_1 w s h = some (!locksHold s.Locks h.Tx (oneR w.Key) 2) := by
  unfold m_impl_heldsOk_1
  simp only [p_one, p_impl_LocksHold _ _ _ _ hs, Option.bind_some]
theorem p_Contains_heldsOk (ws : List TCell) (s : TShard) (h : THeld) (hs : s.Locks.length ≤ 1048576) (hw : ws.length ≤ 1048576) : m_slices_ContainsFunc_Write__heldsOk_1 ws s h = some (ws.any fun w => !locksHold s.Locks h.Tx (oneR w.Key) 2) := by
  unfold m_slices_ContainsFunc_Write__heldsOk_1 m_slices_IndexFunc_Write__heldsOk_1
  rw [iter_index ws (fun w => !locksHold s.Locks h.Tx (oneR w.Key) 2) (by omega) (fun kb i hi => ?_) (fun kb => ?_)]
  · simp only [Option.bind_some, idxOf_nonneg]
  · unfold slices_IndexFunc_Write__heldsOk_1_b6
    simp only [idx_nat hi, p_heldsOk_1 _ _ _ hs, Option.bind_some, step1 i _ hi (by omega)]
    rw [if_pos (by omega)]
  · unfold slices_IndexFunc_Write__heldsOk_1_b6
    rw [if_neg (by omega)]; rfl
theorem hold_key {s : TShard} {h : THeld} (hg : locksGood s.Locks = true) (hw : writesGood h.Writes = true) : (h.Writes.any fun w => !locksHold s.Locks h.Tx (oneR w.Key) 2) = !hasLocks s h := by
  have : ∀ w ∈ h.Writes, (!locksHold s.Locks h.Tx (oneR w.Key) 2) = !(s.Locks.any (holdsB h.Tx (oneR w.Key) 2)) := fun w hm => by
    obtain ⟨i, hi, rfl⟩ := List.mem_iff_getElem.1 hm
    have hk := (writesGood_at hw hi).2
    unfold locksHold
    rw [hg, oneR_ok hk]
    rfl
  unfold hasLocks
  rw [List.not_all_eq_any_not]
  rw [Bool.eq_iff_iff, List.any_eq_true, List.any_eq_true]
  constructor <;> rintro ⟨w, hm, e⟩ <;> refine ⟨w, hm, ?_⟩
  · rw [← this w hm]; exact e
  · rw [this w hm]; exact e
def heldI (s : TShard) (h : THeld) : Bool := writesGood h.Writes && hasLocks s h
theorem p_heldsOk (s : TShard) (h : size_Shard s ≤ 1048576) (hg : locksGood s.Locks = true) : m_impl_heldsOk s = some (s.Helds.all (heldI s) && txsGood (s.Helds.map (·.Tx))) := by
  have hl : s.Locks.length ≤ 1048576 := by unfold size_Shard at h; omega
  have hh : size_HeldS s.Helds ≤ 1048576 := by unfold size_Shard at h; omega
  have hn : s.Helds.length ≤ 1048576 := by rw [size_HeldS_eq] at hh; omega
  unfold m_impl_heldsOk
  rw [iter_every s.Helds (heldI s) (some false) (some (txsGood (s.Helds.map (·.Tx)))) (by omega) (fun kb i hi => ?_) (fun kb => ?_)]
  · cases s.Helds.all (heldI s) <;> simp
  · unfold impl_heldsOk_b8 impl_heldsOk_j13 heldI
    have hw := held_len hh hi
    simp only [idx_nat hi, p_impl_WritesOk _ hw, p_Contains_heldsOk _ _ _ hl hw, Option.bind_some, step1 i _ hi (by omega)]
    rw [if_pos (by omega)]
    cases hwg : writesGood s.Helds[i].Writes
    · simp
    · rw [hold_key hg hwg]
      cases hasLocks s s.Helds[i] <;> simp
  · unfold impl_heldsOk_b8 impl_heldsOk_j2
    rw [if_neg (by omega)]
    simp only [p_txsOf _ hn, p_ascending _ (show (s.Helds.map (·.Tx)).length ≤ 1048576 by simpa using hn), Option.bind_some]
def heldAt (s : TShard) (i : Nat) : Bool := match s.Helds[i]? with
  | none => true
  | some h => within h.Tx 1 60 && (i == 0 || match s.Helds[i - 1]? with | some p => decide (p.Tx < h.Tx) | none => true) && writesGood h.Writes && hasLocks s h && !s.Wounded.contains h.Tx && !s.Ended.contains h.Tx
theorem p_l13_j11 (s : TShard) (hd : THeld) (kx : Unit → Option Bool) (h : size_Shard s ≤ 1048576) (hw : hd.Writes.length ≤ 1048576) (hg : locksGood s.Locks = true) (hwg : writesGood hd.Writes = true) : spec_l13HeldsOk_j11 hd s kx false = if hasLocks s hd = true then (if (!s.Wounded.contains hd.Tx && !s.Ended.contains hd.Tx) = true then kx () else some false) else some false := by
  have hW : s.Wounded.length ≤ 1048576 := by unfold size_Shard at h; omega
  have hE : s.Ended.length ≤ 1048576 := by unfold size_Shard at h; omega
  unfold spec_l13HeldsOk_j11 hasLocks
  rw [if_neg (by simp)]
  refine iter_every hd.Writes (fun w => s.Locks.any (holdsB hd.Tx (oneR w.Key) 2)) (some false) _ (by omega) (fun kb i hi => ?_) (fun kb => ?_)
  · unfold spec_l13HeldsOk_b24
    have hk := (writesGood_at hwg hi).2
    simp only [idx_nat hi, p_l10One, p_l12Holds _ hd.Tx _ 2 hg (oneR_ok hk) (by decide), Option.bind_some, step1 i _ hi (by omega)]
    rw [if_pos (by omega)]
  · unfold spec_l13HeldsOk_b24 spec_l13HeldsOk_j14 spec_l13HeldsOk_j16
    rw [if_neg (by omega)]
    simp only [p_l12Has _ _ hW, p_l12Has _ _ hE, Option.bind_some]
    cases s.Wounded.contains hd.Tx <;> cases s.Ended.contains hd.Tx <;> simp
theorem p_l13HeldsOk (s : TShard) (h : size_Shard s ≤ 1048576) (hg : locksGood s.Locks = true) : m_spec_l13HeldsOk s = some ((List.range s.Helds.length).all (heldAt s)) := by
  have hh : size_HeldS s.Helds ≤ 1048576 := by unfold size_Shard at h; omega
  have hn : s.Helds.length ≤ 1048576 := by rw [size_HeldS_eq] at hh; omega
  unfold m_spec_l13HeldsOk
  rw [iter_good (s0 := (0 : Int)) (fun i => (i : Int)) (heldAt s) (some false) (some true) s.Helds.length (by omega) (fun kb i hi => ?_) (fun kb => ?_) rfl]
  · split <;> simp_all
  · have hw := held_len hh hi
    have J : ∀ kx, spec_l13HeldsOk_j11 s.Helds[i] s kx true = some false := fun kx => rfl
    unfold spec_l13HeldsOk_b4 heldAt
    simp only [idx_nat hi, p_l12Tx, p_spec_WritesOk _ hw, Option.bind_some, List.getElem?_eq_getElem hi]
    rw [if_pos (by omega)]
    cases hwg : writesGood s.Helds[i].Writes
    · cases within s.Helds[i].Tx 1 60 <;> simp [J]
      intro h0
      have h2 : IntKind.wrap .i64 ((i : Int) - 1) = ((i - 1 : Nat) : Int) := by rw [w64 (by omega) (by omega)]; omega
      have h3 : i - 1 < s.Helds.length := by omega
      simp only [h2, idx_nat h3, Option.bind_some]
    · simp only [Bool.not_true, p_l13_j11 s s.Helds[i] _ h hw hg hwg]
      unfold spec_l13HeldsOk_j7
      rw [step1 i _ hi (by omega)]
      cases within s.Helds[i].Tx 1 60 <;> simp [J]
      by_cases h0 : 0 < i
      · have h2 : IntKind.wrap .i64 ((i : Int) - 1) = ((i - 1 : Nat) : Int) := by rw [w64 (by omega) (by omega)]; omega
        have h3 : i - 1 < s.Helds.length := by omega
        have h4 : ¬ i = 0 := by omega
        simp only [h0, if_true, h2, idx_nat h3, Option.bind_some, List.getElem?_eq_getElem h3, h4, false_or]
        by_cases h5 : s.Helds[i].Tx ≤ s.Helds[i - 1].Tx
        · have : ¬ s.Helds[i - 1].Tx < s.Helds[i].Tx := by omega
          simp [h5, this]
        · have : s.Helds[i - 1].Tx < s.Helds[i].Tx := by omega
          simp [h5, this]
          cases hasLocks s s.Helds[i] <;> simp
      · have h4 : i = 0 := by omega
        subst h4
        simp
        cases hasLocks s s.Helds[0] <;> simp
  · unfold spec_l13HeldsOk_b4
    rw [if_neg (by omega)]; rfl
theorem p_ShardOk_1 (s : TShard) (a : TRange) (h : s.Own.length ≤ 1048576) : m_impl_ShardOk_1 a s = some (!haveB s.Own a) := by
  unfold m_impl_ShardOk_1
  simp only [p_haveAll _ _ h, Option.bind_some]
theorem p_ShardOk_2 (s : TShard) (a : TCell) (h : s.Own.length ≤ 1048576) : m_impl_ShardOk_2 a s = some (!haveB s.Own (oneR a.Key)) := by
  unfold m_impl_ShardOk_2
  simp only [p_one, p_haveAll _ _ h, Option.bind_some]
theorem p_ShardOk_3 (s : TShard) (l : TLock) (g : List Int) (h : s.Own.length ≤ 1048576) (hg : g.length ≤ 1048576) : m_impl_ShardOk_3 l s g = some (!haveB s.Own ⟨l.Lo, l.Hi⟩ || g.contains l.Tx) := by
  unfold m_impl_ShardOk_3 m_impl_Lock_keys
  simp only [p_haveAll _ _ h, p_Contains_int _ _ hg, Option.bind_some]
  cases haveB s.Own ⟨l.Lo, l.Hi⟩ <;> simp
theorem p_Contains_Shard1 (xs : List TRange) (s : TShard) (h : s.Own.length ≤ 1048576) (hx : xs.length ≤ 1048576) : m_slices_ContainsFunc_Range__ShardOk_1 xs s = some (xs.any fun a => !haveB s.Own a) := by
  unfold m_slices_ContainsFunc_Range__ShardOk_1 m_slices_IndexFunc_Range__ShardOk_1
  rw [iter_index xs (fun a => !haveB s.Own a) (by omega) (fun kb i hi => ?_) (fun kb => ?_)]
  · simp only [Option.bind_some, idxOf_nonneg]
  · unfold slices_IndexFunc_Range__ShardOk_1_b5
    simp only [idx_nat hi, p_ShardOk_1 _ _ h, Option.bind_some, step1 i _ hi (by omega)]
    rw [if_pos (by omega)]
  · unfold slices_IndexFunc_Range__ShardOk_1_b5
    rw [if_neg (by omega)]; rfl
theorem p_Contains_Shard2 (xs : List TCell) (s : TShard) (h : s.Own.length ≤ 1048576) (hx : xs.length ≤ 1048576) : m_slices_ContainsFunc_Cell__ShardOk_2 xs s = some (xs.any fun a => !haveB s.Own (oneR a.Key)) := by
  unfold m_slices_ContainsFunc_Cell__ShardOk_2 m_slices_IndexFunc_Cell__ShardOk_2
  rw [iter_index xs (fun a => !haveB s.Own (oneR a.Key)) (by omega) (fun kb i hi => ?_) (fun kb => ?_)]
  · simp only [Option.bind_some, idxOf_nonneg]
  · unfold slices_IndexFunc_Cell__ShardOk_2_b5
    simp only [idx_nat hi, p_ShardOk_2 _ _ h, Option.bind_some, step1 i _ hi (by omega)]
    rw [if_pos (by omega)]
  · unfold slices_IndexFunc_Cell__ShardOk_2_b5
    rw [if_neg (by omega)]; rfl
theorem p_Contains_Shard3 (xs : List TLock) (s : TShard) (g : List Int) (h : s.Own.length ≤ 1048576) (hg : g.length ≤ 1048576) (hx : xs.length ≤ 1048576) : m_slices_ContainsFunc_Lock__ShardOk_3 xs s g = some (xs.any fun l => !haveB s.Own ⟨l.Lo, l.Hi⟩ || g.contains l.Tx) := by
  unfold m_slices_ContainsFunc_Lock__ShardOk_3 m_slices_IndexFunc_Lock__ShardOk_3
  rw [iter_index xs (fun l => !haveB s.Own ⟨l.Lo, l.Hi⟩ || g.contains l.Tx) (by omega) (fun kb i hi => ?_) (fun kb => ?_)]
  · simp only [Option.bind_some, idxOf_nonneg]
  · unfold slices_IndexFunc_Lock__ShardOk_3_b6
    simp only [idx_nat hi, p_ShardOk_3 _ _ _ h hg, Option.bind_some, step1 i _ hi (by omega)]
    rw [if_pos (by omega)]
  · unfold slices_IndexFunc_Lock__ShardOk_3_b6
    rw [if_neg (by omega)]; rfl
def frozenB (s : TShard) : Bool := s.Frozen.all (haveB s.Own)
def cellsB (s : TShard) : Bool := s.Cells.all fun c => haveB s.Own (oneR c.Key)
def locksB (s : TShard) : Bool := s.Locks.all fun l => haveB s.Own ⟨l.Lo, l.Hi⟩ && (!s.Wounded.contains l.Tx && !s.Ended.contains l.Tx)
def woundB (s : TShard) : Bool := s.Wounded.all fun t => !s.Ended.contains t
def roomB (s : TShard) : Bool := decide ((s.Cells.length : Int) + newSum s.Cells s.Helds ≤ 60)
def restB (s : TShard) : Bool := frozenB s && cellsB s && locksB s && woundB s && (List.range s.Helds.length).all (heldAt s) && roomB s
theorem p_sj14 (s : TShard) (h : size_Shard s ≤ 1048576) (hg : locksGood s.Locks = true) : spec_ShardOk_j14 s () = some ((List.range s.Helds.length).all (heldAt s) && roomB s) := by
  have hc : s.Cells.length ≤ 1048576 := by unfold size_Shard at h; omega
  have hh : size_HeldS s.Helds ≤ 1048576 := by unfold size_Shard at h; omega
  rw [size_HeldS_eq] at hh
  have hb := newSum_bd s.Cells s.Helds
  unfold spec_ShardOk_j14 roomB
  simp only [p_l13HeldsOk s h hg, p_l13New s h, Option.bind_some]
  rw [w64 (by omega) (by omega)]
  cases (List.range s.Helds.length).all (heldAt s) <;> simp
theorem p_sj12 (s : TShard) (h : size_Shard s ≤ 1048576) (hg : locksGood s.Locks = true) : spec_ShardOk_j12 s () = some (woundB s && ((List.range s.Helds.length).all (heldAt s) && roomB s)) := by
  have hW : s.Wounded.length ≤ 1048576 := by unfold size_Shard at h; omega
  have hE : s.Ended.length ≤ 1048576 := by unfold size_Shard at h; omega
  unfold spec_ShardOk_j12 woundB
  rw [iter_every s.Wounded (fun t => !s.Ended.contains t) (some false) (some ((List.range s.Helds.length).all (heldAt s) && roomB s)) (by omega) (fun kb i hi => ?_) (fun kb => ?_)]
  · cases s.Wounded.all _ <;> simp
  · unfold spec_ShardOk_b21
    simp only [idx_nat hi, p_l12Has _ _ hE, Option.bind_some, step1 i _ hi (by omega)]
    rw [if_pos (by omega)]
    cases s.Ended.contains s.Wounded[i] <;> simp
  · unfold spec_ShardOk_b21
    rw [if_neg (by omega)]
    exact p_sj14 s h hg
theorem p_sj10 (s : TShard) (h : size_Shard s ≤ 1048576) (hg : locksGood s.Locks = true) (ho : rangesGood s.Own = true) : spec_ShardOk_j10 s () = some (locksB s && (woundB s && ((List.range s.Helds.length).all (heldAt s) && roomB s))) := by
  have hO : s.Own.length ≤ 1048576 := by unfold size_Shard at h; omega
  have hL : s.Locks.length ≤ 1048576 := by unfold size_Shard at h; omega
  have hW : s.Wounded.length ≤ 1048576 := by unfold size_Shard at h; omega
  have hE : s.Ended.length ≤ 1048576 := by unfold size_Shard at h; omega
  unfold spec_ShardOk_j10 locksB
  rw [iter_every s.Locks (fun l => haveB s.Own ⟨l.Lo, l.Hi⟩ && (!s.Wounded.contains l.Tx && !s.Ended.contains l.Tx)) (some false) (some (woundB s && ((List.range s.Helds.length).all (heldAt s) && roomB s))) (by omega) (fun kb i hi => ?_) (fun kb => ?_)]
  · cases s.Locks.all _ <;> simp
  · unfold spec_ShardOk_b29 spec_ShardOk_j34 m_spec_l12Range
    simp only [idx_nat hi, p_RangesHave _ _ hO, ho, lockRange hg hi, p_l12Has _ _ hE, p_l12Has _ _ hW, Option.bind_some, step1 i _ hi (by omega), Bool.true_and]
    rw [if_pos (by omega)]
    cases haveB s.Own ⟨s.Locks[i].Lo, s.Locks[i].Hi⟩ <;> cases s.Wounded.contains s.Locks[i].Tx <;> cases s.Ended.contains s.Locks[i].Tx <;> simp
  · unfold spec_ShardOk_b29
    rw [if_neg (by omega)]
    exact p_sj12 s h hg
theorem storeKey {xs : List TCell} (hg : storeGood xs = true) {i : Nat} (hi : i < xs.length) : 0 ≤ xs[i].Key ∧ xs[i].Key ≤ 999 := by
  unfold storeGood at hg
  simp only [Bool.and_eq_true, List.all_eq_true] at hg
  have := hg.2 i (List.mem_range.2 hi)
  unfold cellGood within at this
  rw [List.getElem?_eq_getElem hi] at this
  simp only [Bool.and_eq_true, decide_eq_true_eq] at this
  exact this.1.1
theorem p_sj8 (s : TShard) (h : size_Shard s ≤ 1048576) (hg : locksGood s.Locks = true) (ho : rangesGood s.Own = true) (hs : storeGood s.Cells = true) : spec_ShardOk_j8 s () = some (cellsB s && (locksB s && (woundB s && ((List.range s.Helds.length).all (heldAt s) && roomB s)))) := by
  have hO : s.Own.length ≤ 1048576 := by unfold size_Shard at h; omega
  have hC : s.Cells.length ≤ 1048576 := by unfold size_Shard at h; omega
  unfold spec_ShardOk_j8 cellsB
  rw [iter_every s.Cells (fun c => haveB s.Own (oneR c.Key)) (some false) (some (locksB s && (woundB s && ((List.range s.Helds.length).all (heldAt s) && roomB s)))) (by omega) (fun kb i hi => ?_) (fun kb => ?_)]
  · cases s.Cells.all _ <;> simp
  · unfold spec_ShardOk_b47
    simp only [idx_nat hi, p_l10One, p_RangesHave _ _ hO, ho, oneR_ok (storeKey hs hi), Option.bind_some, step1 i _ hi (by omega), Bool.true_and]
    rw [if_pos (by omega)]
  · unfold spec_ShardOk_b47
    rw [if_neg (by omega)]
    exact p_sj10 s h hg ho
theorem p_sj5 (s : TShard) (h : size_Shard s ≤ 1048576) (hg : locksGood s.Locks = true) (ho : rangesGood s.Own = true) (hf : rangesGood s.Frozen = true) (hs : storeGood s.Cells = true) : spec_ShardOk_j5 s false = some (restB s) := by
  have hO : s.Own.length ≤ 1048576 := by unfold size_Shard at h; omega
  have hC : s.Frozen.length ≤ 1048576 := by unfold size_Shard at h; omega
  unfold spec_ShardOk_j5 restB frozenB
  rw [if_neg (by simp)]
  rw [iter_every s.Frozen (haveB s.Own) (some false) (some (cellsB s && (locksB s && (woundB s && ((List.range s.Helds.length).all (heldAt s) && roomB s))))) (by omega) (fun kb i hi => ?_) (fun kb => ?_)]
  · cases s.Frozen.all _ <;> simp [Bool.and_assoc]
  · unfold spec_ShardOk_b57
    simp only [idx_nat hi, p_RangesHave _ _ hO, ho, rangesGood_at hf hi, Option.bind_some, step1 i _ hi (by omega), Bool.true_and]
    rw [if_pos (by omega)]
  · unfold spec_ShardOk_b57
    rw [if_neg (by omega)]
    exact p_sj8 s h hg ho hs
def specS (s : TShard) : Bool := within s.Me 0 3 && rangesGood s.Own && rangesGood s.Frozen && storeGood s.Cells && locksGood s.Locks && within s.Rank 0 1000000 && (decide (s.Helds.length ≤ 60) && decide (s.Wounded.length ≤ 60) && decide (s.Ended.length ≤ 60) && txsGood s.Wounded && txsGood s.Ended) && restB s
theorem p_spec_ShardOk0 (s : TShard) (h : size_Shard s ≤ 1048576) : m_spec_ShardOk s = some (specS s) := by
  have hO : s.Own.length ≤ 1048576 := by unfold size_Shard at h; omega
  have hF : s.Frozen.length ≤ 1048576 := by unfold size_Shard at h; omega
  have hC : s.Cells.length ≤ 1048576 := by unfold size_Shard at h; omega
  have hL : s.Locks.length ≤ 1048576 := by unfold size_Shard at h; omega
  have hW : s.Wounded.length ≤ 1048576 := by unfold size_Shard at h; omega
  have hE : s.Ended.length ≤ 1048576 := by unfold size_Shard at h; omega
  have J2 : spec_ShardOk_j2 s true = some false := rfl
  have J5 : spec_ShardOk_j5 s true = some false := rfl
  unfold m_spec_ShardOk specS
  simp only [p_l1In, p_spec_RangesOk _ hO, p_spec_RangesOk _ hF, p_spec_StoreOk _ hC, p_spec_LocksOk _ hL, Option.bind_some]
  cases within s.Me 0 3
  · simp [J2]
  cases ho : rangesGood s.Own
  · simp [J2]
  cases hf : rangesGood s.Frozen
  · simp [J2]
  cases hs : storeGood s.Cells
  · simp [J2]
  cases hg : locksGood s.Locks
  · simp [J2]
  cases within s.Rank 0 1000000
  · simp [J2]
  simp only [if_true, Bool.not_true, Bool.true_and]
  unfold spec_ShardOk_j2
  simp only [p_l13Txs _ hW, p_l13Txs _ hE, Option.bind_some, Bool.false_eq_true, if_false, J5]
  by_cases c1 : 60 < (s.Helds.length : Int)
  · have : ¬ s.Helds.length ≤ 60 := by omega
    simp [c1, this]
  by_cases c2 : 60 < (s.Wounded.length : Int)
  · have : ¬ s.Wounded.length ≤ 60 := by omega
    simp [c1, c2, this]
  by_cases c3 : 60 < (s.Ended.length : Int)
  · have : ¬ s.Ended.length ≤ 60 := by omega
    simp [c1, c2, c3, this]
  have d1 : s.Helds.length ≤ 60 := by omega
  have d2 : s.Wounded.length ≤ 60 := by omega
  have d3 : s.Ended.length ≤ 60 := by omega
  simp only [c1, c2, c3, if_false, d1, d2, d3, decide_true, Bool.true_and]
  cases txsGood s.Wounded <;> cases txsGood s.Ended <;> simp [J5, p_sj5 s h hg ho hf hs]
def txsH (s : TShard) : List Int := s.Helds.map (·.Tx)
def apartB (s : TShard) : Bool := decide (txsH s ++ (s.Wounded ++ s.Ended)).Nodup
def implS (s : TShard) : Bool := within s.Me 0 3 && rangesGood s.Own && rangesGood s.Frozen && storeGood s.Cells && locksGood s.Locks && (s.Helds.all (heldI s) && txsGood (txsH s)) && txsGood s.Wounded && txsGood s.Ended && within s.Rank 0 1000000 && (frozenB s && cellsB s && locksB s && apartB s && roomB s)
theorem p_ij5 (s : TShard) (h : size_Shard s ≤ 1048576) : impl_ShardOk_j5 s false = some (locksB s && apartB s && roomB s) := by
  have hO : s.Own.length ≤ 1048576 := by unfold size_Shard at h; omega
  have hL : s.Locks.length ≤ 1048576 := by unfold size_Shard at h; omega
  have hWE : s.Wounded.length + s.Ended.length ≤ 1048576 := by unfold size_Shard at h; omega
  have hh : size_HeldS s.Helds + s.Wounded.length + s.Ended.length ≤ 1048576 := by unfold size_Shard at h; omega
  rw [size_HeldS_eq] at hh
  have hn : s.Helds.length ≤ 1048576 := by omega
  have hfl : [s.Wounded, s.Ended].flatten = s.Wounded ++ s.Ended := by simp
  unfold impl_ShardOk_j5
  rw [if_neg (by simp), p_Concat_int _ (by simp) (by simp [sumB]; omega), hfl]
  simp only [p_Contains_Shard3 _ _ _ hO (show (s.Wounded ++ s.Ended).length ≤ 1048576 by simpa using hWE) hL, p_txsOf _ hn, Option.bind_some]
  have eL : (s.Locks.any fun l => !haveB s.Own ⟨l.Lo, l.Hi⟩ || (s.Wounded ++ s.Ended).contains l.Tx) = !locksB s := by
    unfold locksB
    rw [List.not_all_eq_any_not]
    congr 1
    funext l
    rw [List.contains_append]
    cases haveB s.Own ⟨l.Lo, l.Hi⟩ <;> cases s.Wounded.contains l.Tx <;> cases s.Ended.contains l.Tx <;> rfl
  rw [eL]
  cases locksB s
  · simp
  · simp only [Bool.not_true, Bool.false_eq_true, if_false, Bool.true_and]
    have hlen : (List.map (fun x => x.Tx) s.Helds ++ (s.Wounded ++ s.Ended)).length ≤ 1048576 := by simp; omega
    rw [if_pos (by omega)]
    unfold m_slices_Sort_int m_slices_Compact_int
    rw [if_pos (by omega)]
    simp only [Option.bind_some]
    rw [if_pos (sortI_len _), p_Clone_int _ (by rw [sortI_len]; omega)]
    simp only [Option.bind_some]
    rw [if_pos (by rw [sortI_len]; omega)]
    simp only [Option.bind_some, p_room s h]
    have e := distinct_iff (List.map (fun x => x.Tx) s.Helds ++ (s.Wounded ++ s.Ended))
    unfold apartB txsH roomB
    by_cases c : (List.map (fun x => x.Tx) s.Helds ++ (s.Wounded ++ s.Ended)).Nodup
    · rw [if_pos (by have := e.2 c; omega)]
      simp [c]
    · rw [if_neg (fun k => c (e.1 (by omega)))]
      simp [c]
theorem p_impl_ShardOk0 (s : TShard) (h : size_Shard s ≤ 1048576) : m_impl_ShardOk s = some (implS s) := by
  have hO : s.Own.length ≤ 1048576 := by unfold size_Shard at h; omega
  have hF : s.Frozen.length ≤ 1048576 := by unfold size_Shard at h; omega
  have hC : s.Cells.length ≤ 1048576 := by unfold size_Shard at h; omega
  have hL : s.Locks.length ≤ 1048576 := by unfold size_Shard at h; omega
  have hW : s.Wounded.length ≤ 1048576 := by unfold size_Shard at h; omega
  have hE : s.Ended.length ≤ 1048576 := by unfold size_Shard at h; omega
  have J2 : impl_ShardOk_j2 s true = some false := rfl
  have J5 : impl_ShardOk_j5 s true = some false := rfl
  have K2 : impl_ShardOk_j2 s false = some (frozenB s && cellsB s && locksB s && apartB s && roomB s) := by
    unfold impl_ShardOk_j2 frozenB cellsB
    rw [if_neg (by simp)]
    simp only [p_Contains_Shard1 _ _ hO hF, p_Contains_Shard2 _ _ hO hC, Option.bind_some]
    rw [← List.not_all_eq_any_not, ← List.not_all_eq_any_not]
    cases s.Frozen.all fun a => haveB s.Own a <;> cases s.Cells.all fun a => haveB s.Own (oneR a.Key) <;> simp [J5, p_ij5 s h]
  unfold m_impl_ShardOk implS txsH
  simp only [p_isGroup, p_impl_RangesOk _ hO, p_impl_RangesOk _ hF, p_impl_StoreOk _ hC, p_impl_LocksOk _ hL, Option.bind_some]
  cases within s.Me 0 3
  · simp [J2]
  cases ho : rangesGood s.Own
  · simp [J2]
  cases hf : rangesGood s.Frozen
  · simp [J2]
  cases hs : storeGood s.Cells
  · simp [J2]
  cases hg : locksGood s.Locks
  · simp [J2]
  simp only [p_heldsOk s h hg, p_ascending _ hW, p_ascending _ hE, p_from, Option.bind_some, if_true, Bool.true_and]
  cases s.Helds.all (heldI s)
  · simp [J2]
  cases txsGood (s.Helds.map (·.Tx))
  · simp [J2]
  cases txsGood s.Wounded
  · simp [J2]
  cases txsGood s.Ended
  · simp [J2]
  cases within s.Rank 0 1000000 <;> simp [J2, K2]
theorem heldAt_eq (s : TShard) {i : Nat} (hi : i < s.Helds.length) : heldAt s i = (txAt (txsH s) i && heldI s s.Helds[i] && (!s.Wounded.contains s.Helds[i].Tx && !s.Ended.contains s.Helds[i].Tx)) := by
  unfold heldAt txAt heldI txsH
  simp only [List.getElem?_map, List.getElem?_eq_getElem hi, Option.map_some]
  by_cases h0 : i = 0
  · subst h0
    simp [Bool.and_assoc]
  · have h3 : i - 1 < s.Helds.length := by omega
    simp [List.getElem?_eq_getElem h3, h0, Bool.and_assoc]
theorem helds_iff (s : TShard) : (List.range s.Helds.length).all (heldAt s) = (s.Helds.all (heldI s) && txsGood (txsH s) && (txsH s).all fun t => !s.Wounded.contains t && !s.Ended.contains t) := by
  rw [Bool.eq_iff_iff]
  unfold txsGood
  simp only [Bool.and_eq_true, List.all_eq_true, List.mem_range]
  have hl : (txsH s).length = s.Helds.length := by unfold txsH; simp
  constructor
  · intro H
    have H' : ∀ i (hi : i < s.Helds.length), _ := fun i hi => by have := H i hi; rw [heldAt_eq s hi] at this; simpa only [Bool.and_eq_true] using this
    refine ⟨⟨fun x hx => ?_, fun i hi => (H' i (by omega)).1.1⟩, fun t ht => ?_⟩
    · obtain ⟨i, hi, rfl⟩ := List.mem_iff_getElem.1 hx
      exact (H' i hi).1.2
    · unfold txsH at ht
      obtain ⟨x, hx, rfl⟩ := List.mem_map.1 ht
      obtain ⟨i, hi, rfl⟩ := List.mem_iff_getElem.1 hx
      exact (H' i hi).2
  · rintro ⟨⟨h1, h2⟩, h3⟩ i hi
    rw [heldAt_eq s hi]
    simp only [Bool.and_eq_true]
    exact ⟨⟨h2 i (by omega), h1 _ (List.getElem_mem hi)⟩, h3 _ (by unfold txsH; exact List.mem_map.2 ⟨_, List.getElem_mem hi, rfl⟩)⟩
theorem shard_eq (s : TShard) : specS s = implS s := by
  unfold specS implS restB
  rw [helds_iff]
  rw [Bool.eq_iff_iff]
  simp only [Bool.and_eq_true, decide_eq_true_eq]
  have hl : (txsH s).length = s.Helds.length := by unfold txsH; simp
  have ap : txsGood (txsH s) = true → txsGood s.Wounded = true → txsGood s.Ended = true → (apartB s = true ↔ (woundB s = true ∧ ((txsH s).all fun t => !s.Wounded.contains t && !s.Ended.contains t) = true)) := by
    intro g1 g2 g3
    unfold apartB woundB
    simp only [decide_eq_true_eq, List.nodup_append, List.all_eq_true, Bool.and_eq_true, Bool.not_eq_true', List.mem_append]
    have nc : ∀ (xs : List Int) (z : Int), xs.contains z = false ↔ z ∉ xs := fun xs z => by
      rw [← List.contains_iff_mem]
      cases xs.contains z <;> simp
    simp only [nc]
    constructor
    · rintro ⟨_, ⟨_, _, d1⟩, d2⟩
      exact ⟨fun t ht he => d1 t ht t he rfl, fun t ht => ⟨fun hw => d2 t ht t (.inl hw) rfl, fun he => d2 t ht t (.inr he) rfl⟩⟩
    · rintro ⟨w, d⟩
      refine ⟨txsGood_nodup g1, ⟨txsGood_nodup g2, txsGood_nodup g3, fun a ha b hb e => w a ha (e ▸ hb)⟩, fun a ha b hb e => ?_⟩
      subst e
      rcases hb with hb | hb
      · exact (d a ha).1 hb
      · exact (d a ha).2 hb
  constructor
  · rintro ⟨⟨⟨⟨⟨⟨⟨a1, a2⟩, a3⟩, a4⟩, a5⟩, a6⟩, ⟨⟨⟨b1, b2⟩, b3⟩, b4⟩, b5⟩, ⟨⟨⟨⟨c1, c2⟩, c3⟩, c4⟩, ⟨c5, c6⟩, c7⟩, c8⟩
    exact ⟨⟨⟨⟨⟨⟨⟨⟨⟨a1, a2⟩, a3⟩, a4⟩, a5⟩, c5, c6⟩, b4⟩, b5⟩, a6⟩, ⟨⟨⟨c1, c2⟩, c3⟩, (ap c6 b4 b5).2 ⟨c4, c7⟩⟩, c8⟩
  · rintro ⟨⟨⟨⟨⟨⟨⟨⟨⟨a1, a2⟩, a3⟩, a4⟩, a5⟩, c5, c6⟩, b4⟩, b5⟩, a6⟩, ⟨⟨⟨c1, c2⟩, c3⟩, c4⟩, c8⟩
    have k := (ap c6 b4 b5).1 c4
    exact ⟨⟨⟨⟨⟨⟨⟨a1, a2⟩, a3⟩, a4⟩, a5⟩, a6⟩, ⟨⟨⟨by have := txsGood_le c6; omega, txsGood_le b4⟩, txsGood_le b5⟩, b4⟩, b5⟩, ⟨⟨⟨⟨c1, c2⟩, c3⟩, k.1⟩, ⟨c5, c6⟩, k.2⟩, c8⟩
theorem p_impl_ShardOk (s : TShard) (h : size_Shard s ≤ 1048576) : m_impl_ShardOk s = some (specS s) := by rw [shard_eq]; exact p_impl_ShardOk0 s h
def mk_Write (k : Int) : TCell := ⟨k, k + 1⟩
def marks_Write (k : Int) (n : Nat) : List TCell := (List.range n).map fun (i : Nat) => mk_Write (k + 2 * (i : Int))
theorem marks_Write_len (k : Int) (n : Nat) : (marks_Write k n).length = n := by simp [marks_Write]
theorem p_markWriteS (xs : List TCell) (k : Int) (h : xs.length ≤ 1048576) (hk : 0 ≤ k) (hk' : k ≤ 1000000000000) : m_laws_markWriteS xs k = some (k + 2 * (xs.length : Int), marks_Write k xs.length) := by
  unfold m_laws_markWriteS
  refine iter_all (fun i => (rowM (fun (i : Nat) => mk_Write (k + 2 * (i : Int))) xs i, k + 2 * (i : Int), (i : Int))) _ xs.length (by omega) (fun kb i hi => ?_) (fun kb => ?_) (by simp [rowM_zero])
  · unfold laws_markWriteS_b6
    have hl := rowM_len (fun (i : Nat) => mk_Write (k + 2 * (i : Int))) (Nat.le_of_lt hi)
    have w1 : IntKind.wrap .i64 (k + 2 * (i : Int) + 1) = k + 2 * (i : Int) + 1 := w64 (by omega) (by omega)
    have w2 : IntKind.wrap .i64 (k + 2 * (i : Int) + 1 + 1) = k + 2 * (i : Int) + 2 := by rw [w64 (by omega) (by omega)]; omega
    have e : k + 2 * ((i + 1 : Nat) : Int) = k + 2 * (i : Int) + 2 := by omega
    have hs := rowM_set (fun (i : Nat) => mk_Write (k + 2 * (i : Int))) hi
    have hx := rowM_idx (fun (i : Nat) => mk_Write (k + 2 * (i : Int))) hi
    show _ = kb (rowM (fun (i : Nat) => mk_Write (k + 2 * (i : Int))) xs (i + 1), k + 2 * ((i + 1 : Nat) : Int), ((i + 1 : Nat) : Int))
    rw [← hs, e]
    generalize rowM (fun (i : Nat) => mk_Write (k + 2 * (i : Int))) xs i = row at hl hx
    have hii : i < row.length := by rw [hl]; exact hi
    simp only [hx, Option.bind_some, Int.toNat_natCast, idx_set_same hii, List.set_set, step1 i _ hi (by omega), w1, w2, hl, mk_Write]
    rw [if_pos (by omega)]
  · unfold laws_markWriteS_b6 laws_markWriteS_j3
    have hl := rowM_len (fun (i : Nat) => mk_Write (k + 2 * (i : Int))) (Nat.le_refl xs.length)
    rw [if_neg (by simp only [hl]; omega), if_pos hl, rowM_all]
    rfl
theorem p_heldWriteS (n : Nat) (k : Int) (h : n ≤ 1048576) (hk : 0 ≤ k) (hk' : k ≤ 1000000000000) : m_laws_heldWriteS (marks_Write k n) k = some (k + 2 * (n : Int)) := by
  unfold m_laws_heldWriteS
  refine iter_all (fun i => (k + 2 * (i : Int), (i : Int))) _ n (by omega) (fun kb i hi => ?_) (fun kb => ?_) (by simp)
  · unfold laws_heldWriteS_b5
    have w1 : IntKind.wrap .i64 (k + 2 * (i : Int) + 1) = k + 2 * (i : Int) + 1 := w64 (by omega) (by omega)
    have w2 : IntKind.wrap .i64 (k + 2 * (i : Int) + 1 + 1) = k + 2 * (i : Int) + 2 := by rw [w64 (by omega) (by omega)]; omega
    have e : k + 2 * ((i + 1 : Nat) : Int) = k + 2 * (i : Int) + 2 := by omega
    have hx : idx (marks_Write k n) (i : Int) = some (mk_Write (k + 2 * (i : Int))) := idx_range _ hi
    simp only [hx, Option.bind_some, step1 i _ hi (by omega), w1, w2, mk_Write, marks_Write_len, not_true, if_false, e]
    rw [if_pos (by omega)]
  · unfold laws_heldWriteS_b5 laws_heldWriteS_j3
    rw [if_neg (by simp only [marks_Write_len]; omega)]
def cHeld (x : THeld) : Nat := 1 + 2 * x.Writes.length
def mkHeld (x : THeld) (k : Int) : THeld := THeld.mk k (marks_Write (k + 1) x.Writes.length)
def gHeld (xs : List THeld) (k : Int) (i : Nat) : THeld := match xs[i]? with
  | some x => mkHeld x (k + (sumB cHeld (xs.take i) : Nat))
  | none => THeld.mk 0 []
theorem gHeld_at (xs : List THeld) (k : Int) {i : Nat} (hi : i < xs.length) : gHeld xs k i = mkHeld xs[i] (k + (sumB cHeld (xs.take i) : Nat)) := by
  unfold gHeld
  rw [List.getElem?_eq_getElem hi]
def marks_Held (xs : List THeld) (k : Int) : List THeld := (List.range xs.length).map (gHeld xs k)
theorem marks_Held_len (xs : List THeld) (k : Int) : (marks_Held xs k).length = xs.length := by simp [marks_Held]
theorem cHeld_sum : ∀ (xs : List THeld), sumB cHeld xs = xs.length + 2 * sumB (fun y : THeld => size_Held y) xs
  | [] => rfl
  | x :: xs => by
    have ih := cHeld_sum xs
    simp only [sumB, List.length_cons, ih, cHeld, size_Held]
    omega
theorem cHeld_bound {xs : List THeld} (h : size_HeldS xs ≤ 1048576) (i : Nat) : sumB cHeld (xs.take i) ≤ 4194304 := by
  have h1 := sumB_take cHeld xs i
  have h2 := cHeld_sum xs
  unfold size_HeldS at h
  omega
theorem p_markHeldS (xs : List THeld) (k : Int) (h : size_HeldS xs ≤ 1048576) (hk : 0 ≤ k) (hk' : k ≤ 100000000) : m_laws_markHeldS xs k = some (k + (sumB cHeld xs : Nat), marks_Held xs k) := by
  obtain ⟨hl0, hs0⟩ := small_HeldS h
  unfold m_laws_markHeldS
  refine iter_all (fun i => (rowM (gHeld xs k) xs i, k + (sumB cHeld (xs.take i) : Nat), (i : Int))) _ xs.length (by omega) (fun kb i hi => ?_) (fun kb => ?_) (by simp [rowM_zero, sumB])
  · unfold laws_markHeldS_b6
    have hl := rowM_len (gHeld xs k) (Nat.le_of_lt hi)
    have hs := rowM_set (gHeld xs k) hi
    have hx := rowM_idx (gHeld xs k) hi
    have hb := cHeld_bound h i
    have hsz := hs0 i hi
    unfold size_Held at hsz
    have e : k + ((sumB cHeld (xs.take (i + 1)) : Nat) : Int) = k + (sumB cHeld (xs.take i) : Nat) + 1 + 2 * (xs[i].Writes.length : Int) := by
      rw [sumB_step cHeld hi]; unfold cHeld; omega
    show _ = kb (rowM (gHeld xs k) xs (i + 1), k + ((sumB cHeld (xs.take (i + 1)) : Nat) : Int), ((i + 1 : Nat) : Int))
    rw [← hs, e, gHeld_at xs k hi]
    have hkk : 0 ≤ k + ((sumB cHeld (xs.take i) : Nat) : Int) ∧ k + ((sumB cHeld (xs.take i) : Nat) : Int) ≤ 110000000 := by omega
    generalize k + ((sumB cHeld (xs.take i) : Nat) : Int) = kk at hkk ⊢
    generalize rowM (gHeld xs k) xs i = row at hl hx ⊢
    have hii : i < row.length := by rw [hl]; exact hi
    have w1 : IntKind.wrap .i64 (kk + 1) = kk + 1 := w64 (by omega) (by omega)
    have hS := p_markWriteS xs[i].Writes (kk + 1) (by omega) (by omega) (by omega)
    simp only [hx, Option.bind_some, Int.toNat_natCast, idx_set_same hii, List.set_set, step1 i _ hi (by omega), w1, hS, hl, mkHeld]
    rw [if_pos (by omega)]
  · unfold laws_markHeldS_b6 laws_markHeldS_j3
    have hl := rowM_len (gHeld xs k) (Nat.le_refl xs.length)
    rw [if_neg (by simp only [hl]; omega), if_pos hl, rowM_all, List.take_length]
    rfl
theorem p_heldHeldS (xs : List THeld) (k : Int) (h : size_HeldS xs ≤ 1048576) (hk : 0 ≤ k) (hk' : k ≤ 100000000) : m_laws_heldHeldS (marks_Held xs k) k = some (k + (sumB cHeld xs : Nat)) := by
  obtain ⟨hl0, hs0⟩ := small_HeldS h
  unfold m_laws_heldHeldS
  refine iter_all (fun i => (k + (sumB cHeld (xs.take i) : Nat), (i : Int))) _ xs.length (by omega) (fun kb i hi => ?_) (fun kb => ?_) (by simp [sumB])
  · unfold laws_heldHeldS_b5
    have hx : idx (marks_Held xs k) (i : Int) = some (gHeld xs k i) := idx_range _ hi
    have hb := cHeld_bound h i
    have hsz := hs0 i hi
    unfold size_Held at hsz
    have e : k + ((sumB cHeld (xs.take (i + 1)) : Nat) : Int) = k + (sumB cHeld (xs.take i) : Nat) + 1 + 2 * (xs[i].Writes.length : Int) := by
      rw [sumB_step cHeld hi]; unfold cHeld; omega
    rw [e]
    rw [gHeld_at xs k hi] at hx
    have hkk : 0 ≤ k + ((sumB cHeld (xs.take i) : Nat) : Int) ∧ k + ((sumB cHeld (xs.take i) : Nat) : Int) ≤ 110000000 := by omega
    generalize k + ((sumB cHeld (xs.take i) : Nat) : Int) = kk at hkk hx ⊢
    have w1 : IntKind.wrap .i64 (kk + 1) = kk + 1 := w64 (by omega) (by omega)
    have hS := p_heldWriteS xs[i].Writes.length (kk + 1) (by omega) (by omega) (by omega)
    simp only [hx, Option.bind_some, step1 i _ hi (by omega), w1, hS, marks_Held_len, mkHeld, not_true, if_false]
    rw [if_pos (by omega), if_neg (by omega)]
  · unfold laws_heldHeldS_b5 laws_heldHeldS_j3
    rw [if_neg (by simp only [marks_Held_len]; omega), List.take_length]
def mk_Range (k : Int) : TRange := ⟨k, k + 1⟩
def marks_Range (k : Int) (n : Nat) : List TRange := (List.range n).map fun (i : Nat) => mk_Range (k + 2 * (i : Int))
theorem marks_Range_len (k : Int) (n : Nat) : (marks_Range k n).length = n := by simp [marks_Range]
theorem p_markRangeS (xs : List TRange) (k : Int) (h : xs.length ≤ 1048576) (hk : 0 ≤ k) (hk' : k ≤ 1000000000000) : m_laws_markRangeS xs k = some (k + 2 * (xs.length : Int), marks_Range k xs.length) := by
  unfold m_laws_markRangeS
  refine iter_all (fun i => (rowM (fun (i : Nat) => mk_Range (k + 2 * (i : Int))) xs i, k + 2 * (i : Int), (i : Int))) _ xs.length (by omega) (fun kb i hi => ?_) (fun kb => ?_) (by simp [rowM_zero])
  · unfold laws_markRangeS_b6
    have hl := rowM_len (fun (i : Nat) => mk_Range (k + 2 * (i : Int))) (Nat.le_of_lt hi)
    have w1 : IntKind.wrap .i64 (k + 2 * (i : Int) + 1) = k + 2 * (i : Int) + 1 := w64 (by omega) (by omega)
    have w2 : IntKind.wrap .i64 (k + 2 * (i : Int) + 1 + 1) = k + 2 * (i : Int) + 2 := by rw [w64 (by omega) (by omega)]; omega
    have e : k + 2 * ((i + 1 : Nat) : Int) = k + 2 * (i : Int) + 2 := by omega
    have hs := rowM_set (fun (i : Nat) => mk_Range (k + 2 * (i : Int))) hi
    have hx := rowM_idx (fun (i : Nat) => mk_Range (k + 2 * (i : Int))) hi
    show _ = kb (rowM (fun (i : Nat) => mk_Range (k + 2 * (i : Int))) xs (i + 1), k + 2 * ((i + 1 : Nat) : Int), ((i + 1 : Nat) : Int))
    rw [← hs, e]
    generalize rowM (fun (i : Nat) => mk_Range (k + 2 * (i : Int))) xs i = row at hl hx
    have hii : i < row.length := by rw [hl]; exact hi
    simp only [hx, Option.bind_some, Int.toNat_natCast, idx_set_same hii, List.set_set, step1 i _ hi (by omega), w1, w2, hl, mk_Range]
    rw [if_pos (by omega)]
  · unfold laws_markRangeS_b6 laws_markRangeS_j3
    have hl := rowM_len (fun (i : Nat) => mk_Range (k + 2 * (i : Int))) (Nat.le_refl xs.length)
    rw [if_neg (by simp only [hl]; omega), if_pos hl, rowM_all]
    rfl
theorem p_heldRangeS (n : Nat) (k : Int) (h : n ≤ 1048576) (hk : 0 ≤ k) (hk' : k ≤ 1000000000000) : m_laws_heldRangeS (marks_Range k n) k = some (k + 2 * (n : Int)) := by
  unfold m_laws_heldRangeS
  refine iter_all (fun i => (k + 2 * (i : Int), (i : Int))) _ n (by omega) (fun kb i hi => ?_) (fun kb => ?_) (by simp)
  · unfold laws_heldRangeS_b5
    have w1 : IntKind.wrap .i64 (k + 2 * (i : Int) + 1) = k + 2 * (i : Int) + 1 := w64 (by omega) (by omega)
    have w2 : IntKind.wrap .i64 (k + 2 * (i : Int) + 1 + 1) = k + 2 * (i : Int) + 2 := by rw [w64 (by omega) (by omega)]; omega
    have e : k + 2 * ((i + 1 : Nat) : Int) = k + 2 * (i : Int) + 2 := by omega
    have hx : idx (marks_Range k n) (i : Int) = some (mk_Range (k + 2 * (i : Int))) := idx_range _ hi
    simp only [hx, Option.bind_some, step1 i _ hi (by omega), w1, w2, mk_Range, marks_Range_len, not_true, if_false, e]
    rw [if_pos (by omega)]
  · unfold laws_heldRangeS_b5 laws_heldRangeS_j3
    rw [if_neg (by simp only [marks_Range_len]; omega)]
def mk_Cell (k : Int) : TCell := ⟨k, k + 1⟩
def marks_Cell (k : Int) (n : Nat) : List TCell := (List.range n).map fun (i : Nat) => mk_Cell (k + 2 * (i : Int))
theorem marks_Cell_len (k : Int) (n : Nat) : (marks_Cell k n).length = n := by simp [marks_Cell]
theorem p_markCellS (xs : List TCell) (k : Int) (h : xs.length ≤ 1048576) (hk : 0 ≤ k) (hk' : k ≤ 1000000000000) : m_laws_markCellS xs k = some (k + 2 * (xs.length : Int), marks_Cell k xs.length) := by
  unfold m_laws_markCellS
  refine iter_all (fun i => (rowM (fun (i : Nat) => mk_Cell (k + 2 * (i : Int))) xs i, k + 2 * (i : Int), (i : Int))) _ xs.length (by omega) (fun kb i hi => ?_) (fun kb => ?_) (by simp [rowM_zero])
  · unfold laws_markCellS_b6
    have hl := rowM_len (fun (i : Nat) => mk_Cell (k + 2 * (i : Int))) (Nat.le_of_lt hi)
    have w1 : IntKind.wrap .i64 (k + 2 * (i : Int) + 1) = k + 2 * (i : Int) + 1 := w64 (by omega) (by omega)
    have w2 : IntKind.wrap .i64 (k + 2 * (i : Int) + 1 + 1) = k + 2 * (i : Int) + 2 := by rw [w64 (by omega) (by omega)]; omega
    have e : k + 2 * ((i + 1 : Nat) : Int) = k + 2 * (i : Int) + 2 := by omega
    have hs := rowM_set (fun (i : Nat) => mk_Cell (k + 2 * (i : Int))) hi
    have hx := rowM_idx (fun (i : Nat) => mk_Cell (k + 2 * (i : Int))) hi
    show _ = kb (rowM (fun (i : Nat) => mk_Cell (k + 2 * (i : Int))) xs (i + 1), k + 2 * ((i + 1 : Nat) : Int), ((i + 1 : Nat) : Int))
    rw [← hs, e]
    generalize rowM (fun (i : Nat) => mk_Cell (k + 2 * (i : Int))) xs i = row at hl hx
    have hii : i < row.length := by rw [hl]; exact hi
    simp only [hx, Option.bind_some, Int.toNat_natCast, idx_set_same hii, List.set_set, step1 i _ hi (by omega), w1, w2, hl, mk_Cell]
    rw [if_pos (by omega)]
  · unfold laws_markCellS_b6 laws_markCellS_j3
    have hl := rowM_len (fun (i : Nat) => mk_Cell (k + 2 * (i : Int))) (Nat.le_refl xs.length)
    rw [if_neg (by simp only [hl]; omega), if_pos hl, rowM_all]
    rfl
theorem p_heldCellS (n : Nat) (k : Int) (h : n ≤ 1048576) (hk : 0 ≤ k) (hk' : k ≤ 1000000000000) : m_laws_heldCellS (marks_Cell k n) k = some (k + 2 * (n : Int)) := by
  unfold m_laws_heldCellS
  refine iter_all (fun i => (k + 2 * (i : Int), (i : Int))) _ n (by omega) (fun kb i hi => ?_) (fun kb => ?_) (by simp)
  · unfold laws_heldCellS_b5
    have w1 : IntKind.wrap .i64 (k + 2 * (i : Int) + 1) = k + 2 * (i : Int) + 1 := w64 (by omega) (by omega)
    have w2 : IntKind.wrap .i64 (k + 2 * (i : Int) + 1 + 1) = k + 2 * (i : Int) + 2 := by rw [w64 (by omega) (by omega)]; omega
    have e : k + 2 * ((i + 1 : Nat) : Int) = k + 2 * (i : Int) + 2 := by omega
    have hx : idx (marks_Cell k n) (i : Int) = some (mk_Cell (k + 2 * (i : Int))) := idx_range _ hi
    simp only [hx, Option.bind_some, step1 i _ hi (by omega), w1, w2, mk_Cell, marks_Cell_len, not_true, if_false, e]
    rw [if_pos (by omega)]
  · unfold laws_heldCellS_b5 laws_heldCellS_j3
    rw [if_neg (by simp only [marks_Cell_len]; omega)]
def mk_Lock (k : Int) : TLock := ⟨k, k + 1, k + 2, k + 3⟩
def marks_Lock (k : Int) (n : Nat) : List TLock := (List.range n).map fun (i : Nat) => mk_Lock (k + 4 * (i : Int))
theorem marks_Lock_len (k : Int) (n : Nat) : (marks_Lock k n).length = n := by simp [marks_Lock]
theorem p_markLockS (xs : List TLock) (k : Int) (h : xs.length ≤ 1048576) (hk : 0 ≤ k) (hk' : k ≤ 1000000000000) : m_laws_markLockS xs k = some (k + 4 * (xs.length : Int), marks_Lock k xs.length) := by
  unfold m_laws_markLockS
  refine iter_all (fun i => (rowM (fun (i : Nat) => mk_Lock (k + 4 * (i : Int))) xs i, k + 4 * (i : Int), (i : Int))) _ xs.length (by omega) (fun kb i hi => ?_) (fun kb => ?_) (by simp [rowM_zero])
  · unfold laws_markLockS_b6
    have hl := rowM_len (fun (i : Nat) => mk_Lock (k + 4 * (i : Int))) (Nat.le_of_lt hi)
    have w1 : IntKind.wrap .i64 (k + 4 * (i : Int) + 1) = k + 4 * (i : Int) + 1 := w64 (by omega) (by omega)
    have w2 : IntKind.wrap .i64 (k + 4 * (i : Int) + 1 + 1) = k + 4 * (i : Int) + 2 := by rw [w64 (by omega) (by omega)]; omega
    have w3 : IntKind.wrap .i64 (k + 4 * (i : Int) + 2 + 1) = k + 4 * (i : Int) + 3 := by rw [w64 (by omega) (by omega)]; omega
    have w4 : IntKind.wrap .i64 (k + 4 * (i : Int) + 3 + 1) = k + 4 * (i : Int) + 4 := by rw [w64 (by omega) (by omega)]; omega
    have e : k + 4 * ((i + 1 : Nat) : Int) = k + 4 * (i : Int) + 4 := by omega
    have hs := rowM_set (fun (i : Nat) => mk_Lock (k + 4 * (i : Int))) hi
    have hx := rowM_idx (fun (i : Nat) => mk_Lock (k + 4 * (i : Int))) hi
    show _ = kb (rowM (fun (i : Nat) => mk_Lock (k + 4 * (i : Int))) xs (i + 1), k + 4 * ((i + 1 : Nat) : Int), ((i + 1 : Nat) : Int))
    rw [← hs, e]
    generalize rowM (fun (i : Nat) => mk_Lock (k + 4 * (i : Int))) xs i = row at hl hx
    have hii : i < row.length := by rw [hl]; exact hi
    simp only [hx, Option.bind_some, Int.toNat_natCast, idx_set_same hii, List.set_set, step1 i _ hi (by omega), w1, w2, w3, w4, hl, mk_Lock]
    rw [if_pos (by omega)]
  · unfold laws_markLockS_b6 laws_markLockS_j3
    have hl := rowM_len (fun (i : Nat) => mk_Lock (k + 4 * (i : Int))) (Nat.le_refl xs.length)
    rw [if_neg (by simp only [hl]; omega), if_pos hl, rowM_all]
    rfl
theorem p_heldLockS (n : Nat) (k : Int) (h : n ≤ 1048576) (hk : 0 ≤ k) (hk' : k ≤ 1000000000000) : m_laws_heldLockS (marks_Lock k n) k = some (k + 4 * (n : Int)) := by
  unfold m_laws_heldLockS
  refine iter_all (fun i => (k + 4 * (i : Int), (i : Int))) _ n (by omega) (fun kb i hi => ?_) (fun kb => ?_) (by simp)
  · unfold laws_heldLockS_b5
    have w1 : IntKind.wrap .i64 (k + 4 * (i : Int) + 1) = k + 4 * (i : Int) + 1 := w64 (by omega) (by omega)
    have w2 : IntKind.wrap .i64 (k + 4 * (i : Int) + 1 + 1) = k + 4 * (i : Int) + 2 := by rw [w64 (by omega) (by omega)]; omega
    have w3 : IntKind.wrap .i64 (k + 4 * (i : Int) + 2 + 1) = k + 4 * (i : Int) + 3 := by rw [w64 (by omega) (by omega)]; omega
    have w4 : IntKind.wrap .i64 (k + 4 * (i : Int) + 3 + 1) = k + 4 * (i : Int) + 4 := by rw [w64 (by omega) (by omega)]; omega
    have e : k + 4 * ((i + 1 : Nat) : Int) = k + 4 * (i : Int) + 4 := by omega
    have hx : idx (marks_Lock k n) (i : Int) = some (mk_Lock (k + 4 * (i : Int))) := idx_range _ hi
    simp only [hx, Option.bind_some, step1 i _ hi (by omega), w1, w2, w3, w4, mk_Lock, marks_Lock_len, not_true, if_false, e]
    rw [if_pos (by omega)]
  · unfold laws_heldLockS_b5 laws_heldLockS_j3
    rw [if_neg (by simp only [marks_Lock_len]; omega)]
def mk_Int (k : Int) : Int := k
def marks_Int (k : Int) (n : Nat) : List Int := (List.range n).map fun (i : Nat) => mk_Int (k + 1 * (i : Int))
theorem marks_Int_len (k : Int) (n : Nat) : (marks_Int k n).length = n := by simp [marks_Int]
theorem p_markIntS (xs : List Int) (k : Int) (h : xs.length ≤ 1048576) (hk : 0 ≤ k) (hk' : k ≤ 1000000000000) : m_laws_markIntS xs k = some (k + 1 * (xs.length : Int), marks_Int k xs.length) := by
  unfold m_laws_markIntS
  refine iter_all (fun i => (rowM (fun (i : Nat) => mk_Int (k + 1 * (i : Int))) xs i, k + 1 * (i : Int), (i : Int))) _ xs.length (by omega) (fun kb i hi => ?_) (fun kb => ?_) (by simp [rowM_zero])
  · unfold laws_markIntS_b6
    have hl := rowM_len (fun (i : Nat) => mk_Int (k + 1 * (i : Int))) (Nat.le_of_lt hi)
    have w1 : IntKind.wrap .i64 (k + 1 * (i : Int) + 1) = k + 1 * (i : Int) + 1 := w64 (by omega) (by omega)
    have e : k + 1 * ((i + 1 : Nat) : Int) = k + 1 * (i : Int) + 1 := by omega
    have hs := rowM_set (fun (i : Nat) => mk_Int (k + 1 * (i : Int))) hi
    have hx := rowM_idx (fun (i : Nat) => mk_Int (k + 1 * (i : Int))) hi
    show _ = kb (rowM (fun (i : Nat) => mk_Int (k + 1 * (i : Int))) xs (i + 1), k + 1 * ((i + 1 : Nat) : Int), ((i + 1 : Nat) : Int))
    rw [← hs, e]
    generalize rowM (fun (i : Nat) => mk_Int (k + 1 * (i : Int))) xs i = row at hl hx
    have hii : i < row.length := by rw [hl]; exact hi
    simp only [hx, Option.bind_some, Int.toNat_natCast, idx_set_same hii, List.set_set, step1 i _ hi (by omega), w1, hl, mk_Int]
    rw [if_pos (by omega)]
  · unfold laws_markIntS_b6 laws_markIntS_j3
    have hl := rowM_len (fun (i : Nat) => mk_Int (k + 1 * (i : Int))) (Nat.le_refl xs.length)
    rw [if_neg (by simp only [hl]; omega), if_pos hl, rowM_all]
    rfl
theorem p_heldIntS (n : Nat) (k : Int) (h : n ≤ 1048576) (hk : 0 ≤ k) (hk' : k ≤ 1000000000000) : m_laws_heldIntS (marks_Int k n) k = some (k + 1 * (n : Int)) := by
  unfold m_laws_heldIntS
  refine iter_all (fun i => (k + 1 * (i : Int), (i : Int))) _ n (by omega) (fun kb i hi => ?_) (fun kb => ?_) (by simp)
  · unfold laws_heldIntS_b5
    have w1 : IntKind.wrap .i64 (k + 1 * (i : Int) + 1) = k + 1 * (i : Int) + 1 := w64 (by omega) (by omega)
    have e : k + 1 * ((i + 1 : Nat) : Int) = k + 1 * (i : Int) + 1 := by omega
    have hx : idx (marks_Int k n) (i : Int) = some (mk_Int (k + 1 * (i : Int))) := idx_range _ hi
    simp only [hx, Option.bind_some, step1 i _ hi (by omega), w1, mk_Int, marks_Int_len, not_true, if_false, e]
    rw [if_pos (by omega)]
  · unfold laws_heldIntS_b5 laws_heldIntS_j3
    rw [if_neg (by simp only [marks_Int_len]; omega)]
theorem hold_Shard (x : TShard) (h : size_Shard x ≤ 1048576) : ∃ r : Int × TShard, m_laws_markShard x 1 = some r ∧ 0 ≤ r.1 ∧ r.2.Own.length = x.Own.length ∧ r.2.Frozen.length = x.Frozen.length ∧ r.2.Cells.length = x.Cells.length ∧ r.2.Locks.length = x.Locks.length ∧ r.2.Helds.length = x.Helds.length ∧ r.2.Wounded.length = x.Wounded.length ∧ r.2.Ended.length = x.Ended.length ∧
    ∀ e f, m_laws_heldShard (TShard.mk e r.2.Own r.2.Frozen r.2.Cells r.2.Locks r.2.Helds r.2.Wounded r.2.Ended f) 1 = some r.1 := by
  have hh := h
  unfold size_Shard at hh
  have hH : size_HeldS x.Helds ≤ 1048576 := by omega
  have hb := cHeld_bound hH x.Helds.length
  rw [List.take_length] at hb
  obtain ⟨k1, e1⟩ : ∃ k, k = 1 + 2 * (x.Own.length : Int) := ⟨_, rfl⟩
  obtain ⟨k2, e2⟩ : ∃ k, k = k1 + 2 * (x.Frozen.length : Int) := ⟨_, rfl⟩
  obtain ⟨k3, e3⟩ : ∃ k, k = k2 + 2 * (x.Cells.length : Int) := ⟨_, rfl⟩
  obtain ⟨k4, e4⟩ : ∃ k, k = k3 + 4 * (x.Locks.length : Int) := ⟨_, rfl⟩
  obtain ⟨k5, e5⟩ : ∃ k, k = k4 + ((sumB cHeld x.Helds : Nat) : Int) := ⟨_, rfl⟩
  obtain ⟨k6, e6⟩ : ∃ k, k = k5 + 1 * (x.Wounded.length : Int) := ⟨_, rfl⟩
  obtain ⟨k7, e7⟩ : ∃ k, k = k6 + 1 * (x.Ended.length : Int) := ⟨_, rfl⟩
  have a1 : m_laws_markRangeS x.Own 1 = some (k1, marks_Range 1 x.Own.length) := by rw [e1]; exact p_markRangeS x.Own 1 (by omega) (by omega) (by omega)
  have a2 : m_laws_markRangeS x.Frozen k1 = some (k2, marks_Range k1 x.Frozen.length) := by rw [e2]; exact p_markRangeS x.Frozen k1 (by omega) (by omega) (by omega)
  have a3 : m_laws_markCellS x.Cells k2 = some (k3, marks_Cell k2 x.Cells.length) := by rw [e3]; exact p_markCellS x.Cells k2 (by omega) (by omega) (by omega)
  have a4 : m_laws_markLockS x.Locks k3 = some (k4, marks_Lock k3 x.Locks.length) := by rw [e4]; exact p_markLockS x.Locks k3 (by omega) (by omega) (by omega)
  have a5 : m_laws_markHeldS x.Helds k4 = some (k5, marks_Held x.Helds k4) := by rw [e5]; exact p_markHeldS x.Helds k4 hH (by omega) (by omega)
  have a6 : m_laws_markIntS x.Wounded k5 = some (k6, marks_Int k5 x.Wounded.length) := by rw [e6]; exact p_markIntS x.Wounded k5 (by omega) (by omega) (by omega)
  have a7 : m_laws_markIntS x.Ended k6 = some (k7, marks_Int k6 x.Ended.length) := by rw [e7]; exact p_markIntS x.Ended k6 (by omega) (by omega) (by omega)
  have b1 : m_laws_heldRangeS (marks_Range 1 x.Own.length) 1 = some k1 := by rw [e1]; exact p_heldRangeS x.Own.length 1 (by omega) (by omega) (by omega)
  have b2 : m_laws_heldRangeS (marks_Range k1 x.Frozen.length) k1 = some k2 := by rw [e2]; exact p_heldRangeS x.Frozen.length k1 (by omega) (by omega) (by omega)
  have b3 : m_laws_heldCellS (marks_Cell k2 x.Cells.length) k2 = some k3 := by rw [e3]; exact p_heldCellS x.Cells.length k2 (by omega) (by omega) (by omega)
  have b4 : m_laws_heldLockS (marks_Lock k3 x.Locks.length) k3 = some k4 := by rw [e4]; exact p_heldLockS x.Locks.length k3 (by omega) (by omega) (by omega)
  have b5 : m_laws_heldHeldS (marks_Held x.Helds k4) k4 = some k5 := by rw [e5]; exact p_heldHeldS x.Helds k4 hH (by omega) (by omega)
  have b6 : m_laws_heldIntS (marks_Int k5 x.Wounded.length) k5 = some k6 := by rw [e6]; exact p_heldIntS x.Wounded.length k5 (by omega) (by omega) (by omega)
  have b7 : m_laws_heldIntS (marks_Int k6 x.Ended.length) k6 = some k7 := by rw [e7]; exact p_heldIntS x.Ended.length k6 (by omega) (by omega) (by omega)
  have n1 : ¬ k1 < 0 := by omega
  have n2 : ¬ k2 < 0 := by omega
  have n3 : ¬ k3 < 0 := by omega
  have n4 : ¬ k4 < 0 := by omega
  have n5 : ¬ k5 < 0 := by omega
  have n6 : ¬ k6 < 0 := by omega
  have n7 : ¬ k7 < 0 := by omega
  refine ⟨(k7, TShard.mk x.Me (marks_Range 1 x.Own.length) (marks_Range k1 x.Frozen.length) (marks_Cell k2 x.Cells.length) (marks_Lock k3 x.Locks.length) (marks_Held x.Helds k4) (marks_Int k5 x.Wounded.length) (marks_Int k6 x.Ended.length) x.Rank), ?_, by simp only; omega, by simp only [marks_Range_len], by simp only [marks_Range_len], by simp only [marks_Cell_len], by simp only [marks_Lock_len], by simp only [marks_Held_len], by simp only [marks_Int_len], by simp only [marks_Int_len], fun e f => ?_⟩
  · unfold m_laws_markShard
    simp only [a1, a2, a3, a4, a5, a6, a7, marks_Range_len, marks_Cell_len, marks_Lock_len, marks_Held_len, marks_Int_len, Option.bind_some, if_true]
  · unfold m_laws_heldShard
    simp only [b1, b2, b3, b4, b5, b6, b7, n1, n2, n3, n4, n5, n6, n7, Option.bind_some, if_false]
theorem p_FnExactNewShard (a1 : Int) (a2 : List TRange) (h1 : inK .i64 a1) (h2 : okS ok_TRange a2) : m_laws_FnExactNewShard a1 a2 = some true := by
  unfold m_laws_FnExactNewShard
  rw [p_szRangeS a2 h2.1 _ (by omega) (by omega)]
  simp only [Option.bind_some]
  split
  · rfl
  · rename_i hz
    have hl : a2.length ≤ 1048576 := by omega
    have key : ∃ r : TShard, m_spec_NewShard a1 a2 = some r ∧ m_impl_NewShard a1 a2 = some r ∧ size_Shard r ≤ 1048576 := by
      have hs : size_Shard (TShard.mk a1 a2 [] [] [] [] [] [] 0) ≤ 1048576 := by simp [size_Shard, size_HeldS, sumB]; omega
      unfold m_spec_NewShard m_impl_NewShard
      simp only [p_spec_ShardOk0 _ hs, p_impl_ShardOk _ hs, p_Clone_Range _ hl, Option.bind_some]
      rw [if_pos (by omega)]
      split
      · exact ⟨_, rfl, rfl, hs⟩
      · exact ⟨_, rfl, rfl, by simp [size_Shard, size_HeldS, sumB]⟩
    obtain ⟨r, e1, e2, hr⟩ := key
    obtain ⟨m, g1, g2, g3, g4, g5, g6, g7, g8, g9, g10⟩ := hold_Shard r hr
    have hm := p_markRangeS a2 1 hl (by omega) (by omega)
    have q1 : ¬ m.1 < 0 := by omega
    have q2 : ¬ 1 + 2 * (a2.length : Int) < 0 := by omega
    simp [p_toRangeS _ hl, e1, e2, p_eqRangeS _ _ hl, p_eqShard _ _ hr, hm, marks_Range_len, g1, g3, g4, g5, g6, g7, g8, g9, g10, q1, q2, laws_FnExactNewShard_j25]
end Go.AW
