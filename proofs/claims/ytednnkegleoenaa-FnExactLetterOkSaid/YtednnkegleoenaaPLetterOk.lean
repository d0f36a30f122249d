/- Plain laws: what the plain functions answer. Conditions: each theorem's own. -/
import Derived.Test.YtednnkegleoenaaMLetterOk
set_option linter.unusedVariables false
set_option linter.unusedSimpArgs false
set_option maxRecDepth 100000
namespace Go.AW
theorem w64 {n : Int} (h1 : -9223372036854775808 ≤ n) (h2 : n < 9223372036854775808) : IntKind.wrap .i64 n = n := by
  rw [IntKind.wrap_i64]; omega
theorem idx_nat {α : Type} {xs : List α} {i : Nat} (h : i < xs.length) : idx xs (i : Int) = some xs[i] := by
  unfold idx
  rw [if_pos (by omega)]
  simp [h]
theorem iter_ex {S R : Type} {f : (S → Option R) → S → Option R} (st : Nat → S) (stop : Nat → Option (Option R)) (k : Option R) (n : Nat)
    (hs : ∀ kb i, i < n → (∀ j, j < i → stop j = none) → f kb (st i) = match stop i with | some r => r | none => kb (st (i + 1))) (he : ∀ kb, (∀ j, j < n → stop j = none) → f kb (st n) = k) :
    ∀ (m i : Nat), i ≤ n → (∀ j, j < i → stop j = none) → n - i < m → iter f m (st i) = match ((List.range n).drop i).findSome? stop with | some r => r | none => k
  | 0, i, _, _, h => by omega
  | m + 1, i, hi, hp, h => by
    unfold iter
    by_cases e : i = n
    · subst e
      rw [he _ hp]
      simp [List.drop_eq_nil_of_le]
    · have hlt : i < n := by omega
      rw [hs _ i hlt hp, List.drop_eq_getElem_cons (by simpa using hlt)]
      simp only [List.getElem_range, List.findSome?_cons]
      cases hq : stop i with
      | some r => rfl
      | none => exact iter_ex st stop k n hs he m (i + 1) (by omega) (fun j hj => by
          by_cases e' : j = i
          · subst e'; exact hq
          · exact hp j (by omega)) (by omega)
theorem iter_stopH {S R : Type} {f : (S → Option R) → S → Option R} (st : Nat → S) (stop : Nat → Option (Option R)) (k : Option R) (n : Nat) (hn : n ≤ 1152921504606846976)
    (hs : ∀ kb i, i < n → (∀ j, j < i → stop j = none) → f kb (st i) = match stop i with | some r => r | none => kb (st (i + 1))) (he : ∀ kb, (∀ j, j < n → stop j = none) → f kb (st n) = k) {s0 : S} (h0 : s0 = st 0) :
    iter f FU s0 = match (List.range n).findSome? stop with | some r => r | none => k := by
  subst h0
  have := iter_ex st stop k n hs he FU 0 (by omega) (fun j hj => by omega) (by unfold FU; omega)
  simpa using this
theorem iter_stop {S R : Type} {f : (S → Option R) → S → Option R} (st : Nat → S) (stop : Nat → Option (Option R)) (k : Option R) (n : Nat) (hn : n ≤ 1152921504606846976)
    (hs : ∀ kb i, i < n → f kb (st i) = match stop i with | some r => r | none => kb (st (i + 1))) (he : ∀ kb, f kb (st n) = k) {s0 : S} (h0 : s0 = st 0) :
    iter f FU s0 = match (List.range n).findSome? stop with | some r => r | none => k :=
  iter_stopH st stop k n hn (fun kb i hi _ => hs kb i hi) (fun kb _ => he kb) h0
theorem iter_all {S R : Type} {f : (S → Option R) → S → Option R} (st : Nat → S) (k : Option R) (n : Nat) (hn : n ≤ 1152921504606846976)
    (hs : ∀ kb i, i < n → f kb (st i) = kb (st (i + 1))) (he : ∀ kb, f kb (st n) = k) {s0 : S} (h0 : s0 = st 0) : iter f FU s0 = k := by
  rw [iter_stop st (fun _ => none) k n hn (fun kb i hi => hs kb i hi) he h0]
  have : (List.range n).findSome? (fun _ => (none : Option (Option R))) = none := by
    rw [List.findSome?_eq_none_iff]; intro x _; rfl
  rw [this]
theorem iter_goodH {S R : Type} {f : (S → Option R) → S → Option R} (st : Nat → S) (good : Nat → Bool) (r k : Option R) (n : Nat) (hn : n ≤ 1152921504606846976)
    (hs : ∀ kb i, i < n → (∀ j, j < i → good j = true) → f kb (st i) = if good i = true then kb (st (i + 1)) else r) (he : ∀ kb, (∀ j, j < n → good j = true) → f kb (st n) = k) {s0 : S} (h0 : s0 = st 0) :
    iter f FU s0 = if (List.range n).all good = true then k else r := by
  have tr : ∀ j, (if good j = true then (none : Option (Option R)) else some r) = none → good j = true := fun j h => by
    split at h
    · assumption
    · cases h
  rw [iter_stopH st (fun i => if good i = true then none else some r) k n hn (fun kb i hi hp => by rw [hs kb i hi (fun j hj => tr j (hp j hj))]; split <;> rfl) (fun kb hp => he kb (fun j hj => tr j (hp j hj))) h0]
  by_cases e : (List.range n).all good = true
  · have : (List.range n).findSome? (fun i => if good i = true then none else some r) = none := by
      rw [List.findSome?_eq_none_iff]
      intro x hx
      rw [List.all_eq_true] at e
      simp [e x hx]
    rw [this, if_pos e]
  · rw [if_neg e]
    cases h : (List.range n).findSome? (fun i => if good i = true then none else some r) with
    | none =>
      exfalso
      apply e
      rw [List.all_eq_true]
      intro x hx
      rw [List.findSome?_eq_none_iff] at h
      exact tr x (h x hx)
    | some q =>
      obtain ⟨x, hx, hq⟩ := List.exists_of_findSome?_eq_some h
      split at hq
      · cases hq
      · cases hq; rfl
theorem iter_good {S R : Type} {f : (S → Option R) → S → Option R} (st : Nat → S) (good : Nat → Bool) (r k : Option R) (n : Nat) (hn : n ≤ 1152921504606846976)
    (hs : ∀ kb i, i < n → f kb (st i) = if good i = true then kb (st (i + 1)) else r) (he : ∀ kb, f kb (st n) = k) {s0 : S} (h0 : s0 = st 0) :
    iter f FU s0 = if (List.range n).all good = true then k else r :=
  iter_goodH st good r k n hn (fun kb i hi _ => hs kb i hi) (fun kb _ => he kb) h0
theorem iter_copy {α R : Type} {f : (List α × Int → Option R) → List α × Int → Option R} (xs : List α) (z : α) (k : List α → Option R) (hn : xs.length ≤ 2147483648)
    (hs : ∀ kb (ys : List α) (i : Nat) (hi : i < xs.length), ys.length = xs.length → f kb (ys, (i : Int)) = kb (ys.set i xs[i], ((i + 1 : Nat) : Int)))
    (he : ∀ kb (ys : List α), f kb (ys, (xs.length : Int)) = k ys) : iter f FU (List.replicate xs.length z, 0) = k xs := by
  refine iter_all (fun i => (xs.take i ++ List.replicate (xs.length - i) z, (i : Int))) _ xs.length (by omega) (fun kb i hi => ?_) (fun kb => ?_) (by simp)
  · rw [hs kb _ i hi (by simp; omega)]
    congr 2
    have : xs.length - i = (xs.length - (i + 1)) + 1 := by omega
    have hk : min i xs.length = i := by omega
    show _ = (List.take (i + 1) xs ++ _)
    rw [this, List.replicate_succ, List.set_append_right _ _ (by simp; omega), show List.take (i + 1) xs = List.take i xs ++ [xs[i]] from List.take_succ_eq_append_getElem hi]
    simp only [List.length_take, hk, Nat.sub_self, List.set_cons_zero]
    rw [List.append_assoc]
    rfl
  · rw [he]
    simp
theorem all_range_eq {α : Type} [DecidableEq α] {xs ys : List α} (h : xs.length = ys.length) : (List.range xs.length).all (fun i => decide (xs[i]? = ys[i]?)) = decide (xs = ys) := by
  by_cases e : xs = ys
  · subst e; simp
  · rw [decide_eq_false e, List.all_eq_false]
    apply Classical.byContradiction
    intro hc
    apply e
    apply List.ext_getElem? 
    intro i
    by_cases hi : i < xs.length
    · apply Classical.byContradiction
      intro hne
      exact hc ⟨i, List.mem_range.2 hi, by simpa using hne⟩
    · rw [List.getElem?_eq_none (by omega), List.getElem?_eq_none (by omega)]
theorem step1 (i : Nat) (n : Nat) (h : i < n) (hn : n ≤ 1152921504606846976) : IntKind.wrap .i64 ((i : Int) + 1) = ((i + 1 : Nat) : Int) := by
  rw [w64 (by omega) (by omega)]; omega
def idxOf {α : Type} (p : α → Bool) (xs : List α) : Int := match xs.findIdx? p with
  | some k => (k : Int)
  | none => -1
theorem idxOf_nonneg {α : Type} (p : α → Bool) (xs : List α) : decide (0 ≤ idxOf p xs) = xs.any p := by
  unfold idxOf
  cases h : xs.findIdx? p with
  | none =>
    rw [List.findIdx?_eq_none_iff] at h
    have : xs.any p = false := by rw [List.any_eq_false]; intro x hx; simp [h x hx]
    simp [this]
  | some k =>
    rw [List.findIdx?_eq_some_iff_getElem] at h
    obtain ⟨hk, hp, _⟩ := h
    have : xs.any p = true := List.any_eq_true.2 ⟨xs[k], List.getElem_mem hk, hp⟩
    simp [this]
theorem iter_index {α : Type} (xs : List α) (p : α → Bool) {f : (Int → Option Int) → Int → Option Int} (hn : xs.length ≤ 1152921504606846976)
    (hs : ∀ kb (i : Nat) (hi : i < xs.length), f kb (i : Int) = if p xs[i] = true then some (i : Int) else kb ((i + 1 : Nat) : Int)) (he : ∀ kb, f kb (xs.length : Int) = some (-1)) : iter f FU 0 = some (idxOf p xs) := by
  rw [iter_stop (s0 := (0 : Int)) (fun i => (i : Int)) (fun i : Nat => (xs[i]?).bind fun x => if p x = true then some (some (i : Int)) else none) (some (-1)) xs.length hn (fun kb i hi => ?_) (fun kb => he kb) rfl]
  · have key : ∀ (ys : List α) (o : Nat), (List.range ys.length).findSome? (fun i : Nat => (ys[i]?).bind fun x => if p x = true then some (some ((o + i : Nat) : Int)) else none) = (ys.findIdx? p).map fun k => some ((o + k : Nat) : Int) := by
      intro ys
      induction ys with
      | nil => intro o; rfl
      | cons y ys ih =>
        intro o
        rw [List.length_cons, List.range_succ_eq_map, List.findSome?_cons, List.findSome?_map, List.findIdx?_cons]
        simp only [List.getElem?_cons_zero, Option.bind_some]
        by_cases e : p y = true
        · simp [e]
        · simp only [e, if_false, Function.comp_def, List.getElem?_cons_succ, Bool.false_eq_true]
          have := ih (o + 1)
          rw [show (fun i : Nat => (ys[i]?).bind fun x => if p x = true then some (some ((o + (i + 1) : Nat) : Int)) else none) = fun i : Nat => (ys[i]?).bind fun x => if p x = true then some (some ((o + 1 + i : Nat) : Int)) else none from by funext i; rw [show o + (i + 1) = o + 1 + i by omega]]
          rw [this]
          cases ys.findIdx? p <;> simp; omega
    have := key xs 0
    simp only [Nat.zero_add] at this
    rw [this]
    unfold idxOf
    cases xs.findIdx? p <;> rfl
  · rw [hs kb i hi, List.getElem?_eq_getElem hi]
    simp only [Option.bind_some]
    by_cases e : p xs[i] = true <;> simp [e]
theorem all_range {α : Type} (xs : List α) (p : α → Bool) : ((List.range xs.length).all fun i => ((xs[i]?).map p).getD true) = xs.all p := by
  rw [Bool.eq_iff_iff, List.all_eq_true, List.all_eq_true]
  constructor
  · intro H x hx
    obtain ⟨i, hi, rfl⟩ := List.mem_iff_getElem.1 hx
    have := H i (List.mem_range.2 hi)
    rw [List.getElem?_eq_getElem hi] at this
    exact this
  · intro H i hi
    have hi := List.mem_range.1 hi
    rw [List.getElem?_eq_getElem hi]
    exact H _ (List.getElem_mem hi)
theorem iter_any {α R : Type} (xs : List α) (p : α → Bool) (r k : Option R) {f : (Int → Option R) → Int → Option R} (hn : xs.length ≤ 1152921504606846976)
    (hs : ∀ kb (i : Nat) (hi : i < xs.length), f kb (i : Int) = if p xs[i] = true then r else kb ((i + 1 : Nat) : Int)) (he : ∀ kb, f kb (xs.length : Int) = k) : iter f FU 0 = if xs.any p = true then r else k := by
  rw [iter_good (s0 := (0 : Int)) (fun i => (i : Int)) (fun i => ((xs[i]?).map fun x => !p x).getD true) r k xs.length hn (fun kb i hi => ?_) (fun kb => he kb) rfl, all_range xs fun x => !p x]
  · cases h : xs.any p with
    | true =>
      have : (xs.all fun x => !p x) = false := by
        rw [List.all_eq_false]; obtain ⟨x, hx, hp⟩ := List.any_eq_true.1 h; exact ⟨x, hx, by simp [hp]⟩
      simp [this]
    | false =>
      have : (xs.all fun x => !p x) = true := by
        rw [List.all_eq_true]; intro x hx; rw [List.any_eq_false] at h; simp [h x hx]
      simp [this]
  · rw [hs kb i hi, List.getElem?_eq_getElem hi]
    cases h : p xs[i] <;> simp [h]
theorem iter_every {α R : Type} (xs : List α) (p : α → Bool) (r k : Option R) {f : (Int → Option R) → Int → Option R} (hn : xs.length ≤ 1152921504606846976)
    (hs : ∀ kb (i : Nat) (hi : i < xs.length), f kb (i : Int) = if p xs[i] = true then kb ((i + 1 : Nat) : Int) else r) (he : ∀ kb, f kb (xs.length : Int) = k) : iter f FU 0 = if xs.all p = true then k else r := by
  rw [iter_good (s0 := (0 : Int)) (fun i => (i : Int)) (fun i => ((xs[i]?).map p).getD true) r k xs.length hn (fun kb i hi => ?_) (fun kb => he kb) rfl, all_range xs p]
  rw [hs kb i hi, List.getElem?_eq_getElem hi]
  rfl
def sumB {α : Type} (f : α → Nat) : List α → Nat
  | [] => 0
  | x :: xs => f x + sumB f xs
theorem sumB_append {α : Type} (f : α → Nat) : ∀ (xs ys : List α), sumB f (xs ++ ys) = sumB f xs + sumB f ys
  | [], ys => by simp [sumB]
  | x :: xs, ys => by simp [sumB, sumB_append f xs ys]; omega
theorem sumB_step {α : Type} (f : α → Nat) {xs : List α} {i : Nat} (hi : i < xs.length) : sumB f (xs.take (i + 1)) = sumB f (xs.take i) + f xs[i] := by
  rw [List.take_succ_eq_append_getElem hi, sumB_append]
  simp [sumB]
theorem sumB_take {α : Type} (f : α → Nat) (xs : List α) (i : Nat) : sumB f (xs.take i) ≤ sumB f xs := by
  have := sumB_append f (xs.take i) (xs.drop i)
  rw [List.take_append_drop] at this
  omega
theorem sumB_mem {α : Type} (f : α → Nat) {xs : List α} {i : Nat} (hi : i < xs.length) : f xs[i] ≤ sumB f xs := by
  have h1 := sumB_step f hi
  have h2 := sumB_take f xs (i + 1)
  omega
theorem cnt_step {α : Type} (p : α → Bool) {xs : List α} {i : Nat} (hi : i < xs.length) : (xs.take (i + 1)).countP p = (xs.take i).countP p + if p xs[i] = true then 1 else 0 := by
  rw [List.take_succ_eq_append_getElem hi, List.countP_append]
  simp [List.countP_cons]
theorem cnt_le {α : Type} (p : α → Bool) (xs : List α) (i : Nat) : (xs.take i).countP p ≤ xs.length := by
  have h1 := List.countP_le_length (p := p) (l := xs.take i)
  have h2 : (xs.take i).length ≤ xs.length := by simp; omega
  omega
def within (z lo hi : Int) : Bool := decide (lo ≤ z) && decide (z ≤ hi)
theorem p_l1In (z lo hi : Int) : m_spec_l1In z lo hi = some (within z lo hi) := by
  unfold m_spec_l1In within; by_cases h : lo ≤ z <;> simp [h]
theorem p_from (z lo hi : Int) : m_impl_from z lo hi = some (within z lo hi) := by
  unfold m_impl_from within; by_cases h : lo ≤ z <;> simp [h]
theorem p_l10Key (z : Int) : m_spec_l10Key z = some (within z 0 999) := by simp [m_spec_l10Key, p_l1In]
theorem p_isKey (z : Int) : m_impl_isKey z = some (within z 0 999) := by simp [m_impl_isKey, p_from]
theorem p_l1Whole (z : Int) : m_spec_l1Whole z = some (within z 0 1000000000) := by simp [m_spec_l1Whole, p_l1In]
theorem p_isWhole (z : Int) : m_impl_isWhole z = some (within z 0 1000000000) := by simp [m_impl_isWhole, p_from]
def rangeOk (a : TRange) : Bool := decide (0 ≤ a.Lo) && decide (a.Lo < a.Hi) && decide (a.Hi ≤ 1000)
theorem p_spec_RangeOk (a : TRange) : m_spec_RangeOk a = some (rangeOk a) := by
  unfold m_spec_RangeOk rangeOk; by_cases h : 0 ≤ a.Lo <;> by_cases h' : a.Lo < a.Hi <;> simp [h, h']
theorem p_impl_RangeOk (a : TRange) : m_impl_RangeOk a = some (rangeOk a) := by
  unfold m_impl_RangeOk rangeOk; by_cases h : 0 ≤ a.Lo <;> by_cases h' : a.Lo < a.Hi <;> simp [h, h']
theorem p_isGroup (z : Int) : m_impl_isGroup z = some (within z 0 3) := by simp [m_impl_isGroup, p_from]
def cellGood (xs : List TCell) (i : Nat) : Bool := match xs[i]? with
  | none => true
  | some c => within c.Key 0 999 && within c.Value 0 1000000000 && (i == 0 || match xs[i - 1]? with | some p => decide (p.Key < c.Key) | none => true)
def storeGood (xs : List TCell) : Bool := decide (xs.length ≤ 60) && (List.range xs.length).all (cellGood xs)
theorem p_spec_StoreOk (xs : List TCell) (h : xs.length ≤ 1048576) : m_spec_StoreOk xs = some (storeGood xs) := by
  unfold m_spec_StoreOk storeGood
  split
  · rename_i h1
    have : ¬ xs.length ≤ 60 := by omega
    simp [this]
  · rename_i h1
    have : xs.length ≤ 60 := by omega
    rw [iter_good (s0 := (0 : Int)) (fun i => (i : Int)) (cellGood xs) (some false) (some true) xs.length (by omega) (fun kb i hi => ?_) (fun kb => ?_) rfl]
    · simp only [this, decide_true, Bool.true_and]; split <;> simp_all
    · unfold spec_StoreOk_b5 spec_StoreOk_j8 cellGood
      simp only [idx_nat hi, p_l10Key, p_l1Whole, Option.bind_some, step1 i _ hi (by omega), List.getElem?_eq_getElem hi]
      rw [if_pos (by omega)]
      cases within xs[i].Key 0 999 <;> simp
      cases within xs[i].Value 0 1000000000 <;> simp
      by_cases h0 : 0 < i
      · have h2 : IntKind.wrap .i64 ((i : Int) - 1) = ((i - 1 : Nat) : Int) := by rw [w64 (by omega) (by omega)]; omega
        have h3 : i - 1 < xs.length := by omega
        have h4 : ¬ i = 0 := by omega
        simp only [h0, if_true, h2, idx_nat h3, Option.bind_some, List.getElem?_eq_getElem h3, h4, false_or]
        by_cases h5 : xs[i].Key ≤ xs[i - 1].Key
        · have : ¬ xs[i - 1].Key < xs[i].Key := by omega
          simp [h5, this]
        · have : xs[i - 1].Key < xs[i].Key := by omega
          simp [h5, this]
      · have h4 : i = 0 := by omega
        simp [h4]
    · unfold spec_StoreOk_b5
      rw [if_neg (by omega)]; rfl
theorem p_impl_StoreOk (xs : List TCell) (h : xs.length ≤ 1048576) : m_impl_StoreOk xs = some (storeGood xs) := by
  unfold m_impl_StoreOk storeGood
  rw [iter_good (s0 := (0 : Int)) (fun i => (i : Int)) (cellGood xs) (some false) (some (decide (xs.length ≤ 60))) xs.length (by omega) (fun kb i hi => ?_) (fun kb => ?_) rfl]
  · split <;> simp_all
  · unfold impl_StoreOk_b4 impl_StoreOk_j9 cellGood
    simp only [idx_nat hi, p_isKey, p_isWhole, Option.bind_some, step1 i _ hi (by omega), List.getElem?_eq_getElem hi]
    rw [if_pos (by omega)]
    cases within xs[i].Key 0 999 <;> simp
    cases within xs[i].Value 0 1000000000 <;> simp
    by_cases h0 : 0 < i
    · have h2 : IntKind.wrap .i64 ((i : Int) - 1) = ((i - 1 : Nat) : Int) := by rw [w64 (by omega) (by omega)]; omega
      have h3 : i - 1 < xs.length := by omega
      have h4 : ¬ i = 0 := by omega
      simp only [h0, if_true, h2, idx_nat h3, Option.bind_some, List.getElem?_eq_getElem h3, h4, false_or]
      by_cases h5 : xs[i].Key ≤ xs[i - 1].Key
      · have : ¬ xs[i - 1].Key < xs[i].Key := by omega
        simp [h5, this]
      · have : xs[i - 1].Key < xs[i].Key := by omega
        simp [h5, this]
    · have h4 : i = 0 := by omega
      simp [h4]
  · unfold impl_StoreOk_b4 impl_StoreOk_j2
    rw [if_neg (by omega)]
    have : ((xs.length : Int) ≤ 60) ↔ xs.length ≤ 60 := by omega
    simp [this]
theorem p_isAnswer (z : Int) : m_impl_isAnswer z = some (within z (-1) 1000000000) := by simp [m_impl_isAnswer, p_from]
def writeGood (xs : List TCell) (i : Nat) : Bool := match xs[i]? with
  | none => true
  | some c => within c.Key 0 999 && within c.Value (-1) 1000000000 && (i == 0 || match xs[i - 1]? with | some p => decide (p.Key < c.Key) | none => true)
def writesGood (xs : List TCell) : Bool := decide (xs.length ≤ 60) && (List.range xs.length).all (writeGood xs)
theorem p_spec_WritesOk (xs : List TCell) (h : xs.length ≤ 1048576) : m_spec_WritesOk xs = some (writesGood xs) := by
  unfold m_spec_WritesOk writesGood
  split
  · rename_i h1
    have : ¬ xs.length ≤ 60 := by omega
    simp [this]
  · rename_i h1
    have : xs.length ≤ 60 := by omega
    rw [iter_good (s0 := (0 : Int)) (fun i => (i : Int)) (writeGood xs) (some false) (some true) xs.length (by omega) (fun kb i hi => ?_) (fun kb => ?_) rfl]
    · simp only [this, decide_true, Bool.true_and]; split <;> simp_all
    · unfold spec_WritesOk_b5 spec_WritesOk_j8 writeGood
      simp only [idx_nat hi, p_l10Key, p_l1In, Option.bind_some, step1 i _ hi (by omega), List.getElem?_eq_getElem hi]
      rw [if_pos (by omega)]
      cases within xs[i].Key 0 999 <;> simp
      cases within xs[i].Value (-1) 1000000000 <;> simp
      by_cases h0 : 0 < i
      · have h2 : IntKind.wrap .i64 ((i : Int) - 1) = ((i - 1 : Nat) : Int) := by rw [w64 (by omega) (by omega)]; omega
        have h3 : i - 1 < xs.length := by omega
        have h4 : ¬ i = 0 := by omega
        simp only [h0, if_true, h2, idx_nat h3, Option.bind_some, List.getElem?_eq_getElem h3, h4, false_or]
        by_cases h5 : xs[i].Key ≤ xs[i - 1].Key
        · have : ¬ xs[i - 1].Key < xs[i].Key := by omega
          simp [h5, this]
        · have : xs[i - 1].Key < xs[i].Key := by omega
          simp [h5, this]
      · have h4 : i = 0 := by omega
        simp [h4]
    · unfold spec_WritesOk_b5
      rw [if_neg (by omega)]; rfl
theorem p_impl_WritesOk (xs : List TCell) (h : xs.length ≤ 1048576) : m_impl_WritesOk xs = some (writesGood xs) := by
  unfold m_impl_WritesOk writesGood
  rw [iter_good (s0 := (0 : Int)) (fun i => (i : Int)) (writeGood xs) (some false) (some (decide (xs.length ≤ 60))) xs.length (by omega) (fun kb i hi => ?_) (fun kb => ?_) rfl]
  · split <;> simp_all
  · unfold impl_WritesOk_b4 impl_WritesOk_j9 writeGood
    simp only [idx_nat hi, p_isKey, p_isAnswer, Option.bind_some, step1 i _ hi (by omega), List.getElem?_eq_getElem hi]
    rw [if_pos (by omega)]
    cases within xs[i].Key 0 999 <;> simp
    cases within xs[i].Value (-1) 1000000000 <;> simp
    by_cases h0 : 0 < i
    · have h2 : IntKind.wrap .i64 ((i : Int) - 1) = ((i - 1 : Nat) : Int) := by rw [w64 (by omega) (by omega)]; omega
      have h3 : i - 1 < xs.length := by omega
      have h4 : ¬ i = 0 := by omega
      simp only [h0, if_true, h2, idx_nat h3, Option.bind_some, List.getElem?_eq_getElem h3, h4, false_or]
      by_cases h5 : xs[i].Key ≤ xs[i - 1].Key
      · have : ¬ xs[i - 1].Key < xs[i].Key := by omega
        simp [h5, this]
      · have : xs[i - 1].Key < xs[i].Key := by omega
        simp [h5, this]
    · have h4 : i = 0 := by omega
      simp [h4]
  · unfold impl_WritesOk_b4 impl_WritesOk_j2
    rw [if_neg (by omega)]
    have : ((xs.length : Int) ≤ 60) ↔ xs.length ≤ 60 := by omega
    simp [this]
theorem p_szRangeS (xs : List TRange) (h : xs.length ≤ maxLen) (z : Int) (h1 : 0 ≤ z) (h2 : z ≤ 1048576) : m_laws_szRangeS xs z = some (if z < xs.length then -1 else z - xs.length) := by
  unfold m_laws_szRangeS
  have : IntKind.wrap .i64 (z - (xs.length : Int)) = z - xs.length := by unfold maxLen at h; exact w64 (by omega) (by omega)
  rw [this]
  split <;> split <;> first | rfl | omega
theorem p_toRangeS (xs : List TRange) (h : xs.length ≤ 1048576) : m_laws_toRangeS xs = some xs := by
  unfold m_laws_toRangeS
  rw [if_pos ⟨by omega, by omega⟩]
  simp only [Int.toNat_natCast]
  refine iter_copy xs _ laws_toRangeS_j3 (by omega) (fun kb ys i hi hy => ?_) (fun kb ys => ?_)
  · unfold laws_toRangeS_b5
    simp only [idx_nat hi, idx_nat (show i < ys.length by omega), m_laws_toRange, Option.bind_some, Int.toNat_natCast, step1 i _ hi (by omega)]
    rw [if_pos (by omega)]
  · unfold laws_toRangeS_b5
    rw [if_neg (by omega)]
theorem p_eqRange (a b : TRange) : m_laws_eqRange a b = some (decide (a = b)) := by
  unfold m_laws_eqRange
  cases a; cases b
  simp only [TRange.mk.injEq]
  repeat' split
  all_goals simp_all
theorem p_eqRangeS (xs ys : List TRange) (h : xs.length ≤ 1048576) : m_laws_eqRangeS xs ys = some (decide (xs = ys)) := by
  unfold m_laws_eqRangeS
  split
  · rename_i hl
    have : ¬ xs = ys := fun e => hl (by rw [e])
    simp [this]
  · rename_i hl
    have hl : xs.length = ys.length := by omega
    rw [iter_good (s0 := (0 : Int)) (fun i => (i : Int)) (fun i => decide (xs[i]? = ys[i]?)) (some false) (some true) xs.length (by omega) (fun kb i hi => ?_) (fun kb => ?_) rfl, all_range_eq hl]
    · by_cases e : xs = ys <;> simp [e]
    · unfold laws_eqRangeS_b6
      simp only [idx_nat hi, idx_nat (show i < ys.length by omega), p_eqRange, Option.bind_some, step1 i _ hi (by omega)]
      rw [if_pos (by omega), List.getElem?_eq_getElem hi, List.getElem?_eq_getElem (show i < ys.length by omega)]
      simp
    · unfold laws_eqRangeS_b6
      rw [if_neg (by omega)]
      rfl
theorem p_szWriteS (xs : List TCell) (h : xs.length ≤ maxLen) (z : Int) (h1 : 0 ≤ z) (h2 : z ≤ 1048576) : m_laws_szWriteS xs z = some (if z < xs.length then -1 else z - xs.length) := by
  unfold m_laws_szWriteS
  have : IntKind.wrap .i64 (z - (xs.length : Int)) = z - xs.length := by unfold maxLen at h; exact w64 (by omega) (by omega)
  rw [this]
  split <;> split <;> first | rfl | omega
theorem p_toWriteS (xs : List TCell) (h : xs.length ≤ 1048576) : m_laws_toWriteS xs = some xs := by
  unfold m_laws_toWriteS
  rw [if_pos ⟨by omega, by omega⟩]
  simp only [Int.toNat_natCast]
  refine iter_copy xs _ laws_toWriteS_j3 (by omega) (fun kb ys i hi hy => ?_) (fun kb ys => ?_)
  · unfold laws_toWriteS_b5
    simp only [idx_nat hi, idx_nat (show i < ys.length by omega), m_laws_toWrite, Option.bind_some, Int.toNat_natCast, step1 i _ hi (by omega)]
    rw [if_pos (by omega)]
  · unfold laws_toWriteS_b5
    rw [if_neg (by omega)]
theorem p_eqWrite (a b : TCell) : m_laws_eqWrite a b = some (decide (a = b)) := by
  unfold m_laws_eqWrite
  cases a; cases b
  simp only [TCell.mk.injEq]
  repeat' split
  all_goals simp_all
theorem p_eqWriteS (xs ys : List TCell) (h : xs.length ≤ 1048576) : m_laws_eqWriteS xs ys = some (decide (xs = ys)) := by
  unfold m_laws_eqWriteS
  split
  · rename_i hl
    have : ¬ xs = ys := fun e => hl (by rw [e])
    simp [this]
  · rename_i hl
    have hl : xs.length = ys.length := by omega
    rw [iter_good (s0 := (0 : Int)) (fun i => (i : Int)) (fun i => decide (xs[i]? = ys[i]?)) (some false) (some true) xs.length (by omega) (fun kb i hi => ?_) (fun kb => ?_) rfl, all_range_eq hl]
    · by_cases e : xs = ys <;> simp [e]
    · unfold laws_eqWriteS_b6
      simp only [idx_nat hi, idx_nat (show i < ys.length by omega), p_eqWrite, Option.bind_some, step1 i _ hi (by omega)]
      rw [if_pos (by omega), List.getElem?_eq_getElem hi, List.getElem?_eq_getElem (show i < ys.length by omega)]
      simp
    · unfold laws_eqWriteS_b6
      rw [if_neg (by omega)]
      rfl
def size_Share (x : TShare) : Nat := x.Reads.length + x.Writes.length
theorem p_szShare (x : TShare) (h : ok_TShare x) (z : Int) (h1 : 0 ≤ z) (h2 : z ≤ 1048576) : m_laws_szShare x z = some (if z < (size_Share x : Int) then -1 else z - (size_Share x : Int)) := by
  unfold ok_TShare at h
  obtain ⟨o0, o1, o2, o3⟩ := h
  unfold m_laws_szShare size_Share
  rw [p_szRangeS x.Reads o1.1 _ (by omega) (by omega)]
  simp only [Option.bind_some]
  by_cases c0 : z < (x.Reads.length : Int)
  · rw [if_pos c0, if_pos (by omega)]; try rw [if_pos (by omega)]
  rw [if_neg c0, if_neg (by omega)]
  rw [p_szWriteS x.Writes o2.1 _ (by omega) (by omega)]
  simp only [Option.bind_some]
  by_cases c1 : z - (x.Reads.length : Int) < (x.Writes.length : Int)
  · rw [if_pos c1, if_pos (by omega)]; try rw [if_pos (by omega)]
  rw [if_neg c1, if_neg (by omega)]
  try rw [if_neg (by omega)]
  try (congr 1; omega)
theorem p_toShare (x : TShare) (h : size_Share x ≤ 1048576) : m_laws_toShare x = some x := by simp [m_laws_toShare, p_toRangeS _ (show x.Reads.length ≤ 1048576 by unfold size_Share at h; omega), p_toWriteS _ (show x.Writes.length ≤ 1048576 by unfold size_Share at h; omega)]
theorem p_eqShare (x y : TShare) (h : size_Share x ≤ 1048576) : m_laws_eqShare x y = some (decide (x = y)) := by
  unfold m_laws_eqShare
  simp only [p_eqRangeS _ _ (show x.Reads.length ≤ 1048576 by unfold size_Share at h; omega), p_eqWriteS _ _ (show x.Writes.length ≤ 1048576 by unfold size_Share at h; omega), Option.bind_some]
  cases x; cases y
  simp only [TShare.mk.injEq]
  repeat' split
  all_goals simp_all
def size_ShareS (xs : (List TShare)) : Nat := xs.length + sumB (fun y : TShare => size_Share y) xs
theorem p_szShareS (xs : (List TShare)) (h : (okS ok_TShare) xs) (z : Int) (h1 : 0 ≤ z) (h2 : z ≤ 1048576) : m_laws_szShareS xs z = some (if z < (size_ShareS xs : Int) then -1 else z - (size_ShareS xs : Int)) := by
  unfold m_laws_szShareS
  have hm := h.1
  have hw : IntKind.wrap .i64 (z - (xs.length : Int)) = z - xs.length := by unfold maxLen at hm; exact w64 (by omega) (by omega)
  rw [hw]
  have hsz : (size_ShareS xs : Int) = xs.length + (sumB (fun y : TShare => size_Share y) xs : Nat) := by unfold size_ShareS; omega
  rw [hsz]
  by_cases c : z < xs.length
  · rw [if_pos (by omega), if_pos (by omega)]
  rw [if_neg (by omega)]
  rw [iter_goodH (fun i => (z - (xs.length : Int) - (sumB (fun y : TShare => size_Share y) (xs.take i) : Nat), (i : Int))) (fun i => decide ((sumB (fun y : TShare => size_Share y) (xs.take (i + 1)) : Int) ≤ z - xs.length)) (some (-1)) (some (z - (xs.length : Int) - (sumB (fun y : TShare => size_Share y) xs : Nat))) xs.length (by omega) (fun kb i hi hp => ?_) (fun kb hp => ?_) (by simp [sumB])]
  · by_cases c2 : z < xs.length + (sumB (fun y : TShare => size_Share y) xs : Nat)
    · rw [if_pos c2, if_neg]
      rw [Bool.not_eq_true, List.all_eq_false]
      cases hn : xs.length with
      | zero => 
        have : xs = [] := List.eq_nil_of_length_eq_zero hn
        subst this
        simp [sumB] at c2 c
        omega
      | succ n =>
        refine ⟨n, by simp, ?_⟩
        have : xs.take (n + 1) = xs := by rw [← hn]; simp
        rw [this, decide_eq_true_eq]
        omega
    · rw [if_neg c2, if_pos]
      · congr 1; omega
      · rw [List.all_eq_true]
        intro i hi
        have := sumB_take (fun y : TShare => size_Share y) xs (i + 1)
        simp only [decide_eq_true_eq]
        omega
  · have h0 : (sumB (fun y : TShare => size_Share y) (xs.take i) : Int) ≤ z - xs.length := by
      cases i with
      | zero => simp [sumB]; omega
      | succ j => have := hp j (by omega); simpa using this
    unfold laws_szShareS_b6
    simp only [idx_nat hi, Option.bind_some, step1 i _ hi (by omega)]
    rw [if_pos (by omega), p_szShare xs[i] (h.2 _ (List.getElem_mem hi)) _ (by omega) (by omega), sumB_step (fun y : TShare => size_Share y) hi]
    simp only [Option.bind_some, Int.natCast_add]
    by_cases c3 : z - (xs.length : Int) - (sumB (fun y : TShare => size_Share y) (xs.take i) : Nat) < (size_Share (xs[i]) : Nat)
    · rw [if_pos c3, if_pos (by omega), if_neg (by simp; omega)]
    · rw [if_neg c3, if_neg (by omega), if_pos (by simp; omega)]
      congr 2
      omega
  · unfold laws_szShareS_b6 laws_szShareS_j4
    rw [if_neg (by simp)]
    simp
theorem small_ShareS {xs : (List TShare)} (h : size_ShareS xs ≤ 1048576) : xs.length ≤ 1048576 ∧ ∀ i (hi : i < xs.length), size_Share (xs[i]) ≤ 1048576 := by
  unfold size_ShareS at h
  refine ⟨by omega, fun i hi => ?_⟩
  have := sumB_mem (fun y : TShare => size_Share y) hi
  omega
theorem p_toShareS (xs : (List TShare)) (h : size_ShareS xs ≤ 1048576) : m_laws_toShareS xs = some xs := by
  obtain ⟨hl, hs⟩ := small_ShareS h
  unfold m_laws_toShareS
  rw [if_pos ⟨by omega, by omega⟩]
  simp only [Int.toNat_natCast]
  refine iter_copy xs _ laws_toShareS_j3 (by omega) (fun kb ys i hi hy => ?_) (fun kb ys => ?_)
  · unfold laws_toShareS_b5
    simp only [idx_nat hi, idx_nat (show i < ys.length by omega), p_toShare _ (hs i hi), Option.bind_some, Int.toNat_natCast, step1 i _ hi (by omega)]
    rw [if_pos (by omega)]
  · unfold laws_toShareS_b5
    rw [if_neg (by omega)]
theorem p_eqShareS (xs ys : (List TShare)) (h : size_ShareS xs ≤ 1048576) : m_laws_eqShareS xs ys = some (decide (xs = ys)) := by
  obtain ⟨hl, hs⟩ := small_ShareS h
  unfold m_laws_eqShareS
  split
  · rename_i hl
    have : ¬ xs = ys := fun e => hl (by rw [e])
    simp [this]
  · rename_i hl
    have hl : xs.length = ys.length := by omega
    rw [iter_good (s0 := (0 : Int)) (fun i => (i : Int)) (fun i => decide (xs[i]? = ys[i]?)) (some false) (some true) xs.length (by omega) (fun kb i hi => ?_) (fun kb => ?_) rfl, all_range_eq hl]
    · by_cases e : xs = ys <;> simp [e]
    · unfold laws_eqShareS_b6
      simp only [idx_nat hi, idx_nat (show i < ys.length by omega), p_eqShare _ _ (hs i hi), Option.bind_some, step1 i _ hi (by omega)]
      rw [if_pos (by omega), List.getElem?_eq_getElem hi, List.getElem?_eq_getElem (show i < ys.length by omega)]
      simp
    · unfold laws_eqShareS_b6
      rw [if_neg (by omega)]
      rfl
def readsGood (xs : List TRange) : Bool := decide (xs.length ≤ 16) && xs.all rangeOk
theorem p_readsOk_1 (a : TRange) : m_impl_readsOk_1 a = some (!rangeOk a) := by
  unfold m_impl_readsOk_1; simp [p_impl_RangeOk]
theorem p_Contains_readsOk (xs : List TRange) (h : xs.length ≤ 1048576) : m_slices_ContainsFunc_Range__readsOk_1 xs = some (xs.any fun c => !rangeOk c) := by
  unfold m_slices_ContainsFunc_Range__readsOk_1 m_slices_IndexFunc_Range__readsOk_1
  rw [iter_index xs (fun c => !rangeOk c) (by omega) (fun kb i hi => ?_) (fun kb => ?_)]
  · simp [idxOf_nonneg]
  · unfold slices_IndexFunc_Range__readsOk_1_b4
    simp only [idx_nat hi, p_readsOk_1, Option.bind_some, step1 i _ hi (by omega)]
    rw [if_pos (by omega)]
  · unfold slices_IndexFunc_Range__readsOk_1_b4
    rw [if_neg (by omega)]; rfl
theorem any_not {α : Type} (p : α → Bool) (xs : List α) : (xs.any fun c => !p c) = !xs.all p := by rw [List.any_eq_not_all_not]; simp
theorem p_readsOk (xs : List TRange) (h : xs.length ≤ 1048576) : m_impl_readsOk xs = some (readsGood xs) := by
  unfold m_impl_readsOk readsGood
  simp only [p_Contains_readsOk _ h, any_not, Option.bind_some]
  by_cases c : xs.length ≤ 16
  · rw [if_pos (by omega)]; simp [c]
  · rw [if_neg (by omega)]; simp [c]
def shareGood (xs : List TShare) (i : Nat) : Bool := match xs[i]? with
  | some s => within s.Group 0 3 && (i == 0 || (match xs[i - 1]? with | some p => decide (p.Group < s.Group) | none => true)) && readsGood s.Reads && writesGood s.Writes && within s.Vote 0 2
  | none => true
def sharesGood (xs : List TShare) : Bool := decide (xs.length ≤ 4) && (List.range xs.length).all (shareGood xs)
theorem p_reads_loop {R : Type} (s : TShare) (kx : Unit → Option Bool) (h : s.Reads.length ≤ 1048576) : iter (spec_SharesOk_b15 s kx) FU 0 = if s.Reads.all rangeOk = true then kx () else some false := by
  refine iter_every s.Reads rangeOk (some false) (kx ()) (by omega) (fun kb i hi => ?_) (fun kb => ?_)
  · unfold spec_SharesOk_b15
    simp only [idx_nat hi, p_spec_RangeOk, Option.bind_some, step1 i _ hi (by omega)]
    rw [if_pos (by omega)]
  · unfold spec_SharesOk_b15
    rw [if_neg (by omega)]
theorem p_spec_SharesOk (xs : List TShare) (h : size_ShareS xs ≤ 1048576) : m_spec_SharesOk xs = some (sharesGood xs) := by
  obtain ⟨hl, hs⟩ := small_ShareS h
  unfold m_spec_SharesOk sharesGood
  split
  · rename_i h1
    have : ¬ xs.length ≤ 4 := by omega
    simp [this]
  · rename_i h1
    have h4 : xs.length ≤ 4 := by omega
    rw [iter_good (s0 := (0 : Int)) (fun i => (i : Int)) (shareGood xs) (some false) (some true) xs.length (by omega) (fun kb i hi => ?_) (fun kb => ?_) rfl]
    · simp only [h4, decide_true, Bool.true_and]; split <;> simp_all
    · have hsi := hs i hi
      have hr : xs[i].Reads.length ≤ 1048576 := by unfold size_Share at hsi; omega
      have hw : xs[i].Writes.length ≤ 1048576 := by unfold size_Share at hsi; omega
      unfold spec_SharesOk_b5 spec_SharesOk_j12 shareGood
      simp only [idx_nat hi, p_l1In, p_spec_WritesOk _ hw, p_reads_loop (R := Bool) _ _ hr, spec_SharesOk_j8, Option.bind_some, step1 i _ hi (by omega), List.getElem?_eq_getElem hi, readsGood]
      rw [if_pos (by omega)]
      have e16 : (16 < (xs[i].Reads.length : Int)) ↔ ¬ xs[i].Reads.length ≤ 16 := by omega
      simp only [e16]
      cases within xs[i].Group 0 3 <;> simp
      cases hwg : writesGood xs[i].Writes <;> cases hv : within xs[i].Vote 0 2 <;> by_cases c16 : xs[i].Reads.length ≤ 16 <;> cases hall : xs[i].Reads.all rangeOk <;>
        (by_cases h0 : 0 < i
         · have h2 : IntKind.wrap .i64 ((i : Int) - 1) = ((i - 1 : Nat) : Int) := by rw [w64 (by omega) (by omega)]; omega
           have h3 : i - 1 < xs.length := by omega
           have h4 : ¬ i = 0 := by omega
           have h16 : ¬ 16 < xs[i].Reads.length ↔ xs[i].Reads.length ≤ 16 := by omega
           simp only [h0, if_true, h2, idx_nat h3, Option.bind_some, List.getElem?_eq_getElem h3, h4, false_or]
           by_cases h5 : xs[i].Group ≤ xs[i - 1].Group
           · have : ¬ xs[i - 1].Group < xs[i].Group := by omega
             simp [h5, this]
           · have : xs[i - 1].Group < xs[i].Group := by omega
             first
             | (simp [h5, this, c16]; done)
             | (simp [h5, this, c16]; intro hh; omega)
             | (simp [h5, this, c16, hall]; done)
         · have h4 : i = 0 := by omega
           subst h4
           first
           | (simp [c16]; done)
           | (simp [c16]; intro hh; omega)
           | (simp [c16, hall]; done))
    · unfold spec_SharesOk_b5
      rw [if_neg (by omega)]; rfl
theorem p_impl_SharesOk (xs : List TShare) (h : size_ShareS xs ≤ 1048576) : m_impl_SharesOk xs = some (sharesGood xs) := by
  obtain ⟨hl, hs⟩ := small_ShareS h
  unfold m_impl_SharesOk sharesGood
  rw [iter_good (s0 := (0 : Int)) (fun i => (i : Int)) (shareGood xs) (some false) (some (decide (xs.length ≤ 4))) xs.length (by omega) (fun kb i hi => ?_) (fun kb => ?_) rfl]
  · split <;> simp_all
  · have hsi := hs i hi
    have hr : xs[i].Reads.length ≤ 1048576 := by unfold size_Share at hsi; omega
    have hw : xs[i].Writes.length ≤ 1048576 := by unfold size_Share at hsi; omega
    unfold impl_SharesOk_b4 impl_SharesOk_j9 shareGood
    simp only [idx_nat hi, p_isGroup, p_from, p_impl_WritesOk _ hw, p_readsOk _ hr, Option.bind_some, step1 i _ hi (by omega), List.getElem?_eq_getElem hi]
    rw [if_pos (by omega)]
    cases within xs[i].Group 0 3 <;> simp
    cases hwg : writesGood xs[i].Writes <;> cases hv : within xs[i].Vote 0 2 <;> cases hrg : readsGood xs[i].Reads <;>
      (by_cases h0 : 0 < i
       · have h2 : IntKind.wrap .i64 ((i : Int) - 1) = ((i - 1 : Nat) : Int) := by rw [w64 (by omega) (by omega)]; omega
         have h3 : i - 1 < xs.length := by omega
         have h4 : ¬ i = 0 := by omega
         simp only [h0, if_true, h2, idx_nat h3, Option.bind_some, List.getElem?_eq_getElem h3, h4, false_or]
         by_cases h5 : xs[i].Group ≤ xs[i - 1].Group
         · have : ¬ xs[i - 1].Group < xs[i].Group := by omega
           simp [h5, this]
         · have : xs[i - 1].Group < xs[i].Group := by omega
           simp [h5, this]
       · have h4 : i = 0 := by omega
         subst h4
         simp)
  · unfold impl_SharesOk_b4 impl_SharesOk_j2
    rw [if_neg (by omega)]
    have : ((xs.length : Int) ≤ 4) ↔ xs.length ≤ 4 := by omega
    simp [this]
theorem sharesGood_at {xs : List TShare} (H : sharesGood xs = true) : xs.length ≤ 4 ∧ ∀ s ∈ xs, within s.Vote 0 2 = true := by
  unfold sharesGood at H
  simp only [Bool.and_eq_true, decide_eq_true_eq, List.all_eq_true, List.mem_range] at H
  refine ⟨H.1, fun s hs => ?_⟩
  obtain ⟨i, hi, rfl⟩ := List.mem_iff_getElem.1 hs
  have h := H.2 i hi
  unfold shareGood at h
  simp only [List.getElem?_eq_getElem hi, Bool.and_eq_true] at h
  exact h.2
def voteB (z : Int) (s : TShare) : Bool := decide (s.Vote = z)
theorem p_l14Votes (xs : List TShare) (z : Int) (h : xs.length ≤ 1048576) : m_spec_l14Votes xs z = some ((xs.countP (voteB z) : Nat) : Int) := by
  unfold m_spec_l14Votes
  refine iter_all (s0 := ((0 : Int), (0 : Int))) (fun i => ((((xs.take i).countP (voteB z) : Nat) : Int), (i : Int))) _ xs.length (by omega) (fun kb i hi => ?_) (fun kb => ?_) (by simp)
  · unfold spec_l14Votes_b5
    have hc := cnt_le (voteB z) xs i
    simp only [idx_nat hi, Option.bind_some, step1 i _ hi (by omega), cnt_step _ hi]
    rw [if_pos (by omega), w64 (by omega) (by omega)]
    by_cases c : xs[i].Vote = z
    · simp [c, voteB]
    · simp [c, voteB]
  · unfold spec_l14Votes_b5 spec_l14Votes_j3
    rw [if_neg (by simp)]
    simp
theorem p_votes (xs : List TShare) (z : Int) (h : xs.length ≤ 1048576) : m_impl_votes xs z = some (xs.any (voteB z)) := by
  unfold m_impl_votes m_slices_ContainsFunc_Share__votes_1 m_slices_IndexFunc_Share__votes_1
  rw [iter_index xs (voteB z) (by omega) (fun kb i hi => ?_) (fun kb => ?_)]
  · simp [idxOf_nonneg]
  · unfold slices_IndexFunc_Share__votes_1_b5 m_impl_votes_1
    simp only [idx_nat hi, Option.bind_some, step1 i _ hi (by omega)]
    rw [if_pos (by omega)]
    rfl
  · unfold slices_IndexFunc_Share__votes_1_b5
    rw [if_neg (by omega)]; rfl
theorem cnt_none {xs : List TShare} (H : ∀ s ∈ xs, within s.Vote 0 2 = true) : (((xs.countP (voteB 0) : Nat) : Int) = (xs.length : Int)) ↔ (xs.any (voteB 1) = false ∧ xs.any (voteB 2) = false) := by
  have e : (((xs.countP (voteB 0) : Nat) : Int) = (xs.length : Int)) ↔ xs.countP (voteB 0) = xs.length := by omega
  rw [e, List.countP_eq_length, List.any_eq_false, List.any_eq_false]
  constructor
  · intro h
    refine ⟨fun s hs => ?_, fun s hs => ?_⟩ <;> have := h s hs <;> unfold voteB at this ⊢ <;> simp at this ⊢ <;> omega
  · intro ⟨h1, h2⟩ s hs
    have a := h1 s hs; have b := h2 s hs; have c := H s hs
    unfold voteB within at *
    simp at a b c ⊢
    omega
theorem p_szCellS (xs : List TCell) (h : xs.length ≤ maxLen) (z : Int) (h1 : 0 ≤ z) (h2 : z ≤ 1048576) : m_laws_szCellS xs z = some (if z < xs.length then -1 else z - xs.length) := by
  unfold m_laws_szCellS
  have : IntKind.wrap .i64 (z - (xs.length : Int)) = z - xs.length := by unfold maxLen at h; exact w64 (by omega) (by omega)
  rw [this]
  split <;> split <;> first | rfl | omega
theorem p_toCellS (xs : List TCell) (h : xs.length ≤ 1048576) : m_laws_toCellS xs = some xs := by
  unfold m_laws_toCellS
  rw [if_pos ⟨by omega, by omega⟩]
  simp only [Int.toNat_natCast]
  refine iter_copy xs _ laws_toCellS_j3 (by omega) (fun kb ys i hi hy => ?_) (fun kb ys => ?_)
  · unfold laws_toCellS_b5
    simp only [idx_nat hi, idx_nat (show i < ys.length by omega), m_laws_toCell, Option.bind_some, Int.toNat_natCast, step1 i _ hi (by omega)]
    rw [if_pos (by omega)]
  · unfold laws_toCellS_b5
    rw [if_neg (by omega)]
theorem p_eqCell (a b : TCell) : m_laws_eqCell a b = some (decide (a = b)) := by
  unfold m_laws_eqCell
  cases a; cases b
  simp only [TCell.mk.injEq]
  repeat' split
  all_goals simp_all
theorem p_eqCellS (xs ys : List TCell) (h : xs.length ≤ 1048576) : m_laws_eqCellS xs ys = some (decide (xs = ys)) := by
  unfold m_laws_eqCellS
  split
  · rename_i hl
    have : ¬ xs = ys := fun e => hl (by rw [e])
    simp [this]
  · rename_i hl
    have hl : xs.length = ys.length := by omega
    rw [iter_good (s0 := (0 : Int)) (fun i => (i : Int)) (fun i => decide (xs[i]? = ys[i]?)) (some false) (some true) xs.length (by omega) (fun kb i hi => ?_) (fun kb => ?_) rfl, all_range_eq hl]
    · by_cases e : xs = ys <;> simp [e]
    · unfold laws_eqCellS_b6
      simp only [idx_nat hi, idx_nat (show i < ys.length by omega), p_eqCell, Option.bind_some, step1 i _ hi (by omega)]
      rw [if_pos (by omega), List.getElem?_eq_getElem hi, List.getElem?_eq_getElem (show i < ys.length by omega)]
      simp
    · unfold laws_eqCellS_b6
      rw [if_neg (by omega)]
      rfl
def size_Letter (x : TLetter) : Nat := x.Reads.length + x.Writes.length + x.Cells.length + size_ShareS x.Shares
theorem p_szLetter (x : TLetter) (h : ok_TLetter x) (z : Int) (h1 : 0 ≤ z) (h2 : z ≤ 1048576) : m_laws_szLetter x z = some (if z < (size_Letter x : Int) then -1 else z - (size_Letter x : Int)) := by
  unfold ok_TLetter at h
  obtain ⟨o0, o1, o2, o3, o4, o5, o6, o7, o8, o9, o10, o11, o12, o13⟩ := h
  unfold m_laws_szLetter size_Letter
  rw [p_szRangeS x.Reads o10.1 _ (by omega) (by omega)]
  simp only [Option.bind_some]
  by_cases c0 : z < (x.Reads.length : Int)
  · rw [if_pos c0, if_pos (by omega)]; try rw [if_pos (by omega)]
  rw [if_neg c0, if_neg (by omega)]
  rw [p_szWriteS x.Writes o11.1 _ (by omega) (by omega)]
  simp only [Option.bind_some]
  by_cases c1 : z - (x.Reads.length : Int) < (x.Writes.length : Int)
  · rw [if_pos c1, if_pos (by omega)]; try rw [if_pos (by omega)]
  rw [if_neg c1, if_neg (by omega)]
  rw [p_szCellS x.Cells o12.1 _ (by omega) (by omega)]
  simp only [Option.bind_some]
  by_cases c2 : z - (x.Reads.length : Int) - (x.Writes.length : Int) < (x.Cells.length : Int)
  · rw [if_pos c2, if_pos (by omega)]; try rw [if_pos (by omega)]
  rw [if_neg c2, if_neg (by omega)]
  rw [p_szShareS x.Shares o13 _ (by omega) (by omega)]
  simp only [Option.bind_some]
  by_cases c3 : z - (x.Reads.length : Int) - (x.Writes.length : Int) - (x.Cells.length : Int) < (size_ShareS x.Shares : Int)
  · rw [if_pos c3, if_pos (by omega)]; try rw [if_pos (by omega)]
  rw [if_neg c3, if_neg (by omega)]
  try rw [if_neg (by omega)]
  try (congr 1; omega)
theorem p_toLetter (x : TLetter) (h : size_Letter x ≤ 1048576) : m_laws_toLetter x = some x := by
  unfold m_laws_toLetter
  simp only [p_toRangeS _ (show x.Reads.length ≤ 1048576 by unfold size_Letter at h; omega), p_toWriteS _ (show x.Writes.length ≤ 1048576 by unfold size_Letter at h; omega), p_toCellS _ (show x.Cells.length ≤ 1048576 by unfold size_Letter at h; omega), p_toShareS _ (show size_ShareS x.Shares ≤ 1048576 by unfold size_Letter at h; omega), Option.bind_some]
theorem p_eqLetter (x y : TLetter) (h : size_Letter x ≤ 1048576) : m_laws_eqLetter x y = some (decide (x = y)) := by
  unfold m_laws_eqLetter
  simp only [p_eqRangeS _ _ (show x.Reads.length ≤ 1048576 by unfold size_Letter at h; omega), p_eqWriteS _ _ (show x.Writes.length ≤ 1048576 by unfold size_Letter at h; omega), p_eqCellS _ _ (show x.Cells.length ≤ 1048576 by unfold size_Letter at h; omega), p_eqShareS _ _ (show size_ShareS x.Shares ≤ 1048576 by unfold size_Letter at h; omega), Option.bind_some]
  have ne : ∀ {p : Prop}, (x = y → p) → ¬ p → some false = some (decide (x = y)) := fun f n => by rw [decide_eq_false fun e => n (f e)]
  by_cases eKind : x.Kind = y.Kind
  case neg => rw [if_pos eKind]; exact ne (congrArg TLetter.Kind) eKind
  rw [if_neg (not_not_intro eKind)]
  by_cases eGroup : x.Group = y.Group
  case neg => rw [if_pos eGroup]; exact ne (congrArg TLetter.Group) eGroup
  rw [if_neg (not_not_intro eGroup)]
  by_cases eClient : x.Client = y.Client
  case neg => rw [if_pos eClient]; exact ne (congrArg TLetter.Client) eClient
  rw [if_neg (not_not_intro eClient)]
  by_cases eReq : x.Req = y.Req
  case neg => rw [if_pos eReq]; exact ne (congrArg TLetter.Req) eReq
  rw [if_neg (not_not_intro eReq)]
  by_cases eTx : x.Tx = y.Tx
  case neg => rw [if_pos eTx]; exact ne (congrArg TLetter.Tx) eTx
  rw [if_neg (not_not_intro eTx)]
  by_cases eLo : x.Lo = y.Lo
  case neg => rw [if_pos eLo]; exact ne (congrArg TLetter.Lo) eLo
  rw [if_neg (not_not_intro eLo)]
  by_cases eHi : x.Hi = y.Hi
  case neg => rw [if_pos eHi]; exact ne (congrArg TLetter.Hi) eHi
  rw [if_neg (not_not_intro eHi)]
  by_cases eRank : x.Rank = y.Rank
  case neg => rw [if_pos eRank]; exact ne (congrArg TLetter.Rank) eRank
  rw [if_neg (not_not_intro eRank)]
  by_cases eCode : x.Code = y.Code
  case neg => rw [if_pos eCode]; exact ne (congrArg TLetter.Code) eCode
  rw [if_neg (not_not_intro eCode)]
  by_cases eYes : x.Yes = y.Yes
  case neg => rw [if_pos (by simpa using eYes)]; exact ne (congrArg TLetter.Yes) eYes
  rw [if_neg (by simpa using eYes)]
  by_cases eReads : x.Reads = y.Reads
  case neg => rw [if_neg (by simpa using eReads)]; exact ne (congrArg TLetter.Reads) eReads
  rw [if_pos (by simpa using eReads)]
  by_cases eWrites : x.Writes = y.Writes
  case neg => rw [if_neg (by simpa using eWrites)]; exact ne (congrArg TLetter.Writes) eWrites
  rw [if_pos (by simpa using eWrites)]
  by_cases eCells : x.Cells = y.Cells
  case neg => rw [if_neg (by simpa using eCells)]; exact ne (congrArg TLetter.Cells) eCells
  rw [if_pos (by simpa using eCells)]
  by_cases eShares : x.Shares = y.Shares
  case neg => rw [if_neg (by simpa using eShares)]; exact ne (congrArg TLetter.Shares) eShares
  rw [if_pos (by simpa using eShares)]
  rw [decide_eq_true]
  cases x; cases y
  simp only at eKind eGroup eClient eReq eTx eLo eHi eRank eCode eYes eReads eWrites eCells eShares
  subst eKind eGroup eClient eReq eTx eLo eHi eRank eCode eYes eReads eWrites eCells eShares
  rfl
def hasB (b : ByteArray) (c : Int) : Bool := b.data.toList.any fun x => decide ((x.toNat : Int) = c)
theorem sidx_nat {b : ByteArray} {i : Nat} (h : i < b.data.toList.length) : sidx b (i : Int) = some ((b.data.toList[i].toNat : Nat) : Int) := by
  have h' : i < b.size := Nat.lt_of_lt_of_eq h (Array.length_toList (xs := b.data))
  unfold sidx
  rw [if_pos (by omega)]
  have e : b[(i : Int).toNat]? = some (b[i]'h') := by
    rw [Int.toNat_natCast]
    exact getElem?_pos b i h'
  rw [e]
  rfl
theorem p_l4In (b : ByteArray) (c : Int) (h : b.size ≤ 100) : m_spec_l4In b c = some (hasB b c) := by
  have hl : b.data.toList.length = b.size := Array.length_toList (xs := b.data)
  unfold m_spec_l4In hasB
  rw [iter_any b.data.toList (fun x => decide ((x.toNat : Int) = c)) (some true) (some false) (by omega) (fun kb i hi => ?_) (fun kb => ?_)]
  · cases b.data.toList.any _ <;> rfl
  · unfold spec_l4In_b5
    rw [if_pos (by omega), sidx_nat hi]
    simp only [Option.bind_some, step1 i _ hi (by omega), decide_eq_true_eq]
  · unfold spec_l4In_b5
    rw [if_neg (by omega)]; rfl
theorem p_has (b : ByteArray) (c : Int) (h : b.size ≤ 100) : m_impl_has b c = some (hasB b c) := by
  have hl : b.data.toList.length = b.size := Array.length_toList (xs := b.data)
  unfold m_impl_has hasB
  rw [iter_any b.data.toList (fun x => decide ((x.toNat : Int) = c)) (some true) (some false) (by omega) (fun kb i hi => ?_) (fun kb => ?_)]
  · cases b.data.toList.any _ <;> rfl
  · unfold impl_has_b5
    rw [if_pos (by omega), sidx_nat hi]
    simp only [Option.bind_some, step1 i _ hi (by omega), decide_eq_true_eq]
  · unfold impl_has_b5
    rw [if_neg (by omega)]; rfl
def numB (f : Bool) (x lo hi : Int) : Bool := if f = true then within x lo hi else decide (x = 0)
theorem p_l4Num (f : Bool) (x lo hi : Int) : m_spec_l4Num f x lo hi = some (numB f x lo hi) := by
  unfold m_spec_l4Num numB
  simp only [p_l1In, Option.bind_some]
  cases f <;> simp
  cases within x lo hi <;> rfl
theorem p_numRight (b : ByteArray) (c x lo hi : Int) (h : b.size ≤ 100) : m_impl_numRight b c x lo hi = some (numB (hasB b c) x lo hi) := by
  unfold m_impl_numRight numB
  simp only [p_has b c h, p_from, Option.bind_some]
  cases hasB b c <;> simp
def votesB (xs : List TShare) : Bool := !xs.any (voteB 1) && !xs.any (voteB 2)
def tailB (R W C S : Bool) (x : TLetter) : Bool := readsGood x.Reads && (R || decide (x.Reads.length = 0)) && (writesGood x.Writes && (W || decide (x.Writes.length = 0))) && (storeGood x.Cells && (C || decide (x.Cells.length = 0))) && (sharesGood x.Shares && (S || decide (x.Shares.length = 0)) && votesB x.Shares)
def rangeB (r : Bool) (x : TLetter) : Bool := if r = true then rangeOk ⟨x.Lo, x.Hi⟩ else decide (x.Lo = 0) && decide (x.Hi = 0)
def letterB (g c q t n k y r R W C S : Bool) (x : TLetter) : Bool := numB g x.Group 0 3 && numB c x.Client 0 5 && numB q x.Req 1 1000000000 && numB t x.Tx 1 60 && (numB n x.Rank 1 1000000 && numB k x.Code 0 7) && (y || !x.Yes) && rangeB r x && tailB R W C S x
theorem p_spec_j13 (x : TLetter) (h : size_Letter x ≤ 1048576) : spec_LetterOk_j13 x false = if x.Reads.all rangeOk = true then some (decide (((x.Shares.countP (voteB 0) : Nat) : Int) = (x.Shares.length : Int))) else some false := by
  have hr : x.Reads.length ≤ 1048576 := by unfold size_Letter at h; omega
  have hs : x.Shares.length ≤ 1048576 := by unfold size_Letter size_ShareS at h; omega
  unfold spec_LetterOk_j13
  rw [if_neg (by simp)]
  refine iter_every x.Reads rangeOk (some false) _ (by omega) (fun kb i hi => ?_) (fun kb => ?_)
  · unfold spec_LetterOk_b20
    simp only [idx_nat hi, p_spec_RangeOk, Option.bind_some, step1 i _ hi (by omega)]
    rw [if_pos (by omega)]
  · unfold spec_LetterOk_b20 spec_LetterOk_j16
    rw [if_neg (by omega)]
    simp only [p_l14Votes _ _ hs, Option.bind_some]
theorem p_spec_j10 (x : TLetter) (b : ByteArray) (hb : b.size ≤ 100) (h : size_Letter x ≤ 1048576) : spec_LetterOk_j10 x b false = some (tailB (hasB b 82) (hasB b 87) (hasB b 67) (hasB b 83) x) := by
  have hw : x.Writes.length ≤ 1048576 := by unfold size_Letter at h; omega
  have hc : x.Cells.length ≤ 1048576 := by unfold size_Letter at h; omega
  have hs : size_ShareS x.Shares ≤ 1048576 := by unfold size_Letter at h; omega
  have J : spec_LetterOk_j13 x true = some false := rfl
  unfold spec_LetterOk_j10
  rw [if_neg (by simp)]
  simp only [p_l4In b _ hb, p_spec_WritesOk _ hw, p_spec_StoreOk _ hc, p_spec_SharesOk _ hs, Option.bind_some, J]
  unfold tailB readsGood
  by_cases h16 : 16 < (x.Reads.length : Int)
  · have : ¬ x.Reads.length ≤ 16 := by omega
    simp [h16, this]
  · have h16' : x.Reads.length ≤ 16 := by omega
    have z1 : (0 < (x.Reads.length : Int)) ↔ ¬ x.Reads.length = 0 := by omega
    have z2 : (0 < (x.Writes.length : Int)) ↔ ¬ x.Writes.length = 0 := by omega
    have z3 : (0 < (x.Cells.length : Int)) ↔ ¬ x.Cells.length = 0 := by omega
    have z4 : (0 < (x.Shares.length : Int)) ↔ ¬ x.Shares.length = 0 := by omega
    have F : sharesGood x.Shares = true → spec_LetterOk_j13 x false = some (x.Reads.all rangeOk && votesB x.Shares) := fun hg => by
      have := cnt_none (sharesGood_at hg).2
      rw [p_spec_j13 x h]
      unfold votesB
      simp only [this]
      cases x.Reads.all rangeOk <;> cases x.Shares.any (voteB 1) <;> cases x.Shares.any (voteB 2) <;> rfl
    simp only [h16, if_false, h16', decide_true, Bool.true_and, z1, z2, z3, z4]
    cases hasB b 82 <;> by_cases y1 : x.Reads.length = 0 <;> simp only [y1, decide_true, decide_false, Bool.false_or, Bool.true_or, Bool.and_true, Bool.and_false, Bool.false_and, if_true, if_false, not_true, not_false_eq_true, Bool.false_eq_true, Bool.true_eq_false, Bool.or_true, Bool.or_false, Bool.or_self, reduceCtorEq]
    all_goals
      cases writesGood x.Writes <;> cases hasB b 87 <;> by_cases y2 : x.Writes.length = 0 <;> simp only [y2, decide_true, decide_false, Bool.false_or, Bool.true_or, Bool.and_true, Bool.and_false, Bool.false_and, if_true, if_false, not_true, not_false_eq_true, Bool.false_eq_true, Bool.true_eq_false, Bool.or_true, Bool.or_false, Bool.or_self, reduceCtorEq, J]
    all_goals
      cases storeGood x.Cells <;> cases hasB b 67 <;> by_cases y3 : x.Cells.length = 0 <;> simp only [y3, decide_true, decide_false, Bool.false_or, Bool.true_or, Bool.and_true, Bool.and_false, Bool.false_and, if_true, if_false, not_true, not_false_eq_true, Bool.false_eq_true, Bool.true_eq_false, Bool.or_true, Bool.or_false, Bool.or_self, reduceCtorEq, J]
    all_goals
      by_cases hg : sharesGood x.Shares = true <;> cases hasB b 83 <;> by_cases y4 : x.Shares.length = 0 <;> first | simp [y4, J, F hg, hg] | simp [y4, J, hg]
theorem p_spec_j7 (x : TLetter) (b : ByteArray) (hb : b.size ≤ 100) (h : size_Letter x ≤ 1048576) : spec_LetterOk_j7 b x false = some (rangeB (hasB b 114) x && tailB (hasB b 82) (hasB b 87) (hasB b 67) (hasB b 83) x) := by
  have J : spec_LetterOk_j10 x b true = some false := rfl
  unfold spec_LetterOk_j7 rangeB m_spec_l16RangeOk
  rw [if_neg (by simp)]
  simp only [p_l4In b _ hb, p_spec_RangeOk, Option.bind_some]
  cases hasB b 114
  · by_cases c1 : x.Lo = 0 <;> by_cases c2 : x.Hi = 0 <;> simp [c1, c2, J, p_spec_j10 x b hb h]
  · cases rangeOk ⟨x.Lo, x.Hi⟩ <;> simp [J, p_spec_j10 x b hb h]
theorem p_spec_j4 (x : TLetter) (b : ByteArray) (hb : b.size ≤ 100) (h : size_Letter x ≤ 1048576) : spec_LetterOk_j4 b x false = some ((numB (hasB b 110) x.Rank 1 1000000 && numB (hasB b 107) x.Code 0 7) && (hasB b 121 || !x.Yes) && rangeB (hasB b 114) x && tailB (hasB b 82) (hasB b 87) (hasB b 67) (hasB b 83) x) := by
  have J : spec_LetterOk_j7 b x true = some false := rfl
  unfold spec_LetterOk_j4
  rw [if_neg (by simp)]
  simp only [p_l4In b _ hb, p_l4Num, Option.bind_some]
  cases numB (hasB b 110) x.Rank 1 1000000 <;> cases numB (hasB b 107) x.Code 0 7 <;> cases x.Yes <;> cases hasB b 121 <;> simp [J, p_spec_j7 x b hb h]
theorem p_spec_Letter (x : TLetter) (b : ByteArray) (hb : b.size ≤ 100) (he : (b.toList == ByteArray.empty.toList) = false) (hk : m_spec_l16Has x.Kind = some b) (h : size_Letter x ≤ 1048576) : m_spec_LetterOk x = some (letterB (hasB b 103) (hasB b 99) (hasB b 113) (hasB b 116) (hasB b 110) (hasB b 107) (hasB b 121) (hasB b 114) (hasB b 82) (hasB b 87) (hasB b 67) (hasB b 83) x) := by
  have J : spec_LetterOk_j4 b x true = some false := rfl
  unfold m_spec_LetterOk letterB
  rw [hk]
  simp only [Option.bind_some, he, p_l4In b _ hb, p_l4Num, Bool.false_eq_true, if_false]
  cases numB (hasB b 103) x.Group 0 3 <;> cases numB (hasB b 99) x.Client 0 5 <;> cases numB (hasB b 113) x.Req 1 1000000000 <;> cases numB (hasB b 116) x.Tx 1 60 <;> simp [J, p_spec_j4 x b hb h]
theorem p_impl_j7 (x : TLetter) (b : ByteArray) (hb : b.size ≤ 100) (h : size_Letter x ≤ 1048576) : impl_LetterOk_j7 x b false = some (tailB (hasB b 101) (hasB b 87) (hasB b 108) (hasB b 83) x) := by
  have hr : x.Reads.length ≤ 1048576 := by unfold size_Letter at h; omega
  have hw : x.Writes.length ≤ 1048576 := by unfold size_Letter at h; omega
  have hc : x.Cells.length ≤ 1048576 := by unfold size_Letter at h; omega
  have hs : size_ShareS x.Shares ≤ 1048576 := by unfold size_Letter at h; omega
  have hs' : x.Shares.length ≤ 1048576 := by unfold size_ShareS at hs; omega
  have z1 : ((x.Reads.length : Int) = 0) ↔ x.Reads.length = 0 := by omega
  have z2 : ((x.Writes.length : Int) = 0) ↔ x.Writes.length = 0 := by omega
  have z3 : ((x.Cells.length : Int) = 0) ↔ x.Cells.length = 0 := by omega
  have z4 : ((x.Shares.length : Int) = 0) ↔ x.Shares.length = 0 := by omega
  unfold impl_LetterOk_j7
  rw [if_neg (by simp)]
  simp only [p_has b _ hb, p_readsOk _ hr, p_impl_WritesOk _ hw, p_impl_StoreOk _ hc, p_impl_SharesOk _ hs, p_votes _ _ hs', Option.bind_some, z1, z2, z3, z4]
  unfold tailB votesB
  generalize readsGood x.Reads = g1
  generalize writesGood x.Writes = g2
  generalize storeGood x.Cells = g3
  generalize sharesGood x.Shares = g4
  generalize hasB b 101 = f1
  generalize hasB b 87 = f2
  generalize hasB b 108 = f3
  generalize hasB b 83 = f4
  cases g1
  · simp
  cases f1 <;> by_cases y1 : x.Reads.length = 0 <;> simp only [y1, decide_true, decide_false, Bool.false_or, Bool.true_or, Bool.and_true, Bool.true_and, Bool.and_false, Bool.false_and, if_true, if_false, not_true, not_false_eq_true, Bool.false_eq_true, Bool.true_eq_false, Bool.or_true, Bool.or_false, Bool.or_self, reduceCtorEq]
  all_goals
    cases g2 <;> cases f2 <;> by_cases y2 : x.Writes.length = 0 <;> simp only [y2, decide_true, decide_false, Bool.false_or, Bool.true_or, Bool.and_true, Bool.true_and, Bool.and_false, Bool.false_and, if_true, if_false, not_true, not_false_eq_true, Bool.false_eq_true, Bool.true_eq_false, Bool.or_true, Bool.or_false, Bool.or_self, reduceCtorEq]
  all_goals
    cases g3 <;> cases f3 <;> by_cases y3 : x.Cells.length = 0 <;> simp only [y3, decide_true, decide_false, Bool.false_or, Bool.true_or, Bool.and_true, Bool.true_and, Bool.and_false, Bool.false_and, if_true, if_false, not_true, not_false_eq_true, Bool.false_eq_true, Bool.true_eq_false, Bool.or_true, Bool.or_false, Bool.or_self, reduceCtorEq]
  all_goals
    cases g4 <;> cases f4 <;> by_cases y4 : x.Shares.length = 0 <;> simp only [y4, decide_true, decide_false, Bool.false_or, Bool.true_or, Bool.and_true, Bool.true_and, Bool.and_false, Bool.false_and, if_true, if_false, not_true, not_false_eq_true, Bool.false_eq_true, Bool.true_eq_false, Bool.or_true, Bool.or_false, Bool.or_self, reduceCtorEq]
  all_goals
    cases x.Shares.any (voteB 1) <;> rfl
theorem p_impl_j4 (x : TLetter) (b : ByteArray) (hb : b.size ≤ 100) (h : size_Letter x ≤ 1048576) : impl_LetterOk_j4 b x false = some ((hasB b 89 || !x.Yes) && rangeB (hasB b 107) x && tailB (hasB b 101) (hasB b 87) (hasB b 108) (hasB b 83) x) := by
  have J : impl_LetterOk_j7 x b true = some false := rfl
  unfold impl_LetterOk_j4 rangeB
  rw [if_neg (by simp)]
  simp only [p_has b _ hb, p_impl_RangeOk, Option.bind_some]
  cases hasB b 107
  · by_cases c1 : x.Lo = 0 <;> by_cases c2 : x.Hi = 0 <;> cases hasB b 89 <;> cases x.Yes <;> simp [c1, c2, J, p_impl_j7 x b hb h]
  · cases rangeOk ⟨x.Lo, x.Hi⟩ <;> cases hasB b 89 <;> cases x.Yes <;> simp [J, p_impl_j7 x b hb h]
theorem p_impl_Letter (x : TLetter) (b : ByteArray) (hb : b.size ≤ 100) (he : (b.toList == ByteArray.empty.toList) = false) (hk : m_impl_letterHas x.Kind = some b) (h : size_Letter x ≤ 1048576) : m_impl_LetterOk x = some (letterB (hasB b 71) (hasB b 67) (hasB b 82) (hasB b 84) (hasB b 78) (hasB b 99) (hasB b 89) (hasB b 107) (hasB b 101) (hasB b 87) (hasB b 108) (hasB b 83) x) := by
  have J : impl_LetterOk_j4 b x true = some false := rfl
  unfold m_impl_LetterOk letterB
  rw [hk]
  simp only [Option.bind_some, he, p_numRight b _ _ _ _ hb, Bool.false_eq_true, if_false]
  cases numB (hasB b 71) x.Group 0 3 <;> cases numB (hasB b 67) x.Client 0 5 <;> cases numB (hasB b 82) x.Req 1 1000000000 <;> cases numB (hasB b 84) x.Tx 1 60 <;> cases numB (hasB b 78) x.Rank 1 1000000 <;> cases numB (hasB b 99) x.Code 0 7 <;> simp [J, p_impl_j4 x b hb h]
def flagsS (b : ByteArray) : List Bool := [hasB b 103, hasB b 99, hasB b 113, hasB b 116, hasB b 110, hasB b 107, hasB b 121, hasB b 114, hasB b 82, hasB b 87, hasB b 67, hasB b 83]
def flagsF (b : ByteArray) : List Bool := [hasB b 71, hasB b 67, hasB b 82, hasB b 84, hasB b 78, hasB b 99, hasB b 89, hasB b 107, hasB b 101, hasB b 87, hasB b 108, hasB b 83]
theorem letter_kind (x : TLetter) (s f : ByteArray) (h : size_Letter x ≤ 1048576) (hs : m_spec_l16Has x.Kind = some s) (hf : m_impl_letterHas x.Kind = some f) (h1 : s.size ≤ 100) (h2 : f.size ≤ 100) (e1 : (s.toList == ByteArray.empty.toList) = false) (e2 : (f.toList == ByteArray.empty.toList) = false) (e : flagsS s = flagsF f) : ∃ r, m_spec_LetterOk x = some r ∧ m_impl_LetterOk x = some r := by
  refine ⟨_, p_spec_Letter x s h1 e1 hs h, ?_⟩
  rw [p_impl_Letter x f h2 e2 hf h]
  unfold flagsS flagsF at e
  simp only [List.cons.injEq, and_true] at e
  obtain ⟨a1, a2, a3, a4, a5, a6, a7, a8, a9, a10, a11, a12⟩ := e
  rw [a1, a2, a3, a4, a5, a6, a7, a8, a9, a10, a11, a12]
theorem toList_ne {b : ByteArray} (h : b.size ≠ 0) : (b.toList == ByteArray.empty.toList) = false := by
  have key : ∀ (n i : Nat) (r : List UInt8), b.size - i = n → (ByteArray.toList.loop b i r).length = r.length + n := by
    intro n
    induction n with
    | zero =>
      intro i r hn
      unfold ByteArray.toList.loop
      rw [if_neg (by omega)]
      simp
    | succ n ih =>
      intro i r hn
      unfold ByteArray.toList.loop
      rw [if_pos (by omega), ih (i + 1) _ (by omega)]
      simp; omega
  have h0 : ByteArray.empty.toList = [] := by
    unfold ByteArray.toList ByteArray.toList.loop
    rfl
  have hl : b.toList.length = b.size := by
    unfold ByteArray.toList
    rw [key b.size 0 [] (by omega)]
    simp
  rw [h0]
  cases hb : b.toList with
  | nil => rw [hb] at hl; simp at hl; omega
  | cons a as => rfl
theorem p_LetterOk (x : TLetter) (h : size_Letter x ≤ 1048576) : ∃ r, m_spec_LetterOk x = some r ∧ m_impl_LetterOk x = some r := by
  by_cases hk : 1 ≤ x.Kind ∧ x.Kind ≤ 17
  · have hc : x.Kind = 1 ∨ x.Kind = 2 ∨ x.Kind = 3 ∨ x.Kind = 4 ∨ x.Kind = 5 ∨ x.Kind = 6 ∨ x.Kind = 7 ∨ x.Kind = 8 ∨ x.Kind = 9 ∨ x.Kind = 10 ∨ x.Kind = 11 ∨ x.Kind = 12 ∨ x.Kind = 13 ∨ x.Kind = 14 ∨ x.Kind = 15 ∨ x.Kind = 16 ∨ x.Kind = 17 := by omega
    rcases hc with e | e | e | e | e | e | e | e | e | e | e | e | e | e | e | e | e
    all_goals
      refine letter_kind x _ _ h (by rw [e]; rfl) (by rw [e]; rfl) (by decide) (by decide) (toList_ne (by decide)) (toList_ne (by decide)) (by decide)
  · have e1 : m_spec_l16Has x.Kind = some ByteArray.empty := by
      unfold m_spec_l16Has
      have : within x.Kind 1 17 = false := by unfold within; simp; omega
      simp only [p_l1In, this, Option.bind_some, Bool.false_eq_true, if_false]
    have e2 : m_impl_letterHas x.Kind = some ByteArray.empty := by
      unfold m_impl_letterHas
      rw [if_neg (by omega), if_neg (by omega), if_neg (by omega), if_neg (by omega), if_neg (by omega), if_neg (by omega), if_neg (by omega), if_neg (by omega), if_neg (by omega)]
      have a10 : ¬ x.Kind = 10 := by omega
      have a11 : ¬ x.Kind = 11 := by omega
      have a15 : ¬ x.Kind = 15 := by omega
      have a16 : ¬ x.Kind = 16 := by omega
      have a12 : ¬ x.Kind = 12 := by omega
      have a13 : ¬ x.Kind = 13 := by omega
      have a14 : ¬ x.Kind = 14 := by omega
      have a17 : ¬ x.Kind = 17 := by omega
      simp [impl_letterHas_j10, impl_letterHas_j13, a10, a11, a15, a16, a12, a13, a14, a17]
    refine ⟨false, ?_, ?_⟩
    · unfold m_spec_LetterOk
      rw [e1]
      simp only [Option.bind_some, beq_self_eq_true, if_true]
      rfl
    · unfold m_impl_LetterOk
      rw [e2]
      simp only [Option.bind_some, beq_self_eq_true, if_true]
      rfl
theorem p_FnExactLetterOk (a1 : TLetter) (h : ok_TLetter a1) : m_laws_FnExactLetterOk a1 = some true := by
  unfold m_laws_FnExactLetterOk
  rw [p_szLetter a1 h _ (by omega) (by omega)]
  simp only [Option.bind_some]
  split
  · rfl
  · rename_i h1
    have hl : size_Letter a1 ≤ 1048576 := by omega
    obtain ⟨r, e1, e2⟩ := p_LetterOk a1 hl
    simp only [p_toLetter _ hl, e1, e2, p_eqLetter _ _ hl, Option.bind_some, bne_self_eq_false, Bool.false_eq_true, if_false, decide_true, if_true]
    split <;> rfl
end Go.AW
