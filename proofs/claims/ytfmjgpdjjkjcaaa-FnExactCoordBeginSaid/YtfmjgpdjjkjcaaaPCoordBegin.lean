/- Plain laws: what the plain functions answer. Conditions: each theorem's own. -/
import Derived.Test.YtfmjgpdjjkjcaaaMCoordBegin
set_option linter.unusedVariables false
set_option linter.unusedSimpArgs false
set_option maxRecDepth 100000
namespace Go.AW
theorem w64 {n : Int} (h1 : -9223372036854775808 ≤ n) (h2 : n < 9223372036854775808) : IntKind.wrap .i64 n = n := by
  rw [IntKind.wrap_i64]; omega
theorem idx_nat {α : Type} {xs : List α} {i : Nat} (h : i < xs.length) : idx xs (i : Int) = some xs[i] := by
  unfold idx
  rw [if_pos (by omega)]
  simp [h]
theorem idx_ofNat {α : Type} (xs : List α) (i : Nat) : idx xs (i : Int) = xs[i]? := by
  unfold idx
  rw [if_pos (by omega)]
  simp
theorem iter_ex {S R : Type} {f : (S → Option R) → S → Option R} (st : Nat → S) (stop : Nat → Option (Option R)) (k : Option R) (n : Nat)
    (hs : ∀ kb i, i < n → (∀ j, j < i → stop j = none) → f kb (st i) = match stop i with | some r => r | none => kb (st (i + 1))) (he : ∀ kb, (∀ j, j < n → stop j = none) → f kb (st n) = k) :
    ∀ (m i : Nat), i ≤ n → (∀ j, j < i → stop j = none) → n - i < m → iter f m (st i) = match ((List.range n).drop i).findSome? stop with | some r => r | none => k
  | 0, i, _, _, h => by omega
  | m + 1, i, hi, hp, h => by
    unfold iter
    by_cases e : i = n
    · subst e
      rw [he _ hp]
      simp [List.drop_eq_nil_of_le]
    · have hlt : i < n := by omega
      rw [hs _ i hlt hp, List.drop_eq_getElem_cons (by simpa using hlt)]
      simp only [List.getElem_range, List.findSome?_cons]
      cases hq : stop i with
      | some r => rfl
      | none => exact iter_ex st stop k n hs he m (i + 1) (by omega) (fun j hj => by
          by_cases e' : j = i
          · subst e'; exact hq
          · exact hp j (by omega)) (by omega)
theorem iter_stopH {S R : Type} {f : (S → Option R) → S → Option R} (st : Nat → S) (stop : Nat → Option (Option R)) (k : Option R) (n : Nat) (hn : n ≤ 1152921504606846976)
    (hs : ∀ kb i, i < n → (∀ j, j < i → stop j = none) → f kb (st i) = match stop i with | some r => r | none => kb (st (i + 1))) (he : ∀ kb, (∀ j, j < n → stop j = none) → f kb (st n) = k) {s0 : S} (h0 : s0 = st 0) :
    iter f FU s0 = match (List.range n).findSome? stop with | some r => r | none => k := by
  subst h0
  have := iter_ex st stop k n hs he FU 0 (by omega) (fun j hj => by omega) (by unfold FU; omega)
  simpa using this
theorem iter_stop {S R : Type} {f : (S → Option R) → S → Option R} (st : Nat → S) (stop : Nat → Option (Option R)) (k : Option R) (n : Nat) (hn : n ≤ 1152921504606846976)
    (hs : ∀ kb i, i < n → f kb (st i) = match stop i with | some r => r | none => kb (st (i + 1))) (he : ∀ kb, f kb (st n) = k) {s0 : S} (h0 : s0 = st 0) :
    iter f FU s0 = match (List.range n).findSome? stop with | some r => r | none => k :=
  iter_stopH st stop k n hn (fun kb i hi _ => hs kb i hi) (fun kb _ => he kb) h0
theorem iter_all {S R : Type} {f : (S → Option R) → S → Option R} (st : Nat → S) (k : Option R) (n : Nat) (hn : n ≤ 1152921504606846976)
    (hs : ∀ kb i, i < n → f kb (st i) = kb (st (i + 1))) (he : ∀ kb, f kb (st n) = k) {s0 : S} (h0 : s0 = st 0) : iter f FU s0 = k := by
  rw [iter_stop st (fun _ => none) k n hn (fun kb i hi => hs kb i hi) he h0]
  have : (List.range n).findSome? (fun _ => (none : Option (Option R))) = none := by
    rw [List.findSome?_eq_none_iff]; intro x _; rfl
  rw [this]
theorem iter_goodH {S R : Type} {f : (S → Option R) → S → Option R} (st : Nat → S) (good : Nat → Bool) (r k : Option R) (n : Nat) (hn : n ≤ 1152921504606846976)
    (hs : ∀ kb i, i < n → (∀ j, j < i → good j = true) → f kb (st i) = if good i = true then kb (st (i + 1)) else r) (he : ∀ kb, (∀ j, j < n → good j = true) → f kb (st n) = k) {s0 : S} (h0 : s0 = st 0) :
    iter f FU s0 = if (List.range n).all good = true then k else r := by
  have tr : ∀ j, (if good j = true then (none : Option (Option R)) else some r) = none → good j = true := fun j h => by
    split at h
    · assumption
    · cases h
  rw [iter_stopH st (fun i => if good i = true then none else some r) k n hn (fun kb i hi hp => by rw [hs kb i hi (fun j hj => tr j (hp j hj))]; split <;> rfl) (fun kb hp => he kb (fun j hj => tr j (hp j hj))) h0]
  by_cases e : (List.range n).all good = true
  · have : (List.range n).findSome? (fun i => if good i = true then none else some r) = none := by
      rw [List.findSome?_eq_none_iff]
      intro x hx
      rw [List.all_eq_true] at e
      simp [e x hx]
    rw [this, if_pos e]
  · rw [if_neg e]
    cases h : (List.range n).findSome? (fun i => if good i = true then none else some r) with
    | none =>
      exfalso
      apply e
      rw [List.all_eq_true]
      intro x hx
      rw [List.findSome?_eq_none_iff] at h
      exact tr x (h x hx)
    | some q =>
      obtain ⟨x, hx, hq⟩ := List.exists_of_findSome?_eq_some h
      split at hq
      · cases hq
      · cases hq; rfl
theorem iter_good {S R : Type} {f : (S → Option R) → S → Option R} (st : Nat → S) (good : Nat → Bool) (r k : Option R) (n : Nat) (hn : n ≤ 1152921504606846976)
    (hs : ∀ kb i, i < n → f kb (st i) = if good i = true then kb (st (i + 1)) else r) (he : ∀ kb, f kb (st n) = k) {s0 : S} (h0 : s0 = st 0) :
    iter f FU s0 = if (List.range n).all good = true then k else r :=
  iter_goodH st good r k n hn (fun kb i hi _ => hs kb i hi) (fun kb _ => he kb) h0
theorem iter_copy {α R : Type} {f : (List α × Int → Option R) → List α × Int → Option R} (xs : List α) (z : α) (k : List α → Option R) (hn : xs.length ≤ 2147483648)
    (hs : ∀ kb (ys : List α) (i : Nat) (hi : i < xs.length), ys.length = xs.length → f kb (ys, (i : Int)) = kb (ys.set i xs[i], ((i + 1 : Nat) : Int)))
    (he : ∀ kb (ys : List α), f kb (ys, (xs.length : Int)) = k ys) : iter f FU (List.replicate xs.length z, 0) = k xs := by
  refine iter_all (fun i => (xs.take i ++ List.replicate (xs.length - i) z, (i : Int))) _ xs.length (by omega) (fun kb i hi => ?_) (fun kb => ?_) (by simp)
  · rw [hs kb _ i hi (by simp; omega)]
    congr 2
    have : xs.length - i = (xs.length - (i + 1)) + 1 := by omega
    have hk : min i xs.length = i := by omega
    show _ = (List.take (i + 1) xs ++ _)
    rw [this, List.replicate_succ, List.set_append_right _ _ (by simp; omega), show List.take (i + 1) xs = List.take i xs ++ [xs[i]] from List.take_succ_eq_append_getElem hi]
    simp only [List.length_take, hk, Nat.sub_self, List.set_cons_zero]
    rw [List.append_assoc]
    rfl
  · rw [he]
    simp
theorem all_range_eq {α : Type} [DecidableEq α] {xs ys : List α} (h : xs.length = ys.length) : (List.range xs.length).all (fun i => decide (xs[i]? = ys[i]?)) = decide (xs = ys) := by
  by_cases e : xs = ys
  · subst e; simp
  · rw [decide_eq_false e, List.all_eq_false]
    apply Classical.byContradiction
    intro hc
    apply e
    apply List.ext_getElem? 
    intro i
    by_cases hi : i < xs.length
    · apply Classical.byContradiction
      intro hne
      exact hc ⟨i, List.mem_range.2 hi, by simpa using hne⟩
    · rw [List.getElem?_eq_none (by omega), List.getElem?_eq_none (by omega)]
theorem step1 (i : Nat) (n : Nat) (h : i < n) (hn : n ≤ 1152921504606846976) : IntKind.wrap .i64 ((i : Int) + 1) = ((i + 1 : Nat) : Int) := by
  rw [w64 (by omega) (by omega)]; omega
def idxOf {α : Type} (p : α → Bool) (xs : List α) : Int := match xs.findIdx? p with
  | some k => (k : Int)
  | none => -1
theorem idxOf_nonneg {α : Type} (p : α → Bool) (xs : List α) : decide (0 ≤ idxOf p xs) = xs.any p := by
  unfold idxOf
  cases h : xs.findIdx? p with
  | none =>
    rw [List.findIdx?_eq_none_iff] at h
    have : xs.any p = false := by rw [List.any_eq_false]; intro x hx; simp [h x hx]
    simp [this]
  | some k =>
    rw [List.findIdx?_eq_some_iff_getElem] at h
    obtain ⟨hk, hp, _⟩ := h
    have : xs.any p = true := List.any_eq_true.2 ⟨xs[k], List.getElem_mem hk, hp⟩
    simp [this]
theorem iter_index {α : Type} (xs : List α) (p : α → Bool) {f : (Int → Option Int) → Int → Option Int} (hn : xs.length ≤ 1152921504606846976)
    (hs : ∀ kb (i : Nat) (hi : i < xs.length), f kb (i : Int) = if p xs[i] = true then some (i : Int) else kb ((i + 1 : Nat) : Int)) (he : ∀ kb, f kb (xs.length : Int) = some (-1)) : iter f FU 0 = some (idxOf p xs) := by
  rw [iter_stop (s0 := (0 : Int)) (fun i => (i : Int)) (fun i : Nat => (xs[i]?).bind fun x => if p x = true then some (some (i : Int)) else none) (some (-1)) xs.length hn (fun kb i hi => ?_) (fun kb => he kb) rfl]
  · have key : ∀ (ys : List α) (o : Nat), (List.range ys.length).findSome? (fun i : Nat => (ys[i]?).bind fun x => if p x = true then some (some ((o + i : Nat) : Int)) else none) = (ys.findIdx? p).map fun k => some ((o + k : Nat) : Int) := by
      intro ys
      induction ys with
      | nil => intro o; rfl
      | cons y ys ih =>
        intro o
        rw [List.length_cons, List.range_succ_eq_map, List.findSome?_cons, List.findSome?_map, List.findIdx?_cons]
        simp only [List.getElem?_cons_zero, Option.bind_some]
        by_cases e : p y = true
        · simp [e]
        · simp only [e, if_false, Function.comp_def, List.getElem?_cons_succ, Bool.false_eq_true]
          have := ih (o + 1)
          rw [show (fun i : Nat => (ys[i]?).bind fun x => if p x = true then some (some ((o + (i + 1) : Nat) : Int)) else none) = fun i : Nat => (ys[i]?).bind fun x => if p x = true then some (some ((o + 1 + i : Nat) : Int)) else none from by funext i; rw [show o + (i + 1) = o + 1 + i by omega]]
          rw [this]
          cases ys.findIdx? p <;> simp; omega
    have := key xs 0
    simp only [Nat.zero_add] at this
    rw [this]
    unfold idxOf
    cases xs.findIdx? p <;> rfl
  · rw [hs kb i hi, List.getElem?_eq_getElem hi]
    simp only [Option.bind_some]
    by_cases e : p xs[i] = true <;> simp [e]
theorem all_range {α : Type} (xs : List α) (p : α → Bool) : ((List.range xs.length).all fun i => ((xs[i]?).map p).getD true) = xs.all p := by
  rw [Bool.eq_iff_iff, List.all_eq_true, List.all_eq_true]
  constructor
  · intro H x hx
    obtain ⟨i, hi, rfl⟩ := List.mem_iff_getElem.1 hx
    have := H i (List.mem_range.2 hi)
    rw [List.getElem?_eq_getElem hi] at this
    exact this
  · intro H i hi
    have hi := List.mem_range.1 hi
    rw [List.getElem?_eq_getElem hi]
    exact H _ (List.getElem_mem hi)
theorem iter_any {α R : Type} (xs : List α) (p : α → Bool) (r k : Option R) {f : (Int → Option R) → Int → Option R} (hn : xs.length ≤ 1152921504606846976)
    (hs : ∀ kb (i : Nat) (hi : i < xs.length), f kb (i : Int) = if p xs[i] = true then r else kb ((i + 1 : Nat) : Int)) (he : ∀ kb, f kb (xs.length : Int) = k) : iter f FU 0 = if xs.any p = true then r else k := by
  rw [iter_good (s0 := (0 : Int)) (fun i => (i : Int)) (fun i => ((xs[i]?).map fun x => !p x).getD true) r k xs.length hn (fun kb i hi => ?_) (fun kb => he kb) rfl, all_range xs fun x => !p x]
  · cases h : xs.any p with
    | true =>
      have : (xs.all fun x => !p x) = false := by
        rw [List.all_eq_false]; obtain ⟨x, hx, hp⟩ := List.any_eq_true.1 h; exact ⟨x, hx, by simp [hp]⟩
      simp [this]
    | false =>
      have : (xs.all fun x => !p x) = true := by
        rw [List.all_eq_true]; intro x hx; rw [List.any_eq_false] at h; simp [h x hx]
      simp [this]
  · rw [hs kb i hi, List.getElem?_eq_getElem hi]
    cases h : p xs[i] <;> simp [h]
theorem iter_every {α R : Type} (xs : List α) (p : α → Bool) (r k : Option R) {f : (Int → Option R) → Int → Option R} (hn : xs.length ≤ 1152921504606846976)
    (hs : ∀ kb (i : Nat) (hi : i < xs.length), f kb (i : Int) = if p xs[i] = true then kb ((i + 1 : Nat) : Int) else r) (he : ∀ kb, f kb (xs.length : Int) = k) : iter f FU 0 = if xs.all p = true then k else r := by
  rw [iter_good (s0 := (0 : Int)) (fun i => (i : Int)) (fun i => ((xs[i]?).map p).getD true) r k xs.length hn (fun kb i hi => ?_) (fun kb => he kb) rfl, all_range xs p]
  rw [hs kb i hi, List.getElem?_eq_getElem hi]
  rfl
def sumB {α : Type} (f : α → Nat) : List α → Nat
  | [] => 0
  | x :: xs => f x + sumB f xs
theorem sumB_append {α : Type} (f : α → Nat) : ∀ (xs ys : List α), sumB f (xs ++ ys) = sumB f xs + sumB f ys
  | [], ys => by simp [sumB]
  | x :: xs, ys => by simp [sumB, sumB_append f xs ys]; omega
theorem sumB_step {α : Type} (f : α → Nat) {xs : List α} {i : Nat} (hi : i < xs.length) : sumB f (xs.take (i + 1)) = sumB f (xs.take i) + f xs[i] := by
  rw [List.take_succ_eq_append_getElem hi, sumB_append]
  simp [sumB]
theorem sumB_take {α : Type} (f : α → Nat) (xs : List α) (i : Nat) : sumB f (xs.take i) ≤ sumB f xs := by
  have := sumB_append f (xs.take i) (xs.drop i)
  rw [List.take_append_drop] at this
  omega
theorem sumB_mem {α : Type} (f : α → Nat) {xs : List α} {i : Nat} (hi : i < xs.length) : f xs[i] ≤ sumB f xs := by
  have h1 := sumB_step f hi
  have h2 := sumB_take f xs (i + 1)
  omega
theorem cut_take {α : Type} {xs : List α} {i : Nat} (h : i ≤ xs.length) : cut xs 0 (i : Int) = some (xs.take i) := by
  unfold cut
  rw [if_pos ⟨by omega, by omega, by omega⟩]
  simp
theorem cnt_step {α : Type} (p : α → Bool) {xs : List α} {i : Nat} (hi : i < xs.length) : (xs.take (i + 1)).countP p = (xs.take i).countP p + if p xs[i] = true then 1 else 0 := by
  rw [List.take_succ_eq_append_getElem hi, List.countP_append]
  simp [List.countP_cons]
theorem cnt_le {α : Type} (p : α → Bool) (xs : List α) (i : Nat) : (xs.take i).countP p ≤ xs.length := by
  have h1 := List.countP_le_length (p := p) (l := xs.take i)
  have h2 : (xs.take i).length ≤ xs.length := by simp; omega
  omega
def within (z lo hi : Int) : Bool := decide (lo ≤ z) && decide (z ≤ hi)
theorem p_l1In (z lo hi : Int) : m_spec_l1In z lo hi = some (within z lo hi) := by
  unfold m_spec_l1In within; by_cases h : lo ≤ z <;> simp [h]
theorem p_from (z lo hi : Int) : m_impl_from z lo hi = some (within z lo hi) := by
  unfold m_impl_from within; by_cases h : lo ≤ z <;> simp [h]
theorem p_l10Key (z : Int) : m_spec_l10Key z = some (within z 0 999) := by simp [m_spec_l10Key, p_l1In]
theorem p_isKey (z : Int) : m_impl_isKey z = some (within z 0 999) := by simp [m_impl_isKey, p_from]
theorem p_l1Whole (z : Int) : m_spec_l1Whole z = some (within z 0 1000000000) := by simp [m_spec_l1Whole, p_l1In]
theorem p_isWhole (z : Int) : m_impl_isWhole z = some (within z 0 1000000000) := by simp [m_impl_isWhole, p_from]
def rangeOk (a : TRange) : Bool := decide (0 ≤ a.Lo) && decide (a.Lo < a.Hi) && decide (a.Hi ≤ 1000)
theorem p_spec_RangeOk (a : TRange) : m_spec_RangeOk a = some (rangeOk a) := by
  unfold m_spec_RangeOk rangeOk; by_cases h : 0 ≤ a.Lo <;> by_cases h' : a.Lo < a.Hi <;> simp [h, h']
theorem p_impl_RangeOk (a : TRange) : m_impl_RangeOk a = some (rangeOk a) := by
  unfold m_impl_RangeOk rangeOk; by_cases h : 0 ≤ a.Lo <;> by_cases h' : a.Lo < a.Hi <;> simp [h, h']
theorem p_isGroup (z : Int) : m_impl_isGroup z = some (within z 0 3) := by simp [m_impl_isGroup, p_from]
theorem p_isAnswer (z : Int) : m_impl_isAnswer z = some (within z (-1) 1000000000) := by simp [m_impl_isAnswer, p_from]
def writeGood (xs : List TCell) (i : Nat) : Bool := match xs[i]? with
  | none => true
  | some c => within c.Key 0 999 && within c.Value (-1) 1000000000 && (i == 0 || match xs[i - 1]? with | some p => decide (p.Key < c.Key) | none => true)
def writesGood (xs : List TCell) : Bool := decide (xs.length ≤ 60) && (List.range xs.length).all (writeGood xs)
theorem p_spec_WritesOk (xs : List TCell) (h : xs.length ≤ 1048576) : m_spec_WritesOk xs = some (writesGood xs) := by
  unfold m_spec_WritesOk writesGood
  split
  · rename_i h1
    have : ¬ xs.length ≤ 60 := by omega
    simp [this]
  · rename_i h1
    have : xs.length ≤ 60 := by omega
    rw [iter_good (s0 := (0 : Int)) (fun i => (i : Int)) (writeGood xs) (some false) (some true) xs.length (by omega) (fun kb i hi => ?_) (fun kb => ?_) rfl]
    · simp only [this, decide_true, Bool.true_and]; split <;> simp_all
    · unfold spec_WritesOk_b5 spec_WritesOk_j8 writeGood
      simp only [idx_nat hi, p_l10Key, p_l1In, Option.bind_some, step1 i _ hi (by omega), List.getElem?_eq_getElem hi]
      rw [if_pos (by omega)]
      cases within xs[i].Key 0 999 <;> simp
      cases within xs[i].Value (-1) 1000000000 <;> simp
      by_cases h0 : 0 < i
      · have h2 : IntKind.wrap .i64 ((i : Int) - 1) = ((i - 1 : Nat) : Int) := by rw [w64 (by omega) (by omega)]; omega
        have h3 : i - 1 < xs.length := by omega
        have h4 : ¬ i = 0 := by omega
        simp only [h0, if_true, h2, idx_nat h3, Option.bind_some, List.getElem?_eq_getElem h3, h4, false_or]
        by_cases h5 : xs[i].Key ≤ xs[i - 1].Key
        · have : ¬ xs[i - 1].Key < xs[i].Key := by omega
          simp [h5, this]
        · have : xs[i - 1].Key < xs[i].Key := by omega
          simp [h5, this]
      · have h4 : i = 0 := by omega
        simp [h4]
    · unfold spec_WritesOk_b5
      rw [if_neg (by omega)]; rfl
theorem p_impl_WritesOk (xs : List TCell) (h : xs.length ≤ 1048576) : m_impl_WritesOk xs = some (writesGood xs) := by
  unfold m_impl_WritesOk writesGood
  rw [iter_good (s0 := (0 : Int)) (fun i => (i : Int)) (writeGood xs) (some false) (some (decide (xs.length ≤ 60))) xs.length (by omega) (fun kb i hi => ?_) (fun kb => ?_) rfl]
  · split <;> simp_all
  · unfold impl_WritesOk_b4 impl_WritesOk_j9 writeGood
    simp only [idx_nat hi, p_isKey, p_isAnswer, Option.bind_some, step1 i _ hi (by omega), List.getElem?_eq_getElem hi]
    rw [if_pos (by omega)]
    cases within xs[i].Key 0 999 <;> simp
    cases within xs[i].Value (-1) 1000000000 <;> simp
    by_cases h0 : 0 < i
    · have h2 : IntKind.wrap .i64 ((i : Int) - 1) = ((i - 1 : Nat) : Int) := by rw [w64 (by omega) (by omega)]; omega
      have h3 : i - 1 < xs.length := by omega
      have h4 : ¬ i = 0 := by omega
      simp only [h0, if_true, h2, idx_nat h3, Option.bind_some, List.getElem?_eq_getElem h3, h4, false_or]
      by_cases h5 : xs[i].Key ≤ xs[i - 1].Key
      · have : ¬ xs[i - 1].Key < xs[i].Key := by omega
        simp [h5, this]
      · have : xs[i - 1].Key < xs[i].Key := by omega
        simp [h5, this]
    · have h4 : i = 0 := by omega
      simp [h4]
  · unfold impl_WritesOk_b4 impl_WritesOk_j2
    rw [if_neg (by omega)]
    have : ((xs.length : Int) ≤ 60) ↔ xs.length ≤ 60 := by omega
    simp [this]
theorem p_szRangeS (xs : List TRange) (h : xs.length ≤ maxLen) (z : Int) (h1 : 0 ≤ z) (h2 : z ≤ 1048576) : m_laws_szRangeS xs z = some (if z < xs.length then -1 else z - xs.length) := by
  unfold m_laws_szRangeS
  have : IntKind.wrap .i64 (z - (xs.length : Int)) = z - xs.length := by unfold maxLen at h; exact w64 (by omega) (by omega)
  rw [this]
  split <;> split <;> first | rfl | omega
theorem p_toRangeS (xs : List TRange) (h : xs.length ≤ 1048576) : m_laws_toRangeS xs = some xs := by
  unfold m_laws_toRangeS
  rw [if_pos ⟨by omega, by omega⟩]
  simp only [Int.toNat_natCast]
  refine iter_copy xs _ laws_toRangeS_j3 (by omega) (fun kb ys i hi hy => ?_) (fun kb ys => ?_)
  · unfold laws_toRangeS_b5
    simp only [idx_nat hi, idx_nat (show i < ys.length by omega), m_laws_toRange, Option.bind_some, Int.toNat_natCast, step1 i _ hi (by omega)]
    rw [if_pos (by omega)]
  · unfold laws_toRangeS_b5
    rw [if_neg (by omega)]
theorem p_eqRange (a b : TRange) : m_laws_eqRange a b = some (decide (a = b)) := by
  unfold m_laws_eqRange
  cases a; cases b
  simp only [TRange.mk.injEq]
  repeat' split
  all_goals simp_all
theorem p_eqRangeS (xs ys : List TRange) (h : xs.length ≤ 1048576) : m_laws_eqRangeS xs ys = some (decide (xs = ys)) := by
  unfold m_laws_eqRangeS
  split
  · rename_i hl
    have : ¬ xs = ys := fun e => hl (by rw [e])
    simp [this]
  · rename_i hl
    have hl : xs.length = ys.length := by omega
    rw [iter_good (s0 := (0 : Int)) (fun i => (i : Int)) (fun i => decide (xs[i]? = ys[i]?)) (some false) (some true) xs.length (by omega) (fun kb i hi => ?_) (fun kb => ?_) rfl, all_range_eq hl]
    · by_cases e : xs = ys <;> simp [e]
    · unfold laws_eqRangeS_b6
      simp only [idx_nat hi, idx_nat (show i < ys.length by omega), p_eqRange, Option.bind_some, step1 i _ hi (by omega)]
      rw [if_pos (by omega), List.getElem?_eq_getElem hi, List.getElem?_eq_getElem (show i < ys.length by omega)]
      simp
    · unfold laws_eqRangeS_b6
      rw [if_neg (by omega)]
      rfl
theorem p_szWriteS (xs : List TCell) (h : xs.length ≤ maxLen) (z : Int) (h1 : 0 ≤ z) (h2 : z ≤ 1048576) : m_laws_szWriteS xs z = some (if z < xs.length then -1 else z - xs.length) := by
  unfold m_laws_szWriteS
  have : IntKind.wrap .i64 (z - (xs.length : Int)) = z - xs.length := by unfold maxLen at h; exact w64 (by omega) (by omega)
  rw [this]
  split <;> split <;> first | rfl | omega
theorem p_toWriteS (xs : List TCell) (h : xs.length ≤ 1048576) : m_laws_toWriteS xs = some xs := by
  unfold m_laws_toWriteS
  rw [if_pos ⟨by omega, by omega⟩]
  simp only [Int.toNat_natCast]
  refine iter_copy xs _ laws_toWriteS_j3 (by omega) (fun kb ys i hi hy => ?_) (fun kb ys => ?_)
  · unfold laws_toWriteS_b5
    simp only [idx_nat hi, idx_nat (show i < ys.length by omega), m_laws_toWrite, Option.bind_some, Int.toNat_natCast, step1 i _ hi (by omega)]
    rw [if_pos (by omega)]
  · unfold laws_toWriteS_b5
    rw [if_neg (by omega)]
theorem p_eqWrite (a b : TCell) : m_laws_eqWrite a b = some (decide (a = b)) := by
  unfold m_laws_eqWrite
  cases a; cases b
  simp only [TCell.mk.injEq]
  repeat' split
  all_goals simp_all
theorem p_eqWriteS (xs ys : List TCell) (h : xs.length ≤ 1048576) : m_laws_eqWriteS xs ys = some (decide (xs = ys)) := by
  unfold m_laws_eqWriteS
  split
  · rename_i hl
    have : ¬ xs = ys := fun e => hl (by rw [e])
    simp [this]
  · rename_i hl
    have hl : xs.length = ys.length := by omega
    rw [iter_good (s0 := (0 : Int)) (fun i => (i : Int)) (fun i => decide (xs[i]? = ys[i]?)) (some false) (some true) xs.length (by omega) (fun kb i hi => ?_) (fun kb => ?_) rfl, all_range_eq hl]
    · by_cases e : xs = ys <;> simp [e]
    · unfold laws_eqWriteS_b6
      simp only [idx_nat hi, idx_nat (show i < ys.length by omega), p_eqWrite, Option.bind_some, step1 i _ hi (by omega)]
      rw [if_pos (by omega), List.getElem?_eq_getElem hi, List.getElem?_eq_getElem (show i < ys.length by omega)]
      simp
    · unfold laws_eqWriteS_b6
      rw [if_neg (by omega)]
      rfl
def size_Share (x : TShare) : Nat := x.Reads.length + x.Writes.length
theorem p_szShare (x : TShare) (h : ok_TShare x) (z : Int) (h1 : 0 ≤ z) (h2 : z ≤ 1048576) : m_laws_szShare x z = some (if z < (size_Share x : Int) then -1 else z - (size_Share x : Int)) := by
  unfold ok_TShare at h
  obtain ⟨o0, o1, o2, o3⟩ := h
  unfold m_laws_szShare size_Share
  rw [p_szRangeS x.Reads o1.1 _ (by omega) (by omega)]
  simp only [Option.bind_some]
  by_cases c0 : z < (x.Reads.length : Int)
  · rw [if_pos c0, if_pos (by omega)]; try rw [if_pos (by omega)]
  rw [if_neg c0, if_neg (by omega)]
  rw [p_szWriteS x.Writes o2.1 _ (by omega) (by omega)]
  simp only [Option.bind_some]
  by_cases c1 : z - (x.Reads.length : Int) < (x.Writes.length : Int)
  · rw [if_pos c1, if_pos (by omega)]; try rw [if_pos (by omega)]
  rw [if_neg c1, if_neg (by omega)]
  try rw [if_neg (by omega)]
  try (congr 1; omega)
theorem p_toShare (x : TShare) (h : size_Share x ≤ 1048576) : m_laws_toShare x = some x := by simp [m_laws_toShare, p_toRangeS _ (show x.Reads.length ≤ 1048576 by unfold size_Share at h; omega), p_toWriteS _ (show x.Writes.length ≤ 1048576 by unfold size_Share at h; omega)]
theorem p_eqShare (x y : TShare) (h : size_Share x ≤ 1048576) : m_laws_eqShare x y = some (decide (x = y)) := by
  unfold m_laws_eqShare
  simp only [p_eqRangeS _ _ (show x.Reads.length ≤ 1048576 by unfold size_Share at h; omega), p_eqWriteS _ _ (show x.Writes.length ≤ 1048576 by unfold size_Share at h; omega), Option.bind_some]
  cases x; cases y
  simp only [TShare.mk.injEq]
  repeat' split
  all_goals simp_all
def size_ShareS (xs : (List TShare)) : Nat := xs.length + sumB (fun y : TShare => size_Share y) xs
theorem p_szShareS (xs : (List TShare)) (h : (okS ok_TShare) xs) (z : Int) (h1 : 0 ≤ z) (h2 : z ≤ 1048576) : m_laws_szShareS xs z = some (if z < (size_ShareS xs : Int) then -1 else z - (size_ShareS xs : Int)) := by
  unfold m_laws_szShareS
  have hm := h.1
  have hw : IntKind.wrap .i64 (z - (xs.length : Int)) = z - xs.length := by unfold maxLen at hm; exact w64 (by omega) (by omega)
  rw [hw]
  have hsz : (size_ShareS xs : Int) = xs.length + (sumB (fun y : TShare => size_Share y) xs : Nat) := by unfold size_ShareS; omega
  rw [hsz]
  by_cases c : z < xs.length
  · rw [if_pos (by omega), if_pos (by omega)]
  rw [if_neg (by omega)]
  rw [iter_goodH (fun i => (z - (xs.length : Int) - (sumB (fun y : TShare => size_Share y) (xs.take i) : Nat), (i : Int))) (fun i => decide ((sumB (fun y : TShare => size_Share y) (xs.take (i + 1)) : Int) ≤ z - xs.length)) (some (-1)) (some (z - (xs.length : Int) - (sumB (fun y : TShare => size_Share y) xs : Nat))) xs.length (by omega) (fun kb i hi hp => ?_) (fun kb hp => ?_) (by simp [sumB])]
  · by_cases c2 : z < xs.length + (sumB (fun y : TShare => size_Share y) xs : Nat)
    · rw [if_pos c2, if_neg]
      rw [Bool.not_eq_true, List.all_eq_false]
      cases hn : xs.length with
      | zero => 
        have : xs = [] := List.eq_nil_of_length_eq_zero hn
        subst this
        simp [sumB] at c2 c
        omega
      | succ n =>
        refine ⟨n, by simp, ?_⟩
        have : xs.take (n + 1) = xs := by rw [← hn]; simp
        rw [this, decide_eq_true_eq]
        omega
    · rw [if_neg c2, if_pos]
      · congr 1; omega
      · rw [List.all_eq_true]
        intro i hi
        have := sumB_take (fun y : TShare => size_Share y) xs (i + 1)
        simp only [decide_eq_true_eq]
        omega
  · have h0 : (sumB (fun y : TShare => size_Share y) (xs.take i) : Int) ≤ z - xs.length := by
      cases i with
      | zero => simp [sumB]; omega
      | succ j => have := hp j (by omega); simpa using this
    unfold laws_szShareS_b6
    simp only [idx_nat hi, Option.bind_some, step1 i _ hi (by omega)]
    rw [if_pos (by omega), p_szShare xs[i] (h.2 _ (List.getElem_mem hi)) _ (by omega) (by omega), sumB_step (fun y : TShare => size_Share y) hi]
    simp only [Option.bind_some, Int.natCast_add]
    by_cases c3 : z - (xs.length : Int) - (sumB (fun y : TShare => size_Share y) (xs.take i) : Nat) < (size_Share (xs[i]) : Nat)
    · rw [if_pos c3, if_pos (by omega), if_neg (by simp; omega)]
    · rw [if_neg c3, if_neg (by omega), if_pos (by simp; omega)]
      congr 2
      omega
  · unfold laws_szShareS_b6 laws_szShareS_j4
    rw [if_neg (by simp)]
    simp
theorem small_ShareS {xs : (List TShare)} (h : size_ShareS xs ≤ 1048576) : xs.length ≤ 1048576 ∧ ∀ i (hi : i < xs.length), size_Share (xs[i]) ≤ 1048576 := by
  unfold size_ShareS at h
  refine ⟨by omega, fun i hi => ?_⟩
  have := sumB_mem (fun y : TShare => size_Share y) hi
  omega
theorem p_toShareS (xs : (List TShare)) (h : size_ShareS xs ≤ 1048576) : m_laws_toShareS xs = some xs := by
  obtain ⟨hl, hs⟩ := small_ShareS h
  unfold m_laws_toShareS
  rw [if_pos ⟨by omega, by omega⟩]
  simp only [Int.toNat_natCast]
  refine iter_copy xs _ laws_toShareS_j3 (by omega) (fun kb ys i hi hy => ?_) (fun kb ys => ?_)
  · unfold laws_toShareS_b5
    simp only [idx_nat hi, idx_nat (show i < ys.length by omega), p_toShare _ (hs i hi), Option.bind_some, Int.toNat_natCast, step1 i _ hi (by omega)]
    rw [if_pos (by omega)]
  · unfold laws_toShareS_b5
    rw [if_neg (by omega)]
theorem p_eqShareS (xs ys : (List TShare)) (h : size_ShareS xs ≤ 1048576) : m_laws_eqShareS xs ys = some (decide (xs = ys)) := by
  obtain ⟨hl, hs⟩ := small_ShareS h
  unfold m_laws_eqShareS
  split
  · rename_i hl
    have : ¬ xs = ys := fun e => hl (by rw [e])
    simp [this]
  · rename_i hl
    have hl : xs.length = ys.length := by omega
    rw [iter_good (s0 := (0 : Int)) (fun i => (i : Int)) (fun i => decide (xs[i]? = ys[i]?)) (some false) (some true) xs.length (by omega) (fun kb i hi => ?_) (fun kb => ?_) rfl, all_range_eq hl]
    · by_cases e : xs = ys <;> simp [e]
    · unfold laws_eqShareS_b6
      simp only [idx_nat hi, idx_nat (show i < ys.length by omega), p_eqShare _ _ (hs i hi), Option.bind_some, step1 i _ hi (by omega)]
      rw [if_pos (by omega), List.getElem?_eq_getElem hi, List.getElem?_eq_getElem (show i < ys.length by omega)]
      simp
    · unfold laws_eqShareS_b6
      rw [if_neg (by omega)]
      rfl
def readsGood (xs : List TRange) : Bool := decide (xs.length ≤ 16) && xs.all rangeOk
theorem p_readsOk_1 (a : TRange) : m_impl_readsOk_1 a = some (!rangeOk a) := by
  unfold m_impl_readsOk_1; simp [p_impl_RangeOk]
theorem p_Contains_readsOk (xs : List TRange) (h : xs.length ≤ 1048576) : m_slices_ContainsFunc_Range__readsOk_1 xs = some (xs.any fun c => !rangeOk c) := by
  unfold m_slices_ContainsFunc_Range__readsOk_1 m_slices_IndexFunc_Range__readsOk_1
  rw [iter_index xs (fun c => !rangeOk c) (by omega) (fun kb i hi => ?_) (fun kb => ?_)]
  · simp [idxOf_nonneg]
  · unfold slices_IndexFunc_Range__readsOk_1_b4
    simp only [idx_nat hi, p_readsOk_1, Option.bind_some, step1 i _ hi (by omega)]
    rw [if_pos (by omega)]
  · unfold slices_IndexFunc_Range__readsOk_1_b4
    rw [if_neg (by omega)]; rfl
theorem any_not {α : Type} (p : α → Bool) (xs : List α) : (xs.any fun c => !p c) = !xs.all p := by rw [List.any_eq_not_all_not]; simp
theorem p_readsOk (xs : List TRange) (h : xs.length ≤ 1048576) : m_impl_readsOk xs = some (readsGood xs) := by
  unfold m_impl_readsOk readsGood
  simp only [p_Contains_readsOk _ h, any_not, Option.bind_some]
  by_cases c : xs.length ≤ 16
  · rw [if_pos (by omega)]; simp [c]
  · rw [if_neg (by omega)]; simp [c]
def shareGood (xs : List TShare) (i : Nat) : Bool := match xs[i]? with
  | some s => within s.Group 0 3 && (i == 0 || (match xs[i - 1]? with | some p => decide (p.Group < s.Group) | none => true)) && readsGood s.Reads && writesGood s.Writes && within s.Vote 0 2
  | none => true
def sharesGood (xs : List TShare) : Bool := decide (xs.length ≤ 4) && (List.range xs.length).all (shareGood xs)
theorem p_reads_loop {R : Type} (s : TShare) (kx : Unit → Option Bool) (h : s.Reads.length ≤ 1048576) : iter (spec_SharesOk_b15 s kx) FU 0 = if s.Reads.all rangeOk = true then kx () else some false := by
  refine iter_every s.Reads rangeOk (some false) (kx ()) (by omega) (fun kb i hi => ?_) (fun kb => ?_)
  · unfold spec_SharesOk_b15
    simp only [idx_nat hi, p_spec_RangeOk, Option.bind_some, step1 i _ hi (by omega)]
    rw [if_pos (by omega)]
  · unfold spec_SharesOk_b15
    rw [if_neg (by omega)]
theorem p_spec_SharesOk (xs : List TShare) (h : size_ShareS xs ≤ 1048576) : m_spec_SharesOk xs = some (sharesGood xs) := by
  obtain ⟨hl, hs⟩ := small_ShareS h
  unfold m_spec_SharesOk sharesGood
  split
  · rename_i h1
    have : ¬ xs.length ≤ 4 := by omega
    simp [this]
  · rename_i h1
    have h4 : xs.length ≤ 4 := by omega
    rw [iter_good (s0 := (0 : Int)) (fun i => (i : Int)) (shareGood xs) (some false) (some true) xs.length (by omega) (fun kb i hi => ?_) (fun kb => ?_) rfl]
    · simp only [h4, decide_true, Bool.true_and]; split <;> simp_all
    · have hsi := hs i hi
      have hr : xs[i].Reads.length ≤ 1048576 := by unfold size_Share at hsi; omega
      have hw : xs[i].Writes.length ≤ 1048576 := by unfold size_Share at hsi; omega
      unfold spec_SharesOk_b5 spec_SharesOk_j12 shareGood
      simp only [idx_nat hi, p_l1In, p_spec_WritesOk _ hw, p_reads_loop (R := Bool) _ _ hr, spec_SharesOk_j8, Option.bind_some, step1 i _ hi (by omega), List.getElem?_eq_getElem hi, readsGood]
      rw [if_pos (by omega)]
      have e16 : (16 < (xs[i].Reads.length : Int)) ↔ ¬ xs[i].Reads.length ≤ 16 := by omega
      simp only [e16]
      cases within xs[i].Group 0 3 <;> simp
      cases hwg : writesGood xs[i].Writes <;> cases hv : within xs[i].Vote 0 2 <;> by_cases c16 : xs[i].Reads.length ≤ 16 <;> cases hall : xs[i].Reads.all rangeOk <;>
        (by_cases h0 : 0 < i
         · have h2 : IntKind.wrap .i64 ((i : Int) - 1) = ((i - 1 : Nat) : Int) := by rw [w64 (by omega) (by omega)]; omega
           have h3 : i - 1 < xs.length := by omega
           have h4 : ¬ i = 0 := by omega
           have h16 : ¬ 16 < xs[i].Reads.length ↔ xs[i].Reads.length ≤ 16 := by omega
           simp only [h0, if_true, h2, idx_nat h3, Option.bind_some, List.getElem?_eq_getElem h3, h4, false_or]
           by_cases h5 : xs[i].Group ≤ xs[i - 1].Group
           · have : ¬ xs[i - 1].Group < xs[i].Group := by omega
             simp [h5, this]
           · have : xs[i - 1].Group < xs[i].Group := by omega
             first
             | (simp [h5, this, c16]; done)
             | (simp [h5, this, c16]; intro hh; omega)
             | (simp [h5, this, c16, hall]; done)
         · have h4 : i = 0 := by omega
           subst h4
           first
           | (simp [c16]; done)
           | (simp [c16]; intro hh; omega)
           | (simp [c16, hall]; done))
    · unfold spec_SharesOk_b5
      rw [if_neg (by omega)]; rfl
theorem p_impl_SharesOk (xs : List TShare) (h : size_ShareS xs ≤ 1048576) : m_impl_SharesOk xs = some (sharesGood xs) := by
  obtain ⟨hl, hs⟩ := small_ShareS h
  unfold m_impl_SharesOk sharesGood
  rw [iter_good (s0 := (0 : Int)) (fun i => (i : Int)) (shareGood xs) (some false) (some (decide (xs.length ≤ 4))) xs.length (by omega) (fun kb i hi => ?_) (fun kb => ?_) rfl]
  · split <;> simp_all
  · have hsi := hs i hi
    have hr : xs[i].Reads.length ≤ 1048576 := by unfold size_Share at hsi; omega
    have hw : xs[i].Writes.length ≤ 1048576 := by unfold size_Share at hsi; omega
    unfold impl_SharesOk_b4 impl_SharesOk_j9 shareGood
    simp only [idx_nat hi, p_isGroup, p_from, p_impl_WritesOk _ hw, p_readsOk _ hr, Option.bind_some, step1 i _ hi (by omega), List.getElem?_eq_getElem hi]
    rw [if_pos (by omega)]
    cases within xs[i].Group 0 3 <;> simp
    cases hwg : writesGood xs[i].Writes <;> cases hv : within xs[i].Vote 0 2 <;> cases hrg : readsGood xs[i].Reads <;>
      (by_cases h0 : 0 < i
       · have h2 : IntKind.wrap .i64 ((i : Int) - 1) = ((i - 1 : Nat) : Int) := by rw [w64 (by omega) (by omega)]; omega
         have h3 : i - 1 < xs.length := by omega
         have h4 : ¬ i = 0 := by omega
         simp only [h0, if_true, h2, idx_nat h3, Option.bind_some, List.getElem?_eq_getElem h3, h4, false_or]
         by_cases h5 : xs[i].Group ≤ xs[i - 1].Group
         · have : ¬ xs[i - 1].Group < xs[i].Group := by omega
           simp [h5, this]
         · have : xs[i - 1].Group < xs[i].Group := by omega
           simp [h5, this]
       · have h4 : i = 0 := by omega
         subst h4
         simp)
  · unfold impl_SharesOk_b4 impl_SharesOk_j2
    rw [if_neg (by omega)]
    have : ((xs.length : Int) ≤ 4) ↔ xs.length ≤ 4 := by omega
    simp [this]
theorem sharesGood_at {xs : List TShare} (H : sharesGood xs = true) : xs.length ≤ 4 ∧ ∀ s ∈ xs, within s.Vote 0 2 = true := by
  unfold sharesGood at H
  simp only [Bool.and_eq_true, decide_eq_true_eq, List.all_eq_true, List.mem_range] at H
  refine ⟨H.1, fun s hs => ?_⟩
  obtain ⟨i, hi, rfl⟩ := List.mem_iff_getElem.1 hs
  have h := H.2 i hi
  unfold shareGood at h
  simp only [List.getElem?_eq_getElem hi, Bool.and_eq_true] at h
  exact h.2
def size_Rec (x : TRec) : Nat := size_ShareS x.Shares
theorem p_szRec (x : TRec) (h : ok_TRec x) (z : Int) (h1 : 0 ≤ z) (h2 : z ≤ 1048576) : m_laws_szRec x z = some (if z < (size_Rec x : Int) then -1 else z - (size_Rec x : Int)) := by
  unfold ok_TRec at h
  obtain ⟨o0, o1, o2, o3, o4⟩ := h
  unfold m_laws_szRec size_Rec
  rw [p_szShareS x.Shares o4 _ (by omega) (by omega)]
  simp only [Option.bind_some]
  by_cases c0 : z < (size_ShareS x.Shares : Int)
  · rw [if_pos c0, if_pos (by omega)]; try rw [if_pos (by omega)]
  rw [if_neg c0, if_neg (by omega)]
  try rw [if_neg (by omega)]
  try (congr 1; omega)
theorem p_toRec (x : TRec) (h : size_Rec x ≤ 1048576) : m_laws_toRec x = some x := by simp [m_laws_toRec, p_toShareS _ (show size_ShareS x.Shares ≤ 1048576 by unfold size_Rec at h; omega)]
theorem p_eqRec (x y : TRec) (h : size_Rec x ≤ 1048576) : m_laws_eqRec x y = some (decide (x = y)) := by
  unfold m_laws_eqRec
  simp only [p_eqShareS _ _ (show size_ShareS x.Shares ≤ 1048576 by unfold size_Rec at h; omega), Option.bind_some]
  cases x; cases y
  simp only [TRec.mk.injEq]
  repeat' split
  all_goals simp_all
def size_RecS (xs : (List TRec)) : Nat := xs.length + sumB (fun y : TRec => size_Rec y) xs
theorem p_szRecS (xs : (List TRec)) (h : (okS ok_TRec) xs) (z : Int) (h1 : 0 ≤ z) (h2 : z ≤ 1048576) : m_laws_szRecS xs z = some (if z < (size_RecS xs : Int) then -1 else z - (size_RecS xs : Int)) := by
  unfold m_laws_szRecS
  have hm := h.1
  have hw : IntKind.wrap .i64 (z - (xs.length : Int)) = z - xs.length := by unfold maxLen at hm; exact w64 (by omega) (by omega)
  rw [hw]
  have hsz : (size_RecS xs : Int) = xs.length + (sumB (fun y : TRec => size_Rec y) xs : Nat) := by unfold size_RecS; omega
  rw [hsz]
  by_cases c : z < xs.length
  · rw [if_pos (by omega), if_pos (by omega)]
  rw [if_neg (by omega)]
  rw [iter_goodH (fun i => (z - (xs.length : Int) - (sumB (fun y : TRec => size_Rec y) (xs.take i) : Nat), (i : Int))) (fun i => decide ((sumB (fun y : TRec => size_Rec y) (xs.take (i + 1)) : Int) ≤ z - xs.length)) (some (-1)) (some (z - (xs.length : Int) - (sumB (fun y : TRec => size_Rec y) xs : Nat))) xs.length (by omega) (fun kb i hi hp => ?_) (fun kb hp => ?_) (by simp [sumB])]
  · by_cases c2 : z < xs.length + (sumB (fun y : TRec => size_Rec y) xs : Nat)
    · rw [if_pos c2, if_neg]
      rw [Bool.not_eq_true, List.all_eq_false]
      cases hn : xs.length with
      | zero => 
        have : xs = [] := List.eq_nil_of_length_eq_zero hn
        subst this
        simp [sumB] at c2 c
        omega
      | succ n =>
        refine ⟨n, by simp, ?_⟩
        have : xs.take (n + 1) = xs := by rw [← hn]; simp
        rw [this, decide_eq_true_eq]
        omega
    · rw [if_neg c2, if_pos]
      · congr 1; omega
      · rw [List.all_eq_true]
        intro i hi
        have := sumB_take (fun y : TRec => size_Rec y) xs (i + 1)
        simp only [decide_eq_true_eq]
        omega
  · have h0 : (sumB (fun y : TRec => size_Rec y) (xs.take i) : Int) ≤ z - xs.length := by
      cases i with
      | zero => simp [sumB]; omega
      | succ j => have := hp j (by omega); simpa using this
    unfold laws_szRecS_b6
    simp only [idx_nat hi, Option.bind_some, step1 i _ hi (by omega)]
    rw [if_pos (by omega), p_szRec xs[i] (h.2 _ (List.getElem_mem hi)) _ (by omega) (by omega), sumB_step (fun y : TRec => size_Rec y) hi]
    simp only [Option.bind_some, Int.natCast_add]
    by_cases c3 : z - (xs.length : Int) - (sumB (fun y : TRec => size_Rec y) (xs.take i) : Nat) < (size_Rec (xs[i]) : Nat)
    · rw [if_pos c3, if_pos (by omega), if_neg (by simp; omega)]
    · rw [if_neg c3, if_neg (by omega), if_pos (by simp; omega)]
      congr 2
      omega
  · unfold laws_szRecS_b6 laws_szRecS_j4
    rw [if_neg (by simp)]
    simp
theorem small_RecS {xs : (List TRec)} (h : size_RecS xs ≤ 1048576) : xs.length ≤ 1048576 ∧ ∀ i (hi : i < xs.length), size_Rec (xs[i]) ≤ 1048576 := by
  unfold size_RecS at h
  refine ⟨by omega, fun i hi => ?_⟩
  have := sumB_mem (fun y : TRec => size_Rec y) hi
  omega
theorem p_toRecS (xs : (List TRec)) (h : size_RecS xs ≤ 1048576) : m_laws_toRecS xs = some xs := by
  obtain ⟨hl, hs⟩ := small_RecS h
  unfold m_laws_toRecS
  rw [if_pos ⟨by omega, by omega⟩]
  simp only [Int.toNat_natCast]
  refine iter_copy xs _ laws_toRecS_j3 (by omega) (fun kb ys i hi hy => ?_) (fun kb ys => ?_)
  · unfold laws_toRecS_b5
    simp only [idx_nat hi, idx_nat (show i < ys.length by omega), p_toRec _ (hs i hi), Option.bind_some, Int.toNat_natCast, step1 i _ hi (by omega)]
    rw [if_pos (by omega)]
  · unfold laws_toRecS_b5
    rw [if_neg (by omega)]
theorem p_eqRecS (xs ys : (List TRec)) (h : size_RecS xs ≤ 1048576) : m_laws_eqRecS xs ys = some (decide (xs = ys)) := by
  obtain ⟨hl, hs⟩ := small_RecS h
  unfold m_laws_eqRecS
  split
  · rename_i hl
    have : ¬ xs = ys := fun e => hl (by rw [e])
    simp [this]
  · rename_i hl
    have hl : xs.length = ys.length := by omega
    rw [iter_good (s0 := (0 : Int)) (fun i => (i : Int)) (fun i => decide (xs[i]? = ys[i]?)) (some false) (some true) xs.length (by omega) (fun kb i hi => ?_) (fun kb => ?_) rfl, all_range_eq hl]
    · by_cases e : xs = ys <;> simp [e]
    · unfold laws_eqRecS_b6
      simp only [idx_nat hi, idx_nat (show i < ys.length by omega), p_eqRec _ _ (hs i hi), Option.bind_some, step1 i _ hi (by omega)]
      rw [if_pos (by omega), List.getElem?_eq_getElem hi, List.getElem?_eq_getElem (show i < ys.length by omega)]
      simp
    · unfold laws_eqRecS_b6
      rw [if_neg (by omega)]
      rfl
theorem p_szIntS (xs : List Int) (h : xs.length ≤ maxLen) (z : Int) (h1 : 0 ≤ z) (h2 : z ≤ 1048576) : m_laws_szIntS xs z = some (if z < xs.length then -1 else z - xs.length) := by
  unfold m_laws_szIntS
  have : IntKind.wrap .i64 (z - (xs.length : Int)) = z - xs.length := by unfold maxLen at h; exact w64 (by omega) (by omega)
  rw [this]
  split <;> split <;> first | rfl | omega
theorem p_toIntS (xs : List Int) (h : xs.length ≤ 1048576) : m_laws_toIntS xs = some xs := by
  unfold m_laws_toIntS
  rw [if_pos ⟨by omega, by omega⟩]
  simp only [Int.toNat_natCast]
  refine iter_copy xs _ laws_toIntS_j3 (by omega) (fun kb ys i hi hy => ?_) (fun kb ys => ?_)
  · unfold laws_toIntS_b5
    simp only [idx_nat hi, idx_nat (show i < ys.length by omega), Option.bind_some, Int.toNat_natCast, step1 i _ hi (by omega)]
    rw [if_pos (by omega)]
  · unfold laws_toIntS_b5
    rw [if_neg (by omega)]
theorem p_eqIntS (xs ys : List Int) (h : xs.length ≤ 1048576) : m_laws_eqIntS xs ys = some (decide (xs = ys)) := by
  unfold m_laws_eqIntS
  split
  · rename_i hl
    have : ¬ xs = ys := fun e => hl (by rw [e])
    simp [this]
  · rename_i hl
    have hl : xs.length = ys.length := by omega
    rw [iter_good (s0 := (0 : Int)) (fun i => (i : Int)) (fun i => decide (xs[i]? = ys[i]?)) (some false) (some true) xs.length (by omega) (fun kb i hi => ?_) (fun kb => ?_) rfl, all_range_eq hl]
    · by_cases e : xs = ys <;> simp [e]
    · unfold laws_eqIntS_b6
      simp only [idx_nat hi, idx_nat (show i < ys.length by omega), Option.bind_some, step1 i _ hi (by omega)]
      rw [if_pos (by omega), List.getElem?_eq_getElem hi, List.getElem?_eq_getElem (show i < ys.length by omega)]
      simp
    · unfold laws_eqIntS_b6
      rw [if_neg (by omega)]
      rfl
def size_Coord (x : TCoord) : Nat := size_RecS x.Recs + x.Order.length
theorem p_szCoord (x : TCoord) (h : ok_TCoord x) (z : Int) (h1 : 0 ≤ z) (h2 : z ≤ 1048576) : m_laws_szCoord x z = some (if z < (size_Coord x : Int) then -1 else z - (size_Coord x : Int)) := by
  unfold ok_TCoord at h
  obtain ⟨o0, o1⟩ := h
  unfold m_laws_szCoord size_Coord
  rw [p_szRecS x.Recs o0 _ (by omega) (by omega)]
  simp only [Option.bind_some]
  by_cases c0 : z < (size_RecS x.Recs : Int)
  · rw [if_pos c0, if_pos (by omega)]; try rw [if_pos (by omega)]
  rw [if_neg c0, if_neg (by omega)]
  rw [p_szIntS x.Order o1.1 _ (by omega) (by omega)]
  simp only [Option.bind_some]
  by_cases c1 : z - (size_RecS x.Recs : Int) < (x.Order.length : Int)
  · rw [if_pos c1, if_pos (by omega)]; try rw [if_pos (by omega)]
  rw [if_neg c1, if_neg (by omega)]
  try rw [if_neg (by omega)]
  try (congr 1; omega)
theorem p_toCoord (x : TCoord) (h : size_Coord x ≤ 1048576) : m_laws_toCoord x = some x := by simp [m_laws_toCoord, p_toRecS _ (show size_RecS x.Recs ≤ 1048576 by unfold size_Coord at h; omega), p_toIntS _ (show x.Order.length ≤ 1048576 by unfold size_Coord at h; omega)]
theorem p_eqCoord (x y : TCoord) (h : size_Coord x ≤ 1048576) : m_laws_eqCoord x y = some (decide (x = y)) := by
  unfold m_laws_eqCoord
  simp only [p_eqRecS _ _ (show size_RecS x.Recs ≤ 1048576 by unfold size_Coord at h; omega), p_eqIntS _ _ (show x.Order.length ≤ 1048576 by unfold size_Coord at h; omega), Option.bind_some]
  cases x; cases y
  simp only [TCoord.mk.injEq]
  repeat' split
  all_goals simp_all
def voteB (z : Int) (s : TShare) : Bool := decide (s.Vote = z)
theorem p_l14Votes (xs : List TShare) (z : Int) (h : xs.length ≤ 1048576) : m_spec_l14Votes xs z = some ((xs.countP (voteB z) : Nat) : Int) := by
  unfold m_spec_l14Votes
  refine iter_all (s0 := ((0 : Int), (0 : Int))) (fun i => ((((xs.take i).countP (voteB z) : Nat) : Int), (i : Int))) _ xs.length (by omega) (fun kb i hi => ?_) (fun kb => ?_) (by simp)
  · unfold spec_l14Votes_b5
    have hc := cnt_le (voteB z) xs i
    simp only [idx_nat hi, Option.bind_some, step1 i _ hi (by omega), cnt_step _ hi]
    rw [if_pos (by omega), w64 (by omega) (by omega)]
    by_cases c : xs[i].Vote = z
    · simp [c, voteB]
    · simp [c, voteB]
  · unfold spec_l14Votes_b5 spec_l14Votes_j3
    rw [if_neg (by simp)]
    simp
theorem p_votes (xs : List TShare) (z : Int) (h : xs.length ≤ 1048576) : m_impl_votes xs z = some (xs.any (voteB z)) := by
  unfold m_impl_votes m_slices_ContainsFunc_Share__votes_1 m_slices_IndexFunc_Share__votes_1
  rw [iter_index xs (voteB z) (by omega) (fun kb i hi => ?_) (fun kb => ?_)]
  · simp [idxOf_nonneg]
  · unfold slices_IndexFunc_Share__votes_1_b5 m_impl_votes_1
    simp only [idx_nat hi, Option.bind_some, step1 i _ hi (by omega)]
    rw [if_pos (by omega)]
    rfl
  · unfold slices_IndexFunc_Share__votes_1_b5
    rw [if_neg (by omega)]; rfl
theorem p_isReq (z : Int) : m_impl_isReq z = some (within z 1 1000000000) := by simp [m_impl_isReq, p_from]
def recGood (r : TRec) : Bool := within r.Client 0 1000000000 && within r.Req 1 1000000000 && sharesGood r.Shares &&
  (if r.State = 1 then decide (r.Shares.length = 0) else if r.State = 2 then r.Shares.any (voteB 0) && !r.Shares.any (voteB 2) else if r.State = 3 then !r.Shares.any (voteB 0) && !r.Shares.any (voteB 2) else decide (r.State = 4))
theorem cnt_pos (z : Int) (xs : List TShare) : (0 < ((xs.countP (voteB z) : Nat) : Int)) ↔ xs.any (voteB z) = true := by
  rw [List.any_eq_true]
  have := List.countP_pos_iff (p := voteB z) (l := xs)
  constructor
  · intro h; exact this.1 (by omega)
  · intro h; have := this.2 h; omega
theorem cnt_zero (z : Int) (xs : List TShare) : (((xs.countP (voteB z) : Nat) : Int) = 0) ↔ xs.any (voteB z) = false := by
  have h1 := cnt_pos z xs
  constructor
  · intro h
    cases ha : xs.any (voteB z) with
    | true => have := h1.2 ha; omega
    | false => rfl
  · intro h
    have : ¬ (0 < ((xs.countP (voteB z) : Nat) : Int)) := fun e => by have := h1.1 e; rw [h] at this; cases this
    omega
theorem cnt_all {xs : List TShare} (H : ∀ s ∈ xs, within s.Vote 0 2 = true) : (((xs.countP (voteB 1) : Nat) : Int) = (xs.length : Int)) ↔ (xs.any (voteB 0) = false ∧ xs.any (voteB 2) = false) := by
  have e : (((xs.countP (voteB 1) : Nat) : Int) = (xs.length : Int)) ↔ xs.countP (voteB 1) = xs.length := by omega
  rw [e, List.countP_eq_length, List.any_eq_false, List.any_eq_false]
  constructor
  · intro h
    refine ⟨fun s hs => ?_, fun s hs => ?_⟩ <;> have := h s hs <;> unfold voteB at this ⊢ <;> simp at this ⊢ <;> omega
  · intro ⟨h1, h2⟩ s hs
    have a := h1 s hs; have b := h2 s hs; have c := H s hs
    unfold voteB within at *
    simp at a b c ⊢
    omega
theorem p_l14RecOk (r : TRec) (h : size_ShareS r.Shares ≤ 1048576) : m_spec_l14RecOk r = some (recGood r) := by
  obtain ⟨hl, _⟩ := small_ShareS h
  unfold m_spec_l14RecOk spec_l14RecOk_j2 recGood
  simp only [p_l1Whole, p_l1In, p_spec_SharesOk _ h, p_l14Votes _ _ hl, Option.bind_some, cnt_pos, cnt_zero]
  have hv : sharesGood r.Shares = true → _ := fun hg => cnt_all (sharesGood_at hg).2
  generalize r.Shares.any (voteB 0) = b0 at hv ⊢
  generalize r.Shares.any (voteB 2) = b2 at hv ⊢
  generalize sharesGood r.Shares = b4 at hv ⊢
  cases within r.Client 0 1000000000
  · simp
  cases within r.Req 1 1000000000
  · simp
  cases b4
  · simp
  simp only [hv rfl]
  by_cases c1 : r.State = 1
  · simp [c1]
  · by_cases c2 : r.State = 2
    · cases b0 <;> cases b2 <;> simp [c2]
    · by_cases c3 : r.State = 3
      · cases b0 <;> cases b2 <;> simp [c3]
      · simp [c1, c2, c3]
theorem p_recOk (r : TRec) (h : size_ShareS r.Shares ≤ 1048576) : m_impl_recOk r = some (recGood r) := by
  obtain ⟨hl, _⟩ := small_ShareS h
  unfold m_impl_recOk impl_recOk_j2 recGood
  simp only [p_isWhole, p_isReq, p_impl_SharesOk _ h, p_votes _ _ hl, Option.bind_some]
  generalize r.Shares.any (voteB 0) = b0
  generalize r.Shares.any (voteB 2) = b2
  generalize sharesGood r.Shares = b4
  cases within r.Client 0 1000000000
  · simp
  cases within r.Req 1 1000000000
  · simp
  cases b4
  · simp
  by_cases c1 : r.State = 1
  · simp [c1]
  · by_cases c2 : r.State = 2
    · cases b0 <;> cases b2 <;> simp [c2]
    · by_cases c3 : r.State = 3
      · cases b0 <;> cases b2 <;> simp [c3]
      · simp [c1, c2, c3]
def sameReq (r q : TRec) : Bool := decide (q.Client = r.Client) && decide (q.Req = r.Req)
def recAt (xs : List TRec) (i : Nat) : Bool := match xs[i]? with
  | some r => decide (r.Tx = (i : Int) + 1) && recGood r && !(xs.take i).any (sameReq r)
  | none => true
def doneB (r : TRec) : Bool := decide (r.State = 3)
def orderAt (rs : List TRec) (os : List Int) (i : Nat) : Bool := match os[i]? with
  | some o => within o 1 rs.length && (match rs[(o - 1).toNat]? with | some r => doneB r | none => false) && !(os.take i).any (fun z => decide (o = z))
  | none => true
def coordGood (c : TCoord) : Bool := decide (c.Recs.length ≤ 60) && (List.range c.Recs.length).all (recAt c.Recs) && (List.range c.Order.length).all (orderAt c.Recs c.Order) && decide (c.Recs.countP doneB = c.Order.length)
theorem p_Index_int (xs : List Int) (z : Int) (h : xs.length ≤ 1048576) : m_slices_Index_int xs z = some (idxOf (fun y => decide (z = y)) xs) := by
  unfold m_slices_Index_int
  rw [iter_index xs (fun y => decide (z = y)) (by omega) (fun kb i hi => ?_) (fun kb => ?_)]
  · unfold slices_Index_int_b5
    simp only [idx_nat hi, Option.bind_some, step1 i _ hi (by omega)]
    rw [if_pos (by omega)]
    simp
  · unfold slices_Index_int_b5
    rw [if_neg (by omega)]; rfl
theorem p_Contains_int (xs : List Int) (z : Int) (h : xs.length ≤ 1048576) : m_slices_Contains_int xs z = some (xs.any fun y => decide (z = y)) := by
  unfold m_slices_Contains_int
  simp [p_Index_int _ _ h, idxOf_nonneg]
theorem p_l12Has (xs : List Int) (z : Int) (h : xs.length ≤ 1048576) : m_spec_l12Has xs z = some (xs.any fun y => decide (z = y)) := by
  unfold m_spec_l12Has
  rw [iter_any xs (fun y => decide (z = y)) (some true) (some false) (by omega) (fun kb i hi => ?_) (fun kb => ?_)]
  · cases xs.any fun y => decide (z = y) <;> simp
  · unfold spec_l12Has_b5
    simp only [idx_nat hi, Option.bind_some, step1 i _ hi (by omega)]
    rw [if_pos (by omega)]
    by_cases c : xs[i] = z
    · simp [c]
    · have : ¬ z = xs[i] := fun e => c e.symm
      simp [c, this]
  · unfold spec_l12Has_b5
    rw [if_neg (by omega)]; rfl
theorem p_Contains_CoordOk (xs : List TRec) (r : TRec) (h : xs.length ≤ 1048576) : m_slices_ContainsFunc_Rec__CoordOk_1 xs r = some (xs.any (sameReq r)) := by
  unfold m_slices_ContainsFunc_Rec__CoordOk_1 m_slices_IndexFunc_Rec__CoordOk_1
  rw [iter_index xs (sameReq r) (by omega) (fun kb i hi => ?_) (fun kb => ?_)]
  · simp [idxOf_nonneg]
  · unfold slices_IndexFunc_Rec__CoordOk_1_b5 m_impl_CoordOk_1 sameReq
    simp only [idx_nat hi, Option.bind_some, step1 i _ hi (by omega)]
    rw [if_pos (by omega)]
    by_cases c : xs[i].Client = r.Client <;> simp [c]
  · unfold slices_IndexFunc_Rec__CoordOk_1_b5
    rw [if_neg (by omega)]; rfl
theorem p_impl_CoordOk (c : TCoord) (h : size_Coord c ≤ 1048576) : m_impl_CoordOk c = some (coordGood c) := by
  have hR : size_RecS c.Recs ≤ 1048576 := by unfold size_Coord at h; omega
  have hO : c.Order.length ≤ 1048576 := by unfold size_Coord at h; omega
  obtain ⟨hl, hs⟩ := small_RecS hR
  unfold m_impl_CoordOk coordGood
  split
  · rename_i h1
    have : ¬ c.Recs.length ≤ 60 := by omega
    simp [this]
  · rename_i h1
    have h6 : c.Recs.length ≤ 60 := by omega
    rw [iter_good (s0 := ((0 : Int), (0 : Int))) (fun i => ((((c.Recs.take i).countP doneB : Nat) : Int), (i : Int))) (recAt c.Recs) (some false) (some ((List.range c.Order.length).all (orderAt c.Recs c.Order) && decide (c.Recs.countP doneB = c.Order.length))) c.Recs.length (by omega) (fun kb i hi => ?_) (fun kb => ?_) (by simp)]
    · generalize (List.range c.Recs.length).all (recAt c.Recs) = b1
      generalize (List.range c.Order.length).all (orderAt c.Recs c.Order) = b2
      cases b1 <;> simp [h6]
    · have hsi : size_ShareS c.Recs[i].Shares ≤ 1048576 := by have := hs i hi; unfold size_Rec at this; omega
      have hc := cnt_le doneB c.Recs i
      unfold impl_CoordOk_b25 impl_CoordOk_j30 recAt
      simp only [idx_nat hi, p_recOk _ hsi, cut_take (Nat.le_of_lt hi), p_Contains_CoordOk (c.Recs.take i) _ (by simp; omega), Option.bind_some, step1 i _ hi (by omega), List.getElem?_eq_getElem hi, cnt_step _ hi]
      rw [if_pos (by omega), w64 (by omega) (by omega)]
      have e1 : ((i + 1 : Nat) : Int) = (i : Int) + 1 := by omega
      rw [e1]
      generalize recGood c.Recs[i] = b1
      generalize (List.take i c.Recs).any (sameReq c.Recs[i]) = b2
      by_cases c1 : c.Recs[i].Tx = (i : Int) + 1 <;> cases b1 <;> cases b2 <;> by_cases c3 : c.Recs[i].State = 3 <;> simp [c1, c3, doneB]
    · unfold impl_CoordOk_b25 impl_CoordOk_j3
      rw [if_neg (by omega)]
      rw [iter_good (s0 := (0 : Int)) (fun i => (i : Int)) (orderAt c.Recs c.Order) (some false) (some (decide (c.Recs.countP doneB = c.Order.length))) c.Order.length (by omega) (fun kb i hi => ?_) (fun kb => ?_) rfl]
      · generalize (List.range c.Order.length).all (orderAt c.Recs c.Order) = b2
        cases b2 <;> simp
      · unfold impl_CoordOk_b7 impl_CoordOk_j12 orderAt
        simp only [idx_nat hi, p_from, cut_take (Nat.le_of_lt hi), p_Contains_int (c.Order.take i) _ (by simp; omega), Option.bind_some, step1 i _ hi (by omega), List.getElem?_eq_getElem hi]
        rw [if_pos (by omega)]
        cases hw : within c.Order[i] 1 (c.Recs.length : Int) with
        | false => simp
        | true =>
          have hw' : 1 ≤ c.Order[i] ∧ c.Order[i] ≤ c.Recs.length := by unfold within at hw; simpa using hw
          have hk : (c.Order[i] - 1).toNat < c.Recs.length := by omega
          have e2 : IntKind.wrap .i64 (c.Order[i] - 1) = (((c.Order[i] - 1).toNat : Nat) : Int) := by rw [w64 (by omega) (by omega)]; omega
          simp only [if_true, e2, idx_nat hk, Option.bind_some, List.getElem?_eq_getElem hk, Bool.true_and, doneB]
          generalize (List.take i c.Order).any (fun y => decide (c.Order[i] = y)) = b2
          generalize c.Recs[(c.Order[i] - 1).toNat].State = z
          by_cases c3 : z = 3 <;> cases b2 <;> simp [c3]
      · unfold impl_CoordOk_b7 impl_CoordOk_j5
        rw [if_neg (by omega)]
        simp
        omega
theorem p_recs_before (c : TCoord) (r : TRec) (cnt : Int) (kx : Unit → Option Bool) (i : Nat) (hi : i < c.Recs.length) (hl : c.Recs.length ≤ 1048576) :
    iter (spec_CoordOk_b40 (cnt, (i : Int)) c r kx) FU 0 = if (c.Recs.take i).any (sameReq r) = true then some false else kx () := by
  have hn : (c.Recs.take i).length = i := by simp; omega
  refine iter_any (c.Recs.take i) (sameReq r) (some false) (kx ()) (by omega) (fun kb j hj => ?_) (fun kb => ?_)
  · have hj' : j < c.Recs.length := by omega
    unfold spec_CoordOk_b40 spec_CoordOk_j43 sameReq
    simp only [idx_nat hj', Option.bind_some, step1 j _ hj' (by omega), List.getElem_take]
    rw [if_pos (by omega)]
    by_cases c1 : c.Recs[j].Client = r.Client <;> by_cases c2 : c.Recs[j].Req = r.Req <;> simp [c1, c2]
  · unfold spec_CoordOk_b40
    rw [if_neg (by omega)]
theorem p_spec_CoordOk (c : TCoord) (h : size_Coord c ≤ 1048576) : m_spec_CoordOk c = some (coordGood c) := by
  have hR : size_RecS c.Recs ≤ 1048576 := by unfold size_Coord at h; omega
  have hO : c.Order.length ≤ 1048576 := by unfold size_Coord at h; omega
  obtain ⟨hl, hs⟩ := small_RecS hR
  have hcn : c.Recs.countP doneB ≤ c.Recs.length := List.countP_le_length
  unfold m_spec_CoordOk spec_CoordOk_j2 coordGood
  split
  · rename_i h1
    have : ¬ c.Recs.length ≤ 60 := by omega
    simp [this]
  · rename_i h1
    have h6 : c.Recs.length ≤ 60 := by omega
    by_cases hb : 60 < (c.Order.length : Int)
    · have : ¬ c.Recs.countP doneB = c.Order.length := by omega
      simp [hb, this]
    simp only [hb, decide_false, Bool.false_eq_true, if_false]
    rw [iter_good (s0 := ((0 : Int), (0 : Int))) (fun i => ((((c.Recs.take i).countP doneB : Nat) : Int), (i : Int))) (recAt c.Recs) (some false) (some ((List.range c.Order.length).all (orderAt c.Recs c.Order) && decide (c.Recs.countP doneB = c.Order.length))) c.Recs.length (by omega) (fun kb i hi => ?_) (fun kb => ?_) (by simp)]
    · generalize (List.range c.Recs.length).all (recAt c.Recs) = b1
      generalize (List.range c.Order.length).all (orderAt c.Recs c.Order) = b2
      cases b1 <;> simp [h6]
    · have hsi : size_ShareS c.Recs[i].Shares ≤ 1048576 := by have := hs i hi; unfold size_Rec at this; omega
      have hc := cnt_le doneB c.Recs i
      unfold spec_CoordOk_b27 spec_CoordOk_j34 recAt
      simp only [idx_nat hi, p_l14RecOk _ hsi, p_recs_before c _ _ _ i hi hl, Option.bind_some, step1 i _ hi (by omega), List.getElem?_eq_getElem hi, cnt_step _ hi]
      unfold spec_CoordOk_j37 spec_CoordOk_j30
      simp only [step1 i _ hi (by omega)]
      rw [if_pos (by omega), w64 (by omega) (by omega)]
      have e1 : ((i + 1 : Nat) : Int) = (i : Int) + 1 := by omega
      rw [e1]
      generalize recGood c.Recs[i] = b1
      generalize (List.take i c.Recs).any (sameReq c.Recs[i]) = b2
      by_cases c1 : c.Recs[i].Tx = (i : Int) + 1 <;> cases b1 <;> cases b2 <;> by_cases c3 : c.Recs[i].State = 3 <;> simp [c1, c3, doneB]
    · unfold spec_CoordOk_b27 spec_CoordOk_j5
      rw [if_neg (by omega)]
      rw [iter_good (s0 := (0 : Int)) (fun i => (i : Int)) (orderAt c.Recs c.Order) (some false) (some (decide (c.Recs.countP doneB = c.Order.length))) c.Order.length (by omega) (fun kb i hi => ?_) (fun kb => ?_) rfl]
      · generalize (List.range c.Order.length).all (orderAt c.Recs c.Order) = b2
        cases b2 <;> simp
      · unfold spec_CoordOk_b9 spec_CoordOk_j14 orderAt
        simp only [idx_nat hi, p_l1In, cut_take (Nat.le_of_lt hi), p_l12Has (c.Order.take i) _ (by simp; omega), Option.bind_some, step1 i _ hi (by omega), List.getElem?_eq_getElem hi]
        rw [if_pos (by omega)]
        cases hw : within c.Order[i] 1 (c.Recs.length : Int) with
        | false => simp
        | true =>
          have hw' : 1 ≤ c.Order[i] ∧ c.Order[i] ≤ c.Recs.length := by unfold within at hw; simpa using hw
          have hk : (c.Order[i] - 1).toNat < c.Recs.length := by omega
          have e2 : IntKind.wrap .i64 (c.Order[i] - 1) = (((c.Order[i] - 1).toNat : Nat) : Int) := by rw [w64 (by omega) (by omega)]; omega
          simp only [if_true, e2, idx_nat hk, Option.bind_some, List.getElem?_eq_getElem hk, Bool.true_and, doneB]
          generalize (List.take i c.Order).any (fun y => decide (c.Order[i] = y)) = b2
          generalize c.Recs[(c.Order[i] - 1).toNat].State = z
          by_cases c3 : z = 3 <;> cases b2 <;> simp [c3]
      · unfold spec_CoordOk_b9 spec_CoordOk_j7
        rw [if_neg (by omega)]
        simp
        omega
theorem p_Clone_int (xs : List Int) (h : xs.length ≤ 1048576) : m_slices_Clone_int xs = some xs := by
  unfold m_slices_Clone_int slices_Clone_int_j2
  split <;> first | (simp; done) | (simp; omega)
theorem p_Clone_Range (xs : List TRange) (h : xs.length ≤ 1048576) : m_slices_Clone_Range xs = some xs := by
  unfold m_slices_Clone_Range slices_Clone_Range_j2
  split <;> first | (simp; done) | (simp; omega)
theorem p_Clone_Write (xs : List TCell) (h : xs.length ≤ 1048576) : m_slices_Clone_Write xs = some xs := by
  unfold m_slices_Clone_Write slices_Clone_Write_j2
  split <;> first | (simp; done) | (simp; omega)
def rowM {α : Type} (g : Nat → α) (xs : List α) (i : Nat) : List α := (List.range i).map g ++ xs.drop i
theorem rowM_len {α : Type} (g : Nat → α) {xs : List α} {i : Nat} (h : i ≤ xs.length) : (rowM g xs i).length = xs.length := by
  unfold rowM
  simp
  omega
theorem rowM_idx {α : Type} (g : Nat → α) {xs : List α} {i : Nat} (h : i < xs.length) : idx (rowM g xs i) (i : Int) = some xs[i] := by
  rw [idx_ofNat]
  unfold rowM
  rw [List.getElem?_append_right (by simp)]
  simp [h]
theorem rowM_set {α : Type} (g : Nat → α) {xs : List α} {i : Nat} (h : i < xs.length) : (rowM g xs i).set i (g i) = rowM g xs (i + 1) := by
  unfold rowM
  rw [List.set_append, if_neg (by simp), List.range_succ, List.map_append, List.append_assoc]
  congr 1
  have e : i - ((List.range i).map g).length = 0 := by simp
  rw [e, List.drop_eq_getElem_cons h]
  rfl
theorem rowM_zero {α : Type} (g : Nat → α) (xs : List α) : rowM g xs 0 = xs := by simp [rowM]
theorem rowM_all {α : Type} (g : Nat → α) (xs : List α) : rowM g xs xs.length = (List.range xs.length).map g := by simp [rowM]
theorem idx_set_same {α : Type} {xs : List α} {i : Nat} {a : α} (h : i < xs.length) : idx (xs.set i a) (i : Int) = some a := by
  rw [idx_nat (by simpa using h)]
  simp
theorem idx_range {α : Type} (g : Nat → α) {n i : Nat} (h : i < n) : idx ((List.range n).map g) (i : Int) = some (g i) := by
  rw [idx_nat (by simpa using h)]
  simp
theorem p_l14Shares (xs : List TShare) (h : size_ShareS xs ≤ 1048576) : m_spec_l14Shares xs = some xs := by
  obtain ⟨hl, hs⟩ := small_ShareS h
  unfold m_spec_l14Shares
  refine iter_all (fun i => (xs.take i, (i : Int))) _ xs.length (by omega) (fun kb i hi => ?_) (fun kb => ?_) (by simp)
  · have hsz := hs i hi
    unfold size_Share at hsz
    unfold spec_l14Shares_b4
    simp only [idx_nat hi, Option.bind_some, step1 i _ hi (by omega)]
    rw [if_pos (by omega), if_pos (by omega), if_pos (by omega), if_pos (by simp; omega), List.take_succ_eq_append_getElem hi]
  · unfold spec_l14Shares_b4 spec_l14Shares_j2
    rw [if_neg (Int.lt_irrefl _), List.take_length]
theorem p_copyShares (xs : List TShare) (h : size_ShareS xs ≤ 1048576) : m_impl_copyShares xs = some xs := by
  obtain ⟨hl, hs⟩ := small_ShareS h
  unfold m_impl_copyShares
  refine iter_all (fun i => (xs.take i, (i : Int))) _ xs.length (by omega) (fun kb i hi => ?_) (fun kb => ?_) (by simp)
  · have hsz := hs i hi
    unfold size_Share at hsz
    unfold impl_copyShares_b4
    simp only [idx_nat hi, Option.bind_some, step1 i _ hi (by omega), p_Clone_Range xs[i].Reads (by omega), p_Clone_Write xs[i].Writes (by omega)]
    rw [if_pos (by omega), if_pos (by simp; omega), List.take_succ_eq_append_getElem hi]
  · unfold impl_copyShares_b4 impl_copyShares_j2
    rw [if_neg (Int.lt_irrefl _), List.take_length]
theorem p_l14Copy (c : TCoord) (h : size_Coord c ≤ 1048576) : m_spec_l14Copy c = some c := by
  have hR : size_RecS c.Recs ≤ 1048576 := by unfold size_Coord at h; omega
  have hO : c.Order.length ≤ 1048576 := by unfold size_Coord at h; omega
  obtain ⟨hl, hs⟩ := small_RecS hR
  unfold m_spec_l14Copy
  rw [if_pos (by omega)]
  refine iter_all (fun i => ((i : Int), c.Recs.take i)) _ c.Recs.length (by omega) (fun kb i hi => ?_) (fun kb => ?_) (by simp)
  · have hsz := hs i hi
    unfold size_Rec at hsz
    unfold spec_l14Copy_b5
    simp only [idx_nat hi, Option.bind_some, step1 i _ hi (by omega), p_l14Shares c.Recs[i].Shares hsz]
    rw [if_pos (by omega), if_pos (by simp; omega), List.take_succ_eq_append_getElem hi]
  · unfold spec_l14Copy_b5 spec_l14Copy_j3
    rw [if_neg (Int.lt_irrefl _), List.take_length]
theorem p_copyCoord (c : TCoord) (h : size_Coord c ≤ 1048576) : m_impl_copyCoord c = some c := by
  have hR : size_RecS c.Recs ≤ 1048576 := by unfold size_Coord at h; omega
  have hO : c.Order.length ≤ 1048576 := by unfold size_Coord at h; omega
  obtain ⟨hl, hs⟩ := small_RecS hR
  unfold m_impl_copyCoord
  simp only [p_Clone_int _ hO, Option.bind_some]
  refine iter_all (fun i => ((i : Int), c.Recs.take i)) _ c.Recs.length (by omega) (fun kb i hi => ?_) (fun kb => ?_) (by simp)
  · have hsz := hs i hi
    unfold size_Rec at hsz
    unfold impl_copyCoord_b6
    simp only [idx_nat hi, Option.bind_some, step1 i _ hi (by omega), p_copyShares c.Recs[i].Shares hsz]
    rw [if_pos (by omega), if_pos (by simp; omega), List.take_succ_eq_append_getElem hi]
  · unfold impl_copyCoord_b6 impl_copyCoord_j4
    rw [if_neg (Int.lt_irrefl _), List.take_length]
def CoordAns (m : Nat) (x y : Option (TCoord × Int)) : Prop := ∃ r : TCoord × Int, x = some r ∧ y = some r ∧ size_RecS r.1.Recs ≤ m ∧ r.1.Order.length ≤ m
theorem CoordAns.zero {m : Nat} {z : Int} : CoordAns m (some (TCoord.mk [] [], z)) (some (TCoord.mk [] [], z)) := ⟨_, rfl, rfl, by simp [size_RecS, sumB], by simp⟩
theorem CoordAns.same {c : TCoord} {z : Int} (h : size_Coord c ≤ 1048576) : CoordAns 1048576 (some (c, z)) (some (c, z)) := by
  unfold size_Coord at h
  exact ⟨_, rfl, rfl, by simp only; omega, by simp only; omega⟩
theorem coordGood_rec {c : TCoord} (H : coordGood c = true) {i : Nat} (hi : i < c.Recs.length) : recGood c.Recs[i] = true := by
  unfold coordGood at H
  simp only [Bool.and_eq_true, decide_eq_true_eq, List.all_eq_true, List.mem_range] at H
  have h := H.1.1.2 i hi
  unfold recAt at h
  simp only [List.getElem?_eq_getElem hi, Bool.and_eq_true, decide_eq_true_eq] at h
  exact h.1.2
def reqB (k q : Int) (r : TRec) : Bool := decide (r.Client = k) && decide (r.Req = q)
def coordFind (c : TCoord) (k q : Int) : Int := if coordGood c = true then idxOf (reqB k q) c.Recs + 1 else 0
theorem p_Index_CoordFind (xs : List TRec) (k q : Int) (h : xs.length ≤ 1048576) : m_slices_IndexFunc_Rec__CoordFind_1 xs k q = some (idxOf (reqB k q) xs) := by
  unfold m_slices_IndexFunc_Rec__CoordFind_1
  rw [iter_index xs (reqB k q) (by omega) (fun kb i hi => ?_) (fun kb => ?_)]
  · unfold slices_IndexFunc_Rec__CoordFind_1_b6 m_impl_CoordFind_1 reqB
    simp only [idx_nat hi, Option.bind_some, step1 i _ hi (by omega)]
    rw [if_pos (by omega)]
    by_cases c : xs[i].Client = k <;> simp [c]
  · unfold slices_IndexFunc_Rec__CoordFind_1_b6
    rw [if_neg (by omega)]; rfl
theorem idxOf_lt {α : Type} (p : α → Bool) (xs : List α) : -1 ≤ idxOf p xs ∧ idxOf p xs < xs.length := by
  unfold idxOf
  cases h : xs.findIdx? p with
  | none => simp; omega
  | some k =>
    rw [List.findIdx?_eq_some_iff_getElem] at h
    obtain ⟨hk, _⟩ := h
    simp; omega
theorem iter_first {α : Type} (xs : List α) (p : α → Bool) (g : Int → Int) (z : Int) {f : (Int → Option Int) → Int → Option Int} (hn : xs.length ≤ 1152921504606846976)
    (hs : ∀ kb (i : Nat) (hi : i < xs.length), f kb (i : Int) = if p xs[i] = true then some (g i) else kb ((i + 1 : Nat) : Int)) (he : ∀ kb, f kb (xs.length : Int) = some z) : iter f FU 0 = some (if idxOf p xs < 0 then z else g (idxOf p xs)) := by
  rw [iter_stop (s0 := (0 : Int)) (fun i => (i : Int)) (fun i : Nat => (xs[i]?).bind fun x => if p x = true then some (some (g (i : Int))) else none) (some z) xs.length hn (fun kb i hi => ?_) (fun kb => he kb) rfl]
  · have key : ∀ (ys : List α) (o : Nat), (List.range ys.length).findSome? (fun i : Nat => (ys[i]?).bind fun x => if p x = true then some (some (g ((o + i : Nat) : Int))) else none) = (ys.findIdx? p).map fun k => some (g ((o + k : Nat) : Int)) := by
      intro ys
      induction ys with
      | nil => intro o; rfl
      | cons y ys ih =>
        intro o
        rw [List.length_cons, List.range_succ_eq_map, List.findSome?_cons, List.findSome?_map, List.findIdx?_cons]
        simp only [List.getElem?_cons_zero, Option.bind_some]
        by_cases e : p y = true
        · simp [e]
        · simp only [e, if_false, Function.comp_def, List.getElem?_cons_succ, Bool.false_eq_true]
          have := ih (o + 1)
          rw [show (fun i : Nat => (ys[i]?).bind fun x => if p x = true then some (some (g ((o + (i + 1) : Nat) : Int))) else none) = fun i : Nat => (ys[i]?).bind fun x => if p x = true then some (some (g ((o + 1 + i : Nat) : Int))) else none from by funext i; rw [show o + (i + 1) = o + 1 + i by omega]]
          rw [this]
          cases ys.findIdx? p with
          | none => rfl
          | some k => simp only [Option.map_some]; rw [show o + 1 + k = o + (k + 1) by omega]
    have := key xs 0
    simp only [Nat.zero_add] at this
    rw [this]
    unfold idxOf
    cases xs.findIdx? p with
    | none => simp
    | some k => simp only [Option.map_some]; rw [if_neg (by omega)]
  · rw [hs kb i hi, List.getElem?_eq_getElem hi]
    simp only [Option.bind_some]
    by_cases e : p xs[i] = true <;> simp [e]
theorem coordGood_tx {c : TCoord} (H : coordGood c = true) {i : Nat} (hi : i < c.Recs.length) : c.Recs[i].Tx = (i : Int) + 1 := by
  unfold coordGood at H
  simp only [Bool.and_eq_true, decide_eq_true_eq, List.all_eq_true, List.mem_range] at H
  have h := H.1.1.2 i hi
  unfold recAt at h
  simp only [List.getElem?_eq_getElem hi, Bool.and_eq_true, decide_eq_true_eq] at h
  exact h.1.1
theorem p_spec_CoordFind (c : TCoord) (k q : Int) (h : size_Coord c ≤ 1048576) : m_spec_CoordFind c k q = some (coordFind c k q) := by
  have hR : size_RecS c.Recs ≤ 1048576 := by unfold size_Coord at h; omega
  obtain ⟨hl, hs⟩ := small_RecS hR
  unfold m_spec_CoordFind coordFind
  cases hg : coordGood c with
  | true =>
    rw [iter_first c.Recs (reqB k q) (fun z => z + 1) 0 (by omega) (fun kb i hi => ?_) (fun kb => ?_)]
    · simp only [if_true]
      congr 1
      have := idxOf_lt (reqB k q) c.Recs
      split <;> omega
    · unfold spec_CoordFind_b6 spec_CoordFind_j12 reqB
      simp only [p_spec_CoordOk _ h, hg, idx_nat hi, coordGood_tx hg hi, Option.bind_some, step1 i _ hi (by omega), if_true]
      rw [if_pos (by omega)]
      by_cases c1 : c.Recs[i].Client = k <;> by_cases c2 : c.Recs[i].Req = q <;> simp [c1, c2]
    · unfold spec_CoordFind_b6
      rw [if_neg (by omega)]; rfl
  | false =>
    show iter _ (FU) 0 = _
    rw [show FU = (FU - 1) + 1 from by unfold FU; omega]
    unfold iter
    unfold spec_CoordFind_b6
    simp only [p_spec_CoordOk _ h, hg, Option.bind_some]
    split <;> rfl
theorem p_impl_CoordFind (c : TCoord) (k q : Int) (h : size_Coord c ≤ 1048576) : m_impl_CoordFind c k q = some (coordFind c k q) := by
  have hR : size_RecS c.Recs ≤ 1048576 := by unfold size_Coord at h; omega
  obtain ⟨hl, hs⟩ := small_RecS hR
  have hi := idxOf_lt (reqB k q) c.Recs
  unfold m_impl_CoordFind coordFind
  simp only [p_impl_CoordOk _ h, p_Index_CoordFind _ _ _ hl, Option.bind_some]
  rw [w64 (by omega) (by omega)]
  cases coordGood c <;> simp
  omega
theorem coordGood_len {c : TCoord} (H : coordGood c = true) : c.Recs.length ≤ 60 ∧ c.Order.length ≤ 60 := by
  unfold coordGood at H
  simp only [Bool.and_eq_true, decide_eq_true_eq] at H
  have := List.countP_le_length (p := doneB) (l := c.Recs)
  omega
theorem sumB_le {α : Type} (f : α → Nat) (b : Nat) : ∀ (xs : List α), (∀ x ∈ xs, f x ≤ b) → sumB f xs ≤ b * xs.length
  | [], _ => by simp [sumB]
  | x :: xs, H => by
    have := sumB_le f b xs fun y hy => H y (List.mem_cons_of_mem _ hy)
    have := H x List.mem_cons_self
    simp only [sumB, List.length_cons, Nat.mul_add, Nat.mul_one]
    omega
theorem sharesGood_size {xs : List TShare} (H : sharesGood xs = true) : size_ShareS xs ≤ 484 := by
  unfold sharesGood at H
  simp only [Bool.and_eq_true, decide_eq_true_eq, List.all_eq_true, List.mem_range] at H
  obtain ⟨hl, ha⟩ := H
  unfold size_ShareS
  have := sumB_le (fun y : TShare => size_Share y) 120 xs fun s hs => ?_
  · have : 120 * xs.length ≤ 480 := by omega
    omega
  · obtain ⟨i, hi, rfl⟩ := List.mem_iff_getElem.1 hs
    have h := ha i hi
    unfold shareGood readsGood writesGood at h
    simp only [List.getElem?_eq_getElem hi, Bool.and_eq_true, decide_eq_true_eq] at h
    show xs[i].Reads.length + xs[i].Writes.length ≤ 120
    omega
theorem coordGood_size {c : TCoord} (H : coordGood c = true) : size_RecS c.Recs ≤ 30000 := by
  have hl := (coordGood_len H).1
  unfold size_RecS
  have := sumB_le (fun y : TRec => size_Rec y) 484 c.Recs fun s hs => ?_
  · have : 484 * c.Recs.length ≤ 29040 := by omega
    omega
  · obtain ⟨i, hi, rfl⟩ := List.mem_iff_getElem.1 hs
    have h := coordGood_rec H hi
    unfold recGood at h
    simp only [Bool.and_eq_true] at h
    exact sharesGood_size h.1.2
def CoordAns2 (m : Nat) (x y : Option (TCoord × Int × Int)) : Prop := ∃ r : TCoord × Int × Int, x = some r ∧ y = some r ∧ size_RecS r.1.Recs ≤ m ∧ r.1.Order.length ≤ m
theorem size_append (xs : List TRec) (y : TRec) : size_RecS (xs ++ [y]) = size_RecS xs + 1 + size_Rec y := by
  unfold size_RecS
  have : sumB (fun y : TRec => size_Rec y) (xs ++ [y]) = sumB (fun y : TRec => size_Rec y) xs + size_Rec y := by
    induction xs with
    | nil => simp [sumB]
    | cons x xs ih => simp only [List.cons_append, sumB, ih]; omega
  rw [this, List.length_append, List.length_singleton]
  omega
theorem p_CoordBegin (c : TCoord) (k q : Int) (h : size_Coord c ≤ 1048576) : CoordAns2 1048576 (m_spec_CoordBegin c k q) (m_impl_CoordBegin c k q) := by
  unfold m_spec_CoordBegin m_impl_CoordBegin
  simp only [p_spec_CoordOk _ h, p_impl_CoordOk _ h, p_l1Whole, p_isWhole, p_l1In, p_isReq, Option.bind_some]
  have Z : CoordAns2 1048576 (spec_CoordBegin_j4 c k q true) (impl_CoordBegin_j4 c k q true) := ⟨_, rfl, rfl, by simp [size_RecS, sumB], by simp⟩
  cases hc : coordGood c with
  | false => simpa using Z
  | true =>
    have hn := coordGood_len hc
    have hz := coordGood_size hc
    have hJ : CoordAns2 1048576 (spec_CoordBegin_j4 c k q false) (impl_CoordBegin_j4 c k q false) := by
      unfold spec_CoordBegin_j4 impl_CoordBegin_j4
      rw [if_neg (by simp), if_neg (by simp)]
      simp only [p_l14Copy _ h, p_copyCoord _ h, p_spec_CoordFind _ _ _ h, p_impl_CoordFind _ _ _ h, Option.bind_some]
      split
      · exact ⟨_, rfl, rfl, by simp only; omega, by simp only; omega⟩
      · split
        · exact ⟨_, rfl, rfl, by simp only; omega, by simp only; omega⟩
        · rw [if_pos (by simp; omega)]
          refine ⟨_, rfl, rfl, ?_, by simp only; omega⟩
          simp only [size_append]
          have e : size_Rec (TRec.mk (IntKind.wrap .i64 ((c.Recs.length : Int) + 1)) k q 1 []) = size_ShareS [] := rfl
          have e2 : size_ShareS [] = 0 := rfl
          omega
    cases within k 0 1000000000 <;> cases within q 1 1000000000 <;> simp only [Bool.false_eq_true, if_true, if_false, Bool.not_true, Bool.not_false] <;> first | exact Z | exact hJ
def mk_Range (k : Int) : TRange := ⟨k, k + 1⟩
def marks_Range (k : Int) (n : Nat) : List TRange := (List.range n).map fun (i : Nat) => mk_Range (k + 2 * (i : Int))
theorem marks_Range_len (k : Int) (n : Nat) : (marks_Range k n).length = n := by simp [marks_Range]
theorem p_markRangeS (xs : List TRange) (k : Int) (h : xs.length ≤ 1048576) (hk : 0 ≤ k) (hk' : k ≤ 1000000000000) : m_laws_markRangeS xs k = some (k + 2 * (xs.length : Int), marks_Range k xs.length) := by
  unfold m_laws_markRangeS
  refine iter_all (fun i => (rowM (fun (i : Nat) => mk_Range (k + 2 * (i : Int))) xs i, k + 2 * (i : Int), (i : Int))) _ xs.length (by omega) (fun kb i hi => ?_) (fun kb => ?_) (by simp [rowM_zero])
  · unfold laws_markRangeS_b6
    have hl := rowM_len (fun (i : Nat) => mk_Range (k + 2 * (i : Int))) (Nat.le_of_lt hi)
    have w1 : IntKind.wrap .i64 (k + 2 * (i : Int) + 1) = k + 2 * (i : Int) + 1 := w64 (by omega) (by omega)
    have w2 : IntKind.wrap .i64 (k + 2 * (i : Int) + 1 + 1) = k + 2 * (i : Int) + 2 := by rw [w64 (by omega) (by omega)]; omega
    have e : k + 2 * ((i + 1 : Nat) : Int) = k + 2 * (i : Int) + 2 := by omega
    have hs := rowM_set (fun (i : Nat) => mk_Range (k + 2 * (i : Int))) hi
    have hx := rowM_idx (fun (i : Nat) => mk_Range (k + 2 * (i : Int))) hi
    show _ = kb (rowM (fun (i : Nat) => mk_Range (k + 2 * (i : Int))) xs (i + 1), k + 2 * ((i + 1 : Nat) : Int), ((i + 1 : Nat) : Int))
    rw [← hs, e]
    generalize rowM (fun (i : Nat) => mk_Range (k + 2 * (i : Int))) xs i = row at hl hx
    have hii : i < row.length := by rw [hl]; exact hi
    simp only [hx, Option.bind_some, Int.toNat_natCast, idx_set_same hii, List.set_set, step1 i _ hi (by omega), w1, w2, hl, mk_Range]
    rw [if_pos (by omega)]
  · unfold laws_markRangeS_b6 laws_markRangeS_j3
    have hl := rowM_len (fun (i : Nat) => mk_Range (k + 2 * (i : Int))) (Nat.le_refl xs.length)
    rw [if_neg (by simp only [hl]; omega), if_pos hl, rowM_all]
    rfl
theorem p_heldRangeS (n : Nat) (k : Int) (h : n ≤ 1048576) (hk : 0 ≤ k) (hk' : k ≤ 1000000000000) : m_laws_heldRangeS (marks_Range k n) k = some (k + 2 * (n : Int)) := by
  unfold m_laws_heldRangeS
  refine iter_all (fun i => (k + 2 * (i : Int), (i : Int))) _ n (by omega) (fun kb i hi => ?_) (fun kb => ?_) (by simp)
  · unfold laws_heldRangeS_b5
    have w1 : IntKind.wrap .i64 (k + 2 * (i : Int) + 1) = k + 2 * (i : Int) + 1 := w64 (by omega) (by omega)
    have w2 : IntKind.wrap .i64 (k + 2 * (i : Int) + 1 + 1) = k + 2 * (i : Int) + 2 := by rw [w64 (by omega) (by omega)]; omega
    have e : k + 2 * ((i + 1 : Nat) : Int) = k + 2 * (i : Int) + 2 := by omega
    have hx : idx (marks_Range k n) (i : Int) = some (mk_Range (k + 2 * (i : Int))) := idx_range _ hi
    simp only [hx, Option.bind_some, step1 i _ hi (by omega), w1, w2, mk_Range, marks_Range_len, not_true, if_false, e]
    rw [if_pos (by omega)]
  · unfold laws_heldRangeS_b5 laws_heldRangeS_j3
    rw [if_neg (by simp only [marks_Range_len]; omega)]
def mk_Write (k : Int) : TCell := ⟨k, k + 1⟩
def marks_Write (k : Int) (n : Nat) : List TCell := (List.range n).map fun (i : Nat) => mk_Write (k + 2 * (i : Int))
theorem marks_Write_len (k : Int) (n : Nat) : (marks_Write k n).length = n := by simp [marks_Write]
theorem p_markWriteS (xs : List TCell) (k : Int) (h : xs.length ≤ 1048576) (hk : 0 ≤ k) (hk' : k ≤ 1000000000000) : m_laws_markWriteS xs k = some (k + 2 * (xs.length : Int), marks_Write k xs.length) := by
  unfold m_laws_markWriteS
  refine iter_all (fun i => (rowM (fun (i : Nat) => mk_Write (k + 2 * (i : Int))) xs i, k + 2 * (i : Int), (i : Int))) _ xs.length (by omega) (fun kb i hi => ?_) (fun kb => ?_) (by simp [rowM_zero])
  · unfold laws_markWriteS_b6
    have hl := rowM_len (fun (i : Nat) => mk_Write (k + 2 * (i : Int))) (Nat.le_of_lt hi)
    have w1 : IntKind.wrap .i64 (k + 2 * (i : Int) + 1) = k + 2 * (i : Int) + 1 := w64 (by omega) (by omega)
    have w2 : IntKind.wrap .i64 (k + 2 * (i : Int) + 1 + 1) = k + 2 * (i : Int) + 2 := by rw [w64 (by omega) (by omega)]; omega
    have e : k + 2 * ((i + 1 : Nat) : Int) = k + 2 * (i : Int) + 2 := by omega
    have hs := rowM_set (fun (i : Nat) => mk_Write (k + 2 * (i : Int))) hi
    have hx := rowM_idx (fun (i : Nat) => mk_Write (k + 2 * (i : Int))) hi
    show _ = kb (rowM (fun (i : Nat) => mk_Write (k + 2 * (i : Int))) xs (i + 1), k + 2 * ((i + 1 : Nat) : Int), ((i + 1 : Nat) : Int))
    rw [← hs, e]
    generalize rowM (fun (i : Nat) => mk_Write (k + 2 * (i : Int))) xs i = row at hl hx
    have hii : i < row.length := by rw [hl]; exact hi
    simp only [hx, Option.bind_some, Int.toNat_natCast, idx_set_same hii, List.set_set, step1 i _ hi (by omega), w1, w2, hl, mk_Write]
    rw [if_pos (by omega)]
  · unfold laws_markWriteS_b6 laws_markWriteS_j3
    have hl := rowM_len (fun (i : Nat) => mk_Write (k + 2 * (i : Int))) (Nat.le_refl xs.length)
    rw [if_neg (by simp only [hl]; omega), if_pos hl, rowM_all]
    rfl
theorem p_heldWriteS (n : Nat) (k : Int) (h : n ≤ 1048576) (hk : 0 ≤ k) (hk' : k ≤ 1000000000000) : m_laws_heldWriteS (marks_Write k n) k = some (k + 2 * (n : Int)) := by
  unfold m_laws_heldWriteS
  refine iter_all (fun i => (k + 2 * (i : Int), (i : Int))) _ n (by omega) (fun kb i hi => ?_) (fun kb => ?_) (by simp)
  · unfold laws_heldWriteS_b5
    have w1 : IntKind.wrap .i64 (k + 2 * (i : Int) + 1) = k + 2 * (i : Int) + 1 := w64 (by omega) (by omega)
    have w2 : IntKind.wrap .i64 (k + 2 * (i : Int) + 1 + 1) = k + 2 * (i : Int) + 2 := by rw [w64 (by omega) (by omega)]; omega
    have e : k + 2 * ((i + 1 : Nat) : Int) = k + 2 * (i : Int) + 2 := by omega
    have hx : idx (marks_Write k n) (i : Int) = some (mk_Write (k + 2 * (i : Int))) := idx_range _ hi
    simp only [hx, Option.bind_some, step1 i _ hi (by omega), w1, w2, mk_Write, marks_Write_len, not_true, if_false, e]
    rw [if_pos (by omega)]
  · unfold laws_heldWriteS_b5 laws_heldWriteS_j3
    rw [if_neg (by simp only [marks_Write_len]; omega)]
def cShare (x : TShare) : Nat := 2 + 2 * x.Reads.length + 2 * x.Writes.length
def mkShare (x : TShare) (k : Int) : TShare := TShare.mk k (marks_Range (k + 1) x.Reads.length) (marks_Write (k + 1 + 2 * (x.Reads.length : Int)) x.Writes.length) (k + 1 + 2 * (x.Reads.length : Int) + 2 * (x.Writes.length : Int))
def gShare (xs : List TShare) (k : Int) (i : Nat) : TShare := match xs[i]? with
  | some x => mkShare x (k + (sumB cShare (xs.take i) : Nat))
  | none => TShare.mk 0 [] [] 0
theorem gShare_at (xs : List TShare) (k : Int) {i : Nat} (hi : i < xs.length) : gShare xs k i = mkShare xs[i] (k + (sumB cShare (xs.take i) : Nat)) := by
  unfold gShare
  rw [List.getElem?_eq_getElem hi]
def marks_Share (xs : List TShare) (k : Int) : List TShare := (List.range xs.length).map (gShare xs k)
theorem marks_Share_len (xs : List TShare) (k : Int) : (marks_Share xs k).length = xs.length := by simp [marks_Share]
theorem cShare_sum : ∀ (xs : List TShare), sumB cShare xs = 2 * xs.length + 2 * sumB (fun y : TShare => size_Share y) xs
  | [] => rfl
  | x :: xs => by
    have ih := cShare_sum xs
    simp only [sumB, List.length_cons, ih, cShare, size_Share]
    omega
theorem cShare_size {xs : List TShare} : sumB cShare xs = 2 * size_ShareS xs := by
  rw [cShare_sum]; unfold size_ShareS; omega
theorem cShare_bound {xs : List TShare} (h : size_ShareS xs ≤ 1048576) (i : Nat) : sumB cShare (xs.take i) ≤ 2097152 := by
  have h1 := sumB_take cShare xs i
  have h2 := @cShare_size xs
  omega
theorem p_markShareS (xs : List TShare) (k : Int) (h : size_ShareS xs ≤ 1048576) (hk : 0 ≤ k) (hk' : k ≤ 1000000000) : m_laws_markShareS xs k = some (k + (sumB cShare xs : Nat), marks_Share xs k) := by
  obtain ⟨hl0, hs0⟩ := small_ShareS h
  unfold m_laws_markShareS
  refine iter_all (fun i => (rowM (gShare xs k) xs i, k + (sumB cShare (xs.take i) : Nat), (i : Int))) _ xs.length (by omega) (fun kb i hi => ?_) (fun kb => ?_) (by simp [rowM_zero, sumB])
  · unfold laws_markShareS_b6
    have hl := rowM_len (gShare xs k) (Nat.le_of_lt hi)
    have hs := rowM_set (gShare xs k) hi
    have hx := rowM_idx (gShare xs k) hi
    have hb := cShare_bound h i
    have hsz := hs0 i hi
    unfold size_Share at hsz
    have e : k + ((sumB cShare (xs.take (i + 1)) : Nat) : Int) = k + (sumB cShare (xs.take i) : Nat) + 1 + 2 * (xs[i].Reads.length : Int) + 2 * (xs[i].Writes.length : Int) + 1 := by
      rw [sumB_step cShare hi]; unfold cShare; omega
    show _ = kb (rowM (gShare xs k) xs (i + 1), k + ((sumB cShare (xs.take (i + 1)) : Nat) : Int), ((i + 1 : Nat) : Int))
    rw [← hs, e, gShare_at xs k hi]
    have hkk : 0 ≤ k + ((sumB cShare (xs.take i) : Nat) : Int) ∧ k + ((sumB cShare (xs.take i) : Nat) : Int) ≤ 1100000000 := by omega
    generalize k + ((sumB cShare (xs.take i) : Nat) : Int) = kk at hkk ⊢
    generalize rowM (gShare xs k) xs i = row at hl hx ⊢
    have hii : i < row.length := by rw [hl]; exact hi
    have w1 : IntKind.wrap .i64 (kk + 1) = kk + 1 := w64 (by omega) (by omega)
    have hR := p_markRangeS xs[i].Reads (kk + 1) (by omega) (by omega) (by omega)
    have hW := p_markWriteS xs[i].Writes (kk + 1 + 2 * (xs[i].Reads.length : Int)) (by omega) (by omega) (by omega)
    have w2 : IntKind.wrap .i64 (kk + 1 + 2 * (xs[i].Reads.length : Int) + 2 * (xs[i].Writes.length : Int) + 1) = kk + 1 + 2 * (xs[i].Reads.length : Int) + 2 * (xs[i].Writes.length : Int) + 1 := w64 (by omega) (by omega)
    simp only [hx, Option.bind_some, Int.toNat_natCast, idx_set_same hii, List.set_set, step1 i _ hi (by omega), w1, hR, hW, w2, hl, mkShare]
    rw [if_pos (by omega)]
  · unfold laws_markShareS_b6 laws_markShareS_j3
    have hl := rowM_len (gShare xs k) (Nat.le_refl xs.length)
    rw [if_neg (by simp only [hl]; omega), if_pos hl, rowM_all, List.take_length]
    rfl
theorem p_heldShareS (xs : List TShare) (k : Int) (h : size_ShareS xs ≤ 1048576) (hk : 0 ≤ k) (hk' : k ≤ 1000000000) : m_laws_heldShareS (marks_Share xs k) k = some (k + (sumB cShare xs : Nat)) := by
  obtain ⟨hl0, hs0⟩ := small_ShareS h
  unfold m_laws_heldShareS
  refine iter_all (fun i => (k + (sumB cShare (xs.take i) : Nat), (i : Int))) _ xs.length (by omega) (fun kb i hi => ?_) (fun kb => ?_) (by simp [sumB])
  · unfold laws_heldShareS_b5
    have hx : idx (marks_Share xs k) (i : Int) = some (gShare xs k i) := idx_range _ hi
    have hb := cShare_bound h i
    have hsz := hs0 i hi
    unfold size_Share at hsz
    have e : k + ((sumB cShare (xs.take (i + 1)) : Nat) : Int) = k + (sumB cShare (xs.take i) : Nat) + 1 + 2 * (xs[i].Reads.length : Int) + 2 * (xs[i].Writes.length : Int) + 1 := by
      rw [sumB_step cShare hi]; unfold cShare; omega
    rw [e]
    rw [gShare_at xs k hi] at hx
    have hkk : 0 ≤ k + ((sumB cShare (xs.take i) : Nat) : Int) ∧ k + ((sumB cShare (xs.take i) : Nat) : Int) ≤ 1100000000 := by omega
    generalize k + ((sumB cShare (xs.take i) : Nat) : Int) = kk at hkk hx ⊢
    have w1 : IntKind.wrap .i64 (kk + 1) = kk + 1 := w64 (by omega) (by omega)
    have hR := p_heldRangeS xs[i].Reads.length (kk + 1) (by omega) (by omega) (by omega)
    have hW := p_heldWriteS xs[i].Writes.length (kk + 1 + 2 * (xs[i].Reads.length : Int)) (by omega) (by omega) (by omega)
    have w2 : IntKind.wrap .i64 (kk + 1 + 2 * (xs[i].Reads.length : Int) + 2 * (xs[i].Writes.length : Int) + 1) = kk + 1 + 2 * (xs[i].Reads.length : Int) + 2 * (xs[i].Writes.length : Int) + 1 := w64 (by omega) (by omega)
    simp only [hx, Option.bind_some, step1 i _ hi (by omega), w1, hR, hW, w2, marks_Share_len, mkShare, not_true, if_false]
    rw [if_pos (by omega), if_neg (by omega), if_neg (by omega)]
  · unfold laws_heldShareS_b5 laws_heldShareS_j3
    rw [if_neg (by simp only [marks_Share_len]; omega), List.take_length]
def cRec (x : TRec) : Nat := 4 + sumB cShare x.Shares
def mkRec (x : TRec) (k : Int) : TRec := TRec.mk k (k + 1) (k + 2) (k + 3) (marks_Share x.Shares (k + 4))
def gRec (xs : List TRec) (k : Int) (i : Nat) : TRec := match xs[i]? with
  | some x => mkRec x (k + (sumB cRec (xs.take i) : Nat))
  | none => TRec.mk 0 0 0 0 []
theorem gRec_at (xs : List TRec) (k : Int) {i : Nat} (hi : i < xs.length) : gRec xs k i = mkRec xs[i] (k + (sumB cRec (xs.take i) : Nat)) := by
  unfold gRec
  rw [List.getElem?_eq_getElem hi]
def marks_Rec (xs : List TRec) (k : Int) : List TRec := (List.range xs.length).map (gRec xs k)
theorem marks_Rec_len (xs : List TRec) (k : Int) : (marks_Rec xs k).length = xs.length := by simp [marks_Rec]
theorem cRec_sum : ∀ (xs : List TRec), sumB cRec xs = 4 * xs.length + 2 * sumB (fun y : TRec => size_Rec y) xs
  | [] => rfl
  | x :: xs => by
    have ih := cRec_sum xs
    have h := @cShare_size x.Shares
    simp only [sumB, List.length_cons, ih, cRec, size_Rec, h]
    omega
theorem cRec_bound {xs : List TRec} (h : size_RecS xs ≤ 1048576) (i : Nat) : sumB cRec (xs.take i) ≤ 4194304 := by
  have h1 := sumB_take cRec xs i
  have h2 := cRec_sum xs
  unfold size_RecS at h
  omega
theorem p_markRecS (xs : List TRec) (k : Int) (h : size_RecS xs ≤ 1048576) (hk : 0 ≤ k) (hk' : k ≤ 100000000) : m_laws_markRecS xs k = some (k + (sumB cRec xs : Nat), marks_Rec xs k) := by
  obtain ⟨hl0, hs0⟩ := small_RecS h
  unfold m_laws_markRecS
  refine iter_all (fun i => (rowM (gRec xs k) xs i, k + (sumB cRec (xs.take i) : Nat), (i : Int))) _ xs.length (by omega) (fun kb i hi => ?_) (fun kb => ?_) (by simp [rowM_zero, sumB])
  · unfold laws_markRecS_b6
    have hl := rowM_len (gRec xs k) (Nat.le_of_lt hi)
    have hs := rowM_set (gRec xs k) hi
    have hx := rowM_idx (gRec xs k) hi
    have hb := cRec_bound h i
    have hsz := hs0 i hi
    unfold size_Rec at hsz
    have e : k + ((sumB cRec (xs.take (i + 1)) : Nat) : Int) = k + (sumB cRec (xs.take i) : Nat) + 4 + (sumB cShare xs[i].Shares : Nat) := by
      rw [sumB_step cRec hi]; unfold cRec; omega
    show _ = kb (rowM (gRec xs k) xs (i + 1), k + ((sumB cRec (xs.take (i + 1)) : Nat) : Int), ((i + 1 : Nat) : Int))
    rw [← hs, e, gRec_at xs k hi]
    have hkk : 0 ≤ k + ((sumB cRec (xs.take i) : Nat) : Int) ∧ k + ((sumB cRec (xs.take i) : Nat) : Int) ≤ 110000000 := by omega
    generalize k + ((sumB cRec (xs.take i) : Nat) : Int) = kk at hkk ⊢
    generalize rowM (gRec xs k) xs i = row at hl hx ⊢
    have hii : i < row.length := by rw [hl]; exact hi
    have w1 : IntKind.wrap .i64 (kk + 1) = kk + 1 := w64 (by omega) (by omega)
    have w2 : IntKind.wrap .i64 (kk + 1 + 1) = kk + 2 := by rw [w64 (by omega) (by omega)]; omega
    have w3 : IntKind.wrap .i64 (kk + 2 + 1) = kk + 3 := by rw [w64 (by omega) (by omega)]; omega
    have w4 : IntKind.wrap .i64 (kk + 3 + 1) = kk + 4 := by rw [w64 (by omega) (by omega)]; omega
    have hS := p_markShareS xs[i].Shares (kk + 4) hsz (by omega) (by omega)
    simp only [hx, Option.bind_some, Int.toNat_natCast, idx_set_same hii, List.set_set, step1 i _ hi (by omega), w1, w2, w3, w4, hS, hl, mkRec]
    rw [if_pos (by omega)]
  · unfold laws_markRecS_b6 laws_markRecS_j3
    have hl := rowM_len (gRec xs k) (Nat.le_refl xs.length)
    rw [if_neg (by simp only [hl]; omega), if_pos hl, rowM_all, List.take_length]
    rfl
theorem p_heldRecS (xs : List TRec) (k : Int) (h : size_RecS xs ≤ 1048576) (hk : 0 ≤ k) (hk' : k ≤ 100000000) : m_laws_heldRecS (marks_Rec xs k) k = some (k + (sumB cRec xs : Nat)) := by
  obtain ⟨hl0, hs0⟩ := small_RecS h
  unfold m_laws_heldRecS
  refine iter_all (fun i => (k + (sumB cRec (xs.take i) : Nat), (i : Int))) _ xs.length (by omega) (fun kb i hi => ?_) (fun kb => ?_) (by simp [sumB])
  · unfold laws_heldRecS_b5
    have hx : idx (marks_Rec xs k) (i : Int) = some (gRec xs k i) := idx_range _ hi
    have hb := cRec_bound h i
    have hsz := hs0 i hi
    unfold size_Rec at hsz
    have e : k + ((sumB cRec (xs.take (i + 1)) : Nat) : Int) = k + (sumB cRec (xs.take i) : Nat) + 4 + (sumB cShare xs[i].Shares : Nat) := by
      rw [sumB_step cRec hi]; unfold cRec; omega
    rw [e]
    rw [gRec_at xs k hi] at hx
    have hkk : 0 ≤ k + ((sumB cRec (xs.take i) : Nat) : Int) ∧ k + ((sumB cRec (xs.take i) : Nat) : Int) ≤ 110000000 := by omega
    generalize k + ((sumB cRec (xs.take i) : Nat) : Int) = kk at hkk hx ⊢
    have w1 : IntKind.wrap .i64 (kk + 1) = kk + 1 := w64 (by omega) (by omega)
    have w2 : IntKind.wrap .i64 (kk + 1 + 1) = kk + 2 := by rw [w64 (by omega) (by omega)]; omega
    have w3 : IntKind.wrap .i64 (kk + 2 + 1) = kk + 3 := by rw [w64 (by omega) (by omega)]; omega
    have w4 : IntKind.wrap .i64 (kk + 3 + 1) = kk + 4 := by rw [w64 (by omega) (by omega)]; omega
    have hS := p_heldShareS xs[i].Shares (kk + 4) hsz (by omega) (by omega)
    simp only [hx, Option.bind_some, step1 i _ hi (by omega), w1, w2, w3, w4, hS, marks_Rec_len, mkRec, not_true, if_false]
    rw [if_pos (by omega), if_neg (by omega)]
  · unfold laws_heldRecS_b5 laws_heldRecS_j3
    rw [if_neg (by simp only [marks_Rec_len]; omega), List.take_length]
def mk_Int (k : Int) : Int := k
def marks_Int (k : Int) (n : Nat) : List Int := (List.range n).map fun (i : Nat) => mk_Int (k + 1 * (i : Int))
theorem marks_Int_len (k : Int) (n : Nat) : (marks_Int k n).length = n := by simp [marks_Int]
theorem p_markIntS (xs : List Int) (k : Int) (h : xs.length ≤ 1048576) (hk : 0 ≤ k) (hk' : k ≤ 1000000000000) : m_laws_markIntS xs k = some (k + 1 * (xs.length : Int), marks_Int k xs.length) := by
  unfold m_laws_markIntS
  refine iter_all (fun i => (rowM (fun (i : Nat) => mk_Int (k + 1 * (i : Int))) xs i, k + 1 * (i : Int), (i : Int))) _ xs.length (by omega) (fun kb i hi => ?_) (fun kb => ?_) (by simp [rowM_zero])
  · unfold laws_markIntS_b6
    have hl := rowM_len (fun (i : Nat) => mk_Int (k + 1 * (i : Int))) (Nat.le_of_lt hi)
    have w1 : IntKind.wrap .i64 (k + 1 * (i : Int) + 1) = k + 1 * (i : Int) + 1 := w64 (by omega) (by omega)
    have e : k + 1 * ((i + 1 : Nat) : Int) = k + 1 * (i : Int) + 1 := by omega
    have hs := rowM_set (fun (i : Nat) => mk_Int (k + 1 * (i : Int))) hi
    have hx := rowM_idx (fun (i : Nat) => mk_Int (k + 1 * (i : Int))) hi
    show _ = kb (rowM (fun (i : Nat) => mk_Int (k + 1 * (i : Int))) xs (i + 1), k + 1 * ((i + 1 : Nat) : Int), ((i + 1 : Nat) : Int))
    rw [← hs, e]
    generalize rowM (fun (i : Nat) => mk_Int (k + 1 * (i : Int))) xs i = row at hl hx
    have hii : i < row.length := by rw [hl]; exact hi
    simp only [hx, Option.bind_some, Int.toNat_natCast, idx_set_same hii, List.set_set, step1 i _ hi (by omega), w1, hl, mk_Int]
    rw [if_pos (by omega)]
  · unfold laws_markIntS_b6 laws_markIntS_j3
    have hl := rowM_len (fun (i : Nat) => mk_Int (k + 1 * (i : Int))) (Nat.le_refl xs.length)
    rw [if_neg (by simp only [hl]; omega), if_pos hl, rowM_all]
    rfl
theorem p_heldIntS (n : Nat) (k : Int) (h : n ≤ 1048576) (hk : 0 ≤ k) (hk' : k ≤ 1000000000000) : m_laws_heldIntS (marks_Int k n) k = some (k + 1 * (n : Int)) := by
  unfold m_laws_heldIntS
  refine iter_all (fun i => (k + 1 * (i : Int), (i : Int))) _ n (by omega) (fun kb i hi => ?_) (fun kb => ?_) (by simp)
  · unfold laws_heldIntS_b5
    have w1 : IntKind.wrap .i64 (k + 1 * (i : Int) + 1) = k + 1 * (i : Int) + 1 := w64 (by omega) (by omega)
    have e : k + 1 * ((i + 1 : Nat) : Int) = k + 1 * (i : Int) + 1 := by omega
    have hx : idx (marks_Int k n) (i : Int) = some (mk_Int (k + 1 * (i : Int))) := idx_range _ hi
    simp only [hx, Option.bind_some, step1 i _ hi (by omega), w1, mk_Int, marks_Int_len, not_true, if_false, e]
    rw [if_pos (by omega)]
  · unfold laws_heldIntS_b5 laws_heldIntS_j3
    rw [if_neg (by simp only [marks_Int_len]; omega)]
theorem p_markCoord (x : TCoord) (h1 : size_RecS x.Recs ≤ 1048576) (h2 : x.Order.length ≤ 1048576) : m_laws_markCoord x 1 = some (1 + (sumB cRec x.Recs : Nat) + (x.Order.length : Int), TCoord.mk (marks_Rec x.Recs 1) (marks_Int (1 + (sumB cRec x.Recs : Nat)) x.Order.length)) := by
  have hb := cRec_bound h1 x.Recs.length
  rw [List.take_length] at hb
  unfold m_laws_markCoord
  have e1 := p_markRecS x.Recs 1 h1 (by omega) (by omega)
  have e2 := p_markIntS x.Order (1 + (sumB cRec x.Recs : Nat)) h2 (by omega) (by omega)
  simp only [e1, Option.bind_some, e2, marks_Rec_len, marks_Int_len, if_true, Int.one_mul]
theorem hold_Coord (x : TCoord) (h1 : size_RecS x.Recs ≤ 1048576) (h2 : x.Order.length ≤ 1048576) : ∃ r : Int × TCoord, m_laws_markCoord x 1 = some r ∧ 0 ≤ r.1 ∧ r.2.Recs.length = x.Recs.length ∧ r.2.Order.length = x.Order.length ∧ m_laws_heldCoord r.2 1 = some r.1 := by
  have hb := cRec_bound h1 x.Recs.length
  rw [List.take_length] at hb
  refine ⟨_, p_markCoord x h1 h2, by simp only; omega, by simp [marks_Rec_len], by simp [marks_Int_len], ?_⟩
  unfold m_laws_heldCoord
  have e1 := p_heldRecS x.Recs 1 h1 (by omega) (by omega)
  have e2 := p_heldIntS x.Order.length (1 + (sumB cRec x.Recs : Nat)) h2 (by omega) (by omega)
  simp only [e1, Option.bind_some]
  rw [if_neg (by omega), e2]
  simp only [Option.bind_some, Int.one_mul]
  rw [if_neg (by omega)]
theorem mark_Coord (x : TCoord) (h1 : size_RecS x.Recs ≤ 1048576) (h2 : x.Order.length ≤ 1048576) : ∃ r : Int × TCoord, m_laws_markCoord x 1 = some r ∧ 0 ≤ r.1 ∧ r.2.Recs.length = x.Recs.length ∧ r.2.Order.length = x.Order.length := by
  have hb := cRec_bound h1 x.Recs.length
  rw [List.take_length] at hb
  exact ⟨_, p_markCoord x h1 h2, by simp only; omega, by simp [marks_Rec_len], by simp [marks_Int_len]⟩
theorem p_eqCoord2 (x y : TCoord) (h1 : size_RecS x.Recs ≤ 1048576) (h2 : x.Order.length ≤ 1048576) : m_laws_eqCoord x y = some (decide (x = y)) := by
  unfold m_laws_eqCoord
  simp only [p_eqRecS _ _ h1, p_eqIntS _ _ h2, Option.bind_some]
  cases x; cases y
  simp only [TCoord.mk.injEq]
  repeat' split
  all_goals simp_all
theorem p_FnExactCoordBegin (a1 : TCoord) (a2 a3 : Int) (h : ok_TCoord a1) (h2 : inK .i64 a2) (h3 : inK .i64 a3) : m_laws_FnExactCoordBegin a1 a2 a3 = some true := by
  unfold m_laws_FnExactCoordBegin
  rw [p_szCoord a1 h _ (by omega) (by omega)]
  simp only [Option.bind_some]
  split
  · rfl
  · rename_i h1
    have hl : size_Coord a1 ≤ 1048576 := by omega
    have hh := hl
    unfold size_Coord at hh
    obtain ⟨r, e1, e2, b1, b2⟩ := p_CoordBegin a1 a2 a3 hl
    obtain ⟨m, g1, g2, g3, g4⟩ := mark_Coord a1 (by omega) (by omega)
    obtain ⟨m', k1, k2, k3, k4, k5⟩ := hold_Coord r.1 b1 b2
    have q1 : ¬ m.1 < 0 := by omega
    have q2 : ¬ m'.1 < 0 := by omega
    simp [p_toCoord _ hl, e1, e2, p_eqCoord _ _ hl, p_eqCoord2 _ _ b1 b2, g1, g3, g4, q1, k1, k3, k4, k5, q2, laws_FnExactCoordBegin_j15, laws_FnExactCoordBegin_j27, laws_FnExactCoordBegin_j42]
end Go.AW
