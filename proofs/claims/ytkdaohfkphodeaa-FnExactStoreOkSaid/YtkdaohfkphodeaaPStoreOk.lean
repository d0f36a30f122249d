/- Plain laws: what the plain functions answer. Conditions: each theorem's own. -/
import Derived.Test.YtkdaohfkphodeaaMStoreOk
set_option linter.unusedVariables false
set_option linter.unusedSimpArgs false
set_option maxRecDepth 100000
namespace Go.AW

theorem w64 {n : Int} (h1 : -9223372036854775808 ≤ n) (h2 : n < 9223372036854775808) : IntKind.wrap .i64 n = n := by
  rw [IntKind.wrap_i64]; omega

theorem inK64 {n : Int} (h : inK .i64 n) : -9223372036854775808 ≤ n ∧ n < 9223372036854775808 := by
  unfold inK IntKind.min IntKind.max at h
  simp only [IntKind.bits, IntKind.signed] at h
  simp at h
  omega

theorem idx_nat {α : Type} {xs : List α} {i : Nat} (h : i < xs.length) : idx xs (i : Int) = some xs[i] := by
  unfold idx
  rw [if_pos (by omega)]
  simp [h]

theorem idx_ofNat {α : Type} (xs : List α) (i : Nat) : idx xs (i : Int) = xs[i]? := by
  unfold idx
  rw [if_pos (by omega)]
  simp

/-- Rounds that go from one state to the next, or end the whole. -/
theorem iter_ex {S R : Type} {f : (S → Option R) → S → Option R} (st : Nat → S) (stop : Nat → Option (Option R)) (k : Option R) (n : Nat)
    (hs : ∀ kb i, i < n → f kb (st i) = match stop i with | some r => r | none => kb (st (i + 1))) (he : ∀ kb, f kb (st n) = k) :
    ∀ (m i : Nat), i ≤ n → n - i < m → iter f m (st i) = match ((List.range n).drop i).findSome? stop with | some r => r | none => k
  | 0, i, _, h => by omega
  | m + 1, i, hi, h => by
    unfold iter
    by_cases e : i = n
    · subst e
      rw [he]
      simp [List.drop_eq_nil_of_le]
    · have hlt : i < n := by omega
      rw [hs _ i hlt, List.drop_eq_getElem_cons (by simpa using hlt)]
      simp only [List.getElem_range, List.findSome?_cons]
      cases stop i with
      | some r => rfl
      | none => exact iter_ex st stop k n hs he m (i + 1) (by omega) (by omega)

/-- A loop over 0 .. n-1 that may end early. -/
theorem iter_stop {S R : Type} {f : (S → Option R) → S → Option R} (st : Nat → S) (stop : Nat → Option (Option R)) (k : Option R) (n : Nat) (hn : n ≤ 1152921504606846976)
    (hs : ∀ kb i, i < n → f kb (st i) = match stop i with | some r => r | none => kb (st (i + 1))) (he : ∀ kb, f kb (st n) = k) {s0 : S} (h0 : s0 = st 0) :
    iter f FU s0 = match (List.range n).findSome? stop with | some r => r | none => k := by
  subst h0
  have := iter_ex st stop k n hs he FU 0 (by omega) (by unfold FU; omega)
  simpa using this

/-- A loop over 0 .. n-1 that does not end early. -/
theorem iter_all {S R : Type} {f : (S → Option R) → S → Option R} (st : Nat → S) (k : Option R) (n : Nat) (hn : n ≤ 1152921504606846976)
    (hs : ∀ kb i, i < n → f kb (st i) = kb (st (i + 1))) (he : ∀ kb, f kb (st n) = k) {s0 : S} (h0 : s0 = st 0) : iter f FU s0 = k := by
  rw [iter_stop st (fun _ => none) k n hn (fun kb i hi => hs kb i hi) he h0]
  have : (List.range n).findSome? (fun _ => (none : Option (Option R))) = none := by
    rw [List.findSome?_eq_none_iff]; intro x _; rfl
  rw [this]

/-- A loop that ends with r at the first place that is not good. -/
theorem iter_good {S R : Type} {f : (S → Option R) → S → Option R} (st : Nat → S) (good : Nat → Bool) (r k : Option R) (n : Nat) (hn : n ≤ 1152921504606846976)
    (hs : ∀ kb i, i < n → f kb (st i) = if good i = true then kb (st (i + 1)) else r) (he : ∀ kb, f kb (st n) = k) {s0 : S} (h0 : s0 = st 0) :
    iter f FU s0 = if (List.range n).all good = true then k else r := by
  rw [iter_stop st (fun i => if good i = true then none else some r) k n hn (fun kb i hi => by rw [hs kb i hi]; split <;> rfl) he h0]
  by_cases e : (List.range n).all good = true
  · have : (List.range n).findSome? (fun i => if good i = true then none else some r) = none := by
      rw [List.findSome?_eq_none_iff]
      intro x hx
      rw [List.all_eq_true] at e
      simp [e x hx]
    rw [this, if_pos e]
  · rw [if_neg e]
    cases h : (List.range n).findSome? (fun i => if good i = true then none else some r) with
    | none =>
      exfalso
      apply e
      rw [List.all_eq_true]
      intro x hx
      rw [List.findSome?_eq_none_iff] at h
      have := h x hx
      by_cases g : good x = true
      · exact g
      · simp [g] at this
    | some q =>
      obtain ⟨x, hx, hq⟩ := List.exists_of_findSome?_eq_some h
      split at hq
      · cases hq
      · cases hq; rfl

/-- To copy a list into zeros, element by element. -/
theorem iter_copy {α R : Type} {f : (List α × Int → Option R) → List α × Int → Option R} (xs : List α) (z : α) (k : List α → Option R) (hn : xs.length ≤ 2147483648)
    (hs : ∀ kb (ys : List α) (i : Nat) (hi : i < xs.length), ys.length = xs.length → f kb (ys, (i : Int)) = kb (ys.set i xs[i], ((i + 1 : Nat) : Int)))
    (he : ∀ kb (ys : List α), f kb (ys, (xs.length : Int)) = k ys) : iter f FU (List.replicate xs.length z, 0) = k xs := by
  refine iter_all (fun i => (xs.take i ++ List.replicate (xs.length - i) z, (i : Int))) _ xs.length (by omega) (fun kb i hi => ?_) (fun kb => ?_) (by simp)
  · rw [hs kb _ i hi (by simp; omega)]
    congr 2
    have : xs.length - i = (xs.length - (i + 1)) + 1 := by omega
    have hk : min i xs.length = i := by omega
    show _ = (List.take (i + 1) xs ++ _)
    rw [this, List.replicate_succ, List.set_append_right _ _ (by simp; omega), show List.take (i + 1) xs = List.take i xs ++ [xs[i]] from List.take_succ_eq_append_getElem hi]
    simp only [List.length_take, hk, Nat.sub_self, List.set_cons_zero]
    rw [List.append_assoc]
    rfl
  · rw [he]
    simp

theorem all_range_eq {α : Type} [DecidableEq α] {xs ys : List α} (h : xs.length = ys.length) : (List.range xs.length).all (fun i => decide (xs[i]? = ys[i]?)) = decide (xs = ys) := by
  by_cases e : xs = ys
  · subst e; simp
  · rw [decide_eq_false e, List.all_eq_false]
    apply Classical.byContradiction
    intro hc
    apply e
    apply List.ext_getElem? 
    intro i
    by_cases hi : i < xs.length
    · apply Classical.byContradiction
      intro hne
      exact hc ⟨i, List.mem_range.2 hi, by simpa using hne⟩
    · rw [List.getElem?_eq_none (by omega), List.getElem?_eq_none (by omega)]

theorem step1 (i : Nat) (n : Nat) (h : i < n) (hn : n ≤ 1152921504606846976) : IntKind.wrap .i64 ((i : Int) + 1) = ((i + 1 : Nat) : Int) := by
  rw [w64 (by omega) (by omega)]; omega

theorem p_szCellS (xs : List TCell) (h : xs.length ≤ maxLen) (z : Int) (h1 : 0 ≤ z) (h2 : z ≤ 1048576) : m_laws_szCellS xs z = some (if z < xs.length then -1 else z - xs.length) := by
  unfold m_laws_szCellS
  have : IntKind.wrap .i64 (z - (xs.length : Int)) = z - xs.length := by unfold maxLen at h; exact w64 (by omega) (by omega)
  rw [this]
  split <;> split <;> first | rfl | omega

theorem p_toCellS (xs : List TCell) (h : xs.length ≤ 1048576) : m_laws_toCellS xs = some xs := by
  unfold m_laws_toCellS
  rw [if_pos ⟨by omega, by omega⟩]
  simp only [Int.toNat_natCast]
  refine iter_copy xs _ laws_toCellS_j3 (by omega) (fun kb ys i hi hy => ?_) (fun kb ys => ?_)
  · unfold laws_toCellS_b5
    simp only [idx_nat hi, idx_nat (show i < ys.length by omega), m_laws_toCell, Option.bind_some, Int.toNat_natCast, step1 i _ hi (by omega)]
    rw [if_pos (by omega)]
  · unfold laws_toCellS_b5
    rw [if_neg (by omega)]

theorem p_eqCell (a b : TCell) : m_laws_eqCell a b = some (decide (a = b)) := by
  unfold m_laws_eqCell
  cases a; cases b
  simp only [TCell.mk.injEq]
  repeat' split
  all_goals simp_all

theorem p_eqCellS (xs ys : List TCell) (h : xs.length ≤ 1048576) : m_laws_eqCellS xs ys = some (decide (xs = ys)) := by
  unfold m_laws_eqCellS
  split
  · rename_i hl
    have : ¬ xs = ys := fun e => hl (by rw [e])
    simp [this]
  · rename_i hl
    have hl : xs.length = ys.length := by omega
    rw [iter_good (s0 := (0 : Int)) (fun i => (i : Int)) (fun i => decide (xs[i]? = ys[i]?)) (some false) (some true) xs.length (by omega) (fun kb i hi => ?_) (fun kb => ?_) rfl, all_range_eq hl]
    · by_cases e : xs = ys <;> simp [e]
    · unfold laws_eqCellS_b6
      simp only [idx_nat hi, idx_nat (show i < ys.length by omega), p_eqCell, Option.bind_some, step1 i _ hi (by omega)]
      rw [if_pos (by omega), List.getElem?_eq_getElem hi, List.getElem?_eq_getElem (show i < ys.length by omega)]
      simp
    · unfold laws_eqCellS_b6
      rw [if_neg (by omega)]
      rfl

def within (z lo hi : Int) : Bool := decide (lo ≤ z) && decide (z ≤ hi)

theorem p_l1In (z lo hi : Int) : m_spec_l1In z lo hi = some (within z lo hi) := by
  unfold m_spec_l1In within; by_cases h : lo ≤ z <;> simp [h]
theorem p_from (z lo hi : Int) : m_impl_from z lo hi = some (within z lo hi) := by
  unfold m_impl_from within; by_cases h : lo ≤ z <;> simp [h]
theorem p_l10Key (z : Int) : m_spec_l10Key z = some (within z 0 999) := by simp [m_spec_l10Key, p_l1In]
theorem p_isKey (z : Int) : m_impl_isKey z = some (within z 0 999) := by simp [m_impl_isKey, p_from]
theorem p_l1Whole (z : Int) : m_spec_l1Whole z = some (within z 0 1000000000) := by simp [m_spec_l1Whole, p_l1In]
theorem p_isWhole (z : Int) : m_impl_isWhole z = some (within z 0 1000000000) := by simp [m_impl_isWhole, p_from]

def cellGood (xs : List TCell) (i : Nat) : Bool := match xs[i]? with
  | none => true
  | some c => within c.Key 0 999 && within c.Value 0 1000000000 && (i == 0 || match xs[i - 1]? with | some p => decide (p.Key < c.Key) | none => true)

def storeGood (xs : List TCell) : Bool := decide (xs.length ≤ 60) && (List.range xs.length).all (cellGood xs)

theorem p_spec_StoreOk (xs : List TCell) (h : xs.length ≤ 1048576) : m_spec_StoreOk xs = some (storeGood xs) := by
  unfold m_spec_StoreOk storeGood
  split
  · rename_i h1
    have : ¬ xs.length ≤ 60 := by omega
    simp [this]
  · rename_i h1
    have : xs.length ≤ 60 := by omega
    rw [iter_good (s0 := (0 : Int)) (fun i => (i : Int)) (cellGood xs) (some false) (some true) xs.length (by omega) (fun kb i hi => ?_) (fun kb => ?_) rfl]
    · simp only [this, decide_true, Bool.true_and]; split <;> simp_all
    · unfold spec_StoreOk_b5 spec_StoreOk_j8 cellGood
      simp only [idx_nat hi, p_l10Key, p_l1Whole, Option.bind_some, step1 i _ hi (by omega), List.getElem?_eq_getElem hi]
      rw [if_pos (by omega)]
      cases within xs[i].Key 0 999 <;> simp
      cases within xs[i].Value 0 1000000000 <;> simp
      by_cases h0 : 0 < i
      · have h2 : IntKind.wrap .i64 ((i : Int) - 1) = ((i - 1 : Nat) : Int) := by rw [w64 (by omega) (by omega)]; omega
        have h3 : i - 1 < xs.length := by omega
        have h4 : ¬ i = 0 := by omega
        simp only [h0, if_true, h2, idx_nat h3, Option.bind_some, List.getElem?_eq_getElem h3, h4, false_or]
        by_cases h5 : xs[i].Key ≤ xs[i - 1].Key
        · have : ¬ xs[i - 1].Key < xs[i].Key := by omega
          simp [h5, this]
        · have : xs[i - 1].Key < xs[i].Key := by omega
          simp [h5, this]
      · have h4 : i = 0 := by omega
        simp [h4]
    · unfold spec_StoreOk_b5
      rw [if_neg (by omega)]; rfl

theorem p_impl_StoreOk (xs : List TCell) (h : xs.length ≤ 1048576) : m_impl_StoreOk xs = some (storeGood xs) := by
  unfold m_impl_StoreOk storeGood
  rw [iter_good (s0 := (0 : Int)) (fun i => (i : Int)) (cellGood xs) (some false) (some (decide (xs.length ≤ 60))) xs.length (by omega) (fun kb i hi => ?_) (fun kb => ?_) rfl]
  · split <;> simp_all
  · unfold impl_StoreOk_b4 impl_StoreOk_j9 cellGood
    simp only [idx_nat hi, p_isKey, p_isWhole, Option.bind_some, step1 i _ hi (by omega), List.getElem?_eq_getElem hi]
    rw [if_pos (by omega)]
    cases within xs[i].Key 0 999 <;> simp
    cases within xs[i].Value 0 1000000000 <;> simp
    by_cases h0 : 0 < i
    · have h2 : IntKind.wrap .i64 ((i : Int) - 1) = ((i - 1 : Nat) : Int) := by rw [w64 (by omega) (by omega)]; omega
      have h3 : i - 1 < xs.length := by omega
      have h4 : ¬ i = 0 := by omega
      simp only [h0, if_true, h2, idx_nat h3, Option.bind_some, List.getElem?_eq_getElem h3, h4, false_or]
      by_cases h5 : xs[i].Key ≤ xs[i - 1].Key
      · have : ¬ xs[i - 1].Key < xs[i].Key := by omega
        simp [h5, this]
      · have : xs[i - 1].Key < xs[i].Key := by omega
        simp [h5, this]
    · have h4 : i = 0 := by omega
      simp [h4]
  · unfold impl_StoreOk_b4 impl_StoreOk_j2
    rw [if_neg (by omega)]
    have : ((xs.length : Int) ≤ 60) ↔ xs.length ≤ 60 := by omega
    simp [this]

theorem p_FnExactStoreOk (a1 : List TCell) (h : okS ok_TCell a1) : m_laws_FnExactStoreOk a1 = some true := by
  unfold m_laws_FnExactStoreOk
  rw [p_szCellS a1 h.1 _ (by omega) (by omega)]
  simp only [Option.bind_some]
  split
  · rfl
  · rename_i h1
    have hl : a1.length ≤ 1048576 := by omega
    simp [p_toCellS _ hl, p_spec_StoreOk _ hl, p_impl_StoreOk _ hl, p_eqCellS _ _ hl]

end Go.AW
