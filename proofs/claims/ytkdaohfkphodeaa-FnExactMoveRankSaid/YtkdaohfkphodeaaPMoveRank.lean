/- Plain laws: what the plain functions answer. Conditions: each theorem's own. -/
import Derived.Test.YtkdaohfkphodeaaMMoveRank
set_option linter.unusedVariables false
set_option linter.unusedSimpArgs false
set_option maxRecDepth 100000
namespace Go.AW

theorem w64 {n : Int} (h1 : -9223372036854775808 ≤ n) (h2 : n < 9223372036854775808) : IntKind.wrap .i64 n = n := by
  rw [IntKind.wrap_i64]; omega

theorem inK64 {n : Int} (h : inK .i64 n) : -9223372036854775808 ≤ n ∧ n < 9223372036854775808 := by
  unfold inK IntKind.min IntKind.max at h
  simp only [IntKind.bits, IntKind.signed] at h
  simp at h
  omega

theorem idx_nat {α : Type} {xs : List α} {i : Nat} (h : i < xs.length) : idx xs (i : Int) = some xs[i] := by
  unfold idx
  rw [if_pos (by omega)]
  simp [h]

theorem idx_ofNat {α : Type} (xs : List α) (i : Nat) : idx xs (i : Int) = xs[i]? := by
  unfold idx
  rw [if_pos (by omega)]
  simp

/-- Rounds that go from one state to the next, or end the whole. -/
theorem iter_ex {S R : Type} {f : (S → Option R) → S → Option R} (st : Nat → S) (stop : Nat → Option (Option R)) (k : Option R) (n : Nat)
    (hs : ∀ kb i, i < n → (∀ j, j < i → stop j = none) → f kb (st i) = match stop i with | some r => r | none => kb (st (i + 1))) (he : ∀ kb, (∀ j, j < n → stop j = none) → f kb (st n) = k) :
    ∀ (m i : Nat), i ≤ n → (∀ j, j < i → stop j = none) → n - i < m → iter f m (st i) = match ((List.range n).drop i).findSome? stop with | some r => r | none => k
  | 0, i, _, _, h => by omega
  | m + 1, i, hi, hp, h => by
    unfold iter
    by_cases e : i = n
    · subst e
      rw [he _ hp]
      simp [List.drop_eq_nil_of_le]
    · have hlt : i < n := by omega
      rw [hs _ i hlt hp, List.drop_eq_getElem_cons (by simpa using hlt)]
      simp only [List.getElem_range, List.findSome?_cons]
      cases hq : stop i with
      | some r => rfl
      | none => exact iter_ex st stop k n hs he m (i + 1) (by omega) (fun j hj => by
          by_cases e' : j = i
          · subst e'; exact hq
          · exact hp j (by omega)) (by omega)

/-- A loop over 0 .. n-1 that may end early. -/
theorem iter_stopH {S R : Type} {f : (S → Option R) → S → Option R} (st : Nat → S) (stop : Nat → Option (Option R)) (k : Option R) (n : Nat) (hn : n ≤ 1152921504606846976)
    (hs : ∀ kb i, i < n → (∀ j, j < i → stop j = none) → f kb (st i) = match stop i with | some r => r | none => kb (st (i + 1))) (he : ∀ kb, (∀ j, j < n → stop j = none) → f kb (st n) = k) {s0 : S} (h0 : s0 = st 0) :
    iter f FU s0 = match (List.range n).findSome? stop with | some r => r | none => k := by
  subst h0
  have := iter_ex st stop k n hs he FU 0 (by omega) (fun j hj => by omega) (by unfold FU; omega)
  simpa using this

theorem iter_stop {S R : Type} {f : (S → Option R) → S → Option R} (st : Nat → S) (stop : Nat → Option (Option R)) (k : Option R) (n : Nat) (hn : n ≤ 1152921504606846976)
    (hs : ∀ kb i, i < n → f kb (st i) = match stop i with | some r => r | none => kb (st (i + 1))) (he : ∀ kb, f kb (st n) = k) {s0 : S} (h0 : s0 = st 0) :
    iter f FU s0 = match (List.range n).findSome? stop with | some r => r | none => k :=
  iter_stopH st stop k n hn (fun kb i hi _ => hs kb i hi) (fun kb _ => he kb) h0

/-- A loop over 0 .. n-1 that does not end early. -/
theorem iter_all {S R : Type} {f : (S → Option R) → S → Option R} (st : Nat → S) (k : Option R) (n : Nat) (hn : n ≤ 1152921504606846976)
    (hs : ∀ kb i, i < n → f kb (st i) = kb (st (i + 1))) (he : ∀ kb, f kb (st n) = k) {s0 : S} (h0 : s0 = st 0) : iter f FU s0 = k := by
  rw [iter_stop st (fun _ => none) k n hn (fun kb i hi => hs kb i hi) he h0]
  have : (List.range n).findSome? (fun _ => (none : Option (Option R))) = none := by
    rw [List.findSome?_eq_none_iff]; intro x _; rfl
  rw [this]

/-- A loop that ends with r at the first place that is not good. -/
theorem iter_goodH {S R : Type} {f : (S → Option R) → S → Option R} (st : Nat → S) (good : Nat → Bool) (r k : Option R) (n : Nat) (hn : n ≤ 1152921504606846976)
    (hs : ∀ kb i, i < n → (∀ j, j < i → good j = true) → f kb (st i) = if good i = true then kb (st (i + 1)) else r) (he : ∀ kb, (∀ j, j < n → good j = true) → f kb (st n) = k) {s0 : S} (h0 : s0 = st 0) :
    iter f FU s0 = if (List.range n).all good = true then k else r := by
  have tr : ∀ j, (if good j = true then (none : Option (Option R)) else some r) = none → good j = true := fun j h => by
    split at h
    · assumption
    · cases h
  rw [iter_stopH st (fun i => if good i = true then none else some r) k n hn (fun kb i hi hp => by rw [hs kb i hi (fun j hj => tr j (hp j hj))]; split <;> rfl) (fun kb hp => he kb (fun j hj => tr j (hp j hj))) h0]
  by_cases e : (List.range n).all good = true
  · have : (List.range n).findSome? (fun i => if good i = true then none else some r) = none := by
      rw [List.findSome?_eq_none_iff]
      intro x hx
      rw [List.all_eq_true] at e
      simp [e x hx]
    rw [this, if_pos e]
  · rw [if_neg e]
    cases h : (List.range n).findSome? (fun i => if good i = true then none else some r) with
    | none =>
      exfalso
      apply e
      rw [List.all_eq_true]
      intro x hx
      rw [List.findSome?_eq_none_iff] at h
      exact tr x (h x hx)
    | some q =>
      obtain ⟨x, hx, hq⟩ := List.exists_of_findSome?_eq_some h
      split at hq
      · cases hq
      · cases hq; rfl

theorem iter_good {S R : Type} {f : (S → Option R) → S → Option R} (st : Nat → S) (good : Nat → Bool) (r k : Option R) (n : Nat) (hn : n ≤ 1152921504606846976)
    (hs : ∀ kb i, i < n → f kb (st i) = if good i = true then kb (st (i + 1)) else r) (he : ∀ kb, f kb (st n) = k) {s0 : S} (h0 : s0 = st 0) :
    iter f FU s0 = if (List.range n).all good = true then k else r :=
  iter_goodH st good r k n hn (fun kb i hi _ => hs kb i hi) (fun kb _ => he kb) h0

/-- To copy a list into zeros, element by element. -/
theorem iter_copy {α R : Type} {f : (List α × Int → Option R) → List α × Int → Option R} (xs : List α) (z : α) (k : List α → Option R) (hn : xs.length ≤ 2147483648)
    (hs : ∀ kb (ys : List α) (i : Nat) (hi : i < xs.length), ys.length = xs.length → f kb (ys, (i : Int)) = kb (ys.set i xs[i], ((i + 1 : Nat) : Int)))
    (he : ∀ kb (ys : List α), f kb (ys, (xs.length : Int)) = k ys) : iter f FU (List.replicate xs.length z, 0) = k xs := by
  refine iter_all (fun i => (xs.take i ++ List.replicate (xs.length - i) z, (i : Int))) _ xs.length (by omega) (fun kb i hi => ?_) (fun kb => ?_) (by simp)
  · rw [hs kb _ i hi (by simp; omega)]
    congr 2
    have : xs.length - i = (xs.length - (i + 1)) + 1 := by omega
    have hk : min i xs.length = i := by omega
    show _ = (List.take (i + 1) xs ++ _)
    rw [this, List.replicate_succ, List.set_append_right _ _ (by simp; omega), show List.take (i + 1) xs = List.take i xs ++ [xs[i]] from List.take_succ_eq_append_getElem hi]
    simp only [List.length_take, hk, Nat.sub_self, List.set_cons_zero]
    rw [List.append_assoc]
    rfl
  · rw [he]
    simp

theorem all_range_eq {α : Type} [DecidableEq α] {xs ys : List α} (h : xs.length = ys.length) : (List.range xs.length).all (fun i => decide (xs[i]? = ys[i]?)) = decide (xs = ys) := by
  by_cases e : xs = ys
  · subst e; simp
  · rw [decide_eq_false e, List.all_eq_false]
    apply Classical.byContradiction
    intro hc
    apply e
    apply List.ext_getElem? 
    intro i
    by_cases hi : i < xs.length
    · apply Classical.byContradiction
      intro hne
      exact hc ⟨i, List.mem_range.2 hi, by simpa using hne⟩
    · rw [List.getElem?_eq_none (by omega), List.getElem?_eq_none (by omega)]

theorem step1 (i : Nat) (n : Nat) (h : i < n) (hn : n ≤ 1152921504606846976) : IntKind.wrap .i64 ((i : Int) + 1) = ((i + 1 : Nat) : Int) := by
  rw [w64 (by omega) (by omega)]; omega

/-- The first place where p holds, or -1. -/
def idxOf {α : Type} (p : α → Bool) (xs : List α) : Int := match xs.findIdx? p with
  | some k => (k : Int)
  | none => -1

theorem idxOf_nonneg {α : Type} (p : α → Bool) (xs : List α) : decide (0 ≤ idxOf p xs) = xs.any p := by
  unfold idxOf
  cases h : xs.findIdx? p with
  | none =>
    rw [List.findIdx?_eq_none_iff] at h
    have : xs.any p = false := by rw [List.any_eq_false]; intro x hx; simp [h x hx]
    simp [this]
  | some k =>
    rw [List.findIdx?_eq_some_iff_getElem] at h
    obtain ⟨hk, hp, _⟩ := h
    have : xs.any p = true := List.any_eq_true.2 ⟨xs[k], List.getElem_mem hk, hp⟩
    simp [this]

theorem iter_index {α : Type} (xs : List α) (p : α → Bool) {f : (Int → Option Int) → Int → Option Int} (hn : xs.length ≤ 1152921504606846976)
    (hs : ∀ kb (i : Nat) (hi : i < xs.length), f kb (i : Int) = if p xs[i] = true then some (i : Int) else kb ((i + 1 : Nat) : Int)) (he : ∀ kb, f kb (xs.length : Int) = some (-1)) : iter f FU 0 = some (idxOf p xs) := by
  rw [iter_stop (s0 := (0 : Int)) (fun i => (i : Int)) (fun i : Nat => (xs[i]?).bind fun x => if p x = true then some (some (i : Int)) else none) (some (-1)) xs.length hn (fun kb i hi => ?_) (fun kb => he kb) rfl]
  · have key : ∀ (ys : List α) (o : Nat), (List.range ys.length).findSome? (fun i : Nat => (ys[i]?).bind fun x => if p x = true then some (some ((o + i : Nat) : Int)) else none) = (ys.findIdx? p).map fun k => some ((o + k : Nat) : Int) := by
      intro ys
      induction ys with
      | nil => intro o; rfl
      | cons y ys ih =>
        intro o
        rw [List.length_cons, List.range_succ_eq_map, List.findSome?_cons, List.findSome?_map, List.findIdx?_cons]
        simp only [List.getElem?_cons_zero, Option.bind_some]
        by_cases e : p y = true
        · simp [e]
        · simp only [e, if_false, Function.comp_def, List.getElem?_cons_succ, Bool.false_eq_true]
          have := ih (o + 1)
          rw [show (fun i : Nat => (ys[i]?).bind fun x => if p x = true then some (some ((o + (i + 1) : Nat) : Int)) else none) = fun i : Nat => (ys[i]?).bind fun x => if p x = true then some (some ((o + 1 + i : Nat) : Int)) else none from by funext i; rw [show o + (i + 1) = o + 1 + i by omega]]
          rw [this]
          cases ys.findIdx? p <;> simp; omega
    have := key xs 0
    simp only [Nat.zero_add] at this
    rw [this]
    unfold idxOf
    cases xs.findIdx? p <;> rfl
  · rw [hs kb i hi, List.getElem?_eq_getElem hi]
    simp only [Option.bind_some]
    by_cases e : p xs[i] = true <;> simp [e]

theorem all_range {α : Type} (xs : List α) (p : α → Bool) : ((List.range xs.length).all fun i => ((xs[i]?).map p).getD true) = xs.all p := by
  rw [Bool.eq_iff_iff, List.all_eq_true, List.all_eq_true]
  constructor
  · intro H x hx
    obtain ⟨i, hi, rfl⟩ := List.mem_iff_getElem.1 hx
    have := H i (List.mem_range.2 hi)
    rw [List.getElem?_eq_getElem hi] at this
    exact this
  · intro H i hi
    have hi := List.mem_range.1 hi
    rw [List.getElem?_eq_getElem hi]
    exact H _ (List.getElem_mem hi)

/-- A loop that ends with r at the first element for which p holds, and with k if there is none. -/
theorem iter_any {α R : Type} (xs : List α) (p : α → Bool) (r k : Option R) {f : (Int → Option R) → Int → Option R} (hn : xs.length ≤ 1152921504606846976)
    (hs : ∀ kb (i : Nat) (hi : i < xs.length), f kb (i : Int) = if p xs[i] = true then r else kb ((i + 1 : Nat) : Int)) (he : ∀ kb, f kb (xs.length : Int) = k) : iter f FU 0 = if xs.any p = true then r else k := by
  rw [iter_good (s0 := (0 : Int)) (fun i => (i : Int)) (fun i => ((xs[i]?).map fun x => !p x).getD true) r k xs.length hn (fun kb i hi => ?_) (fun kb => he kb) rfl, all_range xs fun x => !p x]
  · cases h : xs.any p with
    | true =>
      have : (xs.all fun x => !p x) = false := by
        rw [List.all_eq_false]; obtain ⟨x, hx, hp⟩ := List.any_eq_true.1 h; exact ⟨x, hx, by simp [hp]⟩
      simp [this]
    | false =>
      have : (xs.all fun x => !p x) = true := by
        rw [List.all_eq_true]; intro x hx; rw [List.any_eq_false] at h; simp [h x hx]
      simp [this]
  · rw [hs kb i hi, List.getElem?_eq_getElem hi]
    cases h : p xs[i] <;> simp [h]

/-- A loop over all elements that ends with r at the first for which p does not hold. -/
theorem iter_every {α R : Type} (xs : List α) (p : α → Bool) (r k : Option R) {f : (Int → Option R) → Int → Option R} (hn : xs.length ≤ 1152921504606846976)
    (hs : ∀ kb (i : Nat) (hi : i < xs.length), f kb (i : Int) = if p xs[i] = true then kb ((i + 1 : Nat) : Int) else r) (he : ∀ kb, f kb (xs.length : Int) = k) : iter f FU 0 = if xs.all p = true then k else r := by
  rw [iter_good (s0 := (0 : Int)) (fun i => (i : Int)) (fun i => ((xs[i]?).map p).getD true) r k xs.length hn (fun kb i hi => ?_) (fun kb => he kb) rfl, all_range xs p]
  rw [hs kb i hi, List.getElem?_eq_getElem hi]
  rfl

theorem p_szCellS (xs : List TCell) (h : xs.length ≤ maxLen) (z : Int) (h1 : 0 ≤ z) (h2 : z ≤ 1048576) : m_laws_szCellS xs z = some (if z < xs.length then -1 else z - xs.length) := by
  unfold m_laws_szCellS
  have : IntKind.wrap .i64 (z - (xs.length : Int)) = z - xs.length := by unfold maxLen at h; exact w64 (by omega) (by omega)
  rw [this]
  split <;> split <;> first | rfl | omega

theorem p_toCellS (xs : List TCell) (h : xs.length ≤ 1048576) : m_laws_toCellS xs = some xs := by
  unfold m_laws_toCellS
  rw [if_pos ⟨by omega, by omega⟩]
  simp only [Int.toNat_natCast]
  refine iter_copy xs _ laws_toCellS_j3 (by omega) (fun kb ys i hi hy => ?_) (fun kb ys => ?_)
  · unfold laws_toCellS_b5
    simp only [idx_nat hi, idx_nat (show i < ys.length by omega), m_laws_toCell, Option.bind_some, Int.toNat_natCast, step1 i _ hi (by omega)]
    rw [if_pos (by omega)]
  · unfold laws_toCellS_b5
    rw [if_neg (by omega)]

theorem p_eqCell (a b : TCell) : m_laws_eqCell a b = some (decide (a = b)) := by
  unfold m_laws_eqCell
  cases a; cases b
  simp only [TCell.mk.injEq]
  repeat' split
  all_goals simp_all

theorem p_eqCellS (xs ys : List TCell) (h : xs.length ≤ 1048576) : m_laws_eqCellS xs ys = some (decide (xs = ys)) := by
  unfold m_laws_eqCellS
  split
  · rename_i hl
    have : ¬ xs = ys := fun e => hl (by rw [e])
    simp [this]
  · rename_i hl
    have hl : xs.length = ys.length := by omega
    rw [iter_good (s0 := (0 : Int)) (fun i => (i : Int)) (fun i => decide (xs[i]? = ys[i]?)) (some false) (some true) xs.length (by omega) (fun kb i hi => ?_) (fun kb => ?_) rfl, all_range_eq hl]
    · by_cases e : xs = ys <;> simp [e]
    · unfold laws_eqCellS_b6
      simp only [idx_nat hi, idx_nat (show i < ys.length by omega), p_eqCell, Option.bind_some, step1 i _ hi (by omega)]
      rw [if_pos (by omega), List.getElem?_eq_getElem hi, List.getElem?_eq_getElem (show i < ys.length by omega)]
      simp
    · unfold laws_eqCellS_b6
      rw [if_neg (by omega)]
      rfl

theorem p_szMove (x : TMove) (h : x.Cells.length ≤ maxLen) (z : Int) (h1 : 0 ≤ z) (h2 : z ≤ 1048576) : m_laws_szMove x z = some (if z < x.Cells.length then -1 else z - x.Cells.length) := by
  unfold m_laws_szMove
  simp only [p_szCellS _ h z h1 h2, Option.bind_some]
  split <;> simp_all <;> omega
theorem p_toMove (x : TMove) (h : x.Cells.length ≤ 1048576) : m_laws_toMove x = some x := by
  simp [m_laws_toMove, p_toCellS _ h]
theorem p_eqMove (x y : TMove) (h : x.Cells.length ≤ 1048576) : m_laws_eqMove x y = some (decide (x = y)) := by
  unfold m_laws_eqMove
  simp only [p_eqCellS _ _ h, Option.bind_some]
  cases x; cases y
  simp only [TMove.mk.injEq]
  repeat' split
  all_goals simp_all

def within (z lo hi : Int) : Bool := decide (lo ≤ z) && decide (z ≤ hi)

theorem p_l1In (z lo hi : Int) : m_spec_l1In z lo hi = some (within z lo hi) := by
  unfold m_spec_l1In within; by_cases h : lo ≤ z <;> simp [h]
theorem p_from (z lo hi : Int) : m_impl_from z lo hi = some (within z lo hi) := by
  unfold m_impl_from within; by_cases h : lo ≤ z <;> simp [h]
theorem p_spec_MoveRank (x : TMove) : ∃ r, m_spec_MoveRank x = some r ∧ m_impl_MoveRank x = some r := by
  unfold m_impl_MoveRank m_spec_MoveRank impl_MoveRank_j2 spec_MoveRank_j2 m_spec_l1Min
  simp only [p_from, p_l1In, Option.bind_some]
  have e : (if 3 < x.Stage then (3 : Int) else x.Stage) = if x.Stage < 3 then x.Stage else 3 := by split <;> split <;> omega
  rw [e]
  cases within x.No 1 300000 <;> cases within x.Stage 1 4 <;> simp
  split <;> simp

theorem p_FnExactMoveRank (a1 : TMove) (h : ok_TMove a1) : m_laws_FnExactMoveRank a1 = some true := by
  unfold m_laws_FnExactMoveRank
  unfold ok_TMove at h
  rw [p_szMove a1 h.2.2.2.2.2.2.1 _ (by omega) (by omega)]
  simp only [Option.bind_some]
  split
  · rfl
  · rename_i h1
    have hl : a1.Cells.length ≤ 1048576 := by omega
    obtain ⟨r, e1, e2⟩ := p_spec_MoveRank a1
    simp [p_toMove _ hl, e1, e2, p_eqMove _ _ hl]

end Go.AW
