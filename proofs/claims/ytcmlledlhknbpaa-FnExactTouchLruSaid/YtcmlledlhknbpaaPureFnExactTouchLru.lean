/- The program's TouchLru returns what the reference's returns, in memory of its own. No conditions. -/
import Derived.Test.YtcmlledlhknbpaaPFnExactTouchLrux4
set_option linter.unusedVariables false
set_option linter.unusedSimpArgs false
namespace Go.Proofs.Ytcmlledlhknbpaa.Pure
open Go.RowKit Go.Proofs.Ytcmlledlhknbpaa.PFnExactTouchLru Go.Proofs.YtcmlledlhknbpaaW.PrintWords Go.Proofs.YtcmlledlhknbpaaW.PrintLast

/-! Whole numbers and rows of them -/
theorem w64 {x : Int} (h : -9223372036854775808 ≤ x) (h2 : x < 9223372036854775808) : wrap64 x = x := by unfold wrap64; omega
theorem rd_nat (l : List Int) (n : Nat) (h : n < l.length) : rd l (n : Int) = l[n] := by
  unfold rd; simp [List.getD_eq_getElem?_getD, h]
theorem succ_cast (n : Nat) : ((n : Int) + 1) = ((n + 1 : Nat) : Int) := by omega

/-! The laws' eqIntS -/
theorem eqInts_loop (xs ys : List Int) (hl : xs.length = ys.length) (hb : xs.length < 4611686018427387904) (d : Nat) : ∀ (k n : Nat), n + d = xs.length → d < k →
    laws_eqIntS.l0 k xs ys (n : Int) = some (decide (xs.drop n = ys.drop n)) := by
  induction d with
  | zero =>
    intro k n hn hk
    obtain ⟨k, rfl⟩ : ∃ m, k = m + 1 := ⟨k - 1, by omega⟩
    have c : ¬ (n : Int) < (xs.length : Int) := by omega
    simp only [laws_eqIntS.l0]; rw [if_neg c, List.drop_of_length_le (by omega), List.drop_of_length_le (by omega), decide_eq_true rfl]
  | succ d ih =>
    intro k n hn hk
    obtain ⟨k, rfl⟩ : ∃ m, k = m + 1 := ⟨k - 1, by omega⟩
    have h1 : n < xs.length := by omega
    have h2 : n < ys.length := by omega
    have c1 : (n : Int) < (xs.length : Int) := by omega
    have c2 : (n : Int) < (ys.length : Int) := by omega
    have c0 : (0 : Int) ≤ (n : Int) := by omega
    simp only [laws_eqIntS.l0]
    rw [if_pos c1, if_pos c0, if_pos c2, rd_nat xs n h1, rd_nat ys n h2, List.drop_eq_getElem_cons h1, List.drop_eq_getElem_cons h2, w64 (by omega) (by omega), succ_cast, ih k (n + 1) (by omega) (by omega)]
    by_cases e : xs[n] = ys[n]
    · rw [if_pos e]
      exact congrArg some (decide_eq_decide.mpr (by rw [List.cons.injEq]; exact ⟨fun h => ⟨e, h⟩, fun h => h.2⟩))
    · rw [if_neg e]
      exact congrArg some (decide_eq_false (by rw [List.cons.injEq]; exact fun h => e h.1)).symm
theorem eqInts_f (xs ys : List Int) (hb : xs.length < 4611686018427387904) (k : Nat) (hk : xs.length < k) : laws_eqIntS.f k xs ys = some (decide (xs = ys)) := by
  unfold laws_eqIntS.f
  by_cases e : xs.length = ys.length
  · have c : (xs.length : Int) = (ys.length : Int) := by omega
    rw [if_pos c]
    have h := eqInts_loop xs ys e hb xs.length k 0 (by omega) hk
    simpa using h
  · have c : ¬ (xs.length : Int) = (ys.length : Int) := by omega
    have e2 : ¬ xs = ys := fun h => e (by rw [h])
    rw [if_neg c, decide_eq_false e2]

/-! The laws' toIntS: a copy -/
theorem toInts_loop (xs : List Int) (hb : xs.length < 4611686018427387904) (d : Nat) : ∀ (k n : Nat) (ys : List Int), ys.length = xs.length → n + d = xs.length → d < k →
    laws_toIntS.l0 k xs ys (n : Int) = some (ys.take n ++ xs.drop n) := by
  induction d with
  | zero =>
    intro k n ys hl hn hk
    obtain ⟨k, rfl⟩ : ∃ m, k = m + 1 := ⟨k - 1, by omega⟩
    have c : ¬ (n : Int) < (xs.length : Int) := by omega
    simp only [laws_toIntS.l0]; rw [if_neg c, List.take_of_length_le (by omega), List.drop_of_length_le (by omega), List.append_nil]
  | succ d ih =>
    intro k n ys hl hn hk
    obtain ⟨k, rfl⟩ : ∃ m, k = m + 1 := ⟨k - 1, by omega⟩
    have h1 : n < xs.length := by omega
    have h2 : n < ys.length := by omega
    have c1 : (n : Int) < (xs.length : Int) := by omega
    have c2 : (n : Int) < (ys.length : Int) := by omega
    have c0 : (0 : Int) ≤ (n : Int) := by omega
    simp only [laws_toIntS.l0]
    rw [if_pos c1, if_pos c0, if_pos c2, rd_nat xs n h1, w64 (by omega) (by omega), succ_cast, Int.toNat_natCast, ih k (n + 1) _ (by simp [hl]) (by omega) (by omega), List.drop_eq_getElem_cons h1]
    congr 1
    rw [List.take_add_one, List.take_set_of_le (by omega)]
    simp [h2]
theorem toInts_f (xs : List Int) (hb : xs.length * 8 ≤ 140737488351232) (k : Nat) (hk : xs.length < k) : laws_toIntS.f k xs = some xs := by
  unfold laws_toIntS.f
  rw [if_pos (by omega), if_pos (by omega)]
  have h := toInts_loop xs (by omega) xs.length k 0 (List.replicate ((xs.length : Int) : Int).toNat 0) (by simp) (by omega) hk
  simpa using h

/-! The laws' markIntS and heldIntS: numbers one after the other -/
def markL (a : Int) : Nat → List Int
  | 0 => []
  | n + 1 => a :: markL (a + 1) n
theorem markL_length (n : Nat) : ∀ a : Int, (markL a n).length = n := by
  induction n with
  | zero => intro a; rfl
  | succ n ih => intro a; simp [markL, ih]
theorem markL_get (n : Nat) : ∀ (a : Int) (i : Nat) (h : i < (markL a n).length), (markL a n)[i] = a + i := by
  induction n with
  | zero => intro a i h; simp [markL] at h
  | succ n ih =>
    intro a i h
    cases i with
    | zero => simp [markL]
    | succ i =>
      simp only [markL, List.getElem_cons_succ]
      rw [ih]; omega
theorem markInts_loop (m : Nat) (a : Int) (ha : 0 ≤ a) (hb : a + m < 4611686018427387904) (d : Nat) : ∀ (k n : Nat) (l : List Int), l.length = m → n + d = m → d < k →
    laws_markIntS.l0 k l (a + n) (n : Int) = some (a + m, l.take n ++ markL (a + n) d) := by
  induction d with
  | zero =>
    intro k n l hl hn hk
    obtain ⟨k, rfl⟩ : ∃ m, k = m + 1 := ⟨k - 1, by omega⟩
    have c : ¬ (n : Int) < (l.length : Int) := by omega
    simp only [laws_markIntS.l0]; rw [if_neg c, List.take_of_length_le (by omega)]; simp [markL]; omega
  | succ d ih =>
    intro k n l hl hn hk
    obtain ⟨k, rfl⟩ : ∃ m, k = m + 1 := ⟨k - 1, by omega⟩
    have c1 : (n : Int) < (l.length : Int) := by omega
    have c0 : (0 : Int) ≤ (n : Int) := by omega
    have h1 : n < l.length := by omega
    simp only [laws_markIntS.l0]
    rw [if_pos c1, if_pos c0, w64 (x := a + n + 1) (by omega) (by omega), w64 (x := (n : Int) + 1) (by omega) (by omega), succ_cast, show a + (n : Int) + 1 = a + ((n + 1 : Nat) : Int) by omega, Int.toNat_natCast,
      ih k (n + 1) (l.set n (a + n)) (by rw [List.length_set]; exact hl) (by omega) (by omega)]
    congr 2
    rw [List.take_add_one, List.take_set_of_le (by omega)]
    simp [markL, h1]
    congr 1; omega
theorem markInts_f (l : List Int) (a : Int) (ha : 0 ≤ a) (hb : a + l.length < 4611686018427387904) (k : Nat) (hk : l.length < k) : laws_markIntS.f k l a = some (a + l.length, markL a l.length) := by
  unfold laws_markIntS.f
  have h := markInts_loop l.length a ha hb l.length k 0 l rfl (by omega) hk
  simpa using h
theorem heldInts_loop (m : Nat) (a : Int) (ha : 0 ≤ a) (hb : a + m < 4611686018427387904) (d : Nat) : ∀ (k n : Nat), n + d = m → d < k →
    laws_heldIntS.l0 k (markL a m) (a + n) (n : Int) = some (a + m) := by
  induction d with
  | zero =>
    intro k n hn hk
    obtain ⟨k, rfl⟩ : ∃ m, k = m + 1 := ⟨k - 1, by omega⟩
    have hl := markL_length m a
    have c : ¬ (n : Int) < ((markL a m).length : Int) := by omega
    simp only [laws_heldIntS.l0]; rw [if_neg c]; congr 1; omega
  | succ d ih =>
    intro k n hn hk
    obtain ⟨k, rfl⟩ : ∃ m, k = m + 1 := ⟨k - 1, by omega⟩
    have hl := markL_length m a
    have c1 : (n : Int) < ((markL a m).length : Int) := by omega
    have c0 : (0 : Int) ≤ (n : Int) := by omega
    have h1 : n < (markL a m).length := by omega
    simp only [laws_heldIntS.l0]
    rw [if_pos c1, if_pos c0, rd_nat _ n h1, markL_get, if_pos rfl, w64 (x := a + n + 1) (by omega) (by omega), w64 (x := (n : Int) + 1) (by omega) (by omega), succ_cast, show a + (n : Int) + 1 = a + ((n + 1 : Nat) : Int) by omega]
    exact ih k (n + 1) (by omega) (by omega)
theorem heldInts_f (m : Nat) (a : Int) (ha : 0 ≤ a) (hb : a + m < 4611686018427387904) (k : Nat) (hk : m < k) : laws_heldIntS.f k (markL a m) a = some (a + m) := by
  unfold laws_heldIntS.f
  have h := heldInts_loop m a ha hb m k 0 (by omega) hk
  simpa using h

/-! The first place at which a predicate holds -/
theorem idxO_ge {α : Type} (p : α → Option Bool) (l : List α) : ∀ (n i : Int), 0 ≤ n → idxO p l n = some i → i = -1 ∨ n ≤ i := by
  induction l with
  | nil => intro n i hn h; left; exact (Option.some.inj h).symm
  | cons x xs ih =>
    intro n i hn h
    obtain ⟨b, hb, h2⟩ := Option.bind_eq_some_iff.mp h
    cases b with
    | true => right; have := Option.some.inj h2; omega
    | false => have := ih (n + 1) i (by omega) h2; omega
theorem idxO_all {α : Type} (p : α → Option Bool) (q : α → Bool) (h : ∀ x, p x = some (!q x)) (l : List α) : ∀ (n : Int), 0 ≤ n → ∃ i, idxO p l n = some i ∧ (!decide (i ≥ 0)) = l.all q := by
  induction l with
  | nil => intro n hn; exact ⟨-1, rfl, rfl⟩
  | cons x xs ih =>
    intro n hn
    unfold idxO
    rw [h x, Option.bind_some]
    cases hq : q x with
    | true =>
      obtain ⟨i, h1, h2⟩ := ih (n + 1) (by omega)
      exact ⟨i, h1, by rw [h2, List.all_cons, hq, Bool.true_and]⟩
    | false => exact ⟨n, rfl, by rw [List.all_cons, hq, Bool.false_and, decide_eq_true (show n ≥ 0 from hn)]; rfl⟩

/-! References: good ones -/
def pageB (x : Int) : Bool := decide (0 ≤ x) && decide (x ≤ 99)
def goodB (l : List Int) : Bool := decide (l.length ≤ 200) && l.all pageB
theorem within_f (a b c : Int) : impl_within.f a b c = some (decide (b ≤ a) && decide (a ≤ c)) := by
  unfold impl_within.f
  by_cases h : b ≤ a
  · rw [if_pos h, decide_eq_true h, Bool.true_and]
  · rw [if_neg h, decide_eq_false h, Bool.false_and]
theorem l1In_f (a b c : Int) : spec_l1In.f a b c = some (decide (b ≤ a) && decide (a ≤ c)) := by
  unfold spec_l1In.f
  by_cases h : b ≤ a
  · rw [if_pos h, decide_eq_true h, Bool.true_and]
  · rw [if_neg h, decide_eq_false h, Bool.false_and]
theorem isPage_f (x : Int) : impl_isPage.f x = some (pageB x) := by unfold impl_isPage.f; rw [within_f]; rfl

/-! A stack behind a reference -/
def touchL (st : List Int) (p : Int) (s : Nat) : List Int := (p :: st.erase p).take s
theorem touchL_length (st : List Int) (p : Int) (s : Nat) : (touchL st p s).length ≤ s := by unfold touchL; rw [List.length_take]; omega
theorem touchL_nodup (st : List Int) (p : Int) (s : Nat) (h : st.Nodup) : (touchL st p s).Nodup := by
  unfold touchL
  refine List.Nodup.sublist (List.take_sublist _ _) ?_
  exact List.nodup_cons.mpr ⟨fun hm => by rw [h.mem_erase_iff] at hm; exact hm.1 rfl, h.erase p⟩
theorem touch_f (st : List Int) (p s : Int) (h0 : 0 ≤ s) (hb : st.length < 10000) : impl_touch.f st p s = some (touchL st p s.toNat, st.contains p) := by
  unfold impl_touch.f touchL
  rw [if_pos hb, if_pos h0]

theorem l10Touch_loop (l : List Int) (p s : Int) (h0 : 0 ≤ s) (hb : l.length < 1000000) (d : Nat) : ∀ (k n : Nat) (out : List Int) (hit : Bool), n + d = l.length → d < k → out.length ≤ n + 1 →
    spec_l10Touch.l0 k p s out hit l (l.length : Int) (n : Int) = some ((out ++ (l.drop n).filter (fun x => x != p)).take s.toNat, hit || (l.drop n).contains p) := by
  induction d with
  | zero =>
    intro k n out hit hn hk ho
    obtain ⟨k, rfl⟩ : ∃ m, k = m + 1 := ⟨k - 1, by omega⟩
    have c : ¬ (n : Int) < (l.length : Int) := by omega
    simp only [spec_l10Touch.l0]; rw [if_neg c, List.drop_of_length_le (by omega), List.filter_nil, List.append_nil, List.contains_nil, Bool.or_false]
    by_cases c2 : (out.length : Int) > s
    · rw [if_pos c2, if_pos h0, if_pos (by omega)]
    · rw [if_neg c2, List.take_of_length_le (by omega)]
  | succ d ih =>
    intro k n out hit hn hk ho
    obtain ⟨k, rfl⟩ : ∃ m, k = m + 1 := ⟨k - 1, by omega⟩
    have h1 : n < l.length := by omega
    have c1 : (n : Int) < (l.length : Int) := by omega
    have c0 : (0 : Int) ≤ (n : Int) := by omega
    simp only [spec_l10Touch.l0]
    rw [if_pos c1, if_pos c0, if_pos c1, rd_nat l n h1, w64 (by omega) (by omega), succ_cast, List.drop_eq_getElem_cons h1, List.contains_cons]
    by_cases e : l[n] = p
    · rw [if_pos e, ih k (n + 1) out true (by omega) (by omega) (by omega), List.filter_cons_of_neg (by simp [e]), show (p == l[n]) = true from beq_iff_eq.mpr e.symm]
      simp
    · rw [if_neg e, if_pos (by omega), ih k (n + 1) _ hit (by omega) (by omega) (by simp; omega), List.filter_cons_of_pos (by simp [e]), show (p == l[n]) = false from beq_eq_false_iff_ne.mpr (fun h => e h.symm), Bool.false_or, List.append_assoc]
      rfl
theorem l10Touch_f (st : List Int) (p s : Int) (h0 : 0 ≤ s) (hb : st.length < 1000000) (hd : st.Nodup) (k : Nat) (hk : st.length < k) : spec_l10Touch.f k st p s = some (touchL st p s.toNat, st.contains p) := by
  unfold spec_l10Touch.f touchL
  have h := l10Touch_loop st p s h0 hb st.length k 0 [p] false (by omega) hk (by simp)
  rw [show ((0 : Nat) : Int) = 0 from rfl] at h
  rw [h, List.drop_zero, Bool.false_or, hd.erase_eq_filter]
  rfl

theorem isSize_f (x : Int) : impl_isSize.f x = some (decide (0 ≤ x) && decide (x ≤ 40)) := by unfold impl_isSize.f; rw [within_f]; rfl

/-! Stacks: all unlike numbers, the last one first. Of a row told backwards -/
def stackOf : List Int → List Int
  | [] => []
  | x :: R => x :: (stackOf R).erase x
theorem mem_stackOf (R : List Int) : ∀ y, y ∈ stackOf R ↔ y ∈ R := by
  induction R with
  | nil => intro y; exact Iff.rfl
  | cons x R ih =>
    intro y
    unfold stackOf
    by_cases e : y = x
    · simp [e]
    · rw [List.mem_cons, List.mem_cons, List.mem_erase_of_ne e, ih]
theorem nodup_stackOf (R : List Int) : (stackOf R).Nodup := by
  induction R with
  | nil => exact List.nodup_nil
  | cons x R ih =>
    unfold stackOf
    exact List.nodup_cons.mpr ⟨fun h => by rw [ih.mem_erase_iff] at h; exact h.1 rfl, ih.erase x⟩
theorem stackOf_append (A R : List Int) : stackOf (A ++ R) = stackOf A ++ (stackOf R).filter (fun y => !A.contains y) := by
  induction A with
  | nil =>
    simp only [stackOf, List.nil_append]
    exact (List.filter_eq_self.mpr (by simp)).symm
  | cons a A ih =>
    rw [List.cons_append]
    simp only [stackOf]
    rw [ih, List.cons_append]
    congr 1
    by_cases e : a ∈ A
    · rw [List.erase_append_left _ ((mem_stackOf A a).mpr e)]
      congr 1
      apply List.filter_congr
      intro y hy
      by_cases e2 : y = a
      · subst e2; simp [e]
      · simp [e2]
    · have e2 : a ∉ stackOf A := fun h => e ((mem_stackOf A a).mp h)
      have hd : ((stackOf R).filter (fun y => !A.contains y)).Nodup := (nodup_stackOf R).filter _
      rw [List.erase_append_right _ e2, List.erase_of_not_mem e2, List.Nodup.erase_eq_filter hd, List.filter_filter]
      congr 1
      apply List.filter_congr
      intro y hy
      by_cases e3 : y = a
      · subst e3; simp
      · simp [e3]
theorem stackOf_last (A : List Int) (x : Int) (h : x ∉ A) : (stackOf (A ++ [x])).length = (stackOf A).length + 1 := by
  rw [stackOf_append]
  simp [stackOf, h]
theorem findIdx_at (A : List Int) (x : Int) (B : List Int) (h : x ∉ A) : (stackOf (A ++ x :: B)).findIdx (fun y => x == y) = (stackOf A).length := by
  rw [stackOf_append]
  simp only [stackOf]
  rw [List.filter_cons_of_pos (by simp [h])]
  have h2 : x ∉ stackOf A := fun hh => h ((mem_stackOf A x).mp hh)
  rw [List.findIdx_append]
  have h3 : List.findIdx (fun y => x == y) (stackOf A) = (stackOf A).length := by
    rw [List.findIdx_eq_length]
    intro y hy
    exact beq_eq_false_iff_ne.mpr (fun e => h2 (e ▸ hy))
  rw [h3]
  simp [List.findIdx_cons]
theorem small_length (n : Nat) : ∀ (l : List Int), l.Nodup → (∀ x ∈ l, 0 ≤ x ∧ x < (n : Int)) → l.length ≤ n := by
  induction n with
  | zero =>
    intro l _ h
    cases l with
    | nil => exact Nat.le_refl _
    | cons x xs => have := h x (by simp); omega
  | succ n ih =>
    intro l hd h
    have h2 := ih (l.erase (n : Int)) (hd.erase _) (fun x hx => by
      rw [hd.mem_erase_iff] at hx
      have := h x hx.2
      have h3 := hx.1
      omega)
    rw [List.length_erase] at h2
    split at h2 <;> omega
theorem stackOf_small (R : List Int) (h : ∀ x ∈ R, 0 ≤ x ∧ x ≤ 99) : (stackOf R).length ≤ 100 :=
  small_length 100 (stackOf R) (nodup_stackOf R) (fun x hx => by have := h x ((mem_stackOf R x).mp hx); omega)
theorem touch_stackOf (R : List Int) (x : Int) (hx : 0 ≤ x ∧ x ≤ 99) (h : ∀ x ∈ R, 0 ≤ x ∧ x ≤ 99) : touchL (stackOf R) x 100 = stackOf (x :: R) := by
  unfold touchL
  have h2 := stackOf_small (x :: R) (fun y hy => by
    rcases List.mem_cons.mp hy with rfl | hy
    · exact hx
    · exact h y hy)
  exact List.take_of_length_le h2

/-! So many unlike, up to a place -/
def unlikeN (l : List Int) : Nat → Nat
  | 0 => 0
  | n + 1 => unlikeN l n + if (l.take n).contains (l.getD n 0) = true then 0 else 1
theorem unlikeN_stack (l : List Int) (n : Nat) (hn : n ≤ l.length) : unlikeN l n = (stackOf (l.take n).reverse).length := by
  induction n with
  | zero => simp [unlikeN, stackOf]
  | succ n ih =>
    have h1 : n < l.length := by omega
    unfold unlikeN
    rw [ih (by omega), List.take_succ_eq_append_getElem h1, List.reverse_append, List.reverse_singleton, List.singleton_append]
    simp only [stackOf, List.length_cons]
    have e : l.getD n 0 = l[n] := by simp [List.getD_eq_getElem?_getD, h1]
    rw [e, List.length_erase]
    have e2 : (l[n] ∈ stackOf (l.take n).reverse) ↔ ((l.take n).contains l[n] = true) := by rw [mem_stackOf, List.mem_reverse, List.contains_iff_mem]
    by_cases c : (l.take n).contains l[n] = true
    · rw [if_pos c, if_pos (e2.mpr c)]
      have h3 : 0 < (stackOf (l.take n).reverse).length := List.length_pos_of_mem (e2.mpr c)
      omega
    · rw [if_neg c, if_neg (fun h => c (e2.mp h))]

/-! unlike, by the sorted row -/
theorem nodup_length_le (a : List Int) : ∀ (b : List Int), a.Nodup → (∀ x ∈ a, x ∈ b) → a.length ≤ b.length := by
  induction a with
  | nil => intro b _ _; exact Nat.zero_le _
  | cons x a ih =>
    intro b hd hm
    have hx := hm x (by simp)
    have h2 := ih (b.erase x) (List.nodup_cons.mp hd).2 (fun y hy => by
      have hne : y ≠ x := fun e => by subst e; exact (List.nodup_cons.mp hd).1 hy
      rw [List.mem_erase_of_ne hne]
      exact hm y (by simp [hy]))
    rw [List.length_erase_of_mem hx] at h2
    have := List.length_pos_of_mem hx
    rw [List.length_cons]; omega
theorem stackOf_len_congr (a b : List Int) (h : ∀ x, x ∈ a ↔ x ∈ b) : (stackOf a).length = (stackOf b).length := by
  apply Nat.le_antisymm
  · exact nodup_length_le _ _ (nodup_stackOf a) (fun x hx => (mem_stackOf b x).mpr ((h x).mp ((mem_stackOf a x).mp hx)))
  · exact nodup_length_le _ _ (nodup_stackOf b) (fun x hx => (mem_stackOf a x).mpr ((h x).mpr ((mem_stackOf b x).mp hx)))
theorem sorted_at (S : List Int) (hS : S.Pairwise (fun x y => decide (x ≤ y) = true)) (i j : Nat) (hij : i ≤ j) (hj : j < S.length) : S[i] ≤ S[j] := by
  rcases Nat.lt_or_eq_of_le hij with h | h
  · have := List.pairwise_iff_getElem.mp hS i j (by omega) hj h
    exact of_decide_eq_true this
  · subst h; exact Int.le_refl _
theorem keeps_sorted (S : List Int) (hS : S.Pairwise (fun x y => decide (x ≤ y) = true)) (m : Nat) (hm : m < S.length) : Lib.keeps S.toArray m = !(S.take m).contains S[m] := by
  have g1 : S.toArray[m]! = S[m] := by simp [hm]
  unfold Lib.keeps
  rw [g1]
  by_cases c : (S.take m).contains S[m] = true
  · rw [c]
    obtain ⟨i, hi, e⟩ := List.getElem_of_mem (List.contains_iff_mem.mp c)
    have hi2 : i < m := by rw [List.length_take] at hi; omega
    have g2 : S.toArray[m - 1]! = S[m - 1] := by simp [show m - 1 < S.length by omega]
    rw [List.getElem_take] at e
    have h1 := sorted_at S hS i (m - 1) (by omega) (by omega)
    have h2 := sorted_at S hS (m - 1) m (by omega) hm
    rw [g2]
    apply decide_eq_false
    rintro (h | h)
    · omega
    · exact h (by omega)
  · have c2 : (S.take m).contains S[m] = false := by simpa using c
    rw [c2]
    apply decide_eq_true
    by_cases h0 : m = 0
    · exact Or.inl h0
    · right
      have g2 : S.toArray[m - 1]! = S[m - 1] := by simp [show m - 1 < S.length by omega]
      rw [g2]
      intro e
      apply c
      rw [List.contains_iff_mem, e]
      have : S[m - 1] = (S.take m)[m - 1]'(by rw [List.length_take]; omega) := by rw [List.getElem_take]
      rw [this]
      exact List.getElem_mem _
theorem compactUpTo_len (S : List Int) (hS : S.Pairwise (fun x y => decide (x ≤ y) = true)) (n : Nat) (hn : n ≤ S.length) : (Lib.compactUpTo S.toArray n).length = unlikeN S n := by
  induction n with
  | zero => rfl
  | succ n ih =>
    rw [Lib.compactUpTo_succ, List.length_append, ih (by omega), keeps_sorted S hS n (by omega)]
    unfold unlikeN
    have e : S.getD n 0 = S[n] := by simp [List.getD_eq_getElem?_getD, show n < S.length by omega]
    rw [e]
    conv => rhs; unfold unlikeN
    cases (S.take n).contains S[n] <;> simp
theorem unlikeimpl_f (l : List Int) (hb : l.length < 1000000000000) : impl_unlike.f l = some ((stackOf l.reverse).length : Int) := by
  unfold impl_unlike.f
  rw [if_pos hb]
  have hS : (l.mergeSort fun x y => decide (x ≤ y)).Pairwise (fun x y => decide (x ≤ y) = true) :=
    List.pairwise_mergeSort (fun a b c h1 h2 => by simp at *; omega) (fun a b => by simp; omega) l
  have h1 : (Lib.compact (l.mergeSort fun x y => decide (x ≤ y))).length = (stackOf l.reverse).length := by
    unfold Lib.compact
    rw [compactUpTo_len _ hS _ (Nat.le_refl _), unlikeN_stack _ _ (Nat.le_refl _), List.take_length]
    apply stackOf_len_congr
    intro x
    rw [List.mem_reverse, List.mem_reverse, List.mem_mergeSort]
  rw [h1]

/-! A stack that is given, behind a reference -/
theorem allPage_f (l : List Int) (hb : l.length < 9223372036854775807) : xAll_i64_impl_isPage.f l = some (l.all pageB) := by
  unfold xAll_i64_impl_isPage.f
  rw [if_pos hb]
  obtain ⟨i, h1, h2⟩ := idxO_all xAll_i64_impl_isPage.z pageB (fun x => by unfold xAll_i64_impl_isPage.z; rw [isPage_f]; rfl) l 0 (by omega)
  rw [h1, Option.bind_some, h2]
theorem nodup_of_len (l : List Int) : ∀ (S : List Int), S.Nodup → (∀ x ∈ S, x ∈ l) → l.length ≤ S.length → l.Nodup := by
  induction l with
  | nil => intro S _ _ _; exact List.nodup_nil
  | cons x t ih =>
    intro S hS hm hl
    rw [List.length_cons] at hl
    have h1 : ∀ y ∈ S.erase x, y ∈ t := fun y hy => by
      rw [hS.mem_erase_iff] at hy
      exact (List.mem_cons.mp (hm y hy.2)).resolve_left hy.1
    have h2 : S.length - 1 ≤ (S.erase x).length := by rw [List.length_erase]; split <;> omega
    refine List.nodup_cons.mpr ⟨fun hx => ?_, ih (S.erase x) (hS.erase x) h1 (by omega)⟩
    have := nodup_length_le S t hS (fun y hy => by
      rcases List.mem_cons.mp (hm y hy) with rfl | h
      · exact hx
      · exact h)
    omega
theorem unlike_nodup (l : List Int) : (stackOf l.reverse).length = l.length ↔ l.Nodup := by
  refine ⟨fun h => nodup_of_len l _ (nodup_stackOf l.reverse) (fun x hx => List.mem_reverse.mp ((mem_stackOf _ x).mp hx)) (by omega), fun h => ?_⟩
  apply Nat.le_antisymm
  · exact nodup_length_le _ _ (nodup_stackOf l.reverse) (fun x hx => List.mem_reverse.mp ((mem_stackOf _ x).mp hx))
  · exact nodup_length_le _ _ h (fun x hx => (mem_stackOf _ x).mpr (List.mem_reverse.mpr hx))
def goodSt (l : List Int) (s : Int) : Bool := (decide (0 ≤ s) && decide (s ≤ 40)) && (decide ((l.length : Int) ≤ s) && (l.all pageB && decide l.Nodup))
theorem goodSt_iff (l : List Int) (s : Int) : goodSt l s = true ↔ (0 ≤ s ∧ s ≤ 40) ∧ (l.length : Int) ≤ s ∧ l.all pageB = true ∧ l.Nodup := by
  unfold goodSt
  rw [Bool.and_eq_true, Bool.and_eq_true, Bool.and_eq_true, Bool.and_eq_true, decide_eq_true_iff, decide_eq_true_iff, decide_eq_true_iff, decide_eq_true_iff]
/-- what TouchLru tells -/
def touT (l : List Int) (p s : Int) : List Int × Bool × Bool := if goodSt l s = true ∧ pageB p = true then (touchL l p s.toNat, l.contains p, true) else ([], false, false)
theorem touT_no (l : List Int) (p s : Int) (h : ¬ (((0 ≤ s ∧ s ≤ 40) ∧ (l.length : Int) ≤ s ∧ l.all pageB = true ∧ l.Nodup) ∧ pageB p = true)) : touT l p s = ([], false, false) := by
  unfold touT
  rw [if_neg (fun hh => h ⟨(goodSt_iff l s).mp hh.1, hh.2⟩)]
theorem touchLru_impl (l : List Int) (p s : Int) (hb : l.length < 1000000000) (k : Nat) (hk : 0 < k) : impl_TouchLru.f k l p s = some (touT l p s) := by
  obtain ⟨k, rfl⟩ : ∃ m, k = m + 1 := ⟨k - 1, by omega⟩
  have hj : ∀ k, impl_TouchLru.j0 (k + 1) l p s true = some ([], false, false) := fun k => by simp [impl_TouchLru.j0]
  unfold impl_TouchLru.f
  rw [isSize_f, Option.bind_some]
  by_cases c1 : (decide (0 ≤ s) && decide (s ≤ 40)) = true
  · have c1' : 0 ≤ s ∧ s ≤ 40 := by simpa using c1
    rw [if_pos c1]
    by_cases c2 : (l.length : Int) > s
    · rw [if_pos c2, hj, touT_no l p s (fun h => by have := h.1.2.1; omega)]
    · rw [if_neg c2, allPage_f l (by omega), Option.bind_some]
      by_cases c3 : l.all pageB = true
      · rw [if_pos c3, unlikeimpl_f l (by omega), Option.bind_some]
        by_cases c4 : l.Nodup
        · rw [if_pos (by rw [(unlike_nodup l).mpr c4]), isPage_f, Option.bind_some]
          cases hp : pageB p with
          | false => rw [Bool.not_false, hj, touT_no l p s (fun h => by rw [hp] at h; cases h.2)]
          | true =>
            rw [Bool.not_true]
            simp only [impl_TouchLru.j0, Bool.false_eq_true, if_false]
            rw [touch_f l p s c1'.1 (by omega)]
            simp only [Option.bind_some, slices_Clip_int_int.f]
            unfold touT
            rw [if_pos ⟨(goodSt_iff l s).mpr ⟨c1', by omega, c3, c4⟩, hp⟩]
        · rw [if_neg (fun h => c4 ((unlike_nodup l).mp (by omega))), hj, touT_no l p s (fun h => c4 h.1.2.2.2)]
      · rw [if_neg c3, hj, touT_no l p s (fun h => c3 h.1.2.2.1)]
  · rw [if_neg c1, hj, touT_no l p s (fun h => c1 (by simpa using h.1.1))]
theorem stack_inner (l : List Int) (s p : Int) (n K : Nat) (T : List Int) (R : Bool) (hb : l.length < 1000000000) (hT : T.length < 1000000000) (hn : n < l.length) (hR : ∀ k, K < k → spec_l10Stack.l0 k l s l (l.length : Int) ((n + 1 : Nat) : Int) = some R) (d : Nat) : ∀ (k j : Nat), j + d = T.length → d + K + 1 < k →
    spec_l10Stack.l1 k l s p l (l.length : Int) (n : Int) T (T.length : Int) (j : Int) = some (if p ∈ T.drop j then false else if pageB p = true then R else false) := by
  induction d with
  | zero =>
    intro k j hj hk
    obtain ⟨k, rfl⟩ : ∃ m, k = m + 1 := ⟨k - 1, by omega⟩
    simp only [spec_l10Stack.l1]
    rw [if_neg (by omega), l1In_f, Option.bind_some, w64 (x := (n : Int) + 1) (by omega) (by omega), succ_cast, hR k (by omega), List.drop_of_length_le (by omega)]
    show (if pageB p = true then some R else some false) = some (if p ∈ ([] : List Int) then false else if pageB p = true then R else false)
    rw [if_neg (show ¬ p ∈ ([] : List Int) by simp)]
    split <;> rfl
  | succ d ih =>
    intro k j hj hk
    obtain ⟨k, rfl⟩ : ∃ m, k = m + 1 := ⟨k - 1, by omega⟩
    have h1 : j < T.length := by omega
    simp only [spec_l10Stack.l1]
    rw [if_pos (by omega), if_pos (by omega), if_pos (by omega), rd_nat T j h1, w64 (x := (j : Int) + 1) (by omega) (by omega), succ_cast, List.drop_eq_getElem_cons h1]
    by_cases e : T[j] = p
    · rw [if_pos e, if_pos (by rw [e]; exact List.mem_cons_self)]
    · rw [if_neg e, ih k (j + 1) (by omega) (by omega)]
      have hm : p ∈ T[j] :: T.drop (j + 1) ↔ p ∈ T.drop (j + 1) := by
        rw [List.mem_cons]
        exact ⟨fun h => h.resolve_left (fun h => e h.symm), Or.inr⟩
      by_cases c : p ∈ T.drop (j + 1)
      · rw [if_pos c, if_pos (hm.mpr c)]
      · rw [if_neg c, if_neg (fun h => c (hm.mp h))]
def stP (l : List Int) (n : Nat) : Prop := ∀ i, n ≤ i → ∀ (h : i < l.length), ¬ l[i] ∈ l.take i ∧ pageB l[i] = true
theorem stack_outer (l : List Int) (s : Int) (hb : l.length < 1000000000) (d : Nat) : ∀ (k n : Nat), n + d = l.length → (d + 1) * (l.length + 4) < k →
    (stP l n → spec_l10Stack.l0 k l s l (l.length : Int) (n : Int) = some ((decide (0 ≤ s) && decide (s ≤ 40)) && decide ((l.length : Int) ≤ s))) ∧ (¬ stP l n → spec_l10Stack.l0 k l s l (l.length : Int) (n : Int) = some false) := by
  induction d with
  | zero =>
    intro k n hn hk
    obtain ⟨k, rfl⟩ : ∃ m, k = m + 1 := ⟨k - 1, by omega⟩
    refine ⟨fun _ => ?_, fun h => absurd (fun i h1 h2 => by omega) h⟩
    simp only [spec_l10Stack.l0]
    rw [if_neg (by omega), l1In_f, Option.bind_some]
    cases (decide (0 ≤ s) && decide (s ≤ 40)) <;> rfl
  | succ d ih =>
    intro k n hn hk
    rw [Nat.succ_mul] at hk
    obtain ⟨K, hK⟩ : ∃ K, K = (d + 1) * (l.length + 4) := ⟨_, rfl⟩
    rw [← hK] at hk ih
    obtain ⟨k, rfl⟩ : ∃ m, k = m + 1 := ⟨k - 1, by omega⟩
    have h1 : n < l.length := by omega
    have hTl : (l.take n).length = n := by rw [List.length_take]; omega
    have hstep : ∀ R, (∀ k, K < k → spec_l10Stack.l0 k l s l (l.length : Int) ((n + 1 : Nat) : Int) = some R) → spec_l10Stack.l0 (k + 1) l s l (l.length : Int) (n : Int) = some (if l[n] ∈ l.take n then false else if pageB l[n] = true then R else false) := fun R hR => by
      simp only [spec_l10Stack.l0]
      rw [if_pos (by omega), if_pos (by omega), if_pos (by omega), if_pos (by omega), rd_nat l n h1, Int.toNat_natCast]
      have z := stack_inner l s l[n] n K (l.take n) R hb (by omega) h1 hR (l.take n).length k 0 (by omega) (by omega)
      rw [List.drop_zero] at z
      exact z
    by_cases hP : stP l (n + 1)
    · rw [hstep _ (fun k hk => (ih k (n + 1) (by omega) hk).1 hP)]
      refine ⟨fun h => ?_, fun h => ?_⟩
      · rw [if_neg (h n (Nat.le_refl _) h1).1, if_pos (h n (Nat.le_refl _) h1).2]
      · by_cases c : l[n] ∈ l.take n
        · rw [if_pos c]
        · rw [if_neg c]
          by_cases c2 : pageB l[n] = true
          · refine absurd (fun i h2 h3 => ?_) h
            rcases Nat.lt_or_eq_of_le h2 with h4 | h4
            · exact hP i h4 h3
            · subst h4; exact ⟨c, c2⟩
          · rw [if_neg c2]
    · rw [hstep false (fun k hk => (ih k (n + 1) (by omega) hk).2 hP)]
      refine ⟨fun h => absurd (fun i h2 h3 => h i (by omega) h3) hP, fun _ => ?_⟩
      split
      · rfl
      · split <;> rfl
theorem stP_iff (l : List Int) : stP l 0 ↔ l.all pageB = true ∧ l.Nodup := by
  constructor
  · intro h
    refine ⟨?_, ?_⟩
    · rw [List.all_eq_true]
      intro x hx
      obtain ⟨i, hi, rfl⟩ := List.getElem_of_mem hx
      exact (h i (Nat.zero_le _) hi).2
    · refine List.pairwise_iff_getElem.mpr (fun i j hi hj hij e => ?_)
      refine (h j (Nat.zero_le _) hj).1 ?_
      have : l[i] = (l.take j)[i]'(by rw [List.length_take]; omega) := by rw [List.getElem_take]
      rw [← e, this]
      exact List.getElem_mem _
  · rintro ⟨ha, hd⟩ i _ hi
    refine ⟨fun hm => ?_, List.all_eq_true.mp ha _ (List.getElem_mem _)⟩
    obtain ⟨j, hj, e⟩ := List.getElem_of_mem hm
    have hj2 : j < i := by rw [List.length_take] at hj; omega
    rw [List.getElem_take] at e
    exact List.pairwise_iff_getElem.mp hd j i (by omega) hi hj2 e
theorem l10Stack_f (l : List Int) (s : Int) (hb : l.length < 1000000000) (k : Nat) (hk : (l.length + 1) * (l.length + 4) < k) : spec_l10Stack.f k l s = some (goodSt l s) := by
  have z := stack_outer l s hb l.length k 0 (by omega) hk
  unfold spec_l10Stack.f
  by_cases h : stP l 0
  · have h2 := (stP_iff l).mp h
    rw [show (0 : Int) = ((0 : Nat) : Int) from rfl, z.1 h]
    unfold goodSt
    rw [h2.1, decide_eq_true h2.2, Bool.and_true, Bool.and_true]
  · rw [show (0 : Int) = ((0 : Nat) : Int) from rfl, z.2 h]
    cases hg : goodSt l s with
    | false => rfl
    | true => exact absurd ((stP_iff l).mpr ((goodSt_iff l s).mp hg).2.2) h
theorem touchLru_spec (l : List Int) (p s : Int) (hb : l.length < 1000000000) (k : Nat) (hk : (l.length + 1) * (l.length + 4) < k) : spec_TouchLru.f k l p s = some (touT l p s) := by
  have hk2 : l.length < k := by
    have : l.length * 1 ≤ (l.length + 1) * (l.length + 4) := Nat.mul_le_mul (by omega) (by omega)
    omega
  unfold spec_TouchLru.f
  rw [l10Stack_f l s hb k hk, Option.bind_some]
  by_cases c : goodSt l s = true
  · have c2 := (goodSt_iff l s).mp c
    rw [if_pos c, l1In_f, Option.bind_some]
    by_cases c3 : pageB p = true
    · have c4 : (decide (0 ≤ p) && decide (p ≤ 99)) = true := c3
      have hl := touchL_length l p s.toNat
      rw [if_pos c4, l10Touch_f l p s c2.1.1 (by omega) c2.2.2.2 k hk2]
      simp only [Option.bind_some, List.nil_append, List.length_nil]
      rw [if_pos (by omega)]
      unfold touT
      rw [if_pos ⟨c, c3⟩]
    · have c4 : ¬ (decide (0 ≤ p) && decide (p ≤ 99)) = true := c3
      rw [if_neg c4]
      unfold touT
      rw [if_neg (fun h => c3 h.2)]
  · rw [if_neg c]
    unfold touT
    rw [if_neg (fun h => c h.1)]
theorem touT_len (l : List Int) (p s : Int) : (touT l p s).1.length ≤ 40 := by
  unfold touT
  split
  · rename_i h
    have c := (goodSt_iff l s).mp h.1
    have := touchL_length l p s.toNat
    show (touchL l p s.toNat).length ≤ 40
    omega
  · simp

theorem FnExactTouchLru : laws_FnExactTouchLru.Pure := by
  intro l p s hm hs hw h1 h2
  by_cases c0 : (l.length : Int) > 1048576
  · exact ⟨1, by unfold laws_FnExactTouchLru.f; rw [if_pos c0]⟩
  obtain ⟨m, hk⟩ : ∃ m, m = (l.length + 1) * (l.length + 4) + l.length + 30000 := ⟨_, rfl⟩
  have hk1 : (l.length + 1) * (l.length + 4) < m := by omega
  have hk2 : l.length + 2000 < m := by omega
  clear hk
  have t1 : ∀ j, laws_toIntS.f (m + j) l = some l := fun j => toInts_f l hs (m + j) (by omega)
  have q1 : ∀ j, laws_eqIntS.f (m + j) l l = some true := fun j => by rw [eqInts_f l l (by omega) (m + j) (by omega), decide_eq_true rfl]
  obtain ⟨st, hst⟩ : ∃ st, st = touT l p s := ⟨_, rfl⟩
  have hlen : st.1.length ≤ 40 := by rw [hst]; exact touT_len l p s
  have e1 : ∀ j, impl_TouchLru.f (m + j) l p s = some (st.1, st.2.1, st.2.2) := fun j => by rw [touchLru_impl l p s (by omega) (m + j) (by omega), ← hst]
  have e2 : ∀ j, spec_TouchLru.f (m + j) l p s = some (st.1, st.2.1, st.2.2) := fun j => by rw [touchLru_spec l p s (by omega) (m + j) (Nat.lt_of_lt_of_le hk1 (Nat.le_add_right _ _)), ← hst]
  have q2 : ∀ j, laws_eqIntS.f (m + j) st.1 st.1 = some true := fun j => by rw [eqInts_f st.1 st.1 (by omega) (m + j) (by omega), decide_eq_true rfl]
  have m1 : ∀ j, laws_markIntS.f (m + j) l 1 = some ((1 : Int) + l.length, markL 1 l.length) := fun j => markInts_f l 1 (by omega) (by omega) (m + j) (by omega)
  have m2 : ∀ j, laws_markIntS.f (m + j) st.1 1 = some ((1 : Int) + st.1.length, markL 1 st.1.length) := fun j => markInts_f st.1 1 (by omega) (by omega) (m + j) (by omega)
  have m3 : ∀ j, laws_heldIntS.f (m + j) (markL 1 st.1.length) 1 = some ((1 : Int) + st.1.length) := fun j => heldInts_f st.1.length 1 (by omega) (by omega) (m + j) (by omega)
  have p1 : ¬ (1 : Int) + (l.length : Int) < 0 := by omega
  have p2 : ¬ (1 : Int) + (st.1.length : Int) < 0 := by omega
  clear hw hk1
  refine ⟨m + 5, ?_⟩
  unfold laws_FnExactTouchLru.f
  rw [if_neg c0]
  simp only [t1, e1, e2, q1, q2, m1, m2, m3, p1, p2, Option.bind_some, if_true, if_false, bne_self_eq_false, Bool.false_eq_true, laws_FnExactTouchLru.j0, laws_FnExactTouchLru.j1, laws_FnExactTouchLru.j2]

end Go.Proofs.Ytcmlledlhknbpaa.Pure
