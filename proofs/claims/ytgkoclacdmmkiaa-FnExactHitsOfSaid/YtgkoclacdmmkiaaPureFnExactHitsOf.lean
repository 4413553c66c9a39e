/- The program's HitsOf returns what the reference's returns, in memory of its own. No conditions. -/
import Derived.Test.YtgkoclacdmmkiaaPFnExactHitsOfx4
set_option linter.unusedVariables false
set_option linter.unusedSimpArgs false
namespace Go.Proofs.Ytgkoclacdmmkiaa.Pure
open Go.RowKit Go.Proofs.Ytgkoclacdmmkiaa.PFnExactHitsOf Go.Proofs.YtgkoclacdmmkiaaW.PrintWords Go.Proofs.YtgkoclacdmmkiaaW.PrintLast

/-! Whole numbers and rows of them -/
theorem w64 {x : Int} (h : -9223372036854775808 ≤ x) (h2 : x < 9223372036854775808) : wrap64 x = x := by unfold wrap64; omega
theorem rd_nat (l : List Int) (n : Nat) (h : n < l.length) : rd l (n : Int) = l[n] := by
  unfold rd; simp [List.getD_eq_getElem?_getD, h]
theorem succ_cast (n : Nat) : ((n : Int) + 1) = ((n + 1 : Nat) : Int) := by omega

/-! The laws' eqIntS -/
theorem eqInts_loop (xs ys : List Int) (hl : xs.length = ys.length) (hb : xs.length < 4611686018427387904) (d : Nat) : ∀ (k n : Nat), n + d = xs.length → d < k →
    laws_eqIntS.l0 k xs ys (n : Int) = some (decide (xs.drop n = ys.drop n)) := by
  induction d with
  | zero =>
    intro k n hn hk
    obtain ⟨k, rfl⟩ : ∃ m, k = m + 1 := ⟨k - 1, by omega⟩
    have c : ¬ (n : Int) < (xs.length : Int) := by omega
    simp only [laws_eqIntS.l0]; rw [if_neg c, List.drop_of_length_le (by omega), List.drop_of_length_le (by omega), decide_eq_true rfl]
  | succ d ih =>
    intro k n hn hk
    obtain ⟨k, rfl⟩ : ∃ m, k = m + 1 := ⟨k - 1, by omega⟩
    have h1 : n < xs.length := by omega
    have h2 : n < ys.length := by omega
    have c1 : (n : Int) < (xs.length : Int) := by omega
    have c2 : (n : Int) < (ys.length : Int) := by omega
    have c0 : (0 : Int) ≤ (n : Int) := by omega
    simp only [laws_eqIntS.l0]
    rw [if_pos c1, if_pos c0, if_pos c2, rd_nat xs n h1, rd_nat ys n h2, List.drop_eq_getElem_cons h1, List.drop_eq_getElem_cons h2, w64 (by omega) (by omega), succ_cast, ih k (n + 1) (by omega) (by omega)]
    by_cases e : xs[n] = ys[n]
    · rw [if_pos e]
      exact congrArg some (decide_eq_decide.mpr (by rw [List.cons.injEq]; exact ⟨fun h => ⟨e, h⟩, fun h => h.2⟩))
    · rw [if_neg e]
      exact congrArg some (decide_eq_false (by rw [List.cons.injEq]; exact fun h => e h.1)).symm
theorem eqInts_f (xs ys : List Int) (hb : xs.length < 4611686018427387904) (k : Nat) (hk : xs.length < k) : laws_eqIntS.f k xs ys = some (decide (xs = ys)) := by
  unfold laws_eqIntS.f
  by_cases e : xs.length = ys.length
  · have c : (xs.length : Int) = (ys.length : Int) := by omega
    rw [if_pos c]
    have h := eqInts_loop xs ys e hb xs.length k 0 (by omega) hk
    simpa using h
  · have c : ¬ (xs.length : Int) = (ys.length : Int) := by omega
    have e2 : ¬ xs = ys := fun h => e (by rw [h])
    rw [if_neg c, decide_eq_false e2]

/-! The laws' toIntS: a copy -/
theorem toInts_loop (xs : List Int) (hb : xs.length < 4611686018427387904) (d : Nat) : ∀ (k n : Nat) (ys : List Int), ys.length = xs.length → n + d = xs.length → d < k →
    laws_toIntS.l0 k xs ys (n : Int) = some (ys.take n ++ xs.drop n) := by
  induction d with
  | zero =>
    intro k n ys hl hn hk
    obtain ⟨k, rfl⟩ : ∃ m, k = m + 1 := ⟨k - 1, by omega⟩
    have c : ¬ (n : Int) < (xs.length : Int) := by omega
    simp only [laws_toIntS.l0]; rw [if_neg c, List.take_of_length_le (by omega), List.drop_of_length_le (by omega), List.append_nil]
  | succ d ih =>
    intro k n ys hl hn hk
    obtain ⟨k, rfl⟩ : ∃ m, k = m + 1 := ⟨k - 1, by omega⟩
    have h1 : n < xs.length := by omega
    have h2 : n < ys.length := by omega
    have c1 : (n : Int) < (xs.length : Int) := by omega
    have c2 : (n : Int) < (ys.length : Int) := by omega
    have c0 : (0 : Int) ≤ (n : Int) := by omega
    simp only [laws_toIntS.l0]
    rw [if_pos c1, if_pos c0, if_pos c2, rd_nat xs n h1, w64 (by omega) (by omega), succ_cast, Int.toNat_natCast, ih k (n + 1) _ (by simp [hl]) (by omega) (by omega), List.drop_eq_getElem_cons h1]
    congr 1
    rw [List.take_add_one, List.take_set_of_le (by omega)]
    simp [h2]
theorem toInts_f (xs : List Int) (hb : xs.length * 8 ≤ 140737488351232) (k : Nat) (hk : xs.length < k) : laws_toIntS.f k xs = some xs := by
  unfold laws_toIntS.f
  rw [if_pos (by omega), if_pos (by omega)]
  have h := toInts_loop xs (by omega) xs.length k 0 (List.replicate ((xs.length : Int) : Int).toNat 0) (by simp) (by omega) hk
  simpa using h

/-! The laws' markIntS and heldIntS: numbers one after the other -/
def markL (a : Int) : Nat → List Int
  | 0 => []
  | n + 1 => a :: markL (a + 1) n
theorem markL_length (n : Nat) : ∀ a : Int, (markL a n).length = n := by
  induction n with
  | zero => intro a; rfl
  | succ n ih => intro a; simp [markL, ih]
theorem markL_get (n : Nat) : ∀ (a : Int) (i : Nat) (h : i < (markL a n).length), (markL a n)[i] = a + i := by
  induction n with
  | zero => intro a i h; simp [markL] at h
  | succ n ih =>
    intro a i h
    cases i with
    | zero => simp [markL]
    | succ i =>
      simp only [markL, List.getElem_cons_succ]
      rw [ih]; omega
theorem markInts_loop (m : Nat) (a : Int) (ha : 0 ≤ a) (hb : a + m < 4611686018427387904) (d : Nat) : ∀ (k n : Nat) (l : List Int), l.length = m → n + d = m → d < k →
    laws_markIntS.l0 k l (a + n) (n : Int) = some (a + m, l.take n ++ markL (a + n) d) := by
  induction d with
  | zero =>
    intro k n l hl hn hk
    obtain ⟨k, rfl⟩ : ∃ m, k = m + 1 := ⟨k - 1, by omega⟩
    have c : ¬ (n : Int) < (l.length : Int) := by omega
    simp only [laws_markIntS.l0]; rw [if_neg c, List.take_of_length_le (by omega)]; simp [markL]; omega
  | succ d ih =>
    intro k n l hl hn hk
    obtain ⟨k, rfl⟩ : ∃ m, k = m + 1 := ⟨k - 1, by omega⟩
    have c1 : (n : Int) < (l.length : Int) := by omega
    have c0 : (0 : Int) ≤ (n : Int) := by omega
    have h1 : n < l.length := by omega
    simp only [laws_markIntS.l0]
    rw [if_pos c1, if_pos c0, w64 (x := a + n + 1) (by omega) (by omega), w64 (x := (n : Int) + 1) (by omega) (by omega), succ_cast, show a + (n : Int) + 1 = a + ((n + 1 : Nat) : Int) by omega, Int.toNat_natCast,
      ih k (n + 1) (l.set n (a + n)) (by rw [List.length_set]; exact hl) (by omega) (by omega)]
    congr 2
    rw [List.take_add_one, List.take_set_of_le (by omega)]
    simp [markL, h1]
    congr 1; omega
theorem markInts_f (l : List Int) (a : Int) (ha : 0 ≤ a) (hb : a + l.length < 4611686018427387904) (k : Nat) (hk : l.length < k) : laws_markIntS.f k l a = some (a + l.length, markL a l.length) := by
  unfold laws_markIntS.f
  have h := markInts_loop l.length a ha hb l.length k 0 l rfl (by omega) hk
  simpa using h
theorem heldInts_loop (m : Nat) (a : Int) (ha : 0 ≤ a) (hb : a + m < 4611686018427387904) (d : Nat) : ∀ (k n : Nat), n + d = m → d < k →
    laws_heldIntS.l0 k (markL a m) (a + n) (n : Int) = some (a + m) := by
  induction d with
  | zero =>
    intro k n hn hk
    obtain ⟨k, rfl⟩ : ∃ m, k = m + 1 := ⟨k - 1, by omega⟩
    have hl := markL_length m a
    have c : ¬ (n : Int) < ((markL a m).length : Int) := by omega
    simp only [laws_heldIntS.l0]; rw [if_neg c]; congr 1; omega
  | succ d ih =>
    intro k n hn hk
    obtain ⟨k, rfl⟩ : ∃ m, k = m + 1 := ⟨k - 1, by omega⟩
    have hl := markL_length m a
    have c1 : (n : Int) < ((markL a m).length : Int) := by omega
    have c0 : (0 : Int) ≤ (n : Int) := by omega
    have h1 : n < (markL a m).length := by omega
    simp only [laws_heldIntS.l0]
    rw [if_pos c1, if_pos c0, rd_nat _ n h1, markL_get, if_pos rfl, w64 (x := a + n + 1) (by omega) (by omega), w64 (x := (n : Int) + 1) (by omega) (by omega), succ_cast, show a + (n : Int) + 1 = a + ((n + 1 : Nat) : Int) by omega]
    exact ih k (n + 1) (by omega) (by omega)
theorem heldInts_f (m : Nat) (a : Int) (ha : 0 ≤ a) (hb : a + m < 4611686018427387904) (k : Nat) (hk : m < k) : laws_heldIntS.f k (markL a m) a = some (a + m) := by
  unfold laws_heldIntS.f
  have h := heldInts_loop m a ha hb m k 0 (by omega) hk
  simpa using h

/-! The first place at which a predicate holds -/
theorem idxO_ge {α : Type} (p : α → Option Bool) (l : List α) : ∀ (n i : Int), 0 ≤ n → idxO p l n = some i → i = -1 ∨ n ≤ i := by
  induction l with
  | nil => intro n i hn h; left; exact (Option.some.inj h).symm
  | cons x xs ih =>
    intro n i hn h
    obtain ⟨b, hb, h2⟩ := Option.bind_eq_some_iff.mp h
    cases b with
    | true => right; have := Option.some.inj h2; omega
    | false => have := ih (n + 1) i (by omega) h2; omega
theorem idxO_all {α : Type} (p : α → Option Bool) (q : α → Bool) (h : ∀ x, p x = some (!q x)) (l : List α) : ∀ (n : Int), 0 ≤ n → ∃ i, idxO p l n = some i ∧ (!decide (i ≥ 0)) = l.all q := by
  induction l with
  | nil => intro n hn; exact ⟨-1, rfl, rfl⟩
  | cons x xs ih =>
    intro n hn
    unfold idxO
    rw [h x, Option.bind_some]
    cases hq : q x with
    | true =>
      obtain ⟨i, h1, h2⟩ := ih (n + 1) (by omega)
      exact ⟨i, h1, by rw [h2, List.all_cons, hq, Bool.true_and]⟩
    | false => exact ⟨n, rfl, by rw [List.all_cons, hq, Bool.false_and, decide_eq_true (show n ≥ 0 from hn)]; rfl⟩

/-! References: good ones -/
def pageB (x : Int) : Bool := decide (0 ≤ x) && decide (x ≤ 99)
def goodB (l : List Int) : Bool := decide (l.length ≤ 200) && l.all pageB
theorem within_f (a b c : Int) : impl_within.f a b c = some (decide (b ≤ a) && decide (a ≤ c)) := by
  unfold impl_within.f
  by_cases h : b ≤ a
  · rw [if_pos h, decide_eq_true h, Bool.true_and]
  · rw [if_neg h, decide_eq_false h, Bool.false_and]
theorem l1In_f (a b c : Int) : spec_l1In.f a b c = some (decide (b ≤ a) && decide (a ≤ c)) := by
  unfold spec_l1In.f
  by_cases h : b ≤ a
  · rw [if_pos h, decide_eq_true h, Bool.true_and]
  · rw [if_neg h, decide_eq_false h, Bool.false_and]
theorem isPage_f (x : Int) : impl_isPage.f x = some (pageB x) := by unfold impl_isPage.f; rw [within_f]; rfl
theorem goodRefs_impl (l : List Int) (hb : l.length < 9223372036854775807) : impl_GoodRefs.f l = some (goodB l) := by
  unfold impl_GoodRefs.f goodB
  by_cases c : l.length ≤ 200
  · have c2 : (l.length : Int) ≤ 200 := by omega
    rw [if_pos c2, decide_eq_true c, Bool.true_and]
    unfold xAll_i64_impl_isPage.f
    rw [if_pos hb]
    obtain ⟨i, h1, h2⟩ := idxO_all xAll_i64_impl_isPage.z pageB (fun x => by unfold xAll_i64_impl_isPage.z; rw [isPage_f]; rfl) l 0 (by omega)
    rw [h1, Option.bind_some, Option.bind_some, h2]
  · have c2 : ¬ (l.length : Int) ≤ 200 := by omega
    rw [if_neg c2, decide_eq_false c, Bool.false_and]
theorem goodRefs_loop (l : List Int) (hb : l.length < 4611686018427387904) (d : Nat) : ∀ (k n : Nat), n + d = l.length → d < k →
    spec_GoodRefs.l0 k l l (l.length : Int) (n : Int) = some ((l.drop n).all pageB && decide (l.length ≤ 200)) := by
  induction d with
  | zero =>
    intro k n hn hk
    obtain ⟨k, rfl⟩ : ∃ m, k = m + 1 := ⟨k - 1, by omega⟩
    have c : ¬ (n : Int) < (l.length : Int) := by omega
    simp only [spec_GoodRefs.l0]; rw [if_neg c, List.drop_of_length_le (by omega), List.all_nil, Bool.true_and]
    exact congrArg some (decide_eq_decide.mpr (by omega))
  | succ d ih =>
    intro k n hn hk
    obtain ⟨k, rfl⟩ : ∃ m, k = m + 1 := ⟨k - 1, by omega⟩
    have h1 : n < l.length := by omega
    have c1 : (n : Int) < (l.length : Int) := by omega
    have c0 : (0 : Int) ≤ (n : Int) := by omega
    simp only [spec_GoodRefs.l0]
    rw [if_pos c1, if_pos c0, if_pos c1, rd_nat l n h1, l1In_f, Option.bind_some, List.drop_eq_getElem_cons h1, List.all_cons, w64 (by omega) (by omega), succ_cast, ih k (n + 1) (by omega) (by omega)]
    cases hp : pageB l[n] with
    | true =>
      have hp' : (decide (0 ≤ l[n]) && decide (l[n] ≤ 99)) = true := hp
      rw [if_pos hp', Bool.true_and]
    | false =>
      have hp' : (decide (0 ≤ l[n]) && decide (l[n] ≤ 99)) = false := hp
      rw [hp', if_neg (by decide)]; rfl
theorem goodRefs_spec (l : List Int) (hb : l.length < 4611686018427387904) (k : Nat) (hk : l.length < k) : spec_GoodRefs.f k l = some (goodB l) := by
  unfold spec_GoodRefs.f goodB
  have h := goodRefs_loop l hb l.length k 0 (by omega) hk
  rw [Bool.and_comm]
  exact h

/-! The next place of a page -/
def placeN (l : List Int) (p : Int) : Nat := l.findIdx (fun x => p == x)
theorem placeN_cons (x : Int) (xs : List Int) (p : Int) : placeN (x :: xs) p = if p = x then 0 else placeN xs p + 1 := by
  unfold placeN
  rw [List.findIdx_cons]
  by_cases h : p = x
  · rw [if_pos h, show (p == x) = true from beq_iff_eq.mpr h]; rfl
  · rw [if_neg h, show (p == x) = false from beq_eq_false_iff_ne.mpr h]; rfl
theorem placeN_le (l : List Int) (p : Int) : placeN l p ≤ l.length := List.findIdx_le_length
theorem index_loop (l : List Int) (p : Int) (hb : l.length < 4611686018427387904) (d : Nat) : ∀ (k n : Nat), n + d = l.length → d < k →
    slices_Index_int_int.l0 k l p (l.length : Int) (n : Int) = some (if n + placeN (l.drop n) p < l.length then ((n + placeN (l.drop n) p : Nat) : Int) else -1) := by
  induction d with
  | zero =>
    intro k n hn hk
    obtain ⟨k, rfl⟩ : ∃ m, k = m + 1 := ⟨k - 1, by omega⟩
    have c : ¬ (n : Int) < (l.length : Int) := by omega
    simp only [slices_Index_int_int.l0]; rw [if_neg c, if_neg (by omega)]
  | succ d ih =>
    intro k n hn hk
    obtain ⟨k, rfl⟩ : ∃ m, k = m + 1 := ⟨k - 1, by omega⟩
    have h1 : n < l.length := by omega
    have c1 : (n : Int) < (l.length : Int) := by omega
    have c0 : (0 : Int) ≤ (n : Int) := by omega
    simp only [slices_Index_int_int.l0]
    rw [if_pos c1, if_pos c0, if_pos c1, rd_nat l n h1, List.drop_eq_getElem_cons h1, placeN_cons, w64 (by omega) (by omega), succ_cast, ih k (n + 1) (by omega) (by omega)]
    by_cases e : p = l[n]
    · rw [if_pos e, if_pos e, if_pos (by omega), Nat.add_zero]
    · rw [if_neg e, if_neg e, show n + 1 + placeN (List.drop (n + 1) l) p = n + (placeN (List.drop (n + 1) l) p + 1) by omega]
theorem index_f (l : List Int) (p : Int) (hb : l.length < 4611686018427387904) (k : Nat) (hk : l.length < k) : slices_Index_int_int.f k l p = some (if placeN l p < l.length then (placeN l p : Int) else -1) := by
  unfold slices_Index_int_int.f
  have h := index_loop l p hb l.length k 0 (by omega) hk
  simpa using h

/-! A stack behind a reference -/
def touchL (st : List Int) (p : Int) (s : Nat) : List Int := (p :: st.erase p).take s
theorem touchL_length (st : List Int) (p : Int) (s : Nat) : (touchL st p s).length ≤ s := by unfold touchL; rw [List.length_take]; omega
theorem touchL_nodup (st : List Int) (p : Int) (s : Nat) (h : st.Nodup) : (touchL st p s).Nodup := by
  unfold touchL
  refine List.Nodup.sublist (List.take_sublist _ _) ?_
  exact List.nodup_cons.mpr ⟨fun hm => by rw [h.mem_erase_iff] at hm; exact hm.1 rfl, h.erase p⟩
theorem touch_f (st : List Int) (p s : Int) (h0 : 0 ≤ s) (hb : st.length < 10000) : impl_touch.f st p s = some (touchL st p s.toNat, st.contains p) := by
  unfold impl_touch.f touchL
  rw [if_pos hb, if_pos h0]

/-! Stacks: all unlike numbers, the last one first. Of a row told backwards -/
def stackOf : List Int → List Int
  | [] => []
  | x :: R => x :: (stackOf R).erase x
theorem mem_stackOf (R : List Int) : ∀ y, y ∈ stackOf R ↔ y ∈ R := by
  induction R with
  | nil => intro y; exact Iff.rfl
  | cons x R ih =>
    intro y
    unfold stackOf
    by_cases e : y = x
    · simp [e]
    · rw [List.mem_cons, List.mem_cons, List.mem_erase_of_ne e, ih]
theorem nodup_stackOf (R : List Int) : (stackOf R).Nodup := by
  induction R with
  | nil => exact List.nodup_nil
  | cons x R ih =>
    unfold stackOf
    exact List.nodup_cons.mpr ⟨fun h => by rw [ih.mem_erase_iff] at h; exact h.1 rfl, ih.erase x⟩
theorem stackOf_append (A R : List Int) : stackOf (A ++ R) = stackOf A ++ (stackOf R).filter (fun y => !A.contains y) := by
  induction A with
  | nil =>
    simp only [stackOf, List.nil_append]
    exact (List.filter_eq_self.mpr (by simp)).symm
  | cons a A ih =>
    rw [List.cons_append]
    simp only [stackOf]
    rw [ih, List.cons_append]
    congr 1
    by_cases e : a ∈ A
    · rw [List.erase_append_left _ ((mem_stackOf A a).mpr e)]
      congr 1
      apply List.filter_congr
      intro y hy
      by_cases e2 : y = a
      · subst e2; simp [e]
      · simp [e2]
    · have e2 : a ∉ stackOf A := fun h => e ((mem_stackOf A a).mp h)
      have hd : ((stackOf R).filter (fun y => !A.contains y)).Nodup := (nodup_stackOf R).filter _
      rw [List.erase_append_right _ e2, List.erase_of_not_mem e2, List.Nodup.erase_eq_filter hd, List.filter_filter]
      congr 1
      apply List.filter_congr
      intro y hy
      by_cases e3 : y = a
      · subst e3; simp
      · simp [e3]
theorem stackOf_last (A : List Int) (x : Int) (h : x ∉ A) : (stackOf (A ++ [x])).length = (stackOf A).length + 1 := by
  rw [stackOf_append]
  simp [stackOf, h]
theorem findIdx_at (A : List Int) (x : Int) (B : List Int) (h : x ∉ A) : (stackOf (A ++ x :: B)).findIdx (fun y => x == y) = (stackOf A).length := by
  rw [stackOf_append]
  simp only [stackOf]
  rw [List.filter_cons_of_pos (by simp [h])]
  have h2 : x ∉ stackOf A := fun hh => h ((mem_stackOf A x).mp hh)
  rw [List.findIdx_append]
  have h3 : List.findIdx (fun y => x == y) (stackOf A) = (stackOf A).length := by
    rw [List.findIdx_eq_length]
    intro y hy
    exact beq_eq_false_iff_ne.mpr (fun e => h2 (e ▸ hy))
  rw [h3]
  simp [List.findIdx_cons]
theorem small_length (n : Nat) : ∀ (l : List Int), l.Nodup → (∀ x ∈ l, 0 ≤ x ∧ x < (n : Int)) → l.length ≤ n := by
  induction n with
  | zero =>
    intro l _ h
    cases l with
    | nil => exact Nat.le_refl _
    | cons x xs => have := h x (by simp); omega
  | succ n ih =>
    intro l hd h
    have h2 := ih (l.erase (n : Int)) (hd.erase _) (fun x hx => by
      rw [hd.mem_erase_iff] at hx
      have := h x hx.2
      have h3 := hx.1
      omega)
    rw [List.length_erase] at h2
    split at h2 <;> omega
theorem stackOf_small (R : List Int) (h : ∀ x ∈ R, 0 ≤ x ∧ x ≤ 99) : (stackOf R).length ≤ 100 :=
  small_length 100 (stackOf R) (nodup_stackOf R) (fun x hx => by have := h x ((mem_stackOf R x).mp hx); omega)
theorem touch_stackOf (R : List Int) (x : Int) (hx : 0 ≤ x ∧ x ≤ 99) (h : ∀ x ∈ R, 0 ≤ x ∧ x ≤ 99) : touchL (stackOf R) x 100 = stackOf (x :: R) := by
  unfold touchL
  have h2 := stackOf_small (x :: R) (fun y hy => by
    rcases List.mem_cons.mp hy with rfl | hy
    · exact hx
    · exact h y hy)
  exact List.take_of_length_le h2

theorem unlikeN_stack (l : List Int) (n : Nat) (hn : n ≤ l.length) : unlikeN l n = (stackOf (l.take n).reverse).length := by
  induction n with
  | zero => simp [unlikeN, stackOf]
  | succ n ih =>
    have h1 : n < l.length := by omega
    unfold unlikeN
    rw [ih (by omega), List.take_succ_eq_append_getElem h1, List.reverse_append, List.reverse_singleton, List.singleton_append]
    simp only [stackOf, List.length_cons]
    have e : l.getD n 0 = l[n] := by simp [List.getD_eq_getElem?_getD, h1]
    rw [e, List.length_erase]
    have e2 : (l[n] ∈ stackOf (l.take n).reverse) ↔ ((l.take n).contains l[n] = true) := by rw [mem_stackOf, List.mem_reverse, List.contains_iff_mem]
    by_cases c : (l.take n).contains l[n] = true
    · rw [if_pos c, if_pos (e2.mpr c)]
      have h3 : 0 < (stackOf (l.take n).reverse).length := List.length_pos_of_mem (e2.mpr c)
      omega
    · rw [if_neg c, if_neg (fun h => c (e2.mp h))]
theorem unlike_f (l : List Int) (hb : l.length < 4611686018427387904) : spec_l10Unlike.f l = some ((stackOf l.reverse).length : Int) := by
  unfold spec_l10Unlike.f
  rw [if_pos hb, unlikeN_stack l l.length (Nat.le_refl _), List.take_length]

/-! How many unlike pages since the last one alike -/
def distAt (R : List Int) (x : Int) : Int := if R.contains x = true then ((stackOf R).findIdx (fun y => x == y) : Int) + 1 else 0
def distL (l : List Int) (n : Nat) : List Int := (List.range n).map (fun i => distAt (l.take i).reverse (l.getD i 0))
theorem distL_length (l : List Int) (n : Nat) : (distL l n).length = n := by unfold distL; simp
theorem distL_succ (l : List Int) (n : Nat) : distL l (n + 1) = distL l n ++ [distAt (l.take n).reverse (l.getD n 0)] := by unfold distL; rw [List.range_succ, List.map_append]; rfl
theorem getD_get (l : List Int) (n : Nat) (h : n < l.length) : l.getD n 0 = l[n] := by simp [List.getD_eq_getElem?_getD, h]
theorem distAt_range (R : List Int) (x : Int) (h : ∀ x ∈ R, 0 ≤ x ∧ x ≤ 99) : 0 ≤ distAt R x ∧ distAt R x ≤ 100 := by
  unfold distAt
  split
  · rename_i c
    have h1 : x ∈ stackOf R := (mem_stackOf R x).mpr (List.contains_iff_mem.mp c)
    have h2 : (stackOf R).findIdx (fun y => x == y) < (stackOf R).length := List.findIdx_lt_length.mpr ⟨x, h1, beq_iff_eq.mpr rfl⟩
    have h3 := stackOf_small R h
    omega
  · omega
theorem pages_of_good (l : List Int) (h : goodB l = true) : ∀ x ∈ l, 0 ≤ x ∧ x ≤ 99 := by
  unfold goodB at h
  simp only [Bool.and_eq_true, List.all_eq_true, pageB, decide_eq_true_eq] at h
  exact h.2
theorem distances_loop (l : List Int) (hb : l.length < 1000000) (hp : ∀ x ∈ l, 0 ≤ x ∧ x ≤ 99) (d : Nat) : ∀ (k n : Nat) (out : List Int), n + d = l.length → d + 200 < k → out.length = l.length → out.take n = distL l n →
    impl_distances.l0 k out (stackOf (l.take n).reverse) l (l.length : Int) (n : Int) = some (distL l l.length) := by
  induction d with
  | zero =>
    intro k n out hn hk ho ht
    obtain ⟨k, rfl⟩ : ∃ m, k = m + 1 := ⟨k - 1, by omega⟩
    have c : ¬ (n : Int) < (l.length : Int) := by omega
    have e : n = l.length := by omega
    simp only [impl_distances.l0]; rw [if_neg c, ← e, ← ht, List.take_of_length_le (by omega)]
  | succ d ih =>
    intro k n out hn hk ho ht
    obtain ⟨k, rfl⟩ : ∃ m, k = m + 1 := ⟨k - 1, by omega⟩
    have h1 : n < l.length := by omega
    have c1 : (n : Int) < (l.length : Int) := by omega
    have c2 : (n : Int) < (out.length : Int) := by omega
    have c0 : (0 : Int) ≤ (n : Int) := by omega
    have hR : ∀ x ∈ (l.take n).reverse, 0 ≤ x ∧ x ≤ 99 := fun x hx => hp x (List.mem_of_mem_take (List.mem_reverse.mp hx))
    have hs := stackOf_small (l.take n).reverse hR
    have hx := hp l[n] (List.getElem_mem h1)
    have hT := touch_stackOf (l.take n).reverse l[n] hx hR
    have hfi := placeN_le (stackOf (l.take n).reverse) l[n]
    have hval : wrap64 ((if placeN (stackOf (l.take n).reverse) l[n] < (stackOf (l.take n).reverse).length then (placeN (stackOf (l.take n).reverse) l[n] : Int) else -1) + 1) = distAt (l.take n).reverse l[n] := by
      unfold distAt
      have e : (l.take n).reverse.contains l[n] = true ↔ placeN (stackOf (l.take n).reverse) l[n] < (stackOf (l.take n).reverse).length := by
        rw [List.contains_iff_mem, ← mem_stackOf]
        unfold placeN
        rw [List.findIdx_lt_length]
        exact ⟨fun h => ⟨_, h, beq_iff_eq.mpr rfl⟩, fun ⟨y, hy, e⟩ => by rw [beq_iff_eq] at e; rw [e]; exact hy⟩
      by_cases c : (l.take n).reverse.contains l[n] = true
      · rw [if_pos c, if_pos (e.mp c)]
        unfold placeN at hfi ⊢
        exact w64 (by omega) (by omega)
      · rw [if_neg c, if_neg (fun h => c (e.mpr h))]
        exact w64 (by omega) (by omega)
    simp only [impl_distances.l0]
    rw [if_pos c1, if_pos c0, if_pos c1, rd_nat l n h1, index_f _ _ (by omega) k (by omega), Option.bind_some, if_pos c2, touch_f _ _ _ (by omega) (by omega), Option.bind_some, hval]
    simp only []
    rw [show Int.toNat 100 = 100 from rfl, hT, w64 (x := (n : Int) + 1) (by omega) (by omega), succ_cast, Int.toNat_natCast]
    have ht2 : l[n] :: (l.take n).reverse = (l.take (n + 1)).reverse := by rw [List.take_succ_eq_append_getElem h1, List.reverse_append]; rfl
    rw [ht2]
    refine ih k (n + 1) _ (by omega) (by omega) (by rw [List.length_set]; exact ho) ?_
    rw [distL_succ, List.take_add_one, List.take_set_of_le (Nat.le_refl _), ht, getD_get l n h1]
    simp [show n < out.length by omega]
theorem distances_f (l : List Int) (hb : l.length < 1000000) (hp : ∀ x ∈ l, 0 ≤ x ∧ x ≤ 99) (k : Nat) (hk : l.length + 200 < k) : impl_distances.f k l = some (distL l l.length) := by
  unfold impl_distances.f
  rw [if_pos (by omega), if_pos (by omega)]
  have h := distances_loop l hb hp l.length k 0 (List.replicate ((l.length : Int) : Int).toNat 0) (by omega) hk (by simp) (by simp [distL])
  exact h

theorem spec_dist_at (l : List Int) (i j : Nat) (hi : i ≤ l.length) (hj : j < i) (x : Int) (hx : l.getD j 0 = x) (hno : x ∉ (l.take i).drop (j + 1)) : ((stackOf ((l.take i).drop j).reverse).length : Int) = distAt (l.take i).reverse x := by
  have h1 : j < (l.take i).length := by rw [List.length_take]; omega
  have e1 : (l.take i).drop j = x :: (l.take i).drop (j + 1) := by
    rw [List.drop_eq_getElem_cons h1]
    congr 1
    rw [List.getElem_take, ← hx, getD_get l j (by omega)]
  have e2 : (l.take i).reverse = ((l.take i).drop (j + 1)).reverse ++ x :: ((l.take i).take j).reverse := by
    have e3 : l.take i = (l.take i).take j ++ x :: (l.take i).drop (j + 1) := by rw [← e1, List.take_append_drop]
    conv => lhs; rw [e3]
    rw [List.reverse_append, List.reverse_cons, List.append_assoc]; rfl
  have hno2 : x ∉ ((l.take i).drop (j + 1)).reverse := fun h => hno (List.mem_reverse.mp h)
  unfold distAt
  rw [e2, findIdx_at _ x _ hno2, e1, List.reverse_cons, stackOf_last _ x hno2, if_pos (List.contains_iff_mem.mpr (by simp))]
  omega
theorem spec_inner (l acc : List Int) (i : Nat) (hi : i < l.length) (hb : l.length < 1000000) (ha : acc.length < 1000000) (d : Nat) : ∀ (k : Nat) (j : Int), j + 1 = d → d ≤ i → d < k → l[i] ∉ (l.take i).drop d →
    ∃ k', k' + d + 1 ≥ k ∧ k' < k ∧ spec_DistancesOf.l1 k l acc (i : Int) l[i] 0 j l (l.length : Int) (i : Int) = spec_DistancesOf.l0 k' l (acc ++ [distAt (l.take i).reverse l[i]]) l (l.length : Int) ((i + 1 : Nat) : Int) := by
  induction d with
  | zero =>
    intro k j hj hd hk hno
    obtain ⟨k, rfl⟩ : ∃ m, k = m + 1 := ⟨k - 1, by omega⟩
    have c : ¬ j ≥ 0 := by omega
    refine ⟨k, by omega, by omega, ?_⟩
    have e : distAt (l.take i).reverse l[i] = 0 := by
      unfold distAt
      rw [if_neg]
      rw [List.contains_iff_mem, List.mem_reverse]
      exact hno
    simp only [spec_DistancesOf.l1]; rw [if_neg c, if_pos (by omega), e, w64 (by omega) (by omega), succ_cast]
  | succ d ih =>
    intro k j hj hd hk hno
    obtain ⟨k, rfl⟩ : ∃ m, k = m + 1 := ⟨k - 1, by omega⟩
    obtain rfl : j = (d : Int) := by omega
    have h1 : d < l.length := by omega
    have c : (d : Int) ≥ 0 := by omega
    have c0 : (0 : Int) ≤ (d : Int) := by omega
    have c1 : (d : Int) < (l.length : Int) := by omega
    simp only [spec_DistancesOf.l1]
    rw [if_pos c, if_pos c0, if_pos c1, rd_nat l d h1]
    by_cases e : l[d] = l[i]
    · rw [if_pos e, if_pos (by omega), if_pos (by omega), Int.toNat_natCast, Int.toNat_natCast, unlike_f _ (by rw [List.length_drop, List.length_take]; omega), Option.bind_some, if_pos (by omega)]
      refine ⟨k, by omega, by omega, ?_⟩
      rw [spec_dist_at l i d (by omega) (by omega) l[i] (by rw [getD_get l d h1]; exact e) hno, w64 (by omega) (by omega), succ_cast]
    · rw [if_neg e, w64 (by omega) (by omega)]
      obtain ⟨k', h2, h3, h4⟩ := ih k ((d : Int) - 1) (by omega) (by omega) (by omega) (by
        have h5 : d < (l.take i).length := by rw [List.length_take]; omega
        rw [List.drop_eq_getElem_cons h5, List.mem_cons, List.getElem_take]
        rintro (h | h)
        · exact e h.symm
        · exact hno h)
      exact ⟨k', by omega, by omega, h4⟩
theorem spec_outer (l : List Int) (hb : l.length < 1000) (d : Nat) : ∀ (k n : Nat), n + d = l.length → 1003 * d < k →
    spec_DistancesOf.l0 k l (distL l n) l (l.length : Int) (n : Int) = some (distL l l.length, true) := by
  induction d with
  | zero =>
    intro k n hn hk
    obtain ⟨k, rfl⟩ : ∃ m, k = m + 1 := ⟨k - 1, by omega⟩
    have c : ¬ (n : Int) < (l.length : Int) := by omega
    simp only [spec_DistancesOf.l0]; rw [if_neg c, show n = l.length by omega]
  | succ d ih =>
    intro k n hn hk
    obtain ⟨k, rfl⟩ : ∃ m, k = m + 1 := ⟨k - 1, by omega⟩
    have h1 : n < l.length := by omega
    have c1 : (n : Int) < (l.length : Int) := by omega
    have c0 : (0 : Int) ≤ (n : Int) := by omega
    have hl := distL_length l n
    simp only [spec_DistancesOf.l0]
    rw [if_pos c1, if_pos c0, if_pos c1, rd_nat l n h1, w64 (by omega) (by omega)]
    obtain ⟨k', h2, h3, h4⟩ := spec_inner l (distL l n) n h1 (by omega) (by omega) n k ((n : Int) - 1) (by omega) (Nat.le_refl _) (by omega) (by
      rw [List.drop_of_length_le (by rw [List.length_take]; omega)]; simp)
    rw [h4]
    have e : distL l n ++ [distAt (l.take n).reverse l[n]] = distL l (n + 1) := by rw [distL_succ, getD_get l n h1]
    rw [e]
    exact ih k' (n + 1) (by omega) (by omega)

/-! Hits of each size -/
def F41 (f : Nat → Int) : List Int := (List.range 41).map f
theorem F41_length (f : Nat → Int) : (F41 f).length = 41 := by unfold F41; simp
theorem F41_rd (f : Nat → Int) (j : Nat) (h : j < 41) : rd (F41 f) (j : Int) = f j := by
  rw [rd_nat _ j (by rw [F41_length]; exact h)]; unfold F41; simp
theorem F41_congr (f g : Nat → Int) (h : ∀ s, s < 41 → f s = g s) : F41 f = F41 g := by
  unfold F41
  exact List.map_congr_left (fun s hs => h s (List.mem_range.mp hs))
theorem F41_get (f : Nat → Int) (i : Nat) (h : i < (F41 f).length) : (F41 f)[i] = f i := by
  simp [F41]
theorem F41_set (f : Nat → Int) (j : Nat) (v : Int) : (F41 f).set j v = F41 (fun s => if s = j then v else f s) := by
  apply List.ext_getElem
  · rw [List.length_set, F41_length, F41_length]
  · intro i h1 h2
    rw [List.getElem_set, F41_get, F41_get]
    by_cases e : j = i
    · rw [if_pos e, if_pos e.symm]
    · rw [if_neg e, if_neg (fun h : i = j => e h.symm)]
def hitAt (D : List Int) (s : Nat) : Int := (D.countP (fun d => decide (0 < d) && decide (d ≤ (s : Int))) : Nat)
theorem hitAt_range (D : List Int) (s : Nat) : 0 ≤ hitAt D s ∧ hitAt D s ≤ D.length := by
  unfold hitAt
  have := List.countP_le_length (p := fun d => decide (0 < d) && decide (d ≤ (s : Int))) (l := D)
  omega
theorem hitAt_snoc (D : List Int) (d : Int) (s : Nat) : hitAt (D ++ [d]) s = hitAt D s + if (decide (0 < d) && decide (d ≤ (s : Int))) = true then 1 else 0 := by
  unfold hitAt
  rw [List.countP_append, List.countP_singleton]
  split <;> simp
theorem hits_inner (D : List Int) (n : Nat) (hn : n < 1000000) (d : Int) (hd : 0 < d) (e : Nat) : ∀ (k j : Nat) (f : Nat → Int), j + e = 41 ∨ 41 ≤ j ∧ e = 0 → e < k → (∀ s, j ≤ s → 0 ≤ f s ∧ f s ≤ 1000000) →
    impl_HitsOf.l1 k (F41 f) d (j : Int) D (D.length : Int) (n : Int) = impl_HitsOf.l0 (k - e - 1) (F41 (fun s => if j ≤ s then f s + 1 else f s)) D (D.length : Int) ((n + 1 : Nat) : Int) := by
  induction e with
  | zero =>
    intro k j f hj hk hf
    obtain ⟨k, rfl⟩ : ∃ m, k = m + 1 := ⟨k - 1, by omega⟩
    have c : ¬ (j : Int) ≤ 40 := by omega
    simp only [impl_HitsOf.l1]
    rw [if_neg c, w64 (by omega) (by omega), succ_cast, F41_congr f (fun s => if j ≤ s then f s + 1 else f s) (fun s hs => by rw [if_neg (by omega)])]
    rfl
  | succ e ih =>
    intro k j f hj hk hf
    obtain ⟨k, rfl⟩ : ∃ m, k = m + 1 := ⟨k - 1, by omega⟩
    have c : (j : Int) ≤ 40 := by omega
    have hl := F41_length f
    have hfj := hf j (Nat.le_refl _)
    simp only [impl_HitsOf.l1]
    rw [if_pos c, if_pos (show d > 0 from hd), if_pos (by omega), if_pos (by omega), F41_rd f j (by omega), Int.toNat_natCast, F41_set, w64 (x := f j + 1) (by omega) (by omega), w64 (x := (j : Int) + 1) (by omega) (by omega), succ_cast,
      ih k (j + 1) (fun s => if s = j then f j + 1 else f s) (by omega) (by omega) (fun s hs => by rw [if_neg (by omega)]; exact hf s (by omega)), show k - e - 1 = k + 1 - (e + 1) - 1 by omega]
    congr 1
    apply F41_congr
    intro s hs
    by_cases e1 : s = j
    · subst e1; rw [if_neg (by omega), if_pos rfl, if_pos (Nat.le_refl _)]
    · by_cases e2 : j ≤ s
      · rw [if_pos (by omega), if_neg e1, if_pos e2]
      · rw [if_neg (by omega), if_neg e1, if_neg e2]
theorem hits_outer (D : List Int) (hD : ∀ x ∈ D, 0 ≤ x ∧ x ≤ 100) (hb : D.length < 1000) (d : Nat) : ∀ (k n : Nat), n + d = D.length → 50 * d < k →
    impl_HitsOf.l0 k (F41 (hitAt (D.take n))) D (D.length : Int) (n : Int) = some (F41 (hitAt D), true) := by
  induction d with
  | zero =>
    intro k n hn hk
    obtain ⟨k, rfl⟩ : ∃ m, k = m + 1 := ⟨k - 1, by omega⟩
    have c : ¬ (n : Int) < (D.length : Int) := by omega
    simp only [impl_HitsOf.l0]; rw [if_neg c, List.take_of_length_le (by omega)]
  | succ d ih =>
    intro k n hn hk
    obtain ⟨k, rfl⟩ : ∃ m, k = m + 1 := ⟨k - 1, by omega⟩
    have h1 : n < D.length := by omega
    have c1 : (n : Int) < (D.length : Int) := by omega
    have c0 : (0 : Int) ≤ (n : Int) := by omega
    have hd := hD D[n] (List.getElem_mem h1)
    have ht : D.take (n + 1) = D.take n ++ [D[n]] := List.take_succ_eq_append_getElem h1
    simp only [impl_HitsOf.l0]
    rw [if_pos c1, if_pos c0, if_pos c1, rd_nat D n h1]
    by_cases c : 0 < D[n]
    · have hm : mx D[n] 1 = ((D[n].toNat : Nat) : Int) := by unfold mx; rw [if_neg (by omega)]; omega
      obtain ⟨e, he⟩ : ∃ e, e = 41 - D[n].toNat := ⟨_, rfl⟩
      rw [hm, hits_inner D n (by omega) D[n] c e k D[n].toNat _ (by omega) (by omega) (fun s _ => by have := hitAt_range (D.take n) s; rw [List.length_take] at this; omega)]
      have hF : F41 (fun s => if D[n].toNat ≤ s then hitAt (D.take n) s + 1 else hitAt (D.take n) s) = F41 (hitAt (D.take (n + 1))) := by
        apply F41_congr
        intro s hs
        rw [ht, hitAt_snoc, decide_eq_true c, Bool.true_and]
        by_cases c2 : D[n].toNat ≤ s
        · rw [if_pos c2, if_pos (decide_eq_true (by omega))]
        · rw [if_neg c2, if_neg (by simp; omega)]; omega
      rw [hF]
      exact ih _ (n + 1) (by omega) (by omega)
    · have hm : mx D[n] 1 = 1 := by unfold mx; rw [if_pos (by omega)]
      rw [hm]
      obtain ⟨k, rfl⟩ : ∃ m, k = m + 1 := ⟨k - 1, by omega⟩
      simp only [impl_HitsOf.l1]
      rw [if_pos (by omega), if_neg (show ¬ D[n] > 0 from c), w64 (by omega) (by omega), succ_cast]
      have hF : F41 (hitAt (D.take n)) = F41 (hitAt (D.take (n + 1))) := by
        apply F41_congr
        intro s hs
        rw [ht, hitAt_snoc, decide_eq_false c, Bool.false_and, if_neg (by decide)]; omega
      rw [hF]
      exact ih _ (n + 1) (by omega) (by omega)

theorem spec_hits_inner (D : List Int) (hb : D.length < 1000) (s : Nat) (hs : s < 41) (e : Nat) : ∀ (k n : Nat) (f : Nat → Int), n + e = D.length → e < k → f s = hitAt (D.take n) s →
    spec_HitsOf.l1 k D (F41 f) (s : Int) 41 (s : Int) D (D.length : Int) (n : Int) = spec_HitsOf.l0 (k - e - 1) D (F41 (fun t => if t = s then hitAt D s else f t)) 41 ((s + 1 : Nat) : Int) := by
  induction e with
  | zero =>
    intro k n f hn hk hf
    obtain ⟨k, rfl⟩ : ∃ m, k = m + 1 := ⟨k - 1, by omega⟩
    have c : ¬ (n : Int) < (D.length : Int) := by omega
    simp only [spec_HitsOf.l1]
    rw [if_neg c, w64 (by omega) (by omega), succ_cast, F41_congr f (fun t => if t = s then hitAt D s else f t) (fun t ht => by
      by_cases e : t = s
      · rw [if_pos e, e, hf, List.take_of_length_le (by omega)]
      · rw [if_neg e])]
    rfl
  | succ e ih =>
    intro k n f hn hk hf
    obtain ⟨k, rfl⟩ : ∃ m, k = m + 1 := ⟨k - 1, by omega⟩
    have h1 : n < D.length := by omega
    have c1 : (n : Int) < (D.length : Int) := by omega
    have c0 : (0 : Int) ≤ (n : Int) := by omega
    have hl := F41_length f
    have ht : D.take (n + 1) = D.take n ++ [D[n]] := List.take_succ_eq_append_getElem h1
    have hr := hitAt_range (D.take n) s
    rw [List.length_take] at hr
    have hsn := hitAt_snoc (D.take n) D[n] s
    rw [← ht] at hsn
    simp only [spec_HitsOf.l1]
    rw [if_pos c1, if_pos c0, if_pos c1, rd_nat D n h1, w64 (x := (n : Int) + 1) (by omega) (by omega), succ_cast, show k + 1 - (e + 1) - 1 = k - e - 1 by omega]
    by_cases p1 : D[n] > 0
    · rw [if_pos p1]
      by_cases p2 : D[n] ≤ (s : Int)
      · rw [if_pos p2, if_pos (by omega), if_pos (by omega), F41_rd f s hs, Int.toNat_natCast, F41_set, w64 (x := f s + 1) (by omega) (by omega), ih k (n + 1) _ (by omega) (by omega) (by
          simp only [if_true]
          rw [hsn, decide_eq_true (show 0 < D[n] from p1), decide_eq_true p2, hf]; simp)]
        congr 1
        apply F41_congr
        intro t ht2
        by_cases e1 : t = s
        · rw [if_pos e1, if_pos e1]
        · rw [if_neg e1, if_neg e1, if_neg e1]
      · rw [if_neg p2]
        exact ih k (n + 1) f (by omega) (by omega) (by rw [hsn, decide_eq_false p2, Bool.and_false, hf]; simp)
    · rw [if_neg p1]
      exact ih k (n + 1) f (by omega) (by omega) (by rw [hsn, decide_eq_false (show ¬ 0 < D[n] from p1), Bool.false_and, hf]; simp)
theorem spec_hits_outer (D : List Int) (hb : D.length < 1000) (d : Nat) : ∀ (k s : Nat), s + d = 41 → 1002 * d < k →
    spec_HitsOf.l0 k D (F41 (fun t => if t < s then hitAt D t else 0)) 41 (s : Int) = some (F41 (hitAt D), true) := by
  induction d with
  | zero =>
    intro k s hs hk
    obtain ⟨k, rfl⟩ : ∃ m, k = m + 1 := ⟨k - 1, by omega⟩
    have c : ¬ (s : Int) < 41 := by omega
    simp only [spec_HitsOf.l0]; rw [if_neg c, F41_congr _ (hitAt D) (fun t ht => by rw [if_pos (by omega)])]
  | succ d ih =>
    intro k s hs hk
    obtain ⟨k, rfl⟩ : ∃ m, k = m + 1 := ⟨k - 1, by omega⟩
    have c : (s : Int) < 41 := by omega
    simp only [spec_HitsOf.l0]
    rw [if_pos c]
    have h := spec_hits_inner D hb s (by omega) D.length k 0 (fun t => if t < s then hitAt D t else 0) (by omega) (by omega) (by simp [hitAt])
    rw [show ((0 : Nat) : Int) = 0 from rfl] at h
    rw [h, F41_congr _ (fun t => if t < s + 1 then hitAt D t else 0) (fun t ht => by
      by_cases e1 : t = s
      · rw [if_pos e1, if_pos (by omega), e1]
      · by_cases e2 : t < s
        · rw [if_neg e1, if_pos e2, if_pos (by omega)]
        · rw [if_neg e1, if_neg e2, if_neg (by omega)])]
    exact ih _ (s + 1) (by omega) (by omega)
theorem replicate41 : (List.replicate 41 (0 : Int)) = F41 (fun _ => 0) := by
  unfold F41
  simp [List.map_const']

/-! What the exact laws do with lists -/
theorem goodB_len (l : List Int) (h : goodB l = true) : l.length ≤ 200 := by
  unfold goodB at h
  simp only [Bool.and_eq_true, decide_eq_true_eq] at h
  exact h.1

theorem FnExactHitsOf : laws_FnExactHitsOf.Pure := by
  intro l hm hs hw
  obtain ⟨m, hk⟩ : ∃ m, m = 1003 * l.length + 100000 := ⟨_, rfl⟩
  have t1 : ∀ j, laws_toIntS.f (m + j) l = some l := fun j => toInts_f l hs (m + j) (by omega)
  have g1 := goodRefs_impl l (by omega)
  have g2 : ∀ j, spec_GoodRefs.f (m + j) l = some (goodB l) := fun j => goodRefs_spec l (by omega) (m + j) (by omega)
  have q1 : ∀ j, laws_eqIntS.f (m + j) l l = some true := fun j => by rw [eqInts_f l l (by omega) (m + j) (by omega), decide_eq_true rfl]
  have e : ∃ st b, st.length ≤ 200 ∧ ∀ j, impl_HitsOf.f (m + j) l = some (st, b) ∧ spec_HitsOf.f (m + j) l = some (st, b) := by
    unfold impl_HitsOf.f spec_HitsOf.f
    simp only [g1, Option.bind_some]
    cases hg : goodB l with
    | false =>
      refine ⟨[], false, by simp, fun j => ⟨rfl, ?_⟩⟩
      unfold spec_DistancesOf.f
      rw [g2, hg]; rfl
    | true =>
      have hl := goodB_len l hg
      have hp := pages_of_good l hg
      simp only [if_true]
      have hlen := distL_length l l.length
      have hD : ∀ x ∈ distL l l.length, 0 ≤ x ∧ x ≤ 100 := by
        intro x hx
        unfold distL at hx
        obtain ⟨i, hi, rfl⟩ := List.mem_map.mp hx
        exact distAt_range _ _ (fun y hy => hp y (List.mem_of_mem_take (List.mem_reverse.mp hy)))
      have hF := F41_length (hitAt (distL l l.length))
      refine ⟨F41 (hitAt (distL l l.length)), true, by omega, fun j => ⟨?_, ?_⟩⟩
      · rw [distances_f l (by omega) hp (m + j) (by omega), Option.bind_some, if_pos (by omega), replicate41]
        have h := hits_outer (distL l l.length) hD (by omega) l.length (m + j) 0 (by omega) (by omega)
        have e0 : F41 (fun _ => (0 : Int)) = F41 (hitAt ((distL l l.length).take 0)) := F41_congr _ _ (fun s hs => by simp [hitAt])
        rw [e0]
        exact h
      · unfold spec_DistancesOf.f
        rw [g2, hg, Option.bind_some, if_pos rfl]
        have hd := spec_outer l (by omega) l.length (m + j) 0 (by omega) (by omega)
        have hd2 : spec_DistancesOf.l0 (m + j) l [] l (l.length : Int) 0 = some (distL l l.length, true) := hd
        rw [hd2]
        simp only [Option.bind_some, if_true]
        rw [if_pos (by omega), replicate41, F41_length]
        exact spec_hits_outer (distL l l.length) (by omega) 41 (m + j) 0 (by omega) (by omega)
  obtain ⟨st, b, hst, e⟩ := e
  have e1 := fun j => (e j).1
  have e2 := fun j => (e j).2
  have q2 : ∀ j, laws_eqIntS.f (m + j) st st = some true := fun j => by rw [eqInts_f st st (by omega) (m + j) (by omega), decide_eq_true rfl]
  have m1 : ∀ j, laws_markIntS.f (m + j) l 1 = some ((1 : Int) + l.length, markL 1 l.length) := fun j => markInts_f l 1 (by omega) (by omega) (m + j) (by omega)
  have m2 : ∀ j, laws_markIntS.f (m + j) st 1 = some ((1 : Int) + st.length, markL 1 st.length) := fun j => markInts_f st 1 (by omega) (by omega) (m + j) (by omega)
  have m3 : ∀ j, laws_heldIntS.f (m + j) (markL 1 st.length) 1 = some ((1 : Int) + st.length) := fun j => heldInts_f st.length 1 (by omega) (by omega) (m + j) (by omega)
  have p1 : ¬ (1 : Int) + (l.length : Int) < 0 := by omega
  have p2 : ¬ (1 : Int) + (st.length : Int) < 0 := by omega
  clear e g1 g2 hw
  refine ⟨m + 5, ?_⟩
  unfold laws_FnExactHitsOf.f
  by_cases c : (l.length : Int) > 1048576
  · rw [if_pos c]
  · rw [if_neg c]
    simp only [t1, e1, e2, q1, q2, m1, m2, m3, p1, p2, Option.bind_some, if_true, if_false, bne_self_eq_false, Bool.false_eq_true, laws_FnExactHitsOf.j0, laws_FnExactHitsOf.j1, laws_FnExactHitsOf.j2]

end Go.Proofs.Ytgkoclacdmmkiaa.Pure
