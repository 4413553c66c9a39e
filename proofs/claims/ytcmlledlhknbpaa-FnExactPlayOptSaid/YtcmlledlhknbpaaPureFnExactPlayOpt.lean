/- The program's PlayOpt returns what the reference's returns, in memory of its own. No conditions. -/
import Derived.Test.YtcmlledlhknbpaaPFnExactPlayOptx6
set_option linter.unusedVariables false
set_option linter.unusedSimpArgs false
namespace Go.Proofs.Ytcmlledlhknbpaa.Pure
open Go.RowKit Go.Proofs.Ytcmlledlhknbpaa.PFnExactPlayOpt Go.Proofs.YtcmlledlhknbpaaW.PrintWords Go.Proofs.YtcmlledlhknbpaaW.PrintLast

/-! Whole numbers and rows of them -/
theorem w64 {x : Int} (h : -9223372036854775808 ≤ x) (h2 : x < 9223372036854775808) : wrap64 x = x := by unfold wrap64; omega
theorem rd_nat (l : List Int) (n : Nat) (h : n < l.length) : rd l (n : Int) = l[n] := by
  unfold rd; simp [List.getD_eq_getElem?_getD, h]
theorem succ_cast (n : Nat) : ((n : Int) + 1) = ((n + 1 : Nat) : Int) := by omega

/-! The laws' eqIntS -/
theorem eqInts_loop (xs ys : List Int) (hl : xs.length = ys.length) (hb : xs.length < 4611686018427387904) (d : Nat) : ∀ (k n : Nat), n + d = xs.length → d < k →
    laws_eqIntS.l0 k xs ys (n : Int) = some (decide (xs.drop n = ys.drop n)) := by
  induction d with
  | zero =>
    intro k n hn hk
    obtain ⟨k, rfl⟩ : ∃ m, k = m + 1 := ⟨k - 1, by omega⟩
    have c : ¬ (n : Int) < (xs.length : Int) := by omega
    simp only [laws_eqIntS.l0]; rw [if_neg c, List.drop_of_length_le (by omega), List.drop_of_length_le (by omega), decide_eq_true rfl]
  | succ d ih =>
    intro k n hn hk
    obtain ⟨k, rfl⟩ : ∃ m, k = m + 1 := ⟨k - 1, by omega⟩
    have h1 : n < xs.length := by omega
    have h2 : n < ys.length := by omega
    have c1 : (n : Int) < (xs.length : Int) := by omega
    have c2 : (n : Int) < (ys.length : Int) := by omega
    have c0 : (0 : Int) ≤ (n : Int) := by omega
    simp only [laws_eqIntS.l0]
    rw [if_pos c1, if_pos c0, if_pos c2, rd_nat xs n h1, rd_nat ys n h2, List.drop_eq_getElem_cons h1, List.drop_eq_getElem_cons h2, w64 (by omega) (by omega), succ_cast, ih k (n + 1) (by omega) (by omega)]
    by_cases e : xs[n] = ys[n]
    · rw [if_pos e]
      exact congrArg some (decide_eq_decide.mpr (by rw [List.cons.injEq]; exact ⟨fun h => ⟨e, h⟩, fun h => h.2⟩))
    · rw [if_neg e]
      exact congrArg some (decide_eq_false (by rw [List.cons.injEq]; exact fun h => e h.1)).symm
theorem eqInts_f (xs ys : List Int) (hb : xs.length < 4611686018427387904) (k : Nat) (hk : xs.length < k) : laws_eqIntS.f k xs ys = some (decide (xs = ys)) := by
  unfold laws_eqIntS.f
  by_cases e : xs.length = ys.length
  · have c : (xs.length : Int) = (ys.length : Int) := by omega
    rw [if_pos c]
    have h := eqInts_loop xs ys e hb xs.length k 0 (by omega) hk
    simpa using h
  · have c : ¬ (xs.length : Int) = (ys.length : Int) := by omega
    have e2 : ¬ xs = ys := fun h => e (by rw [h])
    rw [if_neg c, decide_eq_false e2]

/-! The laws' toIntS: a copy -/
theorem toInts_loop (xs : List Int) (hb : xs.length < 4611686018427387904) (d : Nat) : ∀ (k n : Nat) (ys : List Int), ys.length = xs.length → n + d = xs.length → d < k →
    laws_toIntS.l0 k xs ys (n : Int) = some (ys.take n ++ xs.drop n) := by
  induction d with
  | zero =>
    intro k n ys hl hn hk
    obtain ⟨k, rfl⟩ : ∃ m, k = m + 1 := ⟨k - 1, by omega⟩
    have c : ¬ (n : Int) < (xs.length : Int) := by omega
    simp only [laws_toIntS.l0]; rw [if_neg c, List.take_of_length_le (by omega), List.drop_of_length_le (by omega), List.append_nil]
  | succ d ih =>
    intro k n ys hl hn hk
    obtain ⟨k, rfl⟩ : ∃ m, k = m + 1 := ⟨k - 1, by omega⟩
    have h1 : n < xs.length := by omega
    have h2 : n < ys.length := by omega
    have c1 : (n : Int) < (xs.length : Int) := by omega
    have c2 : (n : Int) < (ys.length : Int) := by omega
    have c0 : (0 : Int) ≤ (n : Int) := by omega
    simp only [laws_toIntS.l0]
    rw [if_pos c1, if_pos c0, if_pos c2, rd_nat xs n h1, w64 (by omega) (by omega), succ_cast, Int.toNat_natCast, ih k (n + 1) _ (by simp [hl]) (by omega) (by omega), List.drop_eq_getElem_cons h1]
    congr 1
    rw [List.take_add_one, List.take_set_of_le (by omega)]
    simp [h2]
theorem toInts_f (xs : List Int) (hb : xs.length * 8 ≤ 140737488351232) (k : Nat) (hk : xs.length < k) : laws_toIntS.f k xs = some xs := by
  unfold laws_toIntS.f
  rw [if_pos (by omega), if_pos (by omega)]
  have h := toInts_loop xs (by omega) xs.length k 0 (List.replicate ((xs.length : Int) : Int).toNat 0) (by simp) (by omega) hk
  simpa using h

/-! The laws' markIntS and heldIntS: numbers one after the other -/
def markL (a : Int) : Nat → List Int
  | 0 => []
  | n + 1 => a :: markL (a + 1) n
theorem markL_length (n : Nat) : ∀ a : Int, (markL a n).length = n := by
  induction n with
  | zero => intro a; rfl
  | succ n ih => intro a; simp [markL, ih]
theorem markL_get (n : Nat) : ∀ (a : Int) (i : Nat) (h : i < (markL a n).length), (markL a n)[i] = a + i := by
  induction n with
  | zero => intro a i h; simp [markL] at h
  | succ n ih =>
    intro a i h
    cases i with
    | zero => simp [markL]
    | succ i =>
      simp only [markL, List.getElem_cons_succ]
      rw [ih]; omega
theorem markInts_loop (m : Nat) (a : Int) (ha : 0 ≤ a) (hb : a + m < 4611686018427387904) (d : Nat) : ∀ (k n : Nat) (l : List Int), l.length = m → n + d = m → d < k →
    laws_markIntS.l0 k l (a + n) (n : Int) = some (a + m, l.take n ++ markL (a + n) d) := by
  induction d with
  | zero =>
    intro k n l hl hn hk
    obtain ⟨k, rfl⟩ : ∃ m, k = m + 1 := ⟨k - 1, by omega⟩
    have c : ¬ (n : Int) < (l.length : Int) := by omega
    simp only [laws_markIntS.l0]; rw [if_neg c, List.take_of_length_le (by omega)]; simp [markL]; omega
  | succ d ih =>
    intro k n l hl hn hk
    obtain ⟨k, rfl⟩ : ∃ m, k = m + 1 := ⟨k - 1, by omega⟩
    have c1 : (n : Int) < (l.length : Int) := by omega
    have c0 : (0 : Int) ≤ (n : Int) := by omega
    have h1 : n < l.length := by omega
    simp only [laws_markIntS.l0]
    rw [if_pos c1, if_pos c0, w64 (x := a + n + 1) (by omega) (by omega), w64 (x := (n : Int) + 1) (by omega) (by omega), succ_cast, show a + (n : Int) + 1 = a + ((n + 1 : Nat) : Int) by omega, Int.toNat_natCast,
      ih k (n + 1) (l.set n (a + n)) (by rw [List.length_set]; exact hl) (by omega) (by omega)]
    congr 2
    rw [List.take_add_one, List.take_set_of_le (by omega)]
    simp [markL, h1]
    congr 1; omega
theorem markInts_f (l : List Int) (a : Int) (ha : 0 ≤ a) (hb : a + l.length < 4611686018427387904) (k : Nat) (hk : l.length < k) : laws_markIntS.f k l a = some (a + l.length, markL a l.length) := by
  unfold laws_markIntS.f
  have h := markInts_loop l.length a ha hb l.length k 0 l rfl (by omega) hk
  simpa using h
theorem heldInts_loop (m : Nat) (a : Int) (ha : 0 ≤ a) (hb : a + m < 4611686018427387904) (d : Nat) : ∀ (k n : Nat), n + d = m → d < k →
    laws_heldIntS.l0 k (markL a m) (a + n) (n : Int) = some (a + m) := by
  induction d with
  | zero =>
    intro k n hn hk
    obtain ⟨k, rfl⟩ : ∃ m, k = m + 1 := ⟨k - 1, by omega⟩
    have hl := markL_length m a
    have c : ¬ (n : Int) < ((markL a m).length : Int) := by omega
    simp only [laws_heldIntS.l0]; rw [if_neg c]; congr 1; omega
  | succ d ih =>
    intro k n hn hk
    obtain ⟨k, rfl⟩ : ∃ m, k = m + 1 := ⟨k - 1, by omega⟩
    have hl := markL_length m a
    have c1 : (n : Int) < ((markL a m).length : Int) := by omega
    have c0 : (0 : Int) ≤ (n : Int) := by omega
    have h1 : n < (markL a m).length := by omega
    simp only [laws_heldIntS.l0]
    rw [if_pos c1, if_pos c0, rd_nat _ n h1, markL_get, if_pos rfl, w64 (x := a + n + 1) (by omega) (by omega), w64 (x := (n : Int) + 1) (by omega) (by omega), succ_cast, show a + (n : Int) + 1 = a + ((n + 1 : Nat) : Int) by omega]
    exact ih k (n + 1) (by omega) (by omega)
theorem heldInts_f (m : Nat) (a : Int) (ha : 0 ≤ a) (hb : a + m < 4611686018427387904) (k : Nat) (hk : m < k) : laws_heldIntS.f k (markL a m) a = some (a + m) := by
  unfold laws_heldIntS.f
  have h := heldInts_loop m a ha hb m k 0 (by omega) hk
  simpa using h

/-! The first place at which a predicate holds -/
theorem idxO_ge {α : Type} (p : α → Option Bool) (l : List α) : ∀ (n i : Int), 0 ≤ n → idxO p l n = some i → i = -1 ∨ n ≤ i := by
  induction l with
  | nil => intro n i hn h; left; exact (Option.some.inj h).symm
  | cons x xs ih =>
    intro n i hn h
    obtain ⟨b, hb, h2⟩ := Option.bind_eq_some_iff.mp h
    cases b with
    | true => right; have := Option.some.inj h2; omega
    | false => have := ih (n + 1) i (by omega) h2; omega
theorem idxO_all {α : Type} (p : α → Option Bool) (q : α → Bool) (h : ∀ x, p x = some (!q x)) (l : List α) : ∀ (n : Int), 0 ≤ n → ∃ i, idxO p l n = some i ∧ (!decide (i ≥ 0)) = l.all q := by
  induction l with
  | nil => intro n hn; exact ⟨-1, rfl, rfl⟩
  | cons x xs ih =>
    intro n hn
    unfold idxO
    rw [h x, Option.bind_some]
    cases hq : q x with
    | true =>
      obtain ⟨i, h1, h2⟩ := ih (n + 1) (by omega)
      exact ⟨i, h1, by rw [h2, List.all_cons, hq, Bool.true_and]⟩
    | false => exact ⟨n, rfl, by rw [List.all_cons, hq, Bool.false_and, decide_eq_true (show n ≥ 0 from hn)]; rfl⟩

/-! References: good ones -/
def pageB (x : Int) : Bool := decide (0 ≤ x) && decide (x ≤ 99)
def goodB (l : List Int) : Bool := decide (l.length ≤ 200) && l.all pageB
theorem within_f (a b c : Int) : impl_within.f a b c = some (decide (b ≤ a) && decide (a ≤ c)) := by
  unfold impl_within.f
  by_cases h : b ≤ a
  · rw [if_pos h, decide_eq_true h, Bool.true_and]
  · rw [if_neg h, decide_eq_false h, Bool.false_and]
theorem l1In_f (a b c : Int) : spec_l1In.f a b c = some (decide (b ≤ a) && decide (a ≤ c)) := by
  unfold spec_l1In.f
  by_cases h : b ≤ a
  · rw [if_pos h, decide_eq_true h, Bool.true_and]
  · rw [if_neg h, decide_eq_false h, Bool.false_and]
theorem isPage_f (x : Int) : impl_isPage.f x = some (pageB x) := by unfold impl_isPage.f; rw [within_f]; rfl
theorem goodRefs_impl (l : List Int) (hb : l.length < 9223372036854775807) : impl_GoodRefs.f l = some (goodB l) := by
  unfold impl_GoodRefs.f goodB
  by_cases c : l.length ≤ 200
  · have c2 : (l.length : Int) ≤ 200 := by omega
    rw [if_pos c2, decide_eq_true c, Bool.true_and]
    unfold xAll_i64_impl_isPage.f
    rw [if_pos hb]
    obtain ⟨i, h1, h2⟩ := idxO_all xAll_i64_impl_isPage.z pageB (fun x => by unfold xAll_i64_impl_isPage.z; rw [isPage_f]; rfl) l 0 (by omega)
    rw [h1, Option.bind_some, Option.bind_some, h2]
  · have c2 : ¬ (l.length : Int) ≤ 200 := by omega
    rw [if_neg c2, decide_eq_false c, Bool.false_and]
theorem goodRefs_loop (l : List Int) (hb : l.length < 4611686018427387904) (d : Nat) : ∀ (k n : Nat), n + d = l.length → d < k →
    spec_GoodRefs.l0 k l l (l.length : Int) (n : Int) = some ((l.drop n).all pageB && decide (l.length ≤ 200)) := by
  induction d with
  | zero =>
    intro k n hn hk
    obtain ⟨k, rfl⟩ : ∃ m, k = m + 1 := ⟨k - 1, by omega⟩
    have c : ¬ (n : Int) < (l.length : Int) := by omega
    simp only [spec_GoodRefs.l0]; rw [if_neg c, List.drop_of_length_le (by omega), List.all_nil, Bool.true_and]
    exact congrArg some (decide_eq_decide.mpr (by omega))
  | succ d ih =>
    intro k n hn hk
    obtain ⟨k, rfl⟩ : ∃ m, k = m + 1 := ⟨k - 1, by omega⟩
    have h1 : n < l.length := by omega
    have c1 : (n : Int) < (l.length : Int) := by omega
    have c0 : (0 : Int) ≤ (n : Int) := by omega
    simp only [spec_GoodRefs.l0]
    rw [if_pos c1, if_pos c0, if_pos c1, rd_nat l n h1, l1In_f, Option.bind_some, List.drop_eq_getElem_cons h1, List.all_cons, w64 (by omega) (by omega), succ_cast, ih k (n + 1) (by omega) (by omega)]
    cases hp : pageB l[n] with
    | true =>
      have hp' : (decide (0 ≤ l[n]) && decide (l[n] ≤ 99)) = true := hp
      rw [if_pos hp', Bool.true_and]
    | false =>
      have hp' : (decide (0 ≤ l[n]) && decide (l[n] ≤ 99)) = false := hp
      rw [hp', if_neg (by decide)]; rfl
theorem goodRefs_spec (l : List Int) (hb : l.length < 4611686018427387904) (k : Nat) (hk : l.length < k) : spec_GoodRefs.f k l = some (goodB l) := by
  unfold spec_GoodRefs.f goodB
  have h := goodRefs_loop l hb l.length k 0 (by omega) hk
  rw [Bool.and_comm]
  exact h

/-! The next place of a page -/
def placeN (l : List Int) (p : Int) : Nat := l.findIdx (fun x => p == x)
theorem placeN_cons (x : Int) (xs : List Int) (p : Int) : placeN (x :: xs) p = if p = x then 0 else placeN xs p + 1 := by
  unfold placeN
  rw [List.findIdx_cons]
  by_cases h : p = x
  · rw [if_pos h, show (p == x) = true from beq_iff_eq.mpr h]; rfl
  · rw [if_neg h, show (p == x) = false from beq_eq_false_iff_ne.mpr h]; rfl
theorem placeN_le (l : List Int) (p : Int) : placeN l p ≤ l.length := List.findIdx_le_length
theorem index_loop (l : List Int) (p : Int) (hb : l.length < 4611686018427387904) (d : Nat) : ∀ (k n : Nat), n + d = l.length → d < k →
    slices_Index_int_int.l0 k l p (l.length : Int) (n : Int) = some (if n + placeN (l.drop n) p < l.length then ((n + placeN (l.drop n) p : Nat) : Int) else -1) := by
  induction d with
  | zero =>
    intro k n hn hk
    obtain ⟨k, rfl⟩ : ∃ m, k = m + 1 := ⟨k - 1, by omega⟩
    have c : ¬ (n : Int) < (l.length : Int) := by omega
    simp only [slices_Index_int_int.l0]; rw [if_neg c, if_neg (by omega)]
  | succ d ih =>
    intro k n hn hk
    obtain ⟨k, rfl⟩ : ∃ m, k = m + 1 := ⟨k - 1, by omega⟩
    have h1 : n < l.length := by omega
    have c1 : (n : Int) < (l.length : Int) := by omega
    have c0 : (0 : Int) ≤ (n : Int) := by omega
    simp only [slices_Index_int_int.l0]
    rw [if_pos c1, if_pos c0, if_pos c1, rd_nat l n h1, List.drop_eq_getElem_cons h1, placeN_cons, w64 (by omega) (by omega), succ_cast, ih k (n + 1) (by omega) (by omega)]
    by_cases e : p = l[n]
    · rw [if_pos e, if_pos e, if_pos (by omega), Nat.add_zero]
    · rw [if_neg e, if_neg e, show n + 1 + placeN (List.drop (n + 1) l) p = n + (placeN (List.drop (n + 1) l) p + 1) by omega]
theorem index_f (l : List Int) (p : Int) (hb : l.length < 4611686018427387904) (k : Nat) (hk : l.length < k) : slices_Index_int_int.f k l p = some (if placeN l p < l.length then (placeN l p : Int) else -1) := by
  unfold slices_Index_int_int.f
  have h := index_loop l p hb l.length k 0 (by omega) hk
  simpa using h

theorem l11_loop (l : List Int) (p : Int) (hb : l.length < 4611686018427387904) (d : Nat) : ∀ (k n : Nat), n + d = l.length → d < k →
    spec_l11Next.l0 k l (n : Int) p = some ((n + placeN (l.drop n) p : Nat) : Int) := by
  induction d with
  | zero =>
    intro k n hn hk
    obtain ⟨k, rfl⟩ : ∃ m, k = m + 1 := ⟨k - 1, by omega⟩
    have c : ¬ (n : Int) < (l.length : Int) := by omega
    simp only [spec_l11Next.l0]; rw [if_neg c, List.drop_of_length_le (by omega)]; rfl
  | succ d ih =>
    intro k n hn hk
    obtain ⟨k, rfl⟩ : ∃ m, k = m + 1 := ⟨k - 1, by omega⟩
    have h1 : n < l.length := by omega
    have c1 : (n : Int) < (l.length : Int) := by omega
    have c0 : (0 : Int) ≤ (n : Int) := by omega
    simp only [spec_l11Next.l0]
    rw [if_pos c1, if_pos c0, rd_nat l n h1, List.drop_eq_getElem_cons h1, placeN_cons, w64 (by omega) (by omega), succ_cast, ih k (n + 1) (by omega) (by omega)]
    by_cases e : p = l[n]
    · rw [if_pos e.symm, if_pos e, Nat.add_zero]
    · rw [if_neg (fun h => e h.symm), if_neg e, show n + 1 + placeN (List.drop (n + 1) l) p = n + (placeN (List.drop (n + 1) l) p + 1) by omega]
theorem nextUse_f (l : List Int) (n : Nat) (p : Int) (hn : n ≤ l.length) (hb : l.length < 4611686018427387904) (k : Nat) (hk : l.length < k) : impl_nextUse.f k l (n : Int) p = some ((n + placeN (l.drop n) p : Nat) : Int) := by
  unfold impl_nextUse.f
  rw [if_pos (by omega), if_pos (by omega), Int.toNat_natCast, index_f _ p (by rw [List.length_drop]; omega) k (by rw [List.length_drop]; omega), Option.bind_some]
  have hle := placeN_le (l.drop n) p
  rw [List.length_drop] at hle ⊢
  by_cases c : placeN (l.drop n) p < l.length - n
  · rw [if_pos c, if_neg (by omega), w64 (by omega) (by omega)]; congr 1
  · rw [if_neg c, if_pos (by omega)]; congr 1; omega

theorem isSize_f (x : Int) : impl_isSize.f x = some (decide (0 ≤ x) && decide (x ≤ 40)) := by unfold impl_isSize.f; rw [within_f]; rfl

/-! What the exact laws do with lists -/
theorem goodB_len (l : List Int) (h : goodB l = true) : l.length ≤ 200 := by
  unfold goodB at h
  simp only [Bool.and_eq_true, decide_eq_true_eq] at h
  exact h.1

/-! Rising lists: where a page stands, or would -/
def posL (l : List Int) (p : Int) : Nat := (l.takeWhile fun x => decide (x < p)).length
theorem posL_le (l : List Int) (p : Int) : posL l p ≤ l.length := by
  induction l with
  | nil => simp [posL]
  | cons x xs ih =>
    unfold posL at ih ⊢
    rw [List.takeWhile_cons]
    split
    · simp only [List.length_cons]; omega
    · simp
theorem posL_cons (x : Int) (xs : List Int) (p : Int) : posL (x :: xs) p = if x < p then posL xs p + 1 else 0 := by
  unfold posL
  rw [List.takeWhile_cons]
  by_cases h : x < p
  · simp [h]
  · simp [h]
theorem posL_lt (l : List Int) (p : Int) : ∀ (i : Nat) (h : i < l.length), i < posL l p → l[i] < p := by
  induction l with
  | nil => intro i h; simp at h
  | cons x xs ih =>
    intro i h hi
    rw [posL_cons] at hi
    by_cases c : x < p
    · rw [if_pos c] at hi
      cases i with
      | zero => exact c
      | succ i => exact ih i (by simpa using h) (by omega)
    · rw [if_neg c] at hi; omega
theorem posL_ge (l : List Int) (hs : l.Pairwise (· < ·)) (p : Int) : ∀ (i : Nat) (h : i < l.length), posL l p ≤ i → p ≤ l[i] := by
  induction l with
  | nil => intro i h; simp at h
  | cons x xs ih =>
    intro i h hi
    obtain ⟨h1, h2⟩ := List.pairwise_cons.mp hs
    rw [posL_cons] at hi
    by_cases c : x < p
    · rw [if_pos c] at hi
      cases i with
      | zero => omega
      | succ i => exact ih h2 i (by simpa using h) (by omega)
    · cases i with
      | zero => simp only [List.getElem_cons_zero]; omega
      | succ i =>
        have hi2 : i < xs.length := by simpa using h
        have z := h1 xs[i] (List.getElem_mem _)
        simp only [List.getElem_cons_succ]; omega
theorem posL_mem (l : List Int) (hs : l.Pairwise (· < ·)) (p : Int) : p ∈ l ↔ ∃ h : posL l p < l.length, l[posL l p] = p := by
  constructor
  · intro hm
    obtain ⟨i, hi, rfl⟩ := List.getElem_of_mem hm
    have h1 : ¬ i < posL l l[i] := fun h => by have := posL_lt l l[i] i hi h; omega
    have hlt : posL l l[i] < l.length := by omega
    have h2 := posL_ge l hs l[i] (posL l l[i]) hlt (Nat.le_refl _)
    refine ⟨hlt, ?_⟩
    by_cases e : posL l l[i] = i
    · simp only [e]
    · have h3 := List.pairwise_iff_getElem.mp hs (posL l l[i]) i hlt hi (by omega)
      omega
  · rintro ⟨h, e⟩
    rw [← e]; exact List.getElem_mem h
def insM (l : List Int) (p : Int) : List Int := insL l (posL l p) p
theorem insM_length (l : List Int) (p : Int) : (insM l p).length = l.length + 1 := insL_length l _ p (posL_le l p)
theorem insM_mem (l : List Int) (p q : Int) : q ∈ insM l p ↔ q = p ∨ q ∈ l := by
  unfold insM insL
  rw [List.mem_append, List.mem_cons]
  constructor
  · rintro (h | rfl | h)
    · exact Or.inr (List.mem_of_mem_take h)
    · exact Or.inl rfl
    · exact Or.inr (List.mem_of_mem_drop h)
  · rintro (rfl | h)
    · exact Or.inr (Or.inl rfl)
    · rw [← List.take_append_drop (posL l p) l, List.mem_append] at h
      rcases h with h | h
      · exact Or.inl h
      · exact Or.inr (Or.inr h)
theorem insM_sorted (l : List Int) (p : Int) (hs : l.Pairwise (· < ·)) (hn : ¬ p ∈ l) : (insM l p).Pairwise (· < ·) := by
  unfold insM insL
  refine List.pairwise_append.mpr ⟨hs.sublist (List.take_sublist _ _), List.pairwise_cons.mpr ⟨fun q hq => ?_, hs.sublist (List.drop_sublist _ _)⟩, fun a ha b hb => ?_⟩
  · obtain ⟨i, hi, rfl⟩ := List.getElem_of_mem hq
    rw [List.getElem_drop]
    have h1 := posL_ge l hs p (posL l p + i) (by rw [List.length_drop] at hi; omega) (by omega)
    have h2 : l[posL l p + i]'(by rw [List.length_drop] at hi; omega) ≠ p := fun e => hn (e ▸ List.getElem_mem _)
    omega
  · obtain ⟨i, hi, rfl⟩ := List.getElem_of_mem ha
    rw [List.length_take] at hi
    rw [List.getElem_take]
    have h1 := posL_lt l p i (by omega) (by omega)
    rcases List.mem_cons.mp hb with rfl | hb
    · exact h1
    · obtain ⟨j, hj, rfl⟩ := List.getElem_of_mem hb
      rw [List.length_drop] at hj
      rw [List.getElem_drop]
      exact List.pairwise_iff_getElem.mp hs i (posL l p + j) (by omega) (by omega) (by omega)
theorem binary_loop (l : List Int) (p : Int) (hs : l.Pairwise (· < ·)) (hb : l.length < 1000000) (d : Nat) : ∀ (k i j : Nat), i ≤ posL l p → posL l p ≤ j → j ≤ l.length → j - i ≤ d → d < k →
    slices_BinarySearch_int_int.l0 k l p (l.length : Int) (i : Int) (j : Int) = some ((posL l p : Int), decide (p ∈ l)) := by
  induction d with
  | zero =>
    intro k i j h1 h2 h3 hd hk
    obtain ⟨k, rfl⟩ : ∃ m, k = m + 1 := ⟨k - 1, by omega⟩
    obtain rfl : i = posL l p := by omega
    simp only [slices_BinarySearch_int_int.l0]
    rw [if_neg (by omega)]
    by_cases c : posL l p < l.length
    · rw [if_pos (by omega), if_pos (by omega), if_pos (by omega), rd_nat l _ c]
      by_cases e : l[posL l p] = p
      · rw [if_pos e, decide_eq_true ((posL_mem l hs p).mpr ⟨c, e⟩)]
      · rw [if_neg e]
        unfold slices_isNaN_int.f
        simp only [bne_self_eq_false, Option.bind_some, Bool.false_eq_true, if_false]
        rw [decide_eq_false (fun h => e ((posL_mem l hs p).mp h).2)]
    · rw [if_neg (by omega), decide_eq_false (fun h => c ((posL_mem l hs p).mp h).1)]
  | succ d ih =>
    intro k i j h1 h2 h3 hd hk
    obtain ⟨k, rfl⟩ : ∃ m, k = m + 1 := ⟨k - 1, by omega⟩
    by_cases c : i < j
    · have hm : wrap64 (IntKind.u64.wrap (wrap64 ((i : Int) + (j : Int))) / 2) = (((i + j) / 2 : Nat) : Int) := by
        rw [w64 (x := (i : Int) + j) (by omega) (by omega)]
        have e : IntKind.u64.wrap ((i : Int) + (j : Int)) = (i : Int) + j := by
          rw [IntKind.wrap_u64]; omega
        rw [e, w64 (by omega) (by omega)]; omega
      have hlt : (i + j) / 2 < l.length := by omega
      simp only [slices_BinarySearch_int_int.l0]
      rw [if_pos (by omega), hm, if_pos (by omega), if_pos (by omega), rd_nat l _ hlt]
      unfold cmp_Less_int.f cmp_isNaN_int.f
      simp only [bne_self_eq_false, Option.bind_some, Bool.false_eq_true, if_false, decide_eq_true_eq]
      by_cases e : l[(i + j) / 2] < p
      · have hp : (i + j) / 2 < posL l p := by
          refine Classical.byContradiction fun h => ?_
          have := posL_ge l hs p ((i + j) / 2) hlt (by omega)
          omega
        rw [if_pos e, w64 (by omega) (by omega), succ_cast]
        exact ih k _ j (by omega) h2 h3 (by omega) (by omega)
      · have hp : posL l p ≤ (i + j) / 2 := by
          refine Classical.byContradiction fun h => ?_
          have := posL_lt l p ((i + j) / 2) hlt (by omega)
          omega
        rw [if_neg e]
        exact ih k i _ h1 hp (by omega) (by omega) (by omega)
    · refine at_rounds (g := fun k => slices_BinarySearch_int_int.l0 k l p (l.length : Int) (i : Int) (j : Int)) (fun k => slices_BinarySearch_int_int.mono_l k _ _ _ _ _) (show k ≤ k + 1 by omega) ?_
      exact ih k i j h1 h2 h3 (by omega) (by omega)
theorem binary_f (l : List Int) (p : Int) (hs : l.Pairwise (· < ·)) (hb : l.length < 1000000) (k : Nat) (hk : l.length < k) : slices_BinarySearch_int_int.f k l p = some ((posL l p : Int), decide (p ∈ l)) :=
  binary_loop l p hs hb l.length k 0 l.length (Nat.zero_le _) (posL_le l p) (Nat.le_refl _) (by omega) hk
/-! the reference's words for the same -/
theorem l11At_loop (l : List Int) (p : Int) (hs : l.Pairwise (· < ·)) (hb : l.length < 1000000) (d : Nat) : ∀ (k n : Nat), n + d = l.length → n ≤ posL l p → d < k → spec_l11At.l0 k l p (n : Int) = some ((posL l p : Int), decide (p ∈ l)) := by
  induction d with
  | zero =>
    intro k n hn hp hk
    obtain ⟨k, rfl⟩ : ∃ m, k = m + 1 := ⟨k - 1, by omega⟩
    have hle := posL_le l p
    simp only [spec_l11At.l0]
    rw [if_neg (by omega), decide_eq_false (fun h => by have := ((posL_mem l hs p).mp h).1; omega), show n = posL l p by omega]
  | succ d ih =>
    intro k n hn hp hk
    obtain ⟨k, rfl⟩ : ∃ m, k = m + 1 := ⟨k - 1, by omega⟩
    have h1 : n < l.length := by omega
    simp only [spec_l11At.l0]
    rw [if_pos (by omega), if_pos (by omega), rd_nat l n h1]
    by_cases e : l[n] < p
    · have hp2 : n < posL l p := by
        refine Classical.byContradiction fun h => ?_
        have := posL_ge l hs p n h1 (by omega)
        omega
      rw [if_pos e, w64 (by omega) (by omega), succ_cast]
      exact ih k (n + 1) (by omega) (by omega) (by omega)
    · have hp2 : posL l p = n := by
        refine Classical.byContradiction fun h => ?_
        have := posL_lt l p n h1 (by omega)
        omega
      rw [if_neg e, hp2]
      congr 2
      by_cases e2 : l[n] = p
      · rw [decide_eq_true ((posL_mem l hs p).mpr ⟨by omega, by simp only [hp2]; exact e2⟩)]; simp [e2]
      · rw [decide_eq_false (fun h => e2 (by obtain ⟨h3, h4⟩ := (posL_mem l hs p).mp h; simp only [hp2] at h4; exact h4))]; simp [e2]
theorem l11At_f (l : List Int) (p : Int) (hs : l.Pairwise (· < ·)) (hb : l.length < 1000000) (k : Nat) (hk : l.length < k) : spec_l11At.f k l p = some ((posL l p : Int), decide (p ∈ l)) :=
  l11At_loop l p hs hb l.length k 0 (by omega) (Nat.zero_le _) hk
theorem l11Without_f (l : List Int) (n : Nat) (hn : n < l.length) (hb : l.length < 1000000) : spec_l11Without.f l (n : Int) = some (l.eraseIdx n) := by
  unfold spec_l11Without.f
  rw [Option.bind_some, if_pos (by omega), if_pos (by omega), if_pos (by simp; omega), Option.bind_some, w64 (by omega) (by omega), if_pos (by omega), if_pos (by omega), if_pos (by simp; omega), Int.toNat_natCast, succ_cast, Int.toNat_natCast, List.nil_append, List.eraseIdx_eq_take_drop_succ]
theorem l11Put_f (l : List Int) (p : Int) (hs : l.Pairwise (· < ·)) (hb : l.length < 1000000) (k : Nat) (hk : l.length < k) : spec_l11Put.f k l p = some (insM l p) := by
  have hle := posL_le l p
  unfold spec_l11Put.f
  rw [l11At_f l p hs hb k hk, Option.bind_some, if_pos (by omega), if_pos (by omega), if_pos (by simp; omega), Option.bind_some, if_pos (by simp; omega), Option.bind_some, if_pos (by simp; omega), Int.toNat_natCast, List.nil_append]
  unfold insM insL
  rw [List.append_assoc, List.singleton_append]
theorem erase_sorted (l : List Int) (n : Nat) (hs : l.Pairwise (· < ·)) : (l.eraseIdx n).Pairwise (· < ·) := hs.sublist (List.eraseIdx_sublist _ _)

/-! References played by a rule -/
def playM {σ : Type} (goes : σ → Nat → List Int → Nat × σ) (sz : Nat) : List Int → Nat → List Int → Nat → σ → List Int × Nat
  | [], _, pages, hits, _ => (pages, hits)
  | p :: ps, i, pages, hits, s =>
    if p ∈ pages then playM goes sz ps (i + 1) pages (hits + 1) s
    else if sz = 0 then playM goes sz ps (i + 1) pages hits s
    else if pages.length = sz then playM goes sz ps (i + 1) (insM (pages.eraseIdx (goes s (i + 1) pages).1) p) hits (goes s (i + 1) pages).2
    else playM goes sz ps (i + 1) (insM pages p) hits s
theorem playM_cons {σ : Type} (goes : σ → Nat → List Int → Nat × σ) (sz : Nat) (p : Int) (ps : List Int) (i : Nat) (pages : List Int) (hits : Nat) (s : σ) : playM goes sz (p :: ps) i pages hits s =
    if p ∈ pages then playM goes sz ps (i + 1) pages (hits + 1) s
    else if sz = 0 then playM goes sz ps (i + 1) pages hits s
    else if pages.length = sz then playM goes sz ps (i + 1) (insM (pages.eraseIdx (goes s (i + 1) pages).1) p) hits (goes s (i + 1) pages).2
    else playM goes sz ps (i + 1) (insM pages p) hits s := rfl
theorem erase_length (l : List Int) (n : Nat) (h : n < l.length) : (l.eraseIdx n).length = l.length - 1 := List.length_eraseIdx_of_lt h
theorem erase_not_mem (l : List Int) (n : Nat) (p : Int) (hn : ¬ p ∈ l) : ¬ p ∈ l.eraseIdx n := fun h => hn (List.mem_of_mem_eraseIdx h)
/-- what a rule must do: it names a place; and what it remembers stays well -/
def Rules {σ : Type} (goesM : σ → Nat → List Int → Nat × σ) (sz N : Nat) (P : σ → Prop) : Prop :=
  ∀ (s : σ) (n : Nat) (pages : List Int), P s → n ≤ N → pages.length = sz → 0 < sz → (goesM s n pages).1 < sz ∧ P (goesM s n pages).2
theorem playM_facts {σ : Type} (goesM : σ → Nat → List Int → Nat × σ) (sz N : Nat) (P : σ → Prop) (hg : Rules goesM sz N P) (l : List Int) : ∀ (i : Nat) (pages : List Int) (hits : Nat) (s : σ), P s → pages.Pairwise (· < ·) → pages.length ≤ sz → i + l.length ≤ N →
    (playM goesM sz l i pages hits s).1.length ≤ sz ∧ hits ≤ (playM goesM sz l i pages hits s).2 ∧ (playM goesM sz l i pages hits s).2 ≤ hits + l.length ∧ (playM goesM sz l i pages hits s).1.Pairwise (· < ·) := by
  induction l with
  | nil => intro i pages hits s hp hs hl hn; exact ⟨hl, Nat.le_refl _, by simp [playM], hs⟩
  | cons p ps ih =>
    intro i pages hits s hp hs hl hn
    simp only [List.length_cons] at hn ⊢
    rw [playM_cons]
    by_cases hm : p ∈ pages
    · rw [if_pos hm]
      obtain ⟨a, b, c, d⟩ := ih (i + 1) pages (hits + 1) s hp hs hl (by omega)
      exact ⟨a, by omega, by omega, d⟩
    · rw [if_neg hm]
      by_cases h0 : sz = 0
      · rw [if_pos h0]
        obtain ⟨a, b, c, d⟩ := ih (i + 1) pages hits s hp hs hl (by omega)
        exact ⟨a, by omega, by omega, d⟩
      · rw [if_neg h0]
        by_cases hq : pages.length = sz
        · rw [if_pos hq]
          obtain ⟨g1, g2⟩ := hg s (i + 1) pages hp (by omega) hq (by omega)
          obtain ⟨a, b, c, d⟩ := ih (i + 1) (insM (pages.eraseIdx (goesM s (i + 1) pages).1) p) hits (goesM s (i + 1) pages).2 g2 (insM_sorted _ _ (erase_sorted _ _ hs) (erase_not_mem _ _ _ hm)) (by rw [insM_length, erase_length _ _ (by omega)]; omega) (by omega)
          exact ⟨a, by omega, by omega, d⟩
        · rw [if_neg hq]
          obtain ⟨a, b, c, d⟩ := ih (i + 1) (insM pages p) hits s hp (insM_sorted _ _ hs hm) (by rw [insM_length]; omega) (by omega)
          exact ⟨a, by omega, by omega, d⟩
theorem playO_f {σ : Type} (k : Nat) (goes : σ → Int → List Int → Option (Int × σ)) (goesM : σ → Nat → List Int → Nat × σ) (sz N : Nat) (hsz : sz ≤ 1000) (hN : N < 1000000) (hk : 1000 < k) (P : σ → Prop) (hg : Rules goesM sz N P)
    (hgo : ∀ (s : σ) (n : Nat) (pages : List Int), P s → n ≤ N → pages.length = sz → 0 < sz → goes s (n : Int) pages = some (((goesM s n pages).1 : Int), (goesM s n pages).2)) (l : List Int) :
    ∀ (i : Nat) (pages : List Int) (hits : Nat) (s : σ), P s → pages.Pairwise (· < ·) → pages.length ≤ sz → i + l.length ≤ N → hits ≤ i →
    playO k goes (sz : Int) l (i : Int) pages (hits : Int) s = some ((playM goesM sz l i pages hits s).1, ((playM goesM sz l i pages hits s).2 : Int)) := by
  induction l with
  | nil => intro i pages hits s hp hs hl hn hh; rfl
  | cons p ps ih =>
    intro i pages hits s hp hs hl hn hh
    simp only [List.length_cons] at hn
    rw [playM_cons]
    unfold playO
    rw [binary_f pages p hs (by omega) k (by omega), Option.bind_some]
    by_cases hm : p ∈ pages
    · rw [if_pos hm]
      simp only [decide_eq_true hm, if_true]
      rw [w64 (by omega) (by omega), succ_cast, succ_cast]
      exact ih (i + 1) pages (hits + 1) s hp hs hl (by omega) (by omega)
    · rw [if_neg hm]
      simp only [decide_eq_false hm, Bool.false_eq_true, if_false]
      by_cases h0 : sz = 0
      · rw [if_pos h0, if_pos (by omega), succ_cast]
        exact ih (i + 1) pages hits s hp hs hl (by omega) (by omega)
      · rw [if_neg h0, if_neg (by omega)]
        by_cases hq : pages.length = sz
        · obtain ⟨g1, g2⟩ := hg s (i + 1) pages hp (by omega) hq (by omega)
          have g3 := hgo s (i + 1) pages hp (by omega) hq (by omega)
          have hel : (pages.eraseIdx (goesM s (i + 1) pages).1).length = pages.length - 1 := erase_length _ _ (by omega)
          have hes := erase_sorted pages (goesM s (i + 1) pages).1 hs
          have hle := posL_le (pages.eraseIdx (goesM s (i + 1) pages).1) p
          rw [if_pos hq, if_pos (by omega), w64 (by omega) (by omega), succ_cast, g3, Option.bind_some]
          simp only [Int.toNat_natCast]
          rw [if_pos (by omega), binary_f _ p hes (by omega) k (by omega), Option.bind_some]
          simp only [Int.toNat_natCast]
          rw [if_pos (by omega)]
          exact ih (i + 1) (insM (pages.eraseIdx (goesM s (i + 1) pages).1) p) hits _ g2 (insM_sorted _ _ hes (erase_not_mem _ _ _ hm)) (by rw [insM_length]; omega) (by omega) (by omega)
        · have hle := posL_le pages p
          rw [if_neg hq, if_neg (by omega), succ_cast]
          simp only [Int.toNat_natCast]
          rw [if_pos (by omega)]
          exact ih (i + 1) (insM pages p) hits s hp (insM_sorted _ _ hs hm) (by rw [insM_length]; omega) (by omega) (by omega)

/-! The page that is wanted last -/
def worstG (f : Int → Nat) (pages : List Int) : List Int → Nat → Nat → Nat
  | [], _, b => b
  | p :: ps, j, b => worstG f pages ps (j + 1) (if f p > f (pages.getD b 0) then j else b)
theorem worstG_lt (f : Int → Nat) (pages : List Int) (ps : List Int) : ∀ (j b n : Nat), j + ps.length ≤ n → b < n → worstG f pages ps j b < n := by
  induction ps with
  | nil => intro j b n h hb; exact hb
  | cons p ps ih =>
    intro j b n h hb
    simp only [List.length_cons] at h
    unfold worstG
    exact ih (j + 1) _ n (by omega) (by split <;> omega)
/-- where a page is wanted next, from one place on -/
def nextN (l : List Int) (n : Nat) (q : Int) : Nat := n + placeN (l.drop n) q
def optM (l : List Int) (_ : Unit) (n : Nat) (pages : List Int) : Nat × Unit := (worstG (nextN l n) pages pages 0 0, ())
theorem rd_getD (l : List Int) (n : Nat) : rd l (n : Int) = l.getD n 0 := by unfold rd; rw [Int.toNat_natCast]
theorem optO_f (k : Nat) (l pages : List Int) (n : Nat) (hn : n ≤ l.length) (hb : l.length < 1000000) (hk : l.length < k) (ps : List Int) : ∀ (j b : Nat), j + ps.length ≤ pages.length → b < pages.length →
    optO k l pages (n : Int) ps (j : Int) (b : Int) = some ((worstG (nextN l n) pages ps j b : Nat) : Int) := by
  induction ps with
  | nil => intro j b h hb2; rfl
  | cons p ps ih =>
    intro j b h hb2
    simp only [List.length_cons] at h
    unfold optO worstG
    rw [nextUse_f l n p hn (by omega) k hk, Option.bind_some, if_pos (by omega), rd_getD, nextUse_f l n _ hn (by omega) k hk, Option.bind_some, succ_cast]
    by_cases c : nextN l n p > nextN l n (pages.getD b 0)
    · rw [if_pos c, if_pos (by unfold nextN at c; omega)]
      exact ih (j + 1) j (by omega) (by omega)
    · rw [if_neg c, if_neg (by unfold nextN at c; omega)]
      exact ih (j + 1) b (by omega) hb2
theorem opt_rules (l : List Int) (sz : Nat) : Rules (optM l) sz l.length (fun _ => True) := by
  intro s n pages _ hn hl h0
  exact ⟨worstG_lt _ _ _ 0 0 sz (by omega) h0, trivial⟩
theorem optG_f (k : Nat) (l : List Int) (sz : Nat) (hsz : sz ≤ 1000) (hb : l.length < 1000000) (hk : l.length < k) (s : Unit) (n : Nat) (pages : List Int) (hn : n ≤ l.length) (hl : pages.length = sz) (h0 : 0 < sz) :
    optG k l s (n : Int) pages = some (((optM l s n pages).1 : Int), (optM l s n pages).2) := by
  unfold optG
  rw [if_pos (by omega)]
  have h := optO_f k l pages n hn hb hk pages 0 0 (by omega) (by omega)
  rw [show ((0 : Nat) : Int) = 0 from rfl] at h
  rw [h]; rfl

/-! the reference's loops -/
theorem l11Next_f (l : List Int) (n : Nat) (p : Int) (hn : n ≤ l.length) (hb : l.length < 1000000) (k : Nat) (hk : l.length < k) : spec_l11Next.f k l (n : Int) p = some ((nextN l n p : Nat) : Int) := by
  unfold spec_l11Next.f nextN
  exact l11_loop l p (by omega) (l.length - n) k n (by omega) (by omega)
set_option maxRecDepth 100000 in
theorem specOpt_inner (l : List Int) (size hits p : Int) (i : Nat) (pages : List Int) (hi : i + 1 ≤ l.length) (hb : l.length < 1000000) (hpl : 0 < pages.length) (hpb : pages.length ≤ 1000) (hs : pages.Pairwise (· < ·)) (d : Nat) : ∀ (k j b : Nat), j + d = pages.length → d + (l.length + 2000) < k → b < pages.length →
    spec_PlayOpt.l1 k l size pages hits (i : Int) p (b : Int) l (l.length : Int) (i : Int) pages (pages.length : Int) (j : Int) = spec_PlayOpt.l0 (k - d - 1) l size (insM (pages.eraseIdx (worstG (nextN l (i + 1)) pages (pages.drop j) j b)) p) hits l (l.length : Int) ((i + 1 : Nat) : Int) := by
  induction d with
  | zero =>
    intro k j b hj hk hbl
    obtain ⟨k, rfl⟩ : ∃ m, k = m + 1 := ⟨k - 1, by omega⟩
    simp only [spec_PlayOpt.l1]
    rw [if_neg (by omega), List.drop_of_length_le (by omega), l11Without_f pages b hbl (by omega), Option.bind_some, l11Put_f _ p (erase_sorted _ _ hs) (by have := List.length_eraseIdx_le pages b; omega) k (by have := List.length_eraseIdx_le pages b; omega), Option.bind_some, w64 (by omega) (by omega), succ_cast, show k + 1 - 0 - 1 = k by omega]
    rfl
  | succ d ih =>
    intro k j b hj hk hbl
    obtain ⟨k, rfl⟩ : ∃ m, k = m + 1 := ⟨k - 1, by omega⟩
    have hjl : j < pages.length := by omega
    have e : worstG (nextN l (i + 1)) pages (pages.drop j) j b = worstG (nextN l (i + 1)) pages (pages.drop (j + 1)) (j + 1) (if nextN l (i + 1) pages[j] > nextN l (i + 1) (pages.getD b 0) then j else b) := by
      rw [List.drop_eq_getElem_cons hjl]; rfl
    conv => lhs; simp only [spec_PlayOpt.l1]
    rw [if_pos (by omega), if_pos (by omega), if_pos (by omega), rd_nat pages j hjl, w64 (x := (i : Int) + 1) (by omega) (by omega), succ_cast, l11Next_f l (i + 1) _ hi hb k (by omega), Option.bind_some, if_pos (by omega), if_pos (by omega), rd_getD, l11Next_f l (i + 1) _ hi hb k (by omega), Option.bind_some, w64 (x := (j : Int) + 1) (by omega) (by omega), succ_cast, e]
    by_cases c : nextN l (i + 1) pages[j] > nextN l (i + 1) (pages.getD b 0)
    · rw [if_pos (by omega), if_pos c, ih k (j + 1) j (by omega) (by omega) hjl, show k - d - 1 = k + 1 - (d + 1) - 1 by omega]
    · rw [if_neg (by omega), if_neg c, ih k (j + 1) b (by omega) (by omega) hbl, show k - d - 1 = k + 1 - (d + 1) - 1 by omega]
set_option maxRecDepth 100000 in
theorem specOpt_loop (l : List Int) (sz : Nat) (hsz : sz ≤ 1000) (hb : l.length < 1000000) (d : Nat) : ∀ (k i hits : Nat) (pages : List Int), i + d = l.length → d * (sz + 3) + (l.length + 4000) < k → pages.Pairwise (· < ·) → pages.length ≤ sz → hits ≤ i →
    spec_PlayOpt.l0 k l (sz : Int) pages (hits : Int) l (l.length : Int) (i : Int) = some ((playM (optM l) sz (l.drop i) i pages hits ()).1, ((playM (optM l) sz (l.drop i) i pages hits ()).2 : Int), true) := by
  induction d with
  | zero =>
    intro k i hits pages hi hk hs hpl hh
    obtain ⟨k, rfl⟩ : ∃ m, k = m + 1 := ⟨k - 1, by omega⟩
    simp only [spec_PlayOpt.l0]
    rw [if_neg (by omega), List.drop_of_length_le (by omega)]
    rfl
  | succ d ih =>
    intro k i hits pages hi hk hs hpl hh
    obtain ⟨k, rfl⟩ : ∃ m, k = m + 1 := ⟨k - 1, by omega⟩
    have hk2 : d * (sz + 3) + (sz + 3) + (l.length + 4000) < k + 1 := by rw [← Nat.succ_mul]; exact hk
    have hil : i < l.length := by omega
    simp only [spec_PlayOpt.l0]
    rw [if_pos (by omega), if_pos (by omega), if_pos (by omega), rd_nat l i hil, l11At_f pages _ hs (by omega) k (by omega), Option.bind_some, List.drop_eq_getElem_cons hil, playM_cons, w64 (x := (i : Int) + 1) (by omega) (by omega), succ_cast]
    by_cases hm : l[i] ∈ pages
    · rw [if_pos hm]
      simp only [decide_eq_true hm, if_true]
      rw [w64 (by omega) (by omega), succ_cast]
      exact ih k (i + 1) (hits + 1) pages (by omega) (by omega) hs hpl (by omega)
    · rw [if_neg hm]
      simp only [decide_eq_false hm, Bool.false_eq_true, if_false]
      by_cases h0 : sz = 0
      · rw [if_pos h0, if_pos (by omega)]
        exact ih k (i + 1) hits pages (by omega) (by omega) hs hpl (by omega)
      · rw [if_neg h0, if_neg (by omega)]
        by_cases hq : pages.length = sz
        · have hin := specOpt_inner l (sz : Int) (hits : Int) l[i] i pages (by omega) hb (by omega) (by omega) hs pages.length k 0 0 (by omega) (by omega) (by omega)
          rw [show ((0 : Nat) : Int) = 0 from rfl] at hin
          have hw : worstG (nextN l (i + 1)) pages pages 0 0 < sz := worstG_lt _ _ _ 0 0 sz (by omega) (by omega)
          rw [if_pos hq, if_pos (by omega), hin]
          have hel := erase_length pages (worstG (nextN l (i + 1)) pages pages 0 0) (by omega)
          have h := ih (k - pages.length - 1) (i + 1) hits (insM (pages.eraseIdx (worstG (nextN l (i + 1)) pages pages 0 0)) l[i]) (by omega) (by omega) (insM_sorted _ _ (erase_sorted _ _ hs) (erase_not_mem _ _ _ hm)) (by rw [insM_length, hel]; omega) (by omega)
          rw [List.drop_zero]
          exact h
        · rw [if_neg hq, if_neg (by omega), l11Put_f pages _ hs (by omega) k (by omega), Option.bind_some]
          exact ih k (i + 1) hits (insM pages l[i]) (by omega) (by omega) (insM_sorted _ _ hs hm) (by rw [insM_length]; omega) (by omega)
set_option maxRecDepth 100000 in
theorem implPlayOpt_f (l : List Int) (sz : Nat) (hsz : sz ≤ 40) (hg : goodB l = true) (k : Nat) (hk : 2000 < k) : impl_PlayOpt.f k l (sz : Int) = some ((playM (optM l) sz l 0 [] 0 ()).1, ((playM (optM l) sz l 0 [] 0 ()).2 : Int), true) := by
  have hl := goodB_len l hg
  obtain ⟨a, b, c, d⟩ := playM_facts (optM l) sz l.length _ (opt_rules l sz) l 0 [] 0 () trivial List.Pairwise.nil (Nat.zero_le _) (by omega)
  unfold impl_PlayOpt.f
  rw [goodRefs_impl l (by omega), Option.bind_some, hg, if_pos rfl, isSize_f, Option.bind_some, decide_eq_true (p := (0 : Int) ≤ (sz : Int)) (by omega), decide_eq_true (p := (sz : Int) ≤ 40) (by omega), Bool.true_and, if_pos rfl]
  have h := playO_f k (optG k l) (optM l) sz l.length (by omega) (by omega) (by omega) (fun _ => True) (opt_rules l sz) (fun s n pages _ hn hq h0 => optG_f k l sz (by omega) (by omega) (by omega) s n pages hn hq h0) l 0 [] 0 () trivial List.Pairwise.nil (Nat.zero_le _) (by omega) (Nat.zero_le _)
  rw [show ((0 : Nat) : Int) = 0 from rfl] at h
  rw [h, Option.bind_some, if_pos ⟨Nat.lt_of_le_of_lt a (by omega), by omega⟩]
set_option maxRecDepth 100000 in
theorem specPlayOpt_f (l : List Int) (sz : Nat) (hsz : sz ≤ 40) (hg : goodB l = true) (k : Nat) (hk : 20000 < k) : spec_PlayOpt.f k l (sz : Int) = some ((playM (optM l) sz l 0 [] 0 ()).1, ((playM (optM l) sz l 0 [] 0 ()).2 : Int), true) := by
  have hl := goodB_len l hg
  obtain ⟨k, rfl⟩ : ∃ m, k = m + 1 := ⟨k - 1, by omega⟩
  unfold spec_PlayOpt.f
  rw [goodRefs_spec l (by omega) _ (by omega), Option.bind_some, hg, if_pos rfl, l1In_f, Option.bind_some, decide_eq_true (p := (0 : Int) ≤ (sz : Int)) (by omega), decide_eq_true (p := (sz : Int) ≤ 40) (by omega), Bool.true_and]
  simp only [Bool.not_true, spec_PlayOpt.j0, Bool.false_eq_true, if_false]
  have hm : l.length * (sz + 3) ≤ 200 * 43 := Nat.mul_le_mul hl (by omega)
  have h := specOpt_loop l sz (by omega) (by omega) l.length k 0 0 [] (by omega) (by omega) List.Pairwise.nil (Nat.zero_le _) (Nat.zero_le _)
  rw [List.drop_zero, show ((0 : Nat) : Int) = 0 from rfl] at h
  exact h

theorem FnExactPlayOpt : laws_FnExactPlayOpt.Pure := by
  intro l size hm hs hw h1
  obtain ⟨m, hk⟩ : ∃ m, m = l.length + 30000 := ⟨_, rfl⟩
  have t1 : ∀ j, laws_toIntS.f (m + j) l = some l := fun j => toInts_f l hs (m + j) (by omega)
  have g1 := goodRefs_impl l (by omega)
  have g2 : ∀ j, spec_GoodRefs.f (m + j) l = some (goodB l) := fun j => goodRefs_spec l (by omega) (m + j) (by omega)
  have q1 : ∀ j, laws_eqIntS.f (m + j) l l = some true := fun j => by rw [eqInts_f l l (by omega) (m + j) (by omega), decide_eq_true rfl]
  have e : ∃ st h b, st.length ≤ 40 ∧ ∀ j, impl_PlayOpt.f (m + j) l size = some (st, h, b) ∧ spec_PlayOpt.f (m + j) l size = some (st, h, b) := by
    cases hg : goodB l with
    | false =>
      refine ⟨[], 0, false, by simp, fun j => ?_⟩
      obtain ⟨q, hq⟩ : ∃ q, m + j = q + 1 := ⟨m + j - 1, by omega⟩
      have g3 := goodRefs_spec l (by omega) (q + 1) (by omega)
      rw [hq]
      unfold impl_PlayOpt.f spec_PlayOpt.f
      rw [g1, g3, hg]
      simp [spec_PlayOpt.j0]
    | true =>
      have hl := goodB_len l hg
      by_cases c : 0 ≤ size ∧ size ≤ 40
      · obtain ⟨sz, rfl⟩ := Int.eq_ofNat_of_zero_le c.1
        obtain ⟨f1, _, _, _⟩ := playM_facts (optM l) sz l.length _ (opt_rules l sz) l 0 [] 0 () trivial List.Pairwise.nil (Nat.zero_le _) (by omega)
        exact ⟨_, _, true, by omega, fun j => ⟨implPlayOpt_f l sz (by omega) hg (m + j) (by omega), specPlayOpt_f l sz (by omega) hg (m + j) (by omega)⟩⟩
      · refine ⟨[], 0, false, by simp, fun j => ?_⟩
        obtain ⟨q, hq⟩ : ∃ q, m + j = q + 1 := ⟨m + j - 1, by omega⟩
        have g3 := goodRefs_spec l (by omega) (q + 1) (by omega)
        have c2 : (decide (0 ≤ size) && decide (size ≤ 40)) = false := by simpa using c
        rw [hq]
        unfold impl_PlayOpt.f spec_PlayOpt.f
        rw [g1, g3, hg, isSize_f, l1In_f]
        simp only [Option.bind_some, if_true, c2, Bool.false_eq_true, if_false, Bool.not_false, spec_PlayOpt.j0]
        first | exact ⟨rfl, rfl⟩ | exact ⟨trivial, rfl⟩ | simp
  obtain ⟨st, h, b, hst, e⟩ := e
  have e1 := fun j => (e j).1
  have e2 := fun j => (e j).2
  have q2 : ∀ j, laws_eqIntS.f (m + j) st st = some true := fun j => by rw [eqInts_f st st (by omega) (m + j) (by omega), decide_eq_true rfl]
  have m1 : ∀ j, laws_markIntS.f (m + j) l 1 = some ((1 : Int) + l.length, markL 1 l.length) := fun j => markInts_f l 1 (by omega) (by omega) (m + j) (by omega)
  have m2 : ∀ j, laws_markIntS.f (m + j) st 1 = some ((1 : Int) + st.length, markL 1 st.length) := fun j => markInts_f st 1 (by omega) (by omega) (m + j) (by omega)
  have m3 : ∀ j, laws_heldIntS.f (m + j) (markL 1 st.length) 1 = some ((1 : Int) + st.length) := fun j => heldInts_f st.length 1 (by omega) (by omega) (m + j) (by omega)
  have p1 : ¬ (1 : Int) + (l.length : Int) < 0 := by omega
  have p2 : ¬ (1 : Int) + (st.length : Int) < 0 := by omega
  clear e g1 g2 hw
  refine ⟨m + 5, ?_⟩
  unfold laws_FnExactPlayOpt.f
  by_cases c : (l.length : Int) > 1048576
  · rw [if_pos c]
  · rw [if_neg c]
    simp only [t1, e1, e2, q1, q2, m1, m2, m3, p1, p2, Option.bind_some, if_true, if_false, bne_self_eq_false, Bool.false_eq_true, laws_FnExactPlayOpt.j0, laws_FnExactPlayOpt.j1, laws_FnExactPlayOpt.j2]

end Go.Proofs.Ytcmlledlhknbpaa.Pure
