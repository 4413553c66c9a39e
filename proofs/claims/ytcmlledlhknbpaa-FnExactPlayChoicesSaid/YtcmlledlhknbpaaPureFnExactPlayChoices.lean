/- The program's PlayChoices returns what the reference's returns, in memory of its own. No conditions. -/
import Derived.Test.YtcmlledlhknbpaaPFnExactPlayChoicesx6
set_option linter.unusedVariables false
set_option linter.unusedSimpArgs false
namespace Go.Proofs.Ytcmlledlhknbpaa.Pure
open Go.RowKit Go.Proofs.Ytcmlledlhknbpaa.PFnExactPlayChoices Go.Proofs.YtcmlledlhknbpaaW.PrintWords Go.Proofs.YtcmlledlhknbpaaW.PrintLast

/-! Whole numbers and rows of them -/
theorem w64 {x : Int} (h : -9223372036854775808 ≤ x) (h2 : x < 9223372036854775808) : wrap64 x = x := by unfold wrap64; omega
theorem rd_nat (l : List Int) (n : Nat) (h : n < l.length) : rd l (n : Int) = l[n] := by
  unfold rd; simp [List.getD_eq_getElem?_getD, h]
theorem succ_cast (n : Nat) : ((n : Int) + 1) = ((n + 1 : Nat) : Int) := by omega

/-! The laws' eqIntS -/
theorem eqInts_loop (xs ys : List Int) (hl : xs.length = ys.length) (hb : xs.length < 4611686018427387904) (d : Nat) : ∀ (k n : Nat), n + d = xs.length → d < k →
    laws_eqIntS.l0 k xs ys (n : Int) = some (decide (xs.drop n = ys.drop n)) := by
  induction d with
  | zero =>
    intro k n hn hk
    obtain ⟨k, rfl⟩ : ∃ m, k = m + 1 := ⟨k - 1, by omega⟩
    have c : ¬ (n : Int) < (xs.length : Int) := by omega
    simp only [laws_eqIntS.l0]; rw [if_neg c, List.drop_of_length_le (by omega), List.drop_of_length_le (by omega), decide_eq_true rfl]
  | succ d ih =>
    intro k n hn hk
    obtain ⟨k, rfl⟩ : ∃ m, k = m + 1 := ⟨k - 1, by omega⟩
    have h1 : n < xs.length := by omega
    have h2 : n < ys.length := by omega
    have c1 : (n : Int) < (xs.length : Int) := by omega
    have c2 : (n : Int) < (ys.length : Int) := by omega
    have c0 : (0 : Int) ≤ (n : Int) := by omega
    simp only [laws_eqIntS.l0]
    rw [if_pos c1, if_pos c0, if_pos c2, rd_nat xs n h1, rd_nat ys n h2, List.drop_eq_getElem_cons h1, List.drop_eq_getElem_cons h2, w64 (by omega) (by omega), succ_cast, ih k (n + 1) (by omega) (by omega)]
    by_cases e : xs[n] = ys[n]
    · rw [if_pos e]
      exact congrArg some (decide_eq_decide.mpr (by rw [List.cons.injEq]; exact ⟨fun h => ⟨e, h⟩, fun h => h.2⟩))
    · rw [if_neg e]
      exact congrArg some (decide_eq_false (by rw [List.cons.injEq]; exact fun h => e h.1)).symm
theorem eqInts_f (xs ys : List Int) (hb : xs.length < 4611686018427387904) (k : Nat) (hk : xs.length < k) : laws_eqIntS.f k xs ys = some (decide (xs = ys)) := by
  unfold laws_eqIntS.f
  by_cases e : xs.length = ys.length
  · have c : (xs.length : Int) = (ys.length : Int) := by omega
    rw [if_pos c]
    have h := eqInts_loop xs ys e hb xs.length k 0 (by omega) hk
    simpa using h
  · have c : ¬ (xs.length : Int) = (ys.length : Int) := by omega
    have e2 : ¬ xs = ys := fun h => e (by rw [h])
    rw [if_neg c, decide_eq_false e2]

/-! The laws' toIntS: a copy -/
theorem toInts_loop (xs : List Int) (hb : xs.length < 4611686018427387904) (d : Nat) : ∀ (k n : Nat) (ys : List Int), ys.length = xs.length → n + d = xs.length → d < k →
    laws_toIntS.l0 k xs ys (n : Int) = some (ys.take n ++ xs.drop n) := by
  induction d with
  | zero =>
    intro k n ys hl hn hk
    obtain ⟨k, rfl⟩ : ∃ m, k = m + 1 := ⟨k - 1, by omega⟩
    have c : ¬ (n : Int) < (xs.length : Int) := by omega
    simp only [laws_toIntS.l0]; rw [if_neg c, List.take_of_length_le (by omega), List.drop_of_length_le (by omega), List.append_nil]
  | succ d ih =>
    intro k n ys hl hn hk
    obtain ⟨k, rfl⟩ : ∃ m, k = m + 1 := ⟨k - 1, by omega⟩
    have h1 : n < xs.length := by omega
    have h2 : n < ys.length := by omega
    have c1 : (n : Int) < (xs.length : Int) := by omega
    have c2 : (n : Int) < (ys.length : Int) := by omega
    have c0 : (0 : Int) ≤ (n : Int) := by omega
    simp only [laws_toIntS.l0]
    rw [if_pos c1, if_pos c0, if_pos c2, rd_nat xs n h1, w64 (by omega) (by omega), succ_cast, Int.toNat_natCast, ih k (n + 1) _ (by simp [hl]) (by omega) (by omega), List.drop_eq_getElem_cons h1]
    congr 1
    rw [List.take_add_one, List.take_set_of_le (by omega)]
    simp [h2]
theorem toInts_f (xs : List Int) (hb : xs.length * 8 ≤ 140737488351232) (k : Nat) (hk : xs.length < k) : laws_toIntS.f k xs = some xs := by
  unfold laws_toIntS.f
  rw [if_pos (by omega), if_pos (by omega)]
  have h := toInts_loop xs (by omega) xs.length k 0 (List.replicate ((xs.length : Int) : Int).toNat 0) (by simp) (by omega) hk
  simpa using h

/-! The laws' markIntS and heldIntS: numbers one after the other -/
def markL (a : Int) : Nat → List Int
  | 0 => []
  | n + 1 => a :: markL (a + 1) n
theorem markL_length (n : Nat) : ∀ a : Int, (markL a n).length = n := by
  induction n with
  | zero => intro a; rfl
  | succ n ih => intro a; simp [markL, ih]
theorem markL_get (n : Nat) : ∀ (a : Int) (i : Nat) (h : i < (markL a n).length), (markL a n)[i] = a + i := by
  induction n with
  | zero => intro a i h; simp [markL] at h
  | succ n ih =>
    intro a i h
    cases i with
    | zero => simp [markL]
    | succ i =>
      simp only [markL, List.getElem_cons_succ]
      rw [ih]; omega
theorem markInts_loop (m : Nat) (a : Int) (ha : 0 ≤ a) (hb : a + m < 4611686018427387904) (d : Nat) : ∀ (k n : Nat) (l : List Int), l.length = m → n + d = m → d < k →
    laws_markIntS.l0 k l (a + n) (n : Int) = some (a + m, l.take n ++ markL (a + n) d) := by
  induction d with
  | zero =>
    intro k n l hl hn hk
    obtain ⟨k, rfl⟩ : ∃ m, k = m + 1 := ⟨k - 1, by omega⟩
    have c : ¬ (n : Int) < (l.length : Int) := by omega
    simp only [laws_markIntS.l0]; rw [if_neg c, List.take_of_length_le (by omega)]; simp [markL]; omega
  | succ d ih =>
    intro k n l hl hn hk
    obtain ⟨k, rfl⟩ : ∃ m, k = m + 1 := ⟨k - 1, by omega⟩
    have c1 : (n : Int) < (l.length : Int) := by omega
    have c0 : (0 : Int) ≤ (n : Int) := by omega
    have h1 : n < l.length := by omega
    simp only [laws_markIntS.l0]
    rw [if_pos c1, if_pos c0, w64 (x := a + n + 1) (by omega) (by omega), w64 (x := (n : Int) + 1) (by omega) (by omega), succ_cast, show a + (n : Int) + 1 = a + ((n + 1 : Nat) : Int) by omega, Int.toNat_natCast,
      ih k (n + 1) (l.set n (a + n)) (by rw [List.length_set]; exact hl) (by omega) (by omega)]
    congr 2
    rw [List.take_add_one, List.take_set_of_le (by omega)]
    simp [markL, h1]
    congr 1; omega
theorem markInts_f (l : List Int) (a : Int) (ha : 0 ≤ a) (hb : a + l.length < 4611686018427387904) (k : Nat) (hk : l.length < k) : laws_markIntS.f k l a = some (a + l.length, markL a l.length) := by
  unfold laws_markIntS.f
  have h := markInts_loop l.length a ha hb l.length k 0 l rfl (by omega) hk
  simpa using h
theorem heldInts_loop (m : Nat) (a : Int) (ha : 0 ≤ a) (hb : a + m < 4611686018427387904) (d : Nat) : ∀ (k n : Nat), n + d = m → d < k →
    laws_heldIntS.l0 k (markL a m) (a + n) (n : Int) = some (a + m) := by
  induction d with
  | zero =>
    intro k n hn hk
    obtain ⟨k, rfl⟩ : ∃ m, k = m + 1 := ⟨k - 1, by omega⟩
    have hl := markL_length m a
    have c : ¬ (n : Int) < ((markL a m).length : Int) := by omega
    simp only [laws_heldIntS.l0]; rw [if_neg c]; congr 1; omega
  | succ d ih =>
    intro k n hn hk
    obtain ⟨k, rfl⟩ : ∃ m, k = m + 1 := ⟨k - 1, by omega⟩
    have hl := markL_length m a
    have c1 : (n : Int) < ((markL a m).length : Int) := by omega
    have c0 : (0 : Int) ≤ (n : Int) := by omega
    have h1 : n < (markL a m).length := by omega
    simp only [laws_heldIntS.l0]
    rw [if_pos c1, if_pos c0, rd_nat _ n h1, markL_get, if_pos rfl, w64 (x := a + n + 1) (by omega) (by omega), w64 (x := (n : Int) + 1) (by omega) (by omega), succ_cast, show a + (n : Int) + 1 = a + ((n + 1 : Nat) : Int) by omega]
    exact ih k (n + 1) (by omega) (by omega)
theorem heldInts_f (m : Nat) (a : Int) (ha : 0 ≤ a) (hb : a + m < 4611686018427387904) (k : Nat) (hk : m < k) : laws_heldIntS.f k (markL a m) a = some (a + m) := by
  unfold laws_heldIntS.f
  have h := heldInts_loop m a ha hb m k 0 (by omega) hk
  simpa using h

/-! The first place at which a predicate holds -/
theorem idxO_ge {α : Type} (p : α → Option Bool) (l : List α) : ∀ (n i : Int), 0 ≤ n → idxO p l n = some i → i = -1 ∨ n ≤ i := by
  induction l with
  | nil => intro n i hn h; left; exact (Option.some.inj h).symm
  | cons x xs ih =>
    intro n i hn h
    obtain ⟨b, hb, h2⟩ := Option.bind_eq_some_iff.mp h
    cases b with
    | true => right; have := Option.some.inj h2; omega
    | false => have := ih (n + 1) i (by omega) h2; omega
theorem idxO_all {α : Type} (p : α → Option Bool) (q : α → Bool) (h : ∀ x, p x = some (!q x)) (l : List α) : ∀ (n : Int), 0 ≤ n → ∃ i, idxO p l n = some i ∧ (!decide (i ≥ 0)) = l.all q := by
  induction l with
  | nil => intro n hn; exact ⟨-1, rfl, rfl⟩
  | cons x xs ih =>
    intro n hn
    unfold idxO
    rw [h x, Option.bind_some]
    cases hq : q x with
    | true =>
      obtain ⟨i, h1, h2⟩ := ih (n + 1) (by omega)
      exact ⟨i, h1, by rw [h2, List.all_cons, hq, Bool.true_and]⟩
    | false => exact ⟨n, rfl, by rw [List.all_cons, hq, Bool.false_and, decide_eq_true (show n ≥ 0 from hn)]; rfl⟩

/-! References: good ones -/
def pageB (x : Int) : Bool := decide (0 ≤ x) && decide (x ≤ 99)
def goodB (l : List Int) : Bool := decide (l.length ≤ 200) && l.all pageB
theorem within_f (a b c : Int) : impl_within.f a b c = some (decide (b ≤ a) && decide (a ≤ c)) := by
  unfold impl_within.f
  by_cases h : b ≤ a
  · rw [if_pos h, decide_eq_true h, Bool.true_and]
  · rw [if_neg h, decide_eq_false h, Bool.false_and]
theorem l1In_f (a b c : Int) : spec_l1In.f a b c = some (decide (b ≤ a) && decide (a ≤ c)) := by
  unfold spec_l1In.f
  by_cases h : b ≤ a
  · rw [if_pos h, decide_eq_true h, Bool.true_and]
  · rw [if_neg h, decide_eq_false h, Bool.false_and]
theorem isPage_f (x : Int) : impl_isPage.f x = some (pageB x) := by unfold impl_isPage.f; rw [within_f]; rfl
theorem goodRefs_impl (l : List Int) (hb : l.length < 9223372036854775807) : impl_GoodRefs.f l = some (goodB l) := by
  unfold impl_GoodRefs.f goodB
  by_cases c : l.length ≤ 200
  · have c2 : (l.length : Int) ≤ 200 := by omega
    rw [if_pos c2, decide_eq_true c, Bool.true_and]
    unfold xAll_i64_impl_isPage.f
    rw [if_pos hb]
    obtain ⟨i, h1, h2⟩ := idxO_all xAll_i64_impl_isPage.z pageB (fun x => by unfold xAll_i64_impl_isPage.z; rw [isPage_f]; rfl) l 0 (by omega)
    rw [h1, Option.bind_some, Option.bind_some, h2]
  · have c2 : ¬ (l.length : Int) ≤ 200 := by omega
    rw [if_neg c2, decide_eq_false c, Bool.false_and]
theorem goodRefs_loop (l : List Int) (hb : l.length < 4611686018427387904) (d : Nat) : ∀ (k n : Nat), n + d = l.length → d < k →
    spec_GoodRefs.l0 k l l (l.length : Int) (n : Int) = some ((l.drop n).all pageB && decide (l.length ≤ 200)) := by
  induction d with
  | zero =>
    intro k n hn hk
    obtain ⟨k, rfl⟩ : ∃ m, k = m + 1 := ⟨k - 1, by omega⟩
    have c : ¬ (n : Int) < (l.length : Int) := by omega
    simp only [spec_GoodRefs.l0]; rw [if_neg c, List.drop_of_length_le (by omega), List.all_nil, Bool.true_and]
    exact congrArg some (decide_eq_decide.mpr (by omega))
  | succ d ih =>
    intro k n hn hk
    obtain ⟨k, rfl⟩ : ∃ m, k = m + 1 := ⟨k - 1, by omega⟩
    have h1 : n < l.length := by omega
    have c1 : (n : Int) < (l.length : Int) := by omega
    have c0 : (0 : Int) ≤ (n : Int) := by omega
    simp only [spec_GoodRefs.l0]
    rw [if_pos c1, if_pos c0, if_pos c1, rd_nat l n h1, l1In_f, Option.bind_some, List.drop_eq_getElem_cons h1, List.all_cons, w64 (by omega) (by omega), succ_cast, ih k (n + 1) (by omega) (by omega)]
    cases hp : pageB l[n] with
    | true =>
      have hp' : (decide (0 ≤ l[n]) && decide (l[n] ≤ 99)) = true := hp
      rw [if_pos hp', Bool.true_and]
    | false =>
      have hp' : (decide (0 ≤ l[n]) && decide (l[n] ≤ 99)) = false := hp
      rw [hp', if_neg (by decide)]; rfl
theorem goodRefs_spec (l : List Int) (hb : l.length < 4611686018427387904) (k : Nat) (hk : l.length < k) : spec_GoodRefs.f k l = some (goodB l) := by
  unfold spec_GoodRefs.f goodB
  have h := goodRefs_loop l hb l.length k 0 (by omega) hk
  rw [Bool.and_comm]
  exact h

theorem isSize_f (x : Int) : impl_isSize.f x = some (decide (0 ≤ x) && decide (x ≤ 40)) := by unfold impl_isSize.f; rw [within_f]; rfl

/-! What the exact laws do with lists -/
theorem goodB_len (l : List Int) (h : goodB l = true) : l.length ≤ 200 := by
  unfold goodB at h
  simp only [Bool.and_eq_true, decide_eq_true_eq] at h
  exact h.1

/-! Rising lists: where a page stands, or would -/
def posL (l : List Int) (p : Int) : Nat := (l.takeWhile fun x => decide (x < p)).length
theorem posL_le (l : List Int) (p : Int) : posL l p ≤ l.length := by
  induction l with
  | nil => simp [posL]
  | cons x xs ih =>
    unfold posL at ih ⊢
    rw [List.takeWhile_cons]
    split
    · simp only [List.length_cons]; omega
    · simp
theorem posL_cons (x : Int) (xs : List Int) (p : Int) : posL (x :: xs) p = if x < p then posL xs p + 1 else 0 := by
  unfold posL
  rw [List.takeWhile_cons]
  by_cases h : x < p
  · simp [h]
  · simp [h]
theorem posL_lt (l : List Int) (p : Int) : ∀ (i : Nat) (h : i < l.length), i < posL l p → l[i] < p := by
  induction l with
  | nil => intro i h; simp at h
  | cons x xs ih =>
    intro i h hi
    rw [posL_cons] at hi
    by_cases c : x < p
    · rw [if_pos c] at hi
      cases i with
      | zero => exact c
      | succ i => exact ih i (by simpa using h) (by omega)
    · rw [if_neg c] at hi; omega
theorem posL_ge (l : List Int) (hs : l.Pairwise (· < ·)) (p : Int) : ∀ (i : Nat) (h : i < l.length), posL l p ≤ i → p ≤ l[i] := by
  induction l with
  | nil => intro i h; simp at h
  | cons x xs ih =>
    intro i h hi
    obtain ⟨h1, h2⟩ := List.pairwise_cons.mp hs
    rw [posL_cons] at hi
    by_cases c : x < p
    · rw [if_pos c] at hi
      cases i with
      | zero => omega
      | succ i => exact ih h2 i (by simpa using h) (by omega)
    · cases i with
      | zero => simp only [List.getElem_cons_zero]; omega
      | succ i =>
        have hi2 : i < xs.length := by simpa using h
        have z := h1 xs[i] (List.getElem_mem _)
        simp only [List.getElem_cons_succ]; omega
theorem posL_mem (l : List Int) (hs : l.Pairwise (· < ·)) (p : Int) : p ∈ l ↔ ∃ h : posL l p < l.length, l[posL l p] = p := by
  constructor
  · intro hm
    obtain ⟨i, hi, rfl⟩ := List.getElem_of_mem hm
    have h1 : ¬ i < posL l l[i] := fun h => by have := posL_lt l l[i] i hi h; omega
    have hlt : posL l l[i] < l.length := by omega
    have h2 := posL_ge l hs l[i] (posL l l[i]) hlt (Nat.le_refl _)
    refine ⟨hlt, ?_⟩
    by_cases e : posL l l[i] = i
    · simp only [e]
    · have h3 := List.pairwise_iff_getElem.mp hs (posL l l[i]) i hlt hi (by omega)
      omega
  · rintro ⟨h, e⟩
    rw [← e]; exact List.getElem_mem h
def insM (l : List Int) (p : Int) : List Int := insL l (posL l p) p
theorem insM_length (l : List Int) (p : Int) : (insM l p).length = l.length + 1 := insL_length l _ p (posL_le l p)
theorem insM_mem (l : List Int) (p q : Int) : q ∈ insM l p ↔ q = p ∨ q ∈ l := by
  unfold insM insL
  rw [List.mem_append, List.mem_cons]
  constructor
  · rintro (h | rfl | h)
    · exact Or.inr (List.mem_of_mem_take h)
    · exact Or.inl rfl
    · exact Or.inr (List.mem_of_mem_drop h)
  · rintro (rfl | h)
    · exact Or.inr (Or.inl rfl)
    · rw [← List.take_append_drop (posL l p) l, List.mem_append] at h
      rcases h with h | h
      · exact Or.inl h
      · exact Or.inr (Or.inr h)
theorem insM_sorted (l : List Int) (p : Int) (hs : l.Pairwise (· < ·)) (hn : ¬ p ∈ l) : (insM l p).Pairwise (· < ·) := by
  unfold insM insL
  refine List.pairwise_append.mpr ⟨hs.sublist (List.take_sublist _ _), List.pairwise_cons.mpr ⟨fun q hq => ?_, hs.sublist (List.drop_sublist _ _)⟩, fun a ha b hb => ?_⟩
  · obtain ⟨i, hi, rfl⟩ := List.getElem_of_mem hq
    rw [List.getElem_drop]
    have h1 := posL_ge l hs p (posL l p + i) (by rw [List.length_drop] at hi; omega) (by omega)
    have h2 : l[posL l p + i]'(by rw [List.length_drop] at hi; omega) ≠ p := fun e => hn (e ▸ List.getElem_mem _)
    omega
  · obtain ⟨i, hi, rfl⟩ := List.getElem_of_mem ha
    rw [List.length_take] at hi
    rw [List.getElem_take]
    have h1 := posL_lt l p i (by omega) (by omega)
    rcases List.mem_cons.mp hb with rfl | hb
    · exact h1
    · obtain ⟨j, hj, rfl⟩ := List.getElem_of_mem hb
      rw [List.length_drop] at hj
      rw [List.getElem_drop]
      exact List.pairwise_iff_getElem.mp hs i (posL l p + j) (by omega) (by omega) (by omega)
theorem binary_loop (l : List Int) (p : Int) (hs : l.Pairwise (· < ·)) (hb : l.length < 1000000) (d : Nat) : ∀ (k i j : Nat), i ≤ posL l p → posL l p ≤ j → j ≤ l.length → j - i ≤ d → d < k →
    slices_BinarySearch_int_int.l0 k l p (l.length : Int) (i : Int) (j : Int) = some ((posL l p : Int), decide (p ∈ l)) := by
  induction d with
  | zero =>
    intro k i j h1 h2 h3 hd hk
    obtain ⟨k, rfl⟩ : ∃ m, k = m + 1 := ⟨k - 1, by omega⟩
    obtain rfl : i = posL l p := by omega
    simp only [slices_BinarySearch_int_int.l0]
    rw [if_neg (by omega)]
    by_cases c : posL l p < l.length
    · rw [if_pos (by omega), if_pos (by omega), if_pos (by omega), rd_nat l _ c]
      by_cases e : l[posL l p] = p
      · rw [if_pos e, decide_eq_true ((posL_mem l hs p).mpr ⟨c, e⟩)]
      · rw [if_neg e]
        unfold slices_isNaN_int.f
        simp only [bne_self_eq_false, Option.bind_some, Bool.false_eq_true, if_false]
        rw [decide_eq_false (fun h => e ((posL_mem l hs p).mp h).2)]
    · rw [if_neg (by omega), decide_eq_false (fun h => c ((posL_mem l hs p).mp h).1)]
  | succ d ih =>
    intro k i j h1 h2 h3 hd hk
    obtain ⟨k, rfl⟩ : ∃ m, k = m + 1 := ⟨k - 1, by omega⟩
    by_cases c : i < j
    · have hm : wrap64 (IntKind.u64.wrap (wrap64 ((i : Int) + (j : Int))) / 2) = (((i + j) / 2 : Nat) : Int) := by
        rw [w64 (x := (i : Int) + j) (by omega) (by omega)]
        have e : IntKind.u64.wrap ((i : Int) + (j : Int)) = (i : Int) + j := by
          rw [IntKind.wrap_u64]; omega
        rw [e, w64 (by omega) (by omega)]; omega
      have hlt : (i + j) / 2 < l.length := by omega
      simp only [slices_BinarySearch_int_int.l0]
      rw [if_pos (by omega), hm, if_pos (by omega), if_pos (by omega), rd_nat l _ hlt]
      unfold cmp_Less_int.f cmp_isNaN_int.f
      simp only [bne_self_eq_false, Option.bind_some, Bool.false_eq_true, if_false, decide_eq_true_eq]
      by_cases e : l[(i + j) / 2] < p
      · have hp : (i + j) / 2 < posL l p := by
          refine Classical.byContradiction fun h => ?_
          have := posL_ge l hs p ((i + j) / 2) hlt (by omega)
          omega
        rw [if_pos e, w64 (by omega) (by omega), succ_cast]
        exact ih k _ j (by omega) h2 h3 (by omega) (by omega)
      · have hp : posL l p ≤ (i + j) / 2 := by
          refine Classical.byContradiction fun h => ?_
          have := posL_lt l p ((i + j) / 2) hlt (by omega)
          omega
        rw [if_neg e]
        exact ih k i _ h1 hp (by omega) (by omega) (by omega)
    · refine at_rounds (g := fun k => slices_BinarySearch_int_int.l0 k l p (l.length : Int) (i : Int) (j : Int)) (fun k => slices_BinarySearch_int_int.mono_l k _ _ _ _ _) (show k ≤ k + 1 by omega) ?_
      exact ih k i j h1 h2 h3 (by omega) (by omega)
theorem binary_f (l : List Int) (p : Int) (hs : l.Pairwise (· < ·)) (hb : l.length < 1000000) (k : Nat) (hk : l.length < k) : slices_BinarySearch_int_int.f k l p = some ((posL l p : Int), decide (p ∈ l)) :=
  binary_loop l p hs hb l.length k 0 l.length (Nat.zero_le _) (posL_le l p) (Nat.le_refl _) (by omega) hk
/-! the reference's words for the same -/
theorem l11At_loop (l : List Int) (p : Int) (hs : l.Pairwise (· < ·)) (hb : l.length < 1000000) (d : Nat) : ∀ (k n : Nat), n + d = l.length → n ≤ posL l p → d < k → spec_l11At.l0 k l p (n : Int) = some ((posL l p : Int), decide (p ∈ l)) := by
  induction d with
  | zero =>
    intro k n hn hp hk
    obtain ⟨k, rfl⟩ : ∃ m, k = m + 1 := ⟨k - 1, by omega⟩
    have hle := posL_le l p
    simp only [spec_l11At.l0]
    rw [if_neg (by omega), decide_eq_false (fun h => by have := ((posL_mem l hs p).mp h).1; omega), show n = posL l p by omega]
  | succ d ih =>
    intro k n hn hp hk
    obtain ⟨k, rfl⟩ : ∃ m, k = m + 1 := ⟨k - 1, by omega⟩
    have h1 : n < l.length := by omega
    simp only [spec_l11At.l0]
    rw [if_pos (by omega), if_pos (by omega), rd_nat l n h1]
    by_cases e : l[n] < p
    · have hp2 : n < posL l p := by
        refine Classical.byContradiction fun h => ?_
        have := posL_ge l hs p n h1 (by omega)
        omega
      rw [if_pos e, w64 (by omega) (by omega), succ_cast]
      exact ih k (n + 1) (by omega) (by omega) (by omega)
    · have hp2 : posL l p = n := by
        refine Classical.byContradiction fun h => ?_
        have := posL_lt l p n h1 (by omega)
        omega
      rw [if_neg e, hp2]
      congr 2
      by_cases e2 : l[n] = p
      · rw [decide_eq_true ((posL_mem l hs p).mpr ⟨by omega, by simp only [hp2]; exact e2⟩)]; simp [e2]
      · rw [decide_eq_false (fun h => e2 (by obtain ⟨h3, h4⟩ := (posL_mem l hs p).mp h; simp only [hp2] at h4; exact h4))]; simp [e2]
theorem l11At_f (l : List Int) (p : Int) (hs : l.Pairwise (· < ·)) (hb : l.length < 1000000) (k : Nat) (hk : l.length < k) : spec_l11At.f k l p = some ((posL l p : Int), decide (p ∈ l)) :=
  l11At_loop l p hs hb l.length k 0 (by omega) (Nat.zero_le _) hk
theorem l11Without_f (l : List Int) (n : Nat) (hn : n < l.length) (hb : l.length < 1000000) : spec_l11Without.f l (n : Int) = some (l.eraseIdx n) := by
  unfold spec_l11Without.f
  rw [Option.bind_some, if_pos (by omega), if_pos (by omega), if_pos (by simp; omega), Option.bind_some, w64 (by omega) (by omega), if_pos (by omega), if_pos (by omega), if_pos (by simp; omega), Int.toNat_natCast, succ_cast, Int.toNat_natCast, List.nil_append, List.eraseIdx_eq_take_drop_succ]
theorem l11Put_f (l : List Int) (p : Int) (hs : l.Pairwise (· < ·)) (hb : l.length < 1000000) (k : Nat) (hk : l.length < k) : spec_l11Put.f k l p = some (insM l p) := by
  have hle := posL_le l p
  unfold spec_l11Put.f
  rw [l11At_f l p hs hb k hk, Option.bind_some, if_pos (by omega), if_pos (by omega), if_pos (by simp; omega), Option.bind_some, if_pos (by simp; omega), Option.bind_some, if_pos (by simp; omega), Int.toNat_natCast, List.nil_append]
  unfold insM insL
  rw [List.append_assoc, List.singleton_append]
theorem erase_sorted (l : List Int) (n : Nat) (hs : l.Pairwise (· < ·)) : (l.eraseIdx n).Pairwise (· < ·) := hs.sublist (List.eraseIdx_sublist _ _)

/-! References played by a rule -/
def playM {σ : Type} (goes : σ → Nat → List Int → Nat × σ) (sz : Nat) : List Int → Nat → List Int → Nat → σ → List Int × Nat
  | [], _, pages, hits, _ => (pages, hits)
  | p :: ps, i, pages, hits, s =>
    if p ∈ pages then playM goes sz ps (i + 1) pages (hits + 1) s
    else if sz = 0 then playM goes sz ps (i + 1) pages hits s
    else if pages.length = sz then playM goes sz ps (i + 1) (insM (pages.eraseIdx (goes s (i + 1) pages).1) p) hits (goes s (i + 1) pages).2
    else playM goes sz ps (i + 1) (insM pages p) hits s
theorem playM_cons {σ : Type} (goes : σ → Nat → List Int → Nat × σ) (sz : Nat) (p : Int) (ps : List Int) (i : Nat) (pages : List Int) (hits : Nat) (s : σ) : playM goes sz (p :: ps) i pages hits s =
    if p ∈ pages then playM goes sz ps (i + 1) pages (hits + 1) s
    else if sz = 0 then playM goes sz ps (i + 1) pages hits s
    else if pages.length = sz then playM goes sz ps (i + 1) (insM (pages.eraseIdx (goes s (i + 1) pages).1) p) hits (goes s (i + 1) pages).2
    else playM goes sz ps (i + 1) (insM pages p) hits s := rfl
theorem erase_length (l : List Int) (n : Nat) (h : n < l.length) : (l.eraseIdx n).length = l.length - 1 := List.length_eraseIdx_of_lt h
theorem erase_not_mem (l : List Int) (n : Nat) (p : Int) (hn : ¬ p ∈ l) : ¬ p ∈ l.eraseIdx n := fun h => hn (List.mem_of_mem_eraseIdx h)
/-- what a rule must do: it names a place; and what it remembers stays well -/
def Rules {σ : Type} (goesM : σ → Nat → List Int → Nat × σ) (sz N : Nat) (P : σ → Prop) : Prop :=
  ∀ (s : σ) (n : Nat) (pages : List Int), P s → n ≤ N → pages.length = sz → 0 < sz → (goesM s n pages).1 < sz ∧ P (goesM s n pages).2
theorem playM_facts {σ : Type} (goesM : σ → Nat → List Int → Nat × σ) (sz N : Nat) (P : σ → Prop) (hg : Rules goesM sz N P) (l : List Int) : ∀ (i : Nat) (pages : List Int) (hits : Nat) (s : σ), P s → pages.Pairwise (· < ·) → pages.length ≤ sz → i + l.length ≤ N →
    (playM goesM sz l i pages hits s).1.length ≤ sz ∧ hits ≤ (playM goesM sz l i pages hits s).2 ∧ (playM goesM sz l i pages hits s).2 ≤ hits + l.length ∧ (playM goesM sz l i pages hits s).1.Pairwise (· < ·) := by
  induction l with
  | nil => intro i pages hits s hp hs hl hn; exact ⟨hl, Nat.le_refl _, by simp [playM], hs⟩
  | cons p ps ih =>
    intro i pages hits s hp hs hl hn
    simp only [List.length_cons] at hn ⊢
    rw [playM_cons]
    by_cases hm : p ∈ pages
    · rw [if_pos hm]
      obtain ⟨a, b, c, d⟩ := ih (i + 1) pages (hits + 1) s hp hs hl (by omega)
      exact ⟨a, by omega, by omega, d⟩
    · rw [if_neg hm]
      by_cases h0 : sz = 0
      · rw [if_pos h0]
        obtain ⟨a, b, c, d⟩ := ih (i + 1) pages hits s hp hs hl (by omega)
        exact ⟨a, by omega, by omega, d⟩
      · rw [if_neg h0]
        by_cases hq : pages.length = sz
        · rw [if_pos hq]
          obtain ⟨g1, g2⟩ := hg s (i + 1) pages hp (by omega) hq (by omega)
          obtain ⟨a, b, c, d⟩ := ih (i + 1) (insM (pages.eraseIdx (goesM s (i + 1) pages).1) p) hits (goesM s (i + 1) pages).2 g2 (insM_sorted _ _ (erase_sorted _ _ hs) (erase_not_mem _ _ _ hm)) (by rw [insM_length, erase_length _ _ (by omega)]; omega) (by omega)
          exact ⟨a, by omega, by omega, d⟩
        · rw [if_neg hq]
          obtain ⟨a, b, c, d⟩ := ih (i + 1) (insM pages p) hits s hp (insM_sorted _ _ hs hm) (by rw [insM_length]; omega) (by omega)
          exact ⟨a, by omega, by omega, d⟩
theorem playO_f {σ : Type} (k : Nat) (goes : σ → Int → List Int → Option (Int × σ)) (goesM : σ → Nat → List Int → Nat × σ) (sz N : Nat) (hsz : sz ≤ 1000) (hN : N < 1000000) (hk : 1000 < k) (P : σ → Prop) (hg : Rules goesM sz N P)
    (hgo : ∀ (s : σ) (n : Nat) (pages : List Int), P s → n ≤ N → pages.length = sz → 0 < sz → goes s (n : Int) pages = some (((goesM s n pages).1 : Int), (goesM s n pages).2)) (l : List Int) :
    ∀ (i : Nat) (pages : List Int) (hits : Nat) (s : σ), P s → pages.Pairwise (· < ·) → pages.length ≤ sz → i + l.length ≤ N → hits ≤ i →
    playO k goes (sz : Int) l (i : Int) pages (hits : Int) s = some ((playM goesM sz l i pages hits s).1, ((playM goesM sz l i pages hits s).2 : Int)) := by
  induction l with
  | nil => intro i pages hits s hp hs hl hn hh; rfl
  | cons p ps ih =>
    intro i pages hits s hp hs hl hn hh
    simp only [List.length_cons] at hn
    rw [playM_cons]
    unfold playO
    rw [binary_f pages p hs (by omega) k (by omega), Option.bind_some]
    by_cases hm : p ∈ pages
    · rw [if_pos hm]
      simp only [decide_eq_true hm, if_true]
      rw [w64 (by omega) (by omega), succ_cast, succ_cast]
      exact ih (i + 1) pages (hits + 1) s hp hs hl (by omega) (by omega)
    · rw [if_neg hm]
      simp only [decide_eq_false hm, Bool.false_eq_true, if_false]
      by_cases h0 : sz = 0
      · rw [if_pos h0, if_pos (by omega), succ_cast]
        exact ih (i + 1) pages hits s hp hs hl (by omega) (by omega)
      · rw [if_neg h0, if_neg (by omega)]
        by_cases hq : pages.length = sz
        · obtain ⟨g1, g2⟩ := hg s (i + 1) pages hp (by omega) hq (by omega)
          have g3 := hgo s (i + 1) pages hp (by omega) hq (by omega)
          have hel : (pages.eraseIdx (goesM s (i + 1) pages).1).length = pages.length - 1 := erase_length _ _ (by omega)
          have hes := erase_sorted pages (goesM s (i + 1) pages).1 hs
          have hle := posL_le (pages.eraseIdx (goesM s (i + 1) pages).1) p
          rw [if_pos hq, if_pos (by omega), w64 (by omega) (by omega), succ_cast, g3, Option.bind_some]
          simp only [Int.toNat_natCast]
          rw [if_pos (by omega), binary_f _ p hes (by omega) k (by omega), Option.bind_some]
          simp only [Int.toNat_natCast]
          rw [if_pos (by omega)]
          exact ih (i + 1) (insM (pages.eraseIdx (goesM s (i + 1) pages).1) p) hits _ g2 (insM_sorted _ _ hes (erase_not_mem _ _ _ hm)) (by rw [insM_length]; omega) (by omega) (by omega)
        · have hle := posL_le pages p
          rw [if_neg hq, if_neg (by omega), succ_cast]
          simp only [Int.toNat_natCast]
          rw [if_pos (by omega)]
          exact ih (i + 1) (insM pages p) hits s hp (insM_sorted _ _ hs hm) (by rw [insM_length]; omega) (by omega) (by omega)

/-! What is chosen -/
def chM (sz : Nat) : List Int → Nat → List Int → Nat × List Int
  | [], _, _ => (0, [])
  | n :: r, _, _ => ((Int.tmod n sz).toNat, r)
def allNN (l : List Int) : Prop := ∀ x ∈ l, 0 ≤ x
theorem tmod_nn (n : Int) (sz : Nat) (hn : 0 ≤ n) (h0 : 0 < sz) : 0 ≤ Int.tmod n sz ∧ Int.tmod n sz < sz := by
  rw [Int.tmod_eq_emod_of_nonneg hn]
  exact ⟨Int.emod_nonneg _ (by omega), Int.emod_lt_of_pos _ (by omega)⟩
theorem ch_rules (sz N : Nat) : Rules (chM sz) sz N allNN := by
  intro s n pages hp hn hl h0
  cases s with
  | nil => exact ⟨h0, fun x hx => by simp [chM] at hx⟩
  | cons c r =>
    have h := tmod_nn c sz (hp c List.mem_cons_self) h0
    exact ⟨by simp only [chM]; omega, fun x hx => hp x (List.mem_cons_of_mem _ hx)⟩
theorem chG_f (sz : Nat) (s : List Int) (n : Nat) (pages : List Int) (hp : allNN s) (h0 : 0 < sz) : chG (sz : Int) s (n : Int) pages = some (((chM sz s n pages).1 : Int), (chM sz s n pages).2) := by
  cases s with
  | nil => rfl
  | cons c r =>
    have h := tmod_nn c sz (hp c List.mem_cons_self) h0
    have e : chG (sz : Int) (c :: r) (n : Int) pages = if (sz : Int) = 0 then none else some (Int.tmod c sz, r) := rfl
    rw [e, if_neg (by omega)]
    simp only [chM]
    rw [Int.toNat_of_nonneg h.1]
def nnB (x : Int) : Bool := decide (x ≥ 0)
theorem allNN_iff (l : List Int) : l.all nnB = true ↔ allNN l := by
  unfold nnB allNN
  simp [List.all_eq_true]
theorem allCh_f (l : List Int) (hl : l.length < 9223372036854775807) : xAll_i64_impl_PlayChoices_1.f l = some (l.all nnB) := by
  obtain ⟨i, h1, h2⟩ := idxO_all xAll_i64_impl_PlayChoices_1.z nnB (fun x => by unfold xAll_i64_impl_PlayChoices_1.z impl_PlayChoices_1.f; rfl) l 0 (by omega)
  unfold xAll_i64_impl_PlayChoices_1.f
  rw [if_pos hl, h1, Option.bind_some, h2]

/-! the reference's loops -/
set_option maxRecDepth 100000 in
theorem specCh_look (l : List Int) (sz : Int) (cs : List Int) (hc : cs.length < 1000000) (T : Option (List Int × Int × Bool)) (K : Nat) (hT : ∀ k, K ≤ k → spec_PlayChoices.l1 k sz cs ([] : List Int) 0 0 l (l.length : Int) 0 = T) (d : Nat) : ∀ (k j : Nat), j + d = cs.length → d + K < k →
    spec_PlayChoices.l0 k l sz cs cs (cs.length : Int) (j : Int) = if (cs.drop j).all nnB = true then T else some ([], 0, false) := by
  induction d with
  | zero =>
    intro k j hj hk
    obtain ⟨k, rfl⟩ : ∃ m, k = m + 1 := ⟨k - 1, by omega⟩
    simp only [spec_PlayChoices.l0]
    rw [if_neg (by omega), List.drop_of_length_le (by omega), List.all_nil, if_pos rfl]
    exact hT k (by omega)
  | succ d ih =>
    intro k j hj hk
    obtain ⟨k, rfl⟩ : ∃ m, k = m + 1 := ⟨k - 1, by omega⟩
    have hjl : j < cs.length := by omega
    simp only [spec_PlayChoices.l0]
    rw [if_pos (by omega), if_pos (by omega), if_pos (by omega), rd_nat cs j hjl, List.drop_eq_getElem_cons hjl, List.all_cons, w64 (by omega) (by omega), succ_cast, ih k (j + 1) (by omega) (by omega)]
    by_cases c : cs[j] < 0
    · rw [if_pos c, show nnB cs[j] = false from decide_eq_false (by omega), Bool.false_and, if_neg (by decide)]
    · rw [if_neg c, show nnB cs[j] = true from decide_eq_true (by omega), Bool.true_and]
set_option maxRecDepth 100000 in
theorem specCh_loop (l : List Int) (sz : Nat) (hsz : sz ≤ 1000) (hb : l.length < 1000000) (cs : List Int) (hcl : cs.length < 1000000) (hc : allNN cs) (d : Nat) : ∀ (k i hits q : Nat) (pages : List Int), i + d = l.length → d + 2000 < k → pages.Pairwise (· < ·) → pages.length ≤ sz → hits ≤ i → q ≤ i → q ≤ cs.length →
    spec_PlayChoices.l1 k (sz : Int) cs pages (hits : Int) (q : Int) l (l.length : Int) (i : Int) = some ((playM (chM sz) sz (l.drop i) i pages hits (cs.drop q)).1, ((playM (chM sz) sz (l.drop i) i pages hits (cs.drop q)).2 : Int), true) := by
  induction d with
  | zero =>
    intro k i hits q pages hi hk hs hpl hh hq1 hq2
    obtain ⟨k, rfl⟩ : ∃ m, k = m + 1 := ⟨k - 1, by omega⟩
    simp only [spec_PlayChoices.l1]
    rw [if_neg (by omega), List.drop_of_length_le (by omega)]
    rfl
  | succ d ih =>
    intro k i hits q pages hi hk hs hpl hh hq1 hq2
    obtain ⟨k, rfl⟩ : ∃ m, k = m + 1 := ⟨k - 1, by omega⟩
    have hil : i < l.length := by omega
    simp only [spec_PlayChoices.l1]
    rw [if_pos (by omega), if_pos (by omega), if_pos (by omega), rd_nat l i hil, l11At_f pages _ hs (by omega) k (by omega), Option.bind_some, List.drop_eq_getElem_cons hil, playM_cons, w64 (x := (i : Int) + 1) (by omega) (by omega), succ_cast]
    by_cases hm : l[i] ∈ pages
    · rw [if_pos hm]
      simp only [decide_eq_true hm, if_true]
      rw [w64 (by omega) (by omega), succ_cast]
      exact ih k (i + 1) (hits + 1) q pages (by omega) (by omega) hs hpl (by omega) (by omega) hq2
    · rw [if_neg hm]
      simp only [decide_eq_false hm, Bool.false_eq_true, if_false]
      by_cases h0 : sz = 0
      · rw [if_pos h0, if_pos (by omega)]
        exact ih k (i + 1) hits q pages (by omega) (by omega) hs hpl (by omega) (by omega) hq2
      · rw [if_neg h0, if_neg (by omega)]
        by_cases hq : pages.length = sz
        · rw [if_pos hq, if_pos (by omega)]
          by_cases hql : q < cs.length
          · have hn := tmod_nn cs[q] sz (hc _ (List.getElem_mem hql)) (by omega)
            have e : Int.tmod cs[q] sz = (((Int.tmod cs[q] sz).toNat : Nat) : Int) := (Int.toNat_of_nonneg hn.1).symm
            have hlt : (Int.tmod cs[q] sz).toNat < pages.length := by omega
            have hel := erase_length pages _ hlt
            rw [if_pos (by omega), if_pos (by omega), rd_nat cs q hql, e, l11Without_f pages _ hlt (by omega), Option.bind_some, l11Put_f _ _ (erase_sorted _ _ hs) (by omega) k (by omega), Option.bind_some, w64 (by omega) (by omega), succ_cast, List.drop_eq_getElem_cons hql]
            have h := ih k (i + 1) hits (q + 1) (insM (pages.eraseIdx (Int.tmod cs[q] sz).toNat) l[i]) (by omega) (by omega) (insM_sorted _ _ (erase_sorted _ _ hs) (erase_not_mem _ _ _ hm)) (by rw [insM_length, hel]; omega) (by omega) (by omega) (by omega)
            exact h
          · have hel := erase_length pages 0 (by omega)
            have hdz : cs.drop q = [] := List.drop_of_length_le (by omega)
            have h1 := l11Without_f pages 0 (by omega) (by omega)
            rw [show ((0 : Nat) : Int) = 0 from rfl] at h1
            rw [if_neg (by omega), h1, Option.bind_some, l11Put_f _ _ (erase_sorted _ _ hs) (by omega) k (by omega), Option.bind_some]
            have h := ih k (i + 1) hits q (insM (pages.eraseIdx 0) l[i]) (by omega) (by omega) (insM_sorted _ _ (erase_sorted _ _ hs) (erase_not_mem _ _ _ hm)) (by rw [insM_length, hel]; omega) (by omega) (by omega) hq2
            rw [hdz] at h ⊢
            exact h
        · rw [if_neg hq, if_neg (by omega), l11Put_f pages _ hs (by omega) k (by omega), Option.bind_some]
          exact ih k (i + 1) hits q (insM pages l[i]) (by omega) (by omega) (insM_sorted _ _ hs hm) (by rw [insM_length]; omega) (by omega) (by omega) hq2
set_option maxRecDepth 100000 in
theorem specCh_bad_loop (l : List Int) (sz : Int) (cs : List Int) (hc : cs.length < 1000000) (d : Nat) : ∀ (k j : Nat), j + d = cs.length → d < k → ¬ (cs.drop j).all nnB = true →
    spec_PlayChoices.l0 k l sz cs cs (cs.length : Int) (j : Int) = some ([], 0, false) := by
  induction d with
  | zero =>
    intro k j hj hk hn
    rw [List.drop_of_length_le (by omega)] at hn
    exact absurd rfl hn
  | succ d ih =>
    intro k j hj hk hn
    obtain ⟨k, rfl⟩ : ∃ m, k = m + 1 := ⟨k - 1, by omega⟩
    have hjl : j < cs.length := by omega
    rw [List.drop_eq_getElem_cons hjl, List.all_cons] at hn
    simp only [spec_PlayChoices.l0]
    rw [if_pos (by omega), if_pos (by omega), if_pos (by omega), rd_nat cs j hjl, w64 (by omega) (by omega), succ_cast]
    by_cases c : cs[j] < 0
    · rw [if_pos c]
    · rw [if_neg c]
      refine ih k (j + 1) (by omega) (by omega) (fun h => hn ?_)
      rw [show nnB cs[j] = true from decide_eq_true (by omega), Bool.true_and]; exact h
theorem specCh_bad (l : List Int) (sz : Int) (cs : List Int) (hc : cs.length < 1000000) (hn : ¬ cs.all nnB = true) (k : Nat) (hk : cs.length < k) : spec_PlayChoices.l0 k l sz cs cs (cs.length : Int) 0 = some ([], 0, false) :=
  specCh_bad_loop l sz cs hc cs.length k 0 (by omega) hk hn
/-- what PlayChoices tells -/
def chT (l : List Int) (size : Int) (cs : List Int) : List Int × Int × Bool :=
  if goodB l = true ∧ 0 ≤ size ∧ size ≤ 40 ∧ cs.length ≤ 200 ∧ cs.all nnB = true then ((playM (chM size.toNat) size.toNat l 0 [] 0 cs).1, ((playM (chM size.toNat) size.toNat l 0 [] 0 cs).2 : Int), true) else ([], 0, false)
set_option maxRecDepth 100000 in
theorem implCh_f (l : List Int) (size : Int) (cs : List Int) (hl : l.length < 9223372036854775807) (k : Nat) (hk : 2000 < k) : impl_PlayChoices.f k l size cs = some (chT l size cs) := by
  unfold impl_PlayChoices.f chT
  rw [goodRefs_impl l hl, Option.bind_some]
  cases hg : goodB l with
  | false => simp
  | true =>
    have hl2 := goodB_len l hg
    rw [if_pos rfl, isSize_f, Option.bind_some]
    by_cases c : 0 ≤ size ∧ size ≤ 40
    · obtain ⟨sz, rfl⟩ := Int.eq_ofNat_of_zero_le c.1
      rw [decide_eq_true c.1, decide_eq_true c.2, Bool.true_and, if_pos rfl]
      by_cases c2 : cs.length ≤ 200
      · rw [if_neg (by omega), allCh_f cs (by omega), Option.bind_some]
        cases hc : cs.all nnB with
        | false => simp
        | true =>
          have hnn := (allNN_iff cs).mp hc
          obtain ⟨a, b, e, d⟩ := playM_facts (chM sz) sz l.length _ (ch_rules sz l.length) l 0 [] 0 cs hnn List.Pairwise.nil (Nat.zero_le _) (by omega)
          have h := playO_f k (chG (sz : Int)) (chM sz) sz l.length (by omega) (by omega) (by omega) allNN (ch_rules sz l.length) (fun s n pages hp hn hq h0 => chG_f sz s n pages hp h0) l 0 [] 0 cs hnn List.Pairwise.nil (Nat.zero_le _) (by omega) (Nat.zero_le _)
          rw [show ((0 : Nat) : Int) = 0 from rfl] at h
          rw [if_pos rfl, h, Option.bind_some, if_pos ⟨Nat.lt_of_le_of_lt a (by omega), by omega⟩, if_pos ⟨rfl, c.1, c.2, c2, rfl⟩, Int.toNat_natCast]
      · rw [if_pos (by omega), if_neg (fun h => c2 h.2.2.2.1)]
    · have c2 : (decide (0 ≤ size) && decide (size ≤ 40)) = false := by simpa using c
      rw [c2, if_neg (by decide), if_neg (fun h => c ⟨h.2.1, h.2.2.1⟩)]
set_option maxRecDepth 100000 in
theorem specCh_f (l : List Int) (size : Int) (cs : List Int) (hl : l.length < 4611686018427387904) (k : Nat) (hk : l.length + 5000 < k) : spec_PlayChoices.f k l size cs = some (chT l size cs) := by
  obtain ⟨k, rfl⟩ : ∃ m, k = m + 1 := ⟨k - 1, by omega⟩
  unfold spec_PlayChoices.f chT
  rw [goodRefs_spec l hl _ (by omega), Option.bind_some]
  cases hg : goodB l with
  | false => rw [if_neg (by decide), if_neg (fun h => by cases h.1)]; rfl
  | true =>
    have hl2 := goodB_len l hg
    rw [if_pos rfl, l1In_f, Option.bind_some]
    by_cases c : 0 ≤ size ∧ size ≤ 40
    · obtain ⟨sz, rfl⟩ := Int.eq_ofNat_of_zero_le c.1
      rw [decide_eq_true c.1, decide_eq_true c.2, Bool.true_and, if_pos rfl]
      by_cases c2 : cs.length ≤ 200
      · rw [decide_eq_false (p := (cs.length : Int) > 200) (by omega)]
        simp only [spec_PlayChoices.j0, Bool.false_eq_true, if_false]
        by_cases hc : cs.all nnB = true
        · have hnn := (allNN_iff cs).mp hc
          have h := specCh_look l (sz : Int) cs (by omega) _ (l.length + 2001) (fun k hk2 => specCh_loop l sz (by omega) (by omega) cs (by omega) hnn l.length k 0 0 0 [] (by omega) (by omega) List.Pairwise.nil (Nat.zero_le _) (Nat.zero_le _) (Nat.zero_le _) (Nat.zero_le _)) cs.length k 0 (by omega) (by omega)
          simp only [List.drop_zero] at h
          rw [if_pos hc] at h
          rw [if_pos ⟨trivial, c.1, c.2, c2, hc⟩, Int.toNat_natCast]
          exact h
        · rw [if_neg (fun h => hc h.2.2.2.2)]
          exact specCh_bad l (sz : Int) cs (by omega) hc k (by omega)
      · rw [decide_eq_true (p := (cs.length : Int) > 200) (by omega), if_neg (fun h => c2 h.2.2.2.1)]
        simp only [spec_PlayChoices.j0, if_true]
    · have c2 : (decide (0 ≤ size) && decide (size ≤ 40)) = false := by simpa using c
      rw [c2, if_neg (by decide), if_neg (fun h => c ⟨h.2.1, h.2.2.1⟩)]
      rfl

theorem FnExactPlayChoices : laws_FnExactPlayChoices.Pure := by
  intro l size cs hm hs hw h1 hm2 hs2 hw2
  by_cases c0 : (l.length : Int) > 1048576
  · exact ⟨1, by unfold laws_FnExactPlayChoices.f; rw [if_pos c0]⟩
  by_cases c1 : (cs.length : Int) > 1048576
  · exact ⟨1, by unfold laws_FnExactPlayChoices.f; rw [if_neg c0, if_pos c1]⟩
  obtain ⟨m, hk⟩ : ∃ m, m = l.length + cs.length + 30000 := ⟨_, rfl⟩
  have t1 : ∀ j, laws_toIntS.f (m + j) l = some l := fun j => toInts_f l hs (m + j) (by omega)
  have t2 : ∀ j, laws_toIntS.f (m + j) cs = some cs := fun j => toInts_f cs hs2 (m + j) (by omega)
  have q1 : ∀ j, laws_eqIntS.f (m + j) l l = some true := fun j => by rw [eqInts_f l l (by omega) (m + j) (by omega), decide_eq_true rfl]
  have q3 : ∀ j, laws_eqIntS.f (m + j) cs cs = some true := fun j => by rw [eqInts_f cs cs (by omega) (m + j) (by omega), decide_eq_true rfl]
  obtain ⟨st, hst⟩ : ∃ st, st = chT l size cs := ⟨_, rfl⟩
  have hlen : st.1.length ≤ 40 := by
    rw [hst]
    unfold chT
    split
    · rename_i h
      obtain ⟨f1, _, _, _⟩ := playM_facts (chM size.toNat) size.toNat l.length _ (ch_rules size.toNat l.length) l 0 [] 0 cs ((allNN_iff cs).mp h.2.2.2.2) List.Pairwise.nil (Nat.zero_le _) (by omega)
      exact Nat.le_trans f1 (by omega)
    · simp
  have e1 : ∀ j, impl_PlayChoices.f (m + j) l size cs = some (st.1, st.2.1, st.2.2) := fun j => by rw [implCh_f l size cs (by omega) (m + j) (by omega), ← hst]
  have e2 : ∀ j, spec_PlayChoices.f (m + j) l size cs = some (st.1, st.2.1, st.2.2) := fun j => by rw [specCh_f l size cs (by omega) (m + j) (by omega), ← hst]
  have q2 : ∀ j, laws_eqIntS.f (m + j) st.1 st.1 = some true := fun j => by rw [eqInts_f st.1 st.1 (by omega) (m + j) (by omega), decide_eq_true rfl]
  have m1 : ∀ j, laws_markIntS.f (m + j) l 1 = some ((1 : Int) + l.length, markL 1 l.length) := fun j => markInts_f l 1 (by omega) (by omega) (m + j) (by omega)
  have m4 : ∀ j, laws_markIntS.f (m + j) cs ((1 : Int) + l.length) = some ((1 : Int) + l.length + cs.length, markL ((1 : Int) + l.length) cs.length) := fun j => markInts_f cs _ (by omega) (by omega) (m + j) (by omega)
  have m2 : ∀ j, laws_markIntS.f (m + j) st.1 1 = some ((1 : Int) + st.1.length, markL 1 st.1.length) := fun j => markInts_f st.1 1 (by omega) (by omega) (m + j) (by omega)
  have m3 : ∀ j, laws_heldIntS.f (m + j) (markL 1 st.1.length) 1 = some ((1 : Int) + st.1.length) := fun j => heldInts_f st.1.length 1 (by omega) (by omega) (m + j) (by omega)
  have p1 : ¬ (1 : Int) + (l.length : Int) + (cs.length : Int) < 0 := by omega
  have p2 : ¬ (1 : Int) + (st.1.length : Int) < 0 := by omega
  clear hw hw2
  refine ⟨m + 5, ?_⟩
  unfold laws_FnExactPlayChoices.f
  rw [if_neg c0, if_neg c1]
  simp only [t1, t2, e1, e2, q1, q2, q3, m1, m2, m3, m4, p1, p2, Option.bind_some, if_true, if_false, bne_self_eq_false, Bool.false_eq_true, laws_FnExactPlayChoices.j0, laws_FnExactPlayChoices.j1, laws_FnExactPlayChoices.j2]

end Go.Proofs.Ytcmlledlhknbpaa.Pure
