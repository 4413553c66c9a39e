/- The program's WorkingSet returns what the reference's returns, in memory of its own. No conditions. -/
import Derived.Test.YtcmlledlhknbpaaPFnExactWorkingSetx3
set_option linter.unusedVariables false
set_option linter.unusedSimpArgs false
namespace Go.Proofs.Ytcmlledlhknbpaa.Pure
open Go.RowKit Go.Proofs.Ytcmlledlhknbpaa.PFnExactWorkingSet Go.Proofs.YtcmlledlhknbpaaW.PrintWords Go.Proofs.YtcmlledlhknbpaaW.PrintLast

/-! Whole numbers and rows of them -/
theorem w64 {x : Int} (h : -9223372036854775808 ≤ x) (h2 : x < 9223372036854775808) : wrap64 x = x := by unfold wrap64; omega
theorem rd_nat (l : List Int) (n : Nat) (h : n < l.length) : rd l (n : Int) = l[n] := by
  unfold rd; simp [List.getD_eq_getElem?_getD, h]
theorem succ_cast (n : Nat) : ((n : Int) + 1) = ((n + 1 : Nat) : Int) := by omega

/-! The laws' eqIntS -/
theorem eqInts_loop (xs ys : List Int) (hl : xs.length = ys.length) (hb : xs.length < 4611686018427387904) (d : Nat) : ∀ (k n : Nat), n + d = xs.length → d < k →
    laws_eqIntS.l0 k xs ys (n : Int) = some (decide (xs.drop n = ys.drop n)) := by
  induction d with
  | zero =>
    intro k n hn hk
    obtain ⟨k, rfl⟩ : ∃ m, k = m + 1 := ⟨k - 1, by omega⟩
    have c : ¬ (n : Int) < (xs.length : Int) := by omega
    simp only [laws_eqIntS.l0]; rw [if_neg c, List.drop_of_length_le (by omega), List.drop_of_length_le (by omega), decide_eq_true rfl]
  | succ d ih =>
    intro k n hn hk
    obtain ⟨k, rfl⟩ : ∃ m, k = m + 1 := ⟨k - 1, by omega⟩
    have h1 : n < xs.length := by omega
    have h2 : n < ys.length := by omega
    have c1 : (n : Int) < (xs.length : Int) := by omega
    have c2 : (n : Int) < (ys.length : Int) := by omega
    have c0 : (0 : Int) ≤ (n : Int) := by omega
    simp only [laws_eqIntS.l0]
    rw [if_pos c1, if_pos c0, if_pos c2, rd_nat xs n h1, rd_nat ys n h2, List.drop_eq_getElem_cons h1, List.drop_eq_getElem_cons h2, w64 (by omega) (by omega), succ_cast, ih k (n + 1) (by omega) (by omega)]
    by_cases e : xs[n] = ys[n]
    · rw [if_pos e]
      exact congrArg some (decide_eq_decide.mpr (by rw [List.cons.injEq]; exact ⟨fun h => ⟨e, h⟩, fun h => h.2⟩))
    · rw [if_neg e]
      exact congrArg some (decide_eq_false (by rw [List.cons.injEq]; exact fun h => e h.1)).symm
theorem eqInts_f (xs ys : List Int) (hb : xs.length < 4611686018427387904) (k : Nat) (hk : xs.length < k) : laws_eqIntS.f k xs ys = some (decide (xs = ys)) := by
  unfold laws_eqIntS.f
  by_cases e : xs.length = ys.length
  · have c : (xs.length : Int) = (ys.length : Int) := by omega
    rw [if_pos c]
    have h := eqInts_loop xs ys e hb xs.length k 0 (by omega) hk
    simpa using h
  · have c : ¬ (xs.length : Int) = (ys.length : Int) := by omega
    have e2 : ¬ xs = ys := fun h => e (by rw [h])
    rw [if_neg c, decide_eq_false e2]

/-! The laws' toIntS: a copy -/
theorem toInts_loop (xs : List Int) (hb : xs.length < 4611686018427387904) (d : Nat) : ∀ (k n : Nat) (ys : List Int), ys.length = xs.length → n + d = xs.length → d < k →
    laws_toIntS.l0 k xs ys (n : Int) = some (ys.take n ++ xs.drop n) := by
  induction d with
  | zero =>
    intro k n ys hl hn hk
    obtain ⟨k, rfl⟩ : ∃ m, k = m + 1 := ⟨k - 1, by omega⟩
    have c : ¬ (n : Int) < (xs.length : Int) := by omega
    simp only [laws_toIntS.l0]; rw [if_neg c, List.take_of_length_le (by omega), List.drop_of_length_le (by omega), List.append_nil]
  | succ d ih =>
    intro k n ys hl hn hk
    obtain ⟨k, rfl⟩ : ∃ m, k = m + 1 := ⟨k - 1, by omega⟩
    have h1 : n < xs.length := by omega
    have h2 : n < ys.length := by omega
    have c1 : (n : Int) < (xs.length : Int) := by omega
    have c2 : (n : Int) < (ys.length : Int) := by omega
    have c0 : (0 : Int) ≤ (n : Int) := by omega
    simp only [laws_toIntS.l0]
    rw [if_pos c1, if_pos c0, if_pos c2, rd_nat xs n h1, w64 (by omega) (by omega), succ_cast, Int.toNat_natCast, ih k (n + 1) _ (by simp [hl]) (by omega) (by omega), List.drop_eq_getElem_cons h1]
    congr 1
    rw [List.take_add_one, List.take_set_of_le (by omega)]
    simp [h2]
theorem toInts_f (xs : List Int) (hb : xs.length * 8 ≤ 140737488351232) (k : Nat) (hk : xs.length < k) : laws_toIntS.f k xs = some xs := by
  unfold laws_toIntS.f
  rw [if_pos (by omega), if_pos (by omega)]
  have h := toInts_loop xs (by omega) xs.length k 0 (List.replicate ((xs.length : Int) : Int).toNat 0) (by simp) (by omega) hk
  simpa using h

/-! The laws' markIntS and heldIntS: numbers one after the other -/
def markL (a : Int) : Nat → List Int
  | 0 => []
  | n + 1 => a :: markL (a + 1) n
theorem markL_length (n : Nat) : ∀ a : Int, (markL a n).length = n := by
  induction n with
  | zero => intro a; rfl
  | succ n ih => intro a; simp [markL, ih]
theorem markL_get (n : Nat) : ∀ (a : Int) (i : Nat) (h : i < (markL a n).length), (markL a n)[i] = a + i := by
  induction n with
  | zero => intro a i h; simp [markL] at h
  | succ n ih =>
    intro a i h
    cases i with
    | zero => simp [markL]
    | succ i =>
      simp only [markL, List.getElem_cons_succ]
      rw [ih]; omega
theorem markInts_loop (m : Nat) (a : Int) (ha : 0 ≤ a) (hb : a + m < 4611686018427387904) (d : Nat) : ∀ (k n : Nat) (l : List Int), l.length = m → n + d = m → d < k →
    laws_markIntS.l0 k l (a + n) (n : Int) = some (a + m, l.take n ++ markL (a + n) d) := by
  induction d with
  | zero =>
    intro k n l hl hn hk
    obtain ⟨k, rfl⟩ : ∃ m, k = m + 1 := ⟨k - 1, by omega⟩
    have c : ¬ (n : Int) < (l.length : Int) := by omega
    simp only [laws_markIntS.l0]; rw [if_neg c, List.take_of_length_le (by omega)]; simp [markL]; omega
  | succ d ih =>
    intro k n l hl hn hk
    obtain ⟨k, rfl⟩ : ∃ m, k = m + 1 := ⟨k - 1, by omega⟩
    have c1 : (n : Int) < (l.length : Int) := by omega
    have c0 : (0 : Int) ≤ (n : Int) := by omega
    have h1 : n < l.length := by omega
    simp only [laws_markIntS.l0]
    rw [if_pos c1, if_pos c0, w64 (x := a + n + 1) (by omega) (by omega), w64 (x := (n : Int) + 1) (by omega) (by omega), succ_cast, show a + (n : Int) + 1 = a + ((n + 1 : Nat) : Int) by omega, Int.toNat_natCast,
      ih k (n + 1) (l.set n (a + n)) (by rw [List.length_set]; exact hl) (by omega) (by omega)]
    congr 2
    rw [List.take_add_one, List.take_set_of_le (by omega)]
    simp [markL, h1]
    congr 1; omega
theorem markInts_f (l : List Int) (a : Int) (ha : 0 ≤ a) (hb : a + l.length < 4611686018427387904) (k : Nat) (hk : l.length < k) : laws_markIntS.f k l a = some (a + l.length, markL a l.length) := by
  unfold laws_markIntS.f
  have h := markInts_loop l.length a ha hb l.length k 0 l rfl (by omega) hk
  simpa using h
theorem heldInts_loop (m : Nat) (a : Int) (ha : 0 ≤ a) (hb : a + m < 4611686018427387904) (d : Nat) : ∀ (k n : Nat), n + d = m → d < k →
    laws_heldIntS.l0 k (markL a m) (a + n) (n : Int) = some (a + m) := by
  induction d with
  | zero =>
    intro k n hn hk
    obtain ⟨k, rfl⟩ : ∃ m, k = m + 1 := ⟨k - 1, by omega⟩
    have hl := markL_length m a
    have c : ¬ (n : Int) < ((markL a m).length : Int) := by omega
    simp only [laws_heldIntS.l0]; rw [if_neg c]; congr 1; omega
  | succ d ih =>
    intro k n hn hk
    obtain ⟨k, rfl⟩ : ∃ m, k = m + 1 := ⟨k - 1, by omega⟩
    have hl := markL_length m a
    have c1 : (n : Int) < ((markL a m).length : Int) := by omega
    have c0 : (0 : Int) ≤ (n : Int) := by omega
    have h1 : n < (markL a m).length := by omega
    simp only [laws_heldIntS.l0]
    rw [if_pos c1, if_pos c0, rd_nat _ n h1, markL_get, if_pos rfl, w64 (x := a + n + 1) (by omega) (by omega), w64 (x := (n : Int) + 1) (by omega) (by omega), succ_cast, show a + (n : Int) + 1 = a + ((n + 1 : Nat) : Int) by omega]
    exact ih k (n + 1) (by omega) (by omega)
theorem heldInts_f (m : Nat) (a : Int) (ha : 0 ≤ a) (hb : a + m < 4611686018427387904) (k : Nat) (hk : m < k) : laws_heldIntS.f k (markL a m) a = some (a + m) := by
  unfold laws_heldIntS.f
  have h := heldInts_loop m a ha hb m k 0 (by omega) hk
  simpa using h

/-! The first place at which a predicate holds -/
theorem idxO_ge {α : Type} (p : α → Option Bool) (l : List α) : ∀ (n i : Int), 0 ≤ n → idxO p l n = some i → i = -1 ∨ n ≤ i := by
  induction l with
  | nil => intro n i hn h; left; exact (Option.some.inj h).symm
  | cons x xs ih =>
    intro n i hn h
    obtain ⟨b, hb, h2⟩ := Option.bind_eq_some_iff.mp h
    cases b with
    | true => right; have := Option.some.inj h2; omega
    | false => have := ih (n + 1) i (by omega) h2; omega
theorem idxO_all {α : Type} (p : α → Option Bool) (q : α → Bool) (h : ∀ x, p x = some (!q x)) (l : List α) : ∀ (n : Int), 0 ≤ n → ∃ i, idxO p l n = some i ∧ (!decide (i ≥ 0)) = l.all q := by
  induction l with
  | nil => intro n hn; exact ⟨-1, rfl, rfl⟩
  | cons x xs ih =>
    intro n hn
    unfold idxO
    rw [h x, Option.bind_some]
    cases hq : q x with
    | true =>
      obtain ⟨i, h1, h2⟩ := ih (n + 1) (by omega)
      exact ⟨i, h1, by rw [h2, List.all_cons, hq, Bool.true_and]⟩
    | false => exact ⟨n, rfl, by rw [List.all_cons, hq, Bool.false_and, decide_eq_true (show n ≥ 0 from hn)]; rfl⟩

/-! References: good ones -/
def pageB (x : Int) : Bool := decide (0 ≤ x) && decide (x ≤ 99)
def goodB (l : List Int) : Bool := decide (l.length ≤ 200) && l.all pageB
theorem within_f (a b c : Int) : impl_within.f a b c = some (decide (b ≤ a) && decide (a ≤ c)) := by
  unfold impl_within.f
  by_cases h : b ≤ a
  · rw [if_pos h, decide_eq_true h, Bool.true_and]
  · rw [if_neg h, decide_eq_false h, Bool.false_and]
theorem l1In_f (a b c : Int) : spec_l1In.f a b c = some (decide (b ≤ a) && decide (a ≤ c)) := by
  unfold spec_l1In.f
  by_cases h : b ≤ a
  · rw [if_pos h, decide_eq_true h, Bool.true_and]
  · rw [if_neg h, decide_eq_false h, Bool.false_and]
theorem isPage_f (x : Int) : impl_isPage.f x = some (pageB x) := by unfold impl_isPage.f; rw [within_f]; rfl
theorem goodRefs_impl (l : List Int) (hb : l.length < 9223372036854775807) : impl_GoodRefs.f l = some (goodB l) := by
  unfold impl_GoodRefs.f goodB
  by_cases c : l.length ≤ 200
  · have c2 : (l.length : Int) ≤ 200 := by omega
    rw [if_pos c2, decide_eq_true c, Bool.true_and]
    unfold xAll_i64_impl_isPage.f
    rw [if_pos hb]
    obtain ⟨i, h1, h2⟩ := idxO_all xAll_i64_impl_isPage.z pageB (fun x => by unfold xAll_i64_impl_isPage.z; rw [isPage_f]; rfl) l 0 (by omega)
    rw [h1, Option.bind_some, Option.bind_some, h2]
  · have c2 : ¬ (l.length : Int) ≤ 200 := by omega
    rw [if_neg c2, decide_eq_false c, Bool.false_and]
theorem goodRefs_loop (l : List Int) (hb : l.length < 4611686018427387904) (d : Nat) : ∀ (k n : Nat), n + d = l.length → d < k →
    spec_GoodRefs.l0 k l l (l.length : Int) (n : Int) = some ((l.drop n).all pageB && decide (l.length ≤ 200)) := by
  induction d with
  | zero =>
    intro k n hn hk
    obtain ⟨k, rfl⟩ : ∃ m, k = m + 1 := ⟨k - 1, by omega⟩
    have c : ¬ (n : Int) < (l.length : Int) := by omega
    simp only [spec_GoodRefs.l0]; rw [if_neg c, List.drop_of_length_le (by omega), List.all_nil, Bool.true_and]
    exact congrArg some (decide_eq_decide.mpr (by omega))
  | succ d ih =>
    intro k n hn hk
    obtain ⟨k, rfl⟩ : ∃ m, k = m + 1 := ⟨k - 1, by omega⟩
    have h1 : n < l.length := by omega
    have c1 : (n : Int) < (l.length : Int) := by omega
    have c0 : (0 : Int) ≤ (n : Int) := by omega
    simp only [spec_GoodRefs.l0]
    rw [if_pos c1, if_pos c0, if_pos c1, rd_nat l n h1, l1In_f, Option.bind_some, List.drop_eq_getElem_cons h1, List.all_cons, w64 (by omega) (by omega), succ_cast, ih k (n + 1) (by omega) (by omega)]
    cases hp : pageB l[n] with
    | true =>
      have hp' : (decide (0 ≤ l[n]) && decide (l[n] ≤ 99)) = true := hp
      rw [if_pos hp', Bool.true_and]
    | false =>
      have hp' : (decide (0 ≤ l[n]) && decide (l[n] ≤ 99)) = false := hp
      rw [hp', if_neg (by decide)]; rfl
theorem goodRefs_spec (l : List Int) (hb : l.length < 4611686018427387904) (k : Nat) (hk : l.length < k) : spec_GoodRefs.f k l = some (goodB l) := by
  unfold spec_GoodRefs.f goodB
  have h := goodRefs_loop l hb l.length k 0 (by omega) hk
  rw [Bool.and_comm]
  exact h

/-! A stack behind a reference -/
def touchL (st : List Int) (p : Int) (s : Nat) : List Int := (p :: st.erase p).take s

/-! Stacks: all unlike numbers, the last one first. Of a row told backwards -/
def stackOf : List Int → List Int
  | [] => []
  | x :: R => x :: (stackOf R).erase x
theorem mem_stackOf (R : List Int) : ∀ y, y ∈ stackOf R ↔ y ∈ R := by
  induction R with
  | nil => intro y; exact Iff.rfl
  | cons x R ih =>
    intro y
    unfold stackOf
    by_cases e : y = x
    · simp [e]
    · rw [List.mem_cons, List.mem_cons, List.mem_erase_of_ne e, ih]
theorem nodup_stackOf (R : List Int) : (stackOf R).Nodup := by
  induction R with
  | nil => exact List.nodup_nil
  | cons x R ih =>
    unfold stackOf
    exact List.nodup_cons.mpr ⟨fun h => by rw [ih.mem_erase_iff] at h; exact h.1 rfl, ih.erase x⟩
theorem stackOf_append (A R : List Int) : stackOf (A ++ R) = stackOf A ++ (stackOf R).filter (fun y => !A.contains y) := by
  induction A with
  | nil =>
    simp only [stackOf, List.nil_append]
    exact (List.filter_eq_self.mpr (by simp)).symm
  | cons a A ih =>
    rw [List.cons_append]
    simp only [stackOf]
    rw [ih, List.cons_append]
    congr 1
    by_cases e : a ∈ A
    · rw [List.erase_append_left _ ((mem_stackOf A a).mpr e)]
      congr 1
      apply List.filter_congr
      intro y hy
      by_cases e2 : y = a
      · subst e2; simp [e]
      · simp [e2]
    · have e2 : a ∉ stackOf A := fun h => e ((mem_stackOf A a).mp h)
      have hd : ((stackOf R).filter (fun y => !A.contains y)).Nodup := (nodup_stackOf R).filter _
      rw [List.erase_append_right _ e2, List.erase_of_not_mem e2, List.Nodup.erase_eq_filter hd, List.filter_filter]
      congr 1
      apply List.filter_congr
      intro y hy
      by_cases e3 : y = a
      · subst e3; simp
      · simp [e3]
theorem stackOf_last (A : List Int) (x : Int) (h : x ∉ A) : (stackOf (A ++ [x])).length = (stackOf A).length + 1 := by
  rw [stackOf_append]
  simp [stackOf, h]
theorem findIdx_at (A : List Int) (x : Int) (B : List Int) (h : x ∉ A) : (stackOf (A ++ x :: B)).findIdx (fun y => x == y) = (stackOf A).length := by
  rw [stackOf_append]
  simp only [stackOf]
  rw [List.filter_cons_of_pos (by simp [h])]
  have h2 : x ∉ stackOf A := fun hh => h ((mem_stackOf A x).mp hh)
  rw [List.findIdx_append]
  have h3 : List.findIdx (fun y => x == y) (stackOf A) = (stackOf A).length := by
    rw [List.findIdx_eq_length]
    intro y hy
    exact beq_eq_false_iff_ne.mpr (fun e => h2 (e ▸ hy))
  rw [h3]
  simp [List.findIdx_cons]
theorem small_length (n : Nat) : ∀ (l : List Int), l.Nodup → (∀ x ∈ l, 0 ≤ x ∧ x < (n : Int)) → l.length ≤ n := by
  induction n with
  | zero =>
    intro l _ h
    cases l with
    | nil => exact Nat.le_refl _
    | cons x xs => have := h x (by simp); omega
  | succ n ih =>
    intro l hd h
    have h2 := ih (l.erase (n : Int)) (hd.erase _) (fun x hx => by
      rw [hd.mem_erase_iff] at hx
      have := h x hx.2
      have h3 := hx.1
      omega)
    rw [List.length_erase] at h2
    split at h2 <;> omega
theorem stackOf_small (R : List Int) (h : ∀ x ∈ R, 0 ≤ x ∧ x ≤ 99) : (stackOf R).length ≤ 100 :=
  small_length 100 (stackOf R) (nodup_stackOf R) (fun x hx => by have := h x ((mem_stackOf R x).mp hx); omega)
theorem touch_stackOf (R : List Int) (x : Int) (hx : 0 ≤ x ∧ x ≤ 99) (h : ∀ x ∈ R, 0 ≤ x ∧ x ≤ 99) : touchL (stackOf R) x 100 = stackOf (x :: R) := by
  unfold touchL
  have h2 := stackOf_small (x :: R) (fun y hy => by
    rcases List.mem_cons.mp hy with rfl | hy
    · exact hx
    · exact h y hy)
  exact List.take_of_length_le h2

theorem unlikeN_stack (l : List Int) (n : Nat) (hn : n ≤ l.length) : unlikeN l n = (stackOf (l.take n).reverse).length := by
  induction n with
  | zero => simp [unlikeN, stackOf]
  | succ n ih =>
    have h1 : n < l.length := by omega
    unfold unlikeN
    rw [ih (by omega), List.take_succ_eq_append_getElem h1, List.reverse_append, List.reverse_singleton, List.singleton_append]
    simp only [stackOf, List.length_cons]
    have e : l.getD n 0 = l[n] := by simp [List.getD_eq_getElem?_getD, h1]
    rw [e, List.length_erase]
    have e2 : (l[n] ∈ stackOf (l.take n).reverse) ↔ ((l.take n).contains l[n] = true) := by rw [mem_stackOf, List.mem_reverse, List.contains_iff_mem]
    by_cases c : (l.take n).contains l[n] = true
    · rw [if_pos c, if_pos (e2.mpr c)]
      have h3 : 0 < (stackOf (l.take n).reverse).length := List.length_pos_of_mem (e2.mpr c)
      omega
    · rw [if_neg c, if_neg (fun h => c (e2.mp h))]
theorem unlike_f (l : List Int) (hb : l.length < 4611686018427387904) : spec_l10Unlike.f l = some ((stackOf l.reverse).length : Int) := by
  unfold spec_l10Unlike.f
  rw [if_pos hb, unlikeN_stack l l.length (Nat.le_refl _), List.take_length]

/-! unlike, by the sorted row -/
theorem nodup_length_le (a : List Int) : ∀ (b : List Int), a.Nodup → (∀ x ∈ a, x ∈ b) → a.length ≤ b.length := by
  induction a with
  | nil => intro b _ _; exact Nat.zero_le _
  | cons x a ih =>
    intro b hd hm
    have hx := hm x (by simp)
    have h2 := ih (b.erase x) (List.nodup_cons.mp hd).2 (fun y hy => by
      have hne : y ≠ x := fun e => by subst e; exact (List.nodup_cons.mp hd).1 hy
      rw [List.mem_erase_of_ne hne]
      exact hm y (by simp [hy]))
    rw [List.length_erase_of_mem hx] at h2
    have := List.length_pos_of_mem hx
    rw [List.length_cons]; omega
theorem stackOf_len_congr (a b : List Int) (h : ∀ x, x ∈ a ↔ x ∈ b) : (stackOf a).length = (stackOf b).length := by
  apply Nat.le_antisymm
  · exact nodup_length_le _ _ (nodup_stackOf a) (fun x hx => (mem_stackOf b x).mpr ((h x).mp ((mem_stackOf a x).mp hx)))
  · exact nodup_length_le _ _ (nodup_stackOf b) (fun x hx => (mem_stackOf a x).mpr ((h x).mpr ((mem_stackOf b x).mp hx)))
theorem sorted_at (S : List Int) (hS : S.Pairwise (fun x y => decide (x ≤ y) = true)) (i j : Nat) (hij : i ≤ j) (hj : j < S.length) : S[i] ≤ S[j] := by
  rcases Nat.lt_or_eq_of_le hij with h | h
  · have := List.pairwise_iff_getElem.mp hS i j (by omega) hj h
    exact of_decide_eq_true this
  · subst h; exact Int.le_refl _
theorem keeps_sorted (S : List Int) (hS : S.Pairwise (fun x y => decide (x ≤ y) = true)) (m : Nat) (hm : m < S.length) : Lib.keeps S.toArray m = !(S.take m).contains S[m] := by
  have g1 : S.toArray[m]! = S[m] := by simp [hm]
  unfold Lib.keeps
  rw [g1]
  by_cases c : (S.take m).contains S[m] = true
  · rw [c]
    obtain ⟨i, hi, e⟩ := List.getElem_of_mem (List.contains_iff_mem.mp c)
    have hi2 : i < m := by rw [List.length_take] at hi; omega
    have g2 : S.toArray[m - 1]! = S[m - 1] := by simp [show m - 1 < S.length by omega]
    rw [List.getElem_take] at e
    have h1 := sorted_at S hS i (m - 1) (by omega) (by omega)
    have h2 := sorted_at S hS (m - 1) m (by omega) hm
    rw [g2]
    apply decide_eq_false
    rintro (h | h)
    · omega
    · exact h (by omega)
  · have c2 : (S.take m).contains S[m] = false := by simpa using c
    rw [c2]
    apply decide_eq_true
    by_cases h0 : m = 0
    · exact Or.inl h0
    · right
      have g2 : S.toArray[m - 1]! = S[m - 1] := by simp [show m - 1 < S.length by omega]
      rw [g2]
      intro e
      apply c
      rw [List.contains_iff_mem, e]
      have : S[m - 1] = (S.take m)[m - 1]'(by rw [List.length_take]; omega) := by rw [List.getElem_take]
      rw [this]
      exact List.getElem_mem _
theorem compactUpTo_len (S : List Int) (hS : S.Pairwise (fun x y => decide (x ≤ y) = true)) (n : Nat) (hn : n ≤ S.length) : (Lib.compactUpTo S.toArray n).length = unlikeN S n := by
  induction n with
  | zero => rfl
  | succ n ih =>
    rw [Lib.compactUpTo_succ, List.length_append, ih (by omega), keeps_sorted S hS n (by omega)]
    unfold unlikeN
    have e : S.getD n 0 = S[n] := by simp [List.getD_eq_getElem?_getD, show n < S.length by omega]
    rw [e]
    conv => rhs; unfold unlikeN
    cases (S.take n).contains S[n] <;> simp
theorem unlikeimpl_f (l : List Int) (hb : l.length < 1000000000000) : impl_unlike.f l = some ((stackOf l.reverse).length : Int) := by
  unfold impl_unlike.f
  rw [if_pos hb]
  have hS : (l.mergeSort fun x y => decide (x ≤ y)).Pairwise (fun x y => decide (x ≤ y) = true) :=
    List.pairwise_mergeSort (fun a b c h1 h2 => by simp at *; omega) (fun a b => by simp; omega) l
  have h1 : (Lib.compact (l.mergeSort fun x y => decide (x ≤ y))).length = (stackOf l.reverse).length := by
    unfold Lib.compact
    rw [compactUpTo_len _ hS _ (Nat.le_refl _), unlikeN_stack _ _ (Nat.le_refl _), List.take_length]
    apply stackOf_len_congr
    intro x
    rw [List.mem_reverse, List.mem_reverse, List.mem_mergeSort]
  rw [h1]

/-! What the exact laws do with lists -/
theorem goodB_len (l : List Int) (h : goodB l = true) : l.length ≤ 200 := by
  unfold goodB at h
  simp only [Bool.and_eq_true, decide_eq_true_eq] at h
  exact h.1

/-! How many unlike pages in each window -/
def winAt (l : List Int) (w i : Nat) : Int := ((stackOf ((l.take (i + 1)).drop (i + 1 - w)).reverse).length : Int)
def winL (l : List Int) (w n : Nat) : List Int := (List.range n).map (winAt l w)
theorem winL_length (l : List Int) (w n : Nat) : (winL l w n).length = n := by unfold winL; simp
theorem winL_succ (l : List Int) (w n : Nat) : winL l w (n + 1) = winL l w n ++ [winAt l w n] := by unfold winL; rw [List.range_succ, List.map_append]; rfl
theorem mx0 (n w : Nat) : mx (((n + 1 : Nat) : Int) - (w : Int)) 0 = ((n + 1 - w : Nat) : Int) := by unfold mx; split <;> omega
theorem win_impl (l : List Int) (w : Nat) (hw : w ≤ 200) (hb : l.length < 1000000) (d : Nat) : ∀ (k n : Nat), n + d = l.length → d < k →
    impl_WorkingSet.l0 k l (w : Int) (winL l w n) (l.length : Int) (n : Int) = some (winL l w l.length, true) := by
  induction d with
  | zero =>
    intro k n hn hk
    obtain ⟨k, rfl⟩ : ∃ m, k = m + 1 := ⟨k - 1, by omega⟩
    simp only [impl_WorkingSet.l0]
    rw [if_neg (by omega), show n = l.length by omega]
  | succ d ih =>
    intro k n hn hk
    obtain ⟨k, rfl⟩ : ∃ m, k = m + 1 := ⟨k - 1, by omega⟩
    simp only [impl_WorkingSet.l0]
    rw [if_pos (by omega), w64 (x := (n : Int) + 1) (by omega) (by omega), succ_cast, w64 (x := ((n + 1 : Nat) : Int) - (w : Int)) (by omega) (by omega), mx0, if_pos (by omega), if_pos (by omega), if_pos (by omega), Int.toNat_natCast, Int.toNat_natCast,
      unlikeimpl_f _ (by rw [List.length_drop, List.length_take]; omega), Option.bind_some, if_pos (by rw [winL_length]; omega)]
    have h := ih k (n + 1) (by omega) (by omega)
    rw [winL_succ] at h
    exact h
theorem win_spec (l : List Int) (w : Nat) (hw : w ≤ 200) (hb : l.length < 1000000) (d : Nat) : ∀ (k n : Nat), n + d = l.length → d < k →
    spec_WorkingSet.l0 k l (w : Int) (winL l w n) (l.length : Int) (n : Int) = some (winL l w l.length, true) := by
  induction d with
  | zero =>
    intro k n hn hk
    obtain ⟨k, rfl⟩ : ∃ m, k = m + 1 := ⟨k - 1, by omega⟩
    simp only [spec_WorkingSet.l0]
    rw [if_neg (by omega), show n = l.length by omega]
  | succ d ih =>
    intro k n hn hk
    obtain ⟨k, rfl⟩ : ∃ m, k = m + 1 := ⟨k - 1, by omega⟩
    have h := ih k (n + 1) (by omega) (by omega)
    rw [winL_succ] at h
    simp only [spec_WorkingSet.l0]
    rw [if_pos (by omega), w64 (x := (n : Int) + 1) (by omega) (by omega), succ_cast, w64 (x := ((n + 1 : Nat) : Int) - (w : Int)) (by omega) (by omega)]
    by_cases c : ((n + 1 : Nat) : Int) - (w : Int) < 0
    · rw [if_pos c, if_pos (by omega), if_pos (by omega), Int.toNat_natCast, unlike_f _ (by rw [List.length_drop, List.length_take]; omega), Option.bind_some, if_pos (by rw [winL_length]; omega)]
      rw [← h]
      unfold winAt
      rw [show n + 1 - w = 0 by omega]
    · rw [if_neg c, if_pos (by omega), if_pos (by omega), if_pos (by omega), Int.toNat_natCast, show (((n + 1 : Nat) : Int) - (w : Int)).toNat = n + 1 - w by omega, unlike_f _ (by rw [List.length_drop, List.length_take]; omega), Option.bind_some, if_pos (by rw [winL_length]; omega)]
      rw [← h]
      rfl
theorem FnExactWorkingSet : laws_FnExactWorkingSet.Pure := by
  intro l w hm hs hw h1
  obtain ⟨m, hk⟩ : ∃ m, m = l.length + 10000 := ⟨_, rfl⟩
  have t1 : ∀ j, laws_toIntS.f (m + j) l = some l := fun j => toInts_f l hs (m + j) (by omega)
  have g1 := goodRefs_impl l (by omega)
  have g2 : ∀ j, spec_GoodRefs.f (m + j) l = some (goodB l) := fun j => goodRefs_spec l (by omega) (m + j) (by omega)
  have q1 : ∀ j, laws_eqIntS.f (m + j) l l = some true := fun j => by rw [eqInts_f l l (by omega) (m + j) (by omega), decide_eq_true rfl]
  have e : ∃ st b, st.length ≤ 200 ∧ ∀ j, impl_WorkingSet.f (m + 1 + j) l w = some (st, b) ∧ spec_WorkingSet.f (m + 1 + j) l w = some (st, b) := by
    unfold impl_WorkingSet.f spec_WorkingSet.f
    have g3 : ∀ j, spec_GoodRefs.f (m + 1 + j) l = some (goodB l) := fun j => goodRefs_spec l (by omega) _ (by omega)
    simp only [g1, g3, within_f, l1In_f, Option.bind_some]
    have hj : ∀ j, m + 1 + j = (m + j) + 1 := fun j => by omega
    cases hg : goodB l with
    | false =>
      refine ⟨[], false, by simp, fun j => ?_⟩
      rw [hj j]
      simp only [impl_WorkingSet.j0, spec_WorkingSet.j0, Bool.false_eq_true, if_false, if_true]
      exact ⟨trivial, trivial⟩
    | true =>
      have hl := goodB_len l hg
      by_cases c : (decide (1 ≤ w) && decide (w ≤ 200)) = true
      · have c2 : 1 ≤ w ∧ w ≤ 200 := by simpa using c
        obtain ⟨v, rfl⟩ : ∃ v : Nat, w = (v : Int) := ⟨w.toNat, by omega⟩
        refine ⟨winL l v l.length, true, by rw [winL_length]; omega, fun j => ?_⟩
        rw [hj j, c]
        simp only [impl_WorkingSet.j0, spec_WorkingSet.j0, Bool.false_eq_true, if_false, if_true, Bool.not_true]
        exact ⟨win_impl l v (by omega) (by omega) l.length (m + j) 0 (by omega) (by omega), win_spec l v (by omega) (by omega) l.length (m + j) 0 (by omega) (by omega)⟩
      · have c3 : (decide (1 ≤ w) && decide (w ≤ 200)) = false := by simpa using c
        refine ⟨[], false, by simp, fun j => ?_⟩
        rw [hj j, c3]
        simp only [impl_WorkingSet.j0, spec_WorkingSet.j0, Bool.false_eq_true, if_false, if_true, Bool.not_false]
        exact ⟨trivial, trivial⟩
  obtain ⟨st, b, hst, e⟩ := e
  obtain ⟨m, rfl⟩ : ∃ n, m = n := ⟨_, rfl⟩
  have e1 : ∀ j, impl_WorkingSet.f (m + 1 + j) l w = some (st, b) := fun j => (e j).1
  have e2 : ∀ j, spec_WorkingSet.f (m + 1 + j) l w = some (st, b) := fun j => (e j).2
  obtain ⟨m', hm'⟩ : ∃ m', m' = m + 1 := ⟨_, rfl⟩
  rw [← hm'] at e1 e2
  have t1 : ∀ j, laws_toIntS.f (m' + j) l = some l := fun j => toInts_f l hs (m' + j) (by omega)
  have q1 : ∀ j, laws_eqIntS.f (m' + j) l l = some true := fun j => by rw [eqInts_f l l (by omega) (m' + j) (by omega), decide_eq_true rfl]
  have q2 : ∀ j, laws_eqIntS.f (m' + j) st st = some true := fun j => by rw [eqInts_f st st (by omega) (m' + j) (by omega), decide_eq_true rfl]
  have m1 : ∀ j, laws_markIntS.f (m' + j) l 1 = some ((1 : Int) + l.length, markL 1 l.length) := fun j => markInts_f l 1 (by omega) (by omega) (m' + j) (by omega)
  have m2 : ∀ j, laws_markIntS.f (m' + j) st 1 = some ((1 : Int) + st.length, markL 1 st.length) := fun j => markInts_f st 1 (by omega) (by omega) (m' + j) (by omega)
  have m3 : ∀ j, laws_heldIntS.f (m' + j) (markL 1 st.length) 1 = some ((1 : Int) + st.length) := fun j => heldInts_f st.length 1 (by omega) (by omega) (m' + j) (by omega)
  have p1 : ¬ (1 : Int) + (l.length : Int) < 0 := by omega
  have p2 : ¬ (1 : Int) + (st.length : Int) < 0 := by omega
  clear e g1 g2 hw
  refine ⟨m' + 5, ?_⟩
  unfold laws_FnExactWorkingSet.f
  by_cases c : (l.length : Int) > 1048576
  · rw [if_pos c]
  · rw [if_neg c]
    simp only [t1, e1, e2, q1, q2, m1, m2, m3, p1, p2, Option.bind_some, if_true, if_false, bne_self_eq_false, Bool.false_eq_true, laws_FnExactWorkingSet.j0, laws_FnExactWorkingSet.j1, laws_FnExactWorkingSet.j2]

end Go.Proofs.Ytcmlledlhknbpaa.Pure
