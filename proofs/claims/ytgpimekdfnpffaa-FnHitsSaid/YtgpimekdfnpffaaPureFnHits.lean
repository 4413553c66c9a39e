/- Of the page lists drawn, the hits of each size are those that PlayLru counts, and as many distances reach no further. No conditions. -/
import Derived.Test.YtgpimekdfnpffaaPFnHitsx5
import Derived.Lib.VarintBits
set_option linter.unusedVariables false
set_option linter.unusedSimpArgs false
namespace Go.Proofs.Ytgpimekdfnpffaa.Pure
open Go.RowKit Go.Proofs.Ytgpimekdfnpffaa.PFnHits Go.Proofs.YtgpimekdfnpffaaW.PrintWords Go.Proofs.YtgpimekdfnpffaaW.PrintLast

theorem bytes_of (l : List Int) (h : ∀ x ∈ l, (Lit.int .u8 x).wf = true) : ∀ x ∈ l, 0 ≤ x ∧ x ≤ 255 := by
  intro x hx
  have := h x hx
  simp [Lit.wf, IntKind.min, IntKind.max, IntKind.bits, IntKind.signed] at this
  omega

/-! Whole numbers and rows of them -/
theorem w64 {x : Int} (h : -9223372036854775808 ≤ x) (h2 : x < 9223372036854775808) : wrap64 x = x := by unfold wrap64; omega
theorem rd_nat (l : List Int) (n : Nat) (h : n < l.length) : rd l (n : Int) = l[n] := by
  unfold rd; simp [List.getD_eq_getElem?_getD, h]
theorem succ_cast (n : Nat) : ((n : Int) + 1) = ((n + 1 : Nat) : Int) := by omega

/-! The first place at which a predicate holds -/
theorem idxO_ge {α : Type} (p : α → Option Bool) (l : List α) : ∀ (n i : Int), 0 ≤ n → idxO p l n = some i → i = -1 ∨ n ≤ i := by
  induction l with
  | nil => intro n i hn h; left; exact (Option.some.inj h).symm
  | cons x xs ih =>
    intro n i hn h
    obtain ⟨b, hb, h2⟩ := Option.bind_eq_some_iff.mp h
    cases b with
    | true => right; have := Option.some.inj h2; omega
    | false => have := ih (n + 1) i (by omega) h2; omega
theorem idxO_all {α : Type} (p : α → Option Bool) (q : α → Bool) (h : ∀ x, p x = some (!q x)) (l : List α) : ∀ (n : Int), 0 ≤ n → ∃ i, idxO p l n = some i ∧ (!decide (i ≥ 0)) = l.all q := by
  induction l with
  | nil => intro n hn; exact ⟨-1, rfl, rfl⟩
  | cons x xs ih =>
    intro n hn
    unfold idxO
    rw [h x, Option.bind_some]
    cases hq : q x with
    | true =>
      obtain ⟨i, h1, h2⟩ := ih (n + 1) (by omega)
      exact ⟨i, h1, by rw [h2, List.all_cons, hq, Bool.true_and]⟩
    | false => exact ⟨n, rfl, by rw [List.all_cons, hq, Bool.false_and, decide_eq_true (show n ≥ 0 from hn)]; rfl⟩

/-! References: good ones -/
def pageB (x : Int) : Bool := decide (0 ≤ x) && decide (x ≤ 99)
def goodB (l : List Int) : Bool := decide (l.length ≤ 200) && l.all pageB
theorem within_f (a b c : Int) : impl_within.f a b c = some (decide (b ≤ a) && decide (a ≤ c)) := by
  unfold impl_within.f
  by_cases h : b ≤ a
  · rw [if_pos h, decide_eq_true h, Bool.true_and]
  · rw [if_neg h, decide_eq_false h, Bool.false_and]
theorem l1In_f (a b c : Int) : spec_l1In.f a b c = some (decide (b ≤ a) && decide (a ≤ c)) := by
  unfold spec_l1In.f
  by_cases h : b ≤ a
  · rw [if_pos h, decide_eq_true h, Bool.true_and]
  · rw [if_neg h, decide_eq_false h, Bool.false_and]
theorem isPage_f (x : Int) : impl_isPage.f x = some (pageB x) := by unfold impl_isPage.f; rw [within_f]; rfl
theorem goodRefs_impl (l : List Int) (hb : l.length < 9223372036854775807) : impl_GoodRefs.f l = some (goodB l) := by
  unfold impl_GoodRefs.f goodB
  by_cases c : l.length ≤ 200
  · have c2 : (l.length : Int) ≤ 200 := by omega
    rw [if_pos c2, decide_eq_true c, Bool.true_and]
    unfold xAll_i64_impl_isPage.f
    rw [if_pos hb]
    obtain ⟨i, h1, h2⟩ := idxO_all xAll_i64_impl_isPage.z pageB (fun x => by unfold xAll_i64_impl_isPage.z; rw [isPage_f]; rfl) l 0 (by omega)
    rw [h1, Option.bind_some, Option.bind_some, h2]
  · have c2 : ¬ (l.length : Int) ≤ 200 := by omega
    rw [if_neg c2, decide_eq_false c, Bool.false_and]
theorem goodRefs_loop (l : List Int) (hb : l.length < 4611686018427387904) (d : Nat) : ∀ (k n : Nat), n + d = l.length → d < k →
    spec_GoodRefs.l0 k l l (l.length : Int) (n : Int) = some ((l.drop n).all pageB && decide (l.length ≤ 200)) := by
  induction d with
  | zero =>
    intro k n hn hk
    obtain ⟨k, rfl⟩ : ∃ m, k = m + 1 := ⟨k - 1, by omega⟩
    have c : ¬ (n : Int) < (l.length : Int) := by omega
    simp only [spec_GoodRefs.l0]; rw [if_neg c, List.drop_of_length_le (by omega), List.all_nil, Bool.true_and]
    exact congrArg some (decide_eq_decide.mpr (by omega))
  | succ d ih =>
    intro k n hn hk
    obtain ⟨k, rfl⟩ : ∃ m, k = m + 1 := ⟨k - 1, by omega⟩
    have h1 : n < l.length := by omega
    have c1 : (n : Int) < (l.length : Int) := by omega
    have c0 : (0 : Int) ≤ (n : Int) := by omega
    simp only [spec_GoodRefs.l0]
    rw [if_pos c1, if_pos c0, if_pos c1, rd_nat l n h1, l1In_f, Option.bind_some, List.drop_eq_getElem_cons h1, List.all_cons, w64 (by omega) (by omega), succ_cast, ih k (n + 1) (by omega) (by omega)]
    cases hp : pageB l[n] with
    | true =>
      have hp' : (decide (0 ≤ l[n]) && decide (l[n] ≤ 99)) = true := hp
      rw [if_pos hp', Bool.true_and]
    | false =>
      have hp' : (decide (0 ≤ l[n]) && decide (l[n] ≤ 99)) = false := hp
      rw [hp', if_neg (by decide)]; rfl
theorem goodRefs_spec (l : List Int) (hb : l.length < 4611686018427387904) (k : Nat) (hk : l.length < k) : spec_GoodRefs.f k l = some (goodB l) := by
  unfold spec_GoodRefs.f goodB
  have h := goodRefs_loop l hb l.length k 0 (by omega) hk
  rw [Bool.and_comm]
  exact h

/-! The next place of a page -/
def placeN (l : List Int) (p : Int) : Nat := l.findIdx (fun x => p == x)
theorem placeN_cons (x : Int) (xs : List Int) (p : Int) : placeN (x :: xs) p = if p = x then 0 else placeN xs p + 1 := by
  unfold placeN
  rw [List.findIdx_cons]
  by_cases h : p = x
  · rw [if_pos h, show (p == x) = true from beq_iff_eq.mpr h]; rfl
  · rw [if_neg h, show (p == x) = false from beq_eq_false_iff_ne.mpr h]; rfl
theorem placeN_le (l : List Int) (p : Int) : placeN l p ≤ l.length := List.findIdx_le_length
theorem index_loop (l : List Int) (p : Int) (hb : l.length < 4611686018427387904) (d : Nat) : ∀ (k n : Nat), n + d = l.length → d < k →
    slices_Index_int_int.l0 k l p (l.length : Int) (n : Int) = some (if n + placeN (l.drop n) p < l.length then ((n + placeN (l.drop n) p : Nat) : Int) else -1) := by
  induction d with
  | zero =>
    intro k n hn hk
    obtain ⟨k, rfl⟩ : ∃ m, k = m + 1 := ⟨k - 1, by omega⟩
    have c : ¬ (n : Int) < (l.length : Int) := by omega
    simp only [slices_Index_int_int.l0]; rw [if_neg c, if_neg (by omega)]
  | succ d ih =>
    intro k n hn hk
    obtain ⟨k, rfl⟩ : ∃ m, k = m + 1 := ⟨k - 1, by omega⟩
    have h1 : n < l.length := by omega
    have c1 : (n : Int) < (l.length : Int) := by omega
    have c0 : (0 : Int) ≤ (n : Int) := by omega
    simp only [slices_Index_int_int.l0]
    rw [if_pos c1, if_pos c0, if_pos c1, rd_nat l n h1, List.drop_eq_getElem_cons h1, placeN_cons, w64 (by omega) (by omega), succ_cast, ih k (n + 1) (by omega) (by omega)]
    by_cases e : p = l[n]
    · rw [if_pos e, if_pos e, if_pos (by omega), Nat.add_zero]
    · rw [if_neg e, if_neg e, show n + 1 + placeN (List.drop (n + 1) l) p = n + (placeN (List.drop (n + 1) l) p + 1) by omega]
theorem index_f (l : List Int) (p : Int) (hb : l.length < 4611686018427387904) (k : Nat) (hk : l.length < k) : slices_Index_int_int.f k l p = some (if placeN l p < l.length then (placeN l p : Int) else -1) := by
  unfold slices_Index_int_int.f
  have h := index_loop l p hb l.length k 0 (by omega) hk
  simpa using h

/-! A stack behind a reference -/
def touchL (st : List Int) (p : Int) (s : Nat) : List Int := (p :: st.erase p).take s
theorem touchL_length (st : List Int) (p : Int) (s : Nat) : (touchL st p s).length ≤ s := by unfold touchL; rw [List.length_take]; omega
theorem touchL_nodup (st : List Int) (p : Int) (s : Nat) (h : st.Nodup) : (touchL st p s).Nodup := by
  unfold touchL
  refine List.Nodup.sublist (List.take_sublist _ _) ?_
  exact List.nodup_cons.mpr ⟨fun hm => by rw [h.mem_erase_iff] at hm; exact hm.1 rfl, h.erase p⟩
theorem touch_f (st : List Int) (p s : Int) (h0 : 0 ≤ s) (hb : st.length < 10000) : impl_touch.f st p s = some (touchL st p s.toNat, st.contains p) := by
  unfold impl_touch.f touchL
  rw [if_pos hb, if_pos h0]

/-! References played -/
def playL (still : Bool) (s : Nat) : List Int → List Int → Int → List Int × Int
  | [], st, h => (st, h)
  | p :: ps, st, h => if st.contains p = true then playL still s ps (if still = true then st else touchL st p s) (h + 1) else playL still s ps (touchL st p s) h
theorem playL_len (still : Bool) (s : Nat) (l : List Int) : ∀ (st : List Int) (h : Int), st.length ≤ s → (playL still s l st h).1.length ≤ s := by
  induction l with
  | nil => intro st h hs; exact hs
  | cons p ps ih =>
    intro st h hs
    unfold playL
    split
    · refine ih _ _ ?_
      split
      · exact hs
      · exact touchL_length _ _ _
    · exact ih _ _ (touchL_length _ _ _)
theorem play_loop (l : List Int) (s : Int) (still : Bool) (h0 : 0 ≤ s) (h1 : s ≤ 5000) (hb : l.length < 1000000) (d : Nat) : ∀ (k n : Nat) (st : List Int) (h : Int), n + d = l.length → d < k → st.length ≤ s.toNat → 0 ≤ h → h ≤ n →
    impl_play.l0 k s still st h l (l.length : Int) (n : Int) = some (playL still s.toNat (l.drop n) st h) := by
  induction d with
  | zero =>
    intro k n st h hn hk hs hh hh2
    obtain ⟨k, rfl⟩ : ∃ m, k = m + 1 := ⟨k - 1, by omega⟩
    have c : ¬ (n : Int) < (l.length : Int) := by omega
    simp only [impl_play.l0]; rw [if_neg c, List.drop_of_length_le (by omega)]
    unfold slices_Clone_int_int.f
    rw [if_pos (by omega)]; rfl
  | succ d ih =>
    intro k n st h hn hk hs hh hh2
    obtain ⟨k, rfl⟩ : ∃ m, k = m + 1 := ⟨k - 1, by omega⟩
    have h1 : n < l.length := by omega
    have c1 : (n : Int) < (l.length : Int) := by omega
    have c0 : (0 : Int) ≤ (n : Int) := by omega
    simp only [impl_play.l0]
    rw [if_pos c1, if_pos c0, if_pos c1, rd_nat l n h1, w64 (x := (n : Int) + 1) (by omega) (by omega), succ_cast, List.drop_eq_getElem_cons h1, touch_f st l[n] s h0 (by omega), Option.bind_some]
    unfold playL
    have hl := touchL_length st l[n] s.toNat
    cases hc : st.contains l[n] with
    | true =>
      simp only [if_true]
      rw [w64 (x := h + 1) (by omega) (by omega)]
      cases still with
      | true => simp only [if_true]; exact ih k (n + 1) st (h + 1) (by omega) (by omega) hs (by omega) (by omega)
      | false => simp only [Bool.false_eq_true, if_false]; exact ih k (n + 1) _ (h + 1) (by omega) (by omega) hl (by omega) (by omega)
    | false =>
      simp only [Bool.false_eq_true, if_false]
      exact ih k (n + 1) _ h (by omega) (by omega) hl (by omega) (by omega)
theorem play_f (l : List Int) (s : Int) (still : Bool) (h0 : 0 ≤ s) (h1 : s ≤ 5000) (hb : l.length < 1000000) (k : Nat) (hk : l.length < k) : impl_play.f k l s still = some (playL still s.toNat l [] 0) := by
  unfold impl_play.f
  have h := play_loop l s still h0 h1 hb l.length k 0 [] 0 (by omega) hk (by simp) (by omega) (by omega)
  simpa using h

theorem isSize_f (x : Int) : impl_isSize.f x = some (decide (0 ≤ x) && decide (x ≤ 40)) := by unfold impl_isSize.f; rw [within_f]; rfl

/-! Stacks: all unlike numbers, the last one first. Of a row told backwards -/
def stackOf : List Int → List Int
  | [] => []
  | x :: R => x :: (stackOf R).erase x
theorem mem_stackOf (R : List Int) : ∀ y, y ∈ stackOf R ↔ y ∈ R := by
  induction R with
  | nil => intro y; exact Iff.rfl
  | cons x R ih =>
    intro y
    unfold stackOf
    by_cases e : y = x
    · simp [e]
    · rw [List.mem_cons, List.mem_cons, List.mem_erase_of_ne e, ih]
theorem nodup_stackOf (R : List Int) : (stackOf R).Nodup := by
  induction R with
  | nil => exact List.nodup_nil
  | cons x R ih =>
    unfold stackOf
    exact List.nodup_cons.mpr ⟨fun h => by rw [ih.mem_erase_iff] at h; exact h.1 rfl, ih.erase x⟩
theorem stackOf_append (A R : List Int) : stackOf (A ++ R) = stackOf A ++ (stackOf R).filter (fun y => !A.contains y) := by
  induction A with
  | nil =>
    simp only [stackOf, List.nil_append]
    exact (List.filter_eq_self.mpr (by simp)).symm
  | cons a A ih =>
    rw [List.cons_append]
    simp only [stackOf]
    rw [ih, List.cons_append]
    congr 1
    by_cases e : a ∈ A
    · rw [List.erase_append_left _ ((mem_stackOf A a).mpr e)]
      congr 1
      apply List.filter_congr
      intro y hy
      by_cases e2 : y = a
      · subst e2; simp [e]
      · simp [e2]
    · have e2 : a ∉ stackOf A := fun h => e ((mem_stackOf A a).mp h)
      have hd : ((stackOf R).filter (fun y => !A.contains y)).Nodup := (nodup_stackOf R).filter _
      rw [List.erase_append_right _ e2, List.erase_of_not_mem e2, List.Nodup.erase_eq_filter hd, List.filter_filter]
      congr 1
      apply List.filter_congr
      intro y hy
      by_cases e3 : y = a
      · subst e3; simp
      · simp [e3]
theorem stackOf_last (A : List Int) (x : Int) (h : x ∉ A) : (stackOf (A ++ [x])).length = (stackOf A).length + 1 := by
  rw [stackOf_append]
  simp [stackOf, h]
theorem findIdx_at (A : List Int) (x : Int) (B : List Int) (h : x ∉ A) : (stackOf (A ++ x :: B)).findIdx (fun y => x == y) = (stackOf A).length := by
  rw [stackOf_append]
  simp only [stackOf]
  rw [List.filter_cons_of_pos (by simp [h])]
  have h2 : x ∉ stackOf A := fun hh => h ((mem_stackOf A x).mp hh)
  rw [List.findIdx_append]
  have h3 : List.findIdx (fun y => x == y) (stackOf A) = (stackOf A).length := by
    rw [List.findIdx_eq_length]
    intro y hy
    exact beq_eq_false_iff_ne.mpr (fun e => h2 (e ▸ hy))
  rw [h3]
  simp [List.findIdx_cons]
theorem small_length (n : Nat) : ∀ (l : List Int), l.Nodup → (∀ x ∈ l, 0 ≤ x ∧ x < (n : Int)) → l.length ≤ n := by
  induction n with
  | zero =>
    intro l _ h
    cases l with
    | nil => exact Nat.le_refl _
    | cons x xs => have := h x (by simp); omega
  | succ n ih =>
    intro l hd h
    have h2 := ih (l.erase (n : Int)) (hd.erase _) (fun x hx => by
      rw [hd.mem_erase_iff] at hx
      have := h x hx.2
      have h3 := hx.1
      omega)
    rw [List.length_erase] at h2
    split at h2 <;> omega
theorem stackOf_small (R : List Int) (h : ∀ x ∈ R, 0 ≤ x ∧ x ≤ 99) : (stackOf R).length ≤ 100 :=
  small_length 100 (stackOf R) (nodup_stackOf R) (fun x hx => by have := h x ((mem_stackOf R x).mp hx); omega)
theorem touch_stackOf (R : List Int) (x : Int) (hx : 0 ≤ x ∧ x ≤ 99) (h : ∀ x ∈ R, 0 ≤ x ∧ x ≤ 99) : touchL (stackOf R) x 100 = stackOf (x :: R) := by
  unfold touchL
  have h2 := stackOf_small (x :: R) (fun y hy => by
    rcases List.mem_cons.mp hy with rfl | hy
    · exact hx
    · exact h y hy)
  exact List.take_of_length_le h2

theorem unlikeN_stack (l : List Int) (n : Nat) (hn : n ≤ l.length) : unlikeN l n = (stackOf (l.take n).reverse).length := by
  induction n with
  | zero => simp [unlikeN, stackOf]
  | succ n ih =>
    have h1 : n < l.length := by omega
    unfold unlikeN
    rw [ih (by omega), List.take_succ_eq_append_getElem h1, List.reverse_append, List.reverse_singleton, List.singleton_append]
    simp only [stackOf, List.length_cons]
    have e : l.getD n 0 = l[n] := by simp [List.getD_eq_getElem?_getD, h1]
    rw [e, List.length_erase]
    have e2 : (l[n] ∈ stackOf (l.take n).reverse) ↔ ((l.take n).contains l[n] = true) := by rw [mem_stackOf, List.mem_reverse, List.contains_iff_mem]
    by_cases c : (l.take n).contains l[n] = true
    · rw [if_pos c, if_pos (e2.mpr c)]
      have h3 : 0 < (stackOf (l.take n).reverse).length := List.length_pos_of_mem (e2.mpr c)
      omega
    · rw [if_neg c, if_neg (fun h => c (e2.mp h))]
theorem unlike_f (l : List Int) (hb : l.length < 4611686018427387904) : spec_l10Unlike.f l = some ((stackOf l.reverse).length : Int) := by
  unfold spec_l10Unlike.f
  rw [if_pos hb, unlikeN_stack l l.length (Nat.le_refl _), List.take_length]

/-! How many unlike pages since the last one alike -/
def distAt (R : List Int) (x : Int) : Int := if R.contains x = true then ((stackOf R).findIdx (fun y => x == y) : Int) + 1 else 0
def distL (l : List Int) (n : Nat) : List Int := (List.range n).map (fun i => distAt (l.take i).reverse (l.getD i 0))
theorem distL_length (l : List Int) (n : Nat) : (distL l n).length = n := by unfold distL; simp
theorem distL_succ (l : List Int) (n : Nat) : distL l (n + 1) = distL l n ++ [distAt (l.take n).reverse (l.getD n 0)] := by unfold distL; rw [List.range_succ, List.map_append]; rfl
theorem getD_get (l : List Int) (n : Nat) (h : n < l.length) : l.getD n 0 = l[n] := by simp [List.getD_eq_getElem?_getD, h]
theorem distAt_range (R : List Int) (x : Int) (h : ∀ x ∈ R, 0 ≤ x ∧ x ≤ 99) : 0 ≤ distAt R x ∧ distAt R x ≤ 100 := by
  unfold distAt
  split
  · rename_i c
    have h1 : x ∈ stackOf R := (mem_stackOf R x).mpr (List.contains_iff_mem.mp c)
    have h2 : (stackOf R).findIdx (fun y => x == y) < (stackOf R).length := List.findIdx_lt_length.mpr ⟨x, h1, beq_iff_eq.mpr rfl⟩
    have h3 := stackOf_small R h
    omega
  · omega
theorem pages_of_good (l : List Int) (h : goodB l = true) : ∀ x ∈ l, 0 ≤ x ∧ x ≤ 99 := by
  unfold goodB at h
  simp only [Bool.and_eq_true, List.all_eq_true, pageB, decide_eq_true_eq] at h
  exact h.2
theorem distances_loop (l : List Int) (hb : l.length < 1000000) (hp : ∀ x ∈ l, 0 ≤ x ∧ x ≤ 99) (d : Nat) : ∀ (k n : Nat) (out : List Int), n + d = l.length → d + 200 < k → out.length = l.length → out.take n = distL l n →
    impl_distances.l0 k out (stackOf (l.take n).reverse) l (l.length : Int) (n : Int) = some (distL l l.length) := by
  induction d with
  | zero =>
    intro k n out hn hk ho ht
    obtain ⟨k, rfl⟩ : ∃ m, k = m + 1 := ⟨k - 1, by omega⟩
    have c : ¬ (n : Int) < (l.length : Int) := by omega
    have e : n = l.length := by omega
    simp only [impl_distances.l0]; rw [if_neg c, ← e, ← ht, List.take_of_length_le (by omega)]
  | succ d ih =>
    intro k n out hn hk ho ht
    obtain ⟨k, rfl⟩ : ∃ m, k = m + 1 := ⟨k - 1, by omega⟩
    have h1 : n < l.length := by omega
    have c1 : (n : Int) < (l.length : Int) := by omega
    have c2 : (n : Int) < (out.length : Int) := by omega
    have c0 : (0 : Int) ≤ (n : Int) := by omega
    have hR : ∀ x ∈ (l.take n).reverse, 0 ≤ x ∧ x ≤ 99 := fun x hx => hp x (List.mem_of_mem_take (List.mem_reverse.mp hx))
    have hs := stackOf_small (l.take n).reverse hR
    have hx := hp l[n] (List.getElem_mem h1)
    have hT := touch_stackOf (l.take n).reverse l[n] hx hR
    have hfi := placeN_le (stackOf (l.take n).reverse) l[n]
    have hval : wrap64 ((if placeN (stackOf (l.take n).reverse) l[n] < (stackOf (l.take n).reverse).length then (placeN (stackOf (l.take n).reverse) l[n] : Int) else -1) + 1) = distAt (l.take n).reverse l[n] := by
      unfold distAt
      have e : (l.take n).reverse.contains l[n] = true ↔ placeN (stackOf (l.take n).reverse) l[n] < (stackOf (l.take n).reverse).length := by
        rw [List.contains_iff_mem, ← mem_stackOf]
        unfold placeN
        rw [List.findIdx_lt_length]
        exact ⟨fun h => ⟨_, h, beq_iff_eq.mpr rfl⟩, fun ⟨y, hy, e⟩ => by rw [beq_iff_eq] at e; rw [e]; exact hy⟩
      by_cases c : (l.take n).reverse.contains l[n] = true
      · rw [if_pos c, if_pos (e.mp c)]
        unfold placeN at hfi ⊢
        exact w64 (by omega) (by omega)
      · rw [if_neg c, if_neg (fun h => c (e.mpr h))]
        exact w64 (by omega) (by omega)
    simp only [impl_distances.l0]
    rw [if_pos c1, if_pos c0, if_pos c1, rd_nat l n h1, index_f _ _ (by omega) k (by omega), Option.bind_some, if_pos c2, touch_f _ _ _ (by omega) (by omega), Option.bind_some, hval]
    simp only []
    rw [show Int.toNat 100 = 100 from rfl, hT, w64 (x := (n : Int) + 1) (by omega) (by omega), succ_cast, Int.toNat_natCast]
    have ht2 : l[n] :: (l.take n).reverse = (l.take (n + 1)).reverse := by rw [List.take_succ_eq_append_getElem h1, List.reverse_append]; rfl
    rw [ht2]
    refine ih k (n + 1) _ (by omega) (by omega) (by rw [List.length_set]; exact ho) ?_
    rw [distL_succ, List.take_add_one, List.take_set_of_le (Nat.le_refl _), ht, getD_get l n h1]
    simp [show n < out.length by omega]
theorem distances_f (l : List Int) (hb : l.length < 1000000) (hp : ∀ x ∈ l, 0 ≤ x ∧ x ≤ 99) (k : Nat) (hk : l.length + 200 < k) : impl_distances.f k l = some (distL l l.length) := by
  unfold impl_distances.f
  rw [if_pos (by omega), if_pos (by omega)]
  have h := distances_loop l hb hp l.length k 0 (List.replicate ((l.length : Int) : Int).toNat 0) (by omega) hk (by simp) (by simp [distL])
  exact h

theorem spec_dist_at (l : List Int) (i j : Nat) (hi : i ≤ l.length) (hj : j < i) (x : Int) (hx : l.getD j 0 = x) (hno : x ∉ (l.take i).drop (j + 1)) : ((stackOf ((l.take i).drop j).reverse).length : Int) = distAt (l.take i).reverse x := by
  have h1 : j < (l.take i).length := by rw [List.length_take]; omega
  have e1 : (l.take i).drop j = x :: (l.take i).drop (j + 1) := by
    rw [List.drop_eq_getElem_cons h1]
    congr 1
    rw [List.getElem_take, ← hx, getD_get l j (by omega)]
  have e2 : (l.take i).reverse = ((l.take i).drop (j + 1)).reverse ++ x :: ((l.take i).take j).reverse := by
    have e3 : l.take i = (l.take i).take j ++ x :: (l.take i).drop (j + 1) := by rw [← e1, List.take_append_drop]
    conv => lhs; rw [e3]
    rw [List.reverse_append, List.reverse_cons, List.append_assoc]; rfl
  have hno2 : x ∉ ((l.take i).drop (j + 1)).reverse := fun h => hno (List.mem_reverse.mp h)
  unfold distAt
  rw [e2, findIdx_at _ x _ hno2, e1, List.reverse_cons, stackOf_last _ x hno2, if_pos (List.contains_iff_mem.mpr (by simp))]
  omega
theorem spec_inner (l acc : List Int) (i : Nat) (hi : i < l.length) (hb : l.length < 1000000) (ha : acc.length < 1000000) (d : Nat) : ∀ (k : Nat) (j : Int), j + 1 = d → d ≤ i → d < k → l[i] ∉ (l.take i).drop d →
    ∃ k', k' + d + 1 ≥ k ∧ k' < k ∧ spec_DistancesOf.l1 k l acc (i : Int) l[i] 0 j l (l.length : Int) (i : Int) = spec_DistancesOf.l0 k' l (acc ++ [distAt (l.take i).reverse l[i]]) l (l.length : Int) ((i + 1 : Nat) : Int) := by
  induction d with
  | zero =>
    intro k j hj hd hk hno
    obtain ⟨k, rfl⟩ : ∃ m, k = m + 1 := ⟨k - 1, by omega⟩
    have c : ¬ j ≥ 0 := by omega
    refine ⟨k, by omega, by omega, ?_⟩
    have e : distAt (l.take i).reverse l[i] = 0 := by
      unfold distAt
      rw [if_neg]
      rw [List.contains_iff_mem, List.mem_reverse]
      exact hno
    simp only [spec_DistancesOf.l1]; rw [if_neg c, if_pos (by omega), e, w64 (by omega) (by omega), succ_cast]
  | succ d ih =>
    intro k j hj hd hk hno
    obtain ⟨k, rfl⟩ : ∃ m, k = m + 1 := ⟨k - 1, by omega⟩
    obtain rfl : j = (d : Int) := by omega
    have h1 : d < l.length := by omega
    have c : (d : Int) ≥ 0 := by omega
    have c0 : (0 : Int) ≤ (d : Int) := by omega
    have c1 : (d : Int) < (l.length : Int) := by omega
    simp only [spec_DistancesOf.l1]
    rw [if_pos c, if_pos c0, if_pos c1, rd_nat l d h1]
    by_cases e : l[d] = l[i]
    · rw [if_pos e, if_pos (by omega), if_pos (by omega), Int.toNat_natCast, Int.toNat_natCast, unlike_f _ (by rw [List.length_drop, List.length_take]; omega), Option.bind_some, if_pos (by omega)]
      refine ⟨k, by omega, by omega, ?_⟩
      rw [spec_dist_at l i d (by omega) (by omega) l[i] (by rw [getD_get l d h1]; exact e) hno, w64 (by omega) (by omega), succ_cast]
    · rw [if_neg e, w64 (by omega) (by omega)]
      obtain ⟨k', h2, h3, h4⟩ := ih k ((d : Int) - 1) (by omega) (by omega) (by omega) (by
        have h5 : d < (l.take i).length := by rw [List.length_take]; omega
        rw [List.drop_eq_getElem_cons h5, List.mem_cons, List.getElem_take]
        rintro (h | h)
        · exact e h.symm
        · exact hno h)
      exact ⟨k', by omega, by omega, h4⟩
theorem spec_outer (l : List Int) (hb : l.length < 1000) (d : Nat) : ∀ (k n : Nat), n + d = l.length → 1003 * d < k →
    spec_DistancesOf.l0 k l (distL l n) l (l.length : Int) (n : Int) = some (distL l l.length, true) := by
  induction d with
  | zero =>
    intro k n hn hk
    obtain ⟨k, rfl⟩ : ∃ m, k = m + 1 := ⟨k - 1, by omega⟩
    have c : ¬ (n : Int) < (l.length : Int) := by omega
    simp only [spec_DistancesOf.l0]; rw [if_neg c, show n = l.length by omega]
  | succ d ih =>
    intro k n hn hk
    obtain ⟨k, rfl⟩ : ∃ m, k = m + 1 := ⟨k - 1, by omega⟩
    have h1 : n < l.length := by omega
    have c1 : (n : Int) < (l.length : Int) := by omega
    have c0 : (0 : Int) ≤ (n : Int) := by omega
    have hl := distL_length l n
    simp only [spec_DistancesOf.l0]
    rw [if_pos c1, if_pos c0, if_pos c1, rd_nat l n h1, w64 (by omega) (by omega)]
    obtain ⟨k', h2, h3, h4⟩ := spec_inner l (distL l n) n h1 (by omega) (by omega) n k ((n : Int) - 1) (by omega) (Nat.le_refl _) (by omega) (by
      rw [List.drop_of_length_le (by rw [List.length_take]; omega)]; simp)
    rw [h4]
    have e : distL l n ++ [distAt (l.take n).reverse l[n]] = distL l (n + 1) := by rw [distL_succ, getD_get l n h1]
    rw [e]
    exact ih k' (n + 1) (by omega) (by omega)

/-! Hits of each size -/
def F41 (f : Nat → Int) : List Int := (List.range 41).map f
theorem F41_length (f : Nat → Int) : (F41 f).length = 41 := by unfold F41; simp
theorem F41_rd (f : Nat → Int) (j : Nat) (h : j < 41) : rd (F41 f) (j : Int) = f j := by
  rw [rd_nat _ j (by rw [F41_length]; exact h)]; unfold F41; simp
theorem F41_congr (f g : Nat → Int) (h : ∀ s, s < 41 → f s = g s) : F41 f = F41 g := by
  unfold F41
  exact List.map_congr_left (fun s hs => h s (List.mem_range.mp hs))
theorem F41_get (f : Nat → Int) (i : Nat) (h : i < (F41 f).length) : (F41 f)[i] = f i := by
  simp [F41]
theorem F41_set (f : Nat → Int) (j : Nat) (v : Int) : (F41 f).set j v = F41 (fun s => if s = j then v else f s) := by
  apply List.ext_getElem
  · rw [List.length_set, F41_length, F41_length]
  · intro i h1 h2
    rw [List.getElem_set, F41_get, F41_get]
    by_cases e : j = i
    · rw [if_pos e, if_pos e.symm]
    · rw [if_neg e, if_neg (fun h : i = j => e h.symm)]
def hitAt (D : List Int) (s : Nat) : Int := (D.countP (fun d => decide (0 < d) && decide (d ≤ (s : Int))) : Nat)
theorem hitAt_range (D : List Int) (s : Nat) : 0 ≤ hitAt D s ∧ hitAt D s ≤ D.length := by
  unfold hitAt
  have := List.countP_le_length (p := fun d => decide (0 < d) && decide (d ≤ (s : Int))) (l := D)
  omega
theorem hitAt_snoc (D : List Int) (d : Int) (s : Nat) : hitAt (D ++ [d]) s = hitAt D s + if (decide (0 < d) && decide (d ≤ (s : Int))) = true then 1 else 0 := by
  unfold hitAt
  rw [List.countP_append, List.countP_singleton]
  split <;> simp
theorem hits_inner (D : List Int) (n : Nat) (hn : n < 1000000) (d : Int) (hd : 0 < d) (e : Nat) : ∀ (k j : Nat) (f : Nat → Int), j + e = 41 ∨ 41 ≤ j ∧ e = 0 → e < k → (∀ s, j ≤ s → 0 ≤ f s ∧ f s ≤ 1000000) →
    impl_HitsOf.l1 k (F41 f) d (j : Int) D (D.length : Int) (n : Int) = impl_HitsOf.l0 (k - e - 1) (F41 (fun s => if j ≤ s then f s + 1 else f s)) D (D.length : Int) ((n + 1 : Nat) : Int) := by
  induction e with
  | zero =>
    intro k j f hj hk hf
    obtain ⟨k, rfl⟩ : ∃ m, k = m + 1 := ⟨k - 1, by omega⟩
    have c : ¬ (j : Int) ≤ 40 := by omega
    simp only [impl_HitsOf.l1]
    rw [if_neg c, w64 (by omega) (by omega), succ_cast, F41_congr f (fun s => if j ≤ s then f s + 1 else f s) (fun s hs => by rw [if_neg (by omega)])]
    rfl
  | succ e ih =>
    intro k j f hj hk hf
    obtain ⟨k, rfl⟩ : ∃ m, k = m + 1 := ⟨k - 1, by omega⟩
    have c : (j : Int) ≤ 40 := by omega
    have hl := F41_length f
    have hfj := hf j (Nat.le_refl _)
    simp only [impl_HitsOf.l1]
    rw [if_pos c, if_pos (show d > 0 from hd), if_pos (by omega), if_pos (by omega), F41_rd f j (by omega), Int.toNat_natCast, F41_set, w64 (x := f j + 1) (by omega) (by omega), w64 (x := (j : Int) + 1) (by omega) (by omega), succ_cast,
      ih k (j + 1) (fun s => if s = j then f j + 1 else f s) (by omega) (by omega) (fun s hs => by rw [if_neg (by omega)]; exact hf s (by omega)), show k - e - 1 = k + 1 - (e + 1) - 1 by omega]
    congr 1
    apply F41_congr
    intro s hs
    by_cases e1 : s = j
    · subst e1; rw [if_neg (by omega), if_pos rfl, if_pos (Nat.le_refl _)]
    · by_cases e2 : j ≤ s
      · rw [if_pos (by omega), if_neg e1, if_pos e2]
      · rw [if_neg (by omega), if_neg e1, if_neg e2]
theorem hits_outer (D : List Int) (hD : ∀ x ∈ D, 0 ≤ x ∧ x ≤ 100) (hb : D.length < 1000) (d : Nat) : ∀ (k n : Nat), n + d = D.length → 50 * d < k →
    impl_HitsOf.l0 k (F41 (hitAt (D.take n))) D (D.length : Int) (n : Int) = some (F41 (hitAt D), true) := by
  induction d with
  | zero =>
    intro k n hn hk
    obtain ⟨k, rfl⟩ : ∃ m, k = m + 1 := ⟨k - 1, by omega⟩
    have c : ¬ (n : Int) < (D.length : Int) := by omega
    simp only [impl_HitsOf.l0]; rw [if_neg c, List.take_of_length_le (by omega)]
  | succ d ih =>
    intro k n hn hk
    obtain ⟨k, rfl⟩ : ∃ m, k = m + 1 := ⟨k - 1, by omega⟩
    have h1 : n < D.length := by omega
    have c1 : (n : Int) < (D.length : Int) := by omega
    have c0 : (0 : Int) ≤ (n : Int) := by omega
    have hd := hD D[n] (List.getElem_mem h1)
    have ht : D.take (n + 1) = D.take n ++ [D[n]] := List.take_succ_eq_append_getElem h1
    simp only [impl_HitsOf.l0]
    rw [if_pos c1, if_pos c0, if_pos c1, rd_nat D n h1]
    by_cases c : 0 < D[n]
    · have hm : mx D[n] 1 = ((D[n].toNat : Nat) : Int) := by unfold mx; rw [if_neg (by omega)]; omega
      obtain ⟨e, he⟩ : ∃ e, e = 41 - D[n].toNat := ⟨_, rfl⟩
      rw [hm, hits_inner D n (by omega) D[n] c e k D[n].toNat _ (by omega) (by omega) (fun s _ => by have := hitAt_range (D.take n) s; rw [List.length_take] at this; omega)]
      have hF : F41 (fun s => if D[n].toNat ≤ s then hitAt (D.take n) s + 1 else hitAt (D.take n) s) = F41 (hitAt (D.take (n + 1))) := by
        apply F41_congr
        intro s hs
        rw [ht, hitAt_snoc, decide_eq_true c, Bool.true_and]
        by_cases c2 : D[n].toNat ≤ s
        · rw [if_pos c2, if_pos (decide_eq_true (by omega))]
        · rw [if_neg c2, if_neg (by simp; omega)]; omega
      rw [hF]
      exact ih _ (n + 1) (by omega) (by omega)
    · have hm : mx D[n] 1 = 1 := by unfold mx; rw [if_pos (by omega)]
      rw [hm]
      obtain ⟨k, rfl⟩ : ∃ m, k = m + 1 := ⟨k - 1, by omega⟩
      simp only [impl_HitsOf.l1]
      rw [if_pos (by omega), if_neg (show ¬ D[n] > 0 from c), w64 (by omega) (by omega), succ_cast]
      have hF : F41 (hitAt (D.take n)) = F41 (hitAt (D.take (n + 1))) := by
        apply F41_congr
        intro s hs
        rw [ht, hitAt_snoc, decide_eq_false c, Bool.false_and, if_neg (by decide)]; omega
      rw [hF]
      exact ih _ (n + 1) (by omega) (by omega)

theorem spec_hits_inner (D : List Int) (hb : D.length < 1000) (s : Nat) (hs : s < 41) (e : Nat) : ∀ (k n : Nat) (f : Nat → Int), n + e = D.length → e < k → f s = hitAt (D.take n) s →
    spec_HitsOf.l1 k D (F41 f) (s : Int) 41 (s : Int) D (D.length : Int) (n : Int) = spec_HitsOf.l0 (k - e - 1) D (F41 (fun t => if t = s then hitAt D s else f t)) 41 ((s + 1 : Nat) : Int) := by
  induction e with
  | zero =>
    intro k n f hn hk hf
    obtain ⟨k, rfl⟩ : ∃ m, k = m + 1 := ⟨k - 1, by omega⟩
    have c : ¬ (n : Int) < (D.length : Int) := by omega
    simp only [spec_HitsOf.l1]
    rw [if_neg c, w64 (by omega) (by omega), succ_cast, F41_congr f (fun t => if t = s then hitAt D s else f t) (fun t ht => by
      by_cases e : t = s
      · rw [if_pos e, e, hf, List.take_of_length_le (by omega)]
      · rw [if_neg e])]
    rfl
  | succ e ih =>
    intro k n f hn hk hf
    obtain ⟨k, rfl⟩ : ∃ m, k = m + 1 := ⟨k - 1, by omega⟩
    have h1 : n < D.length := by omega
    have c1 : (n : Int) < (D.length : Int) := by omega
    have c0 : (0 : Int) ≤ (n : Int) := by omega
    have hl := F41_length f
    have ht : D.take (n + 1) = D.take n ++ [D[n]] := List.take_succ_eq_append_getElem h1
    have hr := hitAt_range (D.take n) s
    rw [List.length_take] at hr
    have hsn := hitAt_snoc (D.take n) D[n] s
    rw [← ht] at hsn
    simp only [spec_HitsOf.l1]
    rw [if_pos c1, if_pos c0, if_pos c1, rd_nat D n h1, w64 (x := (n : Int) + 1) (by omega) (by omega), succ_cast, show k + 1 - (e + 1) - 1 = k - e - 1 by omega]
    by_cases p1 : D[n] > 0
    · rw [if_pos p1]
      by_cases p2 : D[n] ≤ (s : Int)
      · rw [if_pos p2, if_pos (by omega), if_pos (by omega), F41_rd f s hs, Int.toNat_natCast, F41_set, w64 (x := f s + 1) (by omega) (by omega), ih k (n + 1) _ (by omega) (by omega) (by
          simp only [if_true]
          rw [hsn, decide_eq_true (show 0 < D[n] from p1), decide_eq_true p2, hf]; simp)]
        congr 1
        apply F41_congr
        intro t ht2
        by_cases e1 : t = s
        · rw [if_pos e1, if_pos e1]
        · rw [if_neg e1, if_neg e1, if_neg e1]
      · rw [if_neg p2]
        exact ih k (n + 1) f (by omega) (by omega) (by rw [hsn, decide_eq_false p2, Bool.and_false, hf]; simp)
    · rw [if_neg p1]
      exact ih k (n + 1) f (by omega) (by omega) (by rw [hsn, decide_eq_false (show ¬ 0 < D[n] from p1), Bool.false_and, hf]; simp)
theorem spec_hits_outer (D : List Int) (hb : D.length < 1000) (d : Nat) : ∀ (k s : Nat), s + d = 41 → 1002 * d < k →
    spec_HitsOf.l0 k D (F41 (fun t => if t < s then hitAt D t else 0)) 41 (s : Int) = some (F41 (hitAt D), true) := by
  induction d with
  | zero =>
    intro k s hs hk
    obtain ⟨k, rfl⟩ : ∃ m, k = m + 1 := ⟨k - 1, by omega⟩
    have c : ¬ (s : Int) < 41 := by omega
    simp only [spec_HitsOf.l0]; rw [if_neg c, F41_congr _ (hitAt D) (fun t ht => by rw [if_pos (by omega)])]
  | succ d ih =>
    intro k s hs hk
    obtain ⟨k, rfl⟩ : ∃ m, k = m + 1 := ⟨k - 1, by omega⟩
    have c : (s : Int) < 41 := by omega
    simp only [spec_HitsOf.l0]
    rw [if_pos c]
    have h := spec_hits_inner D hb s (by omega) D.length k 0 (fun t => if t < s then hitAt D t else 0) (by omega) (by omega) (by simp [hitAt])
    rw [show ((0 : Nat) : Int) = 0 from rfl] at h
    rw [h, F41_congr _ (fun t => if t < s + 1 then hitAt D t else 0) (fun t ht => by
      by_cases e1 : t = s
      · rw [if_pos e1, if_pos (by omega), e1]
      · by_cases e2 : t < s
        · rw [if_neg e1, if_pos e2, if_pos (by omega)]
        · rw [if_neg e1, if_neg e2, if_neg (by omega)])]
    exact ih _ (s + 1) (by omega) (by omega)
theorem replicate41 : (List.replicate 41 (0 : Int)) = F41 (fun _ => 0) := by
  unfold F41
  simp [List.map_const']

/-! What the exact laws do with lists -/
theorem goodB_len (l : List Int) (h : goodB l = true) : l.length ≤ 200 := by
  unfold goodB at h
  simp only [Bool.and_eq_true, decide_eq_true_eq] at h
  exact h.1

/-! The cursor that draws an argument out of bytes -/
theorem and255 (y : Int) (h0 : 0 ≤ y) (h1 : y < 18446744073709551616) : bits .and .u64 y 255 = y % 256 := bits_mask .u64 64 (by decide) wraps_u64 8 (by decide) y h0 h1
theorem and255_range (s : Int) : 0 ≤ bits .and .u64 ((IntKind.u64.wrap s) / 1099511627776) 255 ∧ bits .and .u64 ((IntKind.u64.wrap s) / 1099511627776) 255 ≤ 255 := by
  have h : IntKind.u64.wrap s = s % 18446744073709551616 := IntKind.wrap_u64 s
  rw [h, and255 _ (by omega) (by omega)]
  omega
theorem rd_byte (l : List Int) (hc : ∀ x ∈ l, 0 ≤ x ∧ x ≤ 255) (i : Int) (h0 : 0 ≤ i) (h1 : i < l.length) : 0 ≤ rd l i ∧ rd l i ≤ 255 := by
  obtain ⟨n, rfl⟩ : ∃ n : Nat, i = (n : Int) := ⟨i.toNat, by omega⟩
  rw [rd_nat l n (by omega)]
  exact hc _ (List.getElem_mem _)
theorem next_ok (code : List Int) (hc : ∀ x ∈ code, 0 ≤ x ∧ x ≤ 255) (hb : code.length < 4611686018427387904) (a s : Int) (h0 : 0 ≤ a) (h1 : a < 4611686018427387904) :
    ∃ b s', spec_l1Cur_next.f code a s = some (b, a + 1, s') ∧ 0 ≤ b ∧ b ≤ 255 := by
  have hw : wrap64 (a + 1) = a + 1 := w64 (by omega) (by omega)
  unfold spec_l1Cur_next.f
  rw [hw]
  by_cases c : a < (code.length : Int)
  · have hr := rd_byte code hc a h0 c
    rw [if_pos c, if_pos h0, if_pos (by omega)]
    exact ⟨_, _, rfl, by rw [w64 (by omega) (by omega)]; exact hr⟩
  · rw [if_neg c, if_neg (by omega)]
    refine ⟨_, _, rfl, ?_⟩
    have hr := and255_range ((IntKind.u64.wrap (IntKind.u64.wrap (s * 6364136223846793005))) + 1442695040888963407)
    rw [w64 (by omega) (by omega)]
    exact hr
theorem tmod_range (x n : Int) (h : 0 ≤ x) (hn : 0 < n) : 0 ≤ Int.tmod x n ∧ Int.tmod x n < n := ⟨Int.tmod_nonneg n h, Int.tmod_lt_of_pos x hn⟩
theorem pick_ok (code : List Int) (hc : ∀ x ∈ code, 0 ≤ x ∧ x ≤ 255) (hb : code.length < 4611686018427387904) (a s n : Int) (h0 : 0 ≤ a) (h1 : a < 4611686018427380000) :
    ∃ v a' s', spec_l1Cur_pick.f code a s n = some (v, a', s') ∧ 0 ≤ v ∧ (v < n ∨ v = 0) ∧ a ≤ a' ∧ a' ≤ a + 2 := by
  unfold spec_l1Cur_pick.f
  by_cases c : n ≤ 1
  · rw [if_pos c]
    exact ⟨0, a, s, rfl, by omega, by omega, by omega, by omega⟩
  · rw [if_neg c]
    obtain ⟨b, s1, e1, hb0, hb1⟩ := next_ok code hc hb a s h0 (by omega)
    rw [e1, Option.bind_some]
    by_cases c2 : n > 200
    · rw [if_pos c2]
      obtain ⟨b2, s2, e2, hb2, hb3⟩ := next_ok code hc hb (a + 1) s1 (by omega) (by omega)
      try dsimp only
      rw [e2, Option.bind_some, if_neg (by omega)]
      have hw1 : wrap64 (b * 256) = b * 256 := w64 (by omega) (by omega)
      have hw2 : wrap64 (b * 256 + b2) = b * 256 + b2 := w64 (by omega) (by omega)
      have hr := tmod_range (b * 256 + b2) n (by omega) (by omega)
      refine ⟨_, _, _, rfl, ?_⟩
      simp only [hw1, hw2]
      exact ⟨hr.1, Or.inl hr.2, by omega, by omega⟩
    · rw [if_neg c2, if_neg (by omega)]
      have hr := tmod_range b n (by omega) (by omega)
      refine ⟨_, _, _, rfl, hr.1, Or.inl hr.2, ?_, ?_⟩ <;> dsimp only <;> omega
theorem one_ok (code : List Int) (hc : ∀ x ∈ code, 0 ≤ x ∧ x ≤ 255) (hb : code.length < 4611686018427387904) (a s n : Int) (h0 : 0 ≤ a) (h1 : a < 4611686018427380000) :
    ∃ v a' s', spec_l1Cur_one.f code a s n = some (v, a', s') ∧ a ≤ a' ∧ a' ≤ a + 2 := by
  unfold spec_l1Cur_one.f
  obtain ⟨v, a', s', e, h⟩ := pick_ok code hc hb a s n h0 h1
  rw [e, Option.bind_some]
  exact ⟨_, _, _, rfl, h.2.2⟩
theorem among_ok (code : List Int) (hc : ∀ x ∈ code, 0 ≤ x ∧ x ≤ 255) (hb : code.length < 4611686018427387904) (l : List Int) (hl : 0 < l.length) (a s : Int) (h0 : 0 ≤ a) (h1 : a < 4611686018427380000) :
    ∃ v a' s', spec_l1Cur_among.f code a s l = some (v, a', s') ∧ v ∈ l ∧ a ≤ a' ∧ a' ≤ a + 2 := by
  unfold spec_l1Cur_among.f
  obtain ⟨v, a', s', e, h⟩ := pick_ok code hc hb a s (l.length : Int) h0 h1
  rw [e, Option.bind_some, if_pos h.1]
  have c : v < (l.length : Int) := by omega
  try dsimp only
  rw [if_pos c]
  refine ⟨_, _, _, rfl, ?_, h.2.2⟩
  obtain ⟨n, rfl⟩ : ∃ n : Nat, v = (n : Int) := ⟨v.toNat, by omega⟩
  try dsimp only
  rw [rd_nat l n (by omega)]
  exact List.getElem_mem _

/-! References drawn -/
theorem refs_loop (code : List Int) (hc : ∀ x ∈ code, 0 ≤ x ∧ x ≤ 255) (hb : code.length < 4611686018427387904) (x5 : Int) (d : Nat) : ∀ (l : List Int) (a s : Int), l.length + d ≤ 1000 → 0 ≤ a → a + 2 * d ≤ 4000 →
    ∃ l' a' s', l'.length ≤ l.length + d ∧ 0 ≤ a' ∧ a' ≤ a + 2 * d + 4 ∧ ∀ k, d < k → spec_l1Cur_refs.l0 k l (d : Int) x5 code a s = some (l', a', s') := by
  induction d with
  | zero =>
    intro l a s hl h0 h1
    by_cases c : (l.length : Int) > 0
    · obtain ⟨b, a1, s1, e1, h2⟩ := one_ok code hc hb a s 40 h0 (by omega)
      cases b with
      | false =>
        refine ⟨l, a1, s1, by omega, by omega, by omega, fun k hk => ?_⟩
        obtain ⟨k, rfl⟩ : ∃ m, k = m + 1 := ⟨k - 1, by omega⟩
        simp only [spec_l1Cur_refs.l0]
        rw [if_neg (by omega), if_pos c, e1, Option.bind_some, if_neg Bool.false_ne_true]
      | true =>
        obtain ⟨v, a2, s2, e2, _, h3⟩ := among_ok code hc hb [-1, 99, 100] (by decide) a1 s1 (by omega) (by omega)
        refine ⟨l.set (0 : Int).toNat v, a2, s2, by rw [List.length_set]; omega, by omega, by omega, fun k hk => ?_⟩
        obtain ⟨k, rfl⟩ : ∃ m, k = m + 1 := ⟨k - 1, by omega⟩
        simp only [spec_l1Cur_refs.l0]
        rw [if_neg (by omega), if_pos c, e1, Option.bind_some, if_pos rfl, e2, Option.bind_some, if_pos (by omega)]
    · refine ⟨l, a, s, by omega, by omega, by omega, fun k hk => ?_⟩
      obtain ⟨k, rfl⟩ : ∃ m, k = m + 1 := ⟨k - 1, by omega⟩
      simp only [spec_l1Cur_refs.l0]
      rw [if_neg (by omega), if_neg c]
  | succ d ih =>
    intro l a s hl h0 h1
    obtain ⟨v, a1, s1, e1, _, _, h2⟩ := pick_ok code hc hb a s x5 h0 (by omega)
    obtain ⟨l', a', s', g1, g2, g3, g4⟩ := ih (l ++ [v]) a1 s1 (by rw [List.length_append, List.length_singleton]; omega) (by omega) (by omega)
    rw [List.length_append, List.length_singleton] at g1
    refine ⟨l', a', s', by omega, g2, by omega, fun k hk => ?_⟩
    obtain ⟨k, rfl⟩ : ∃ m, k = m + 1 := ⟨k - 1, by omega⟩
    simp only [spec_l1Cur_refs.l0]
    rw [if_pos (by omega), e1, Option.bind_some, if_pos (by omega), w64 (x := ((d + 1 : Nat) : Int) - 1) (by omega) (by omega), show ((d + 1 : Nat) : Int) - 1 = (d : Int) by omega]
    exact g4 k (by omega)
theorem refs_j0 (code : List Int) (hc : ∀ x ∈ code, 0 ≤ x ∧ x ≤ 255) (hb : code.length < 4611686018427387904) (n : Int) (h0 : 0 ≤ n) (h1 : n ≤ 300) (a s : Int) (ha : 0 ≤ a) (ha1 : a ≤ 100) :
    ∃ l' a' s', l'.length ≤ 300 ∧ 0 ≤ a' ∧ a' ≤ 1000 ∧ ∀ k, 400 < k → spec_l1Cur_refs.j0 k [] n code a s = some (l', a', s') := by
  obtain ⟨d, rfl⟩ : ∃ d : Nat, n = (d : Int) := ⟨n.toNat, by omega⟩
  obtain ⟨v, a1, s1, e1, _, _, h2⟩ := pick_ok code hc hb a s 9 ha (by omega)
  obtain ⟨b, a2, s2, e2, h3⟩ := one_ok code hc hb a1 s1 20 (by omega) (by omega)
  obtain ⟨x5, hx⟩ : ∃ x5 : Int, x5 = if b = true then 60 else wrap64 (1 + v) := ⟨_, rfl⟩
  obtain ⟨l', a', s', g1, g2, g3, g4⟩ := refs_loop code hc hb x5 d [] a2 s2 (by simp; omega) (by omega) (by omega)
  refine ⟨l', a', s', by simp at g1; omega, g2, by omega, fun k hk => ?_⟩
  obtain ⟨k, rfl⟩ : ∃ m, k = m + 2 := ⟨k - 2, by omega⟩
  simp only [spec_l1Cur_refs.j0]
  rw [e1, Option.bind_some, e2, Option.bind_some]
  have g := g4 k (by omega)
  cases b with
  | true => rw [if_pos rfl] at hx; subst hx; rw [if_pos rfl]; simp only [spec_l1Cur_refs.j1]; exact g
  | false => rw [if_neg Bool.false_ne_true] at hx; subst hx; rw [if_neg Bool.false_ne_true]; simp only [spec_l1Cur_refs.j1]; exact g
theorem refs_ok (code : List Int) (hc : ∀ x ∈ code, 0 ≤ x ∧ x ≤ 255) (hb : code.length < 4611686018427387904) (a s : Int) (ha : 0 ≤ a) (ha1 : a ≤ 50) :
    ∃ l' a' s', l'.length ≤ 300 ∧ 0 ≤ a' ∧ a' ≤ 1000 ∧ ∀ k, 400 < k → spec_l1Cur_refs.f k code a s = some (l', a', s') := by
  obtain ⟨v, a1, s1, e1, hv0, hv1, h2⟩ := pick_ok code hc hb a s 30 ha (by omega)
  obtain ⟨b, a2, s2, e2, h3⟩ := one_ok code hc hb a1 s1 12 (by omega) (by omega)
  unfold spec_l1Cur_refs.f
  simp only [e1, Option.bind_some, e2]
  cases b with
  | false =>
    obtain ⟨l', a', s', g⟩ := refs_j0 code hc hb v hv0 (by omega) a2 s2 (by omega) (by omega)
    exact ⟨l', a', s', g.1, g.2.1, g.2.2.1, fun k hk => by rw [if_neg Bool.false_ne_true]; exact g.2.2.2 k hk⟩
  | true =>
    obtain ⟨v2, a3, s3, e3, hw0, hw1, h4⟩ := pick_ok code hc hb a2 s2 12 (by omega) (by omega)
    obtain ⟨l', a', s', g⟩ := refs_j0 code hc hb (wrap64 (190 + v2)) (by rw [w64 (by omega) (by omega)]; omega) (by rw [w64 (by omega) (by omega)]; omega) a3 s3 (by omega) (by omega)
    exact ⟨l', a', s', g.1, g.2.1, g.2.2.1, fun k hk => by rw [if_pos rfl, e3, Option.bind_some]; exact g.2.2.2 k hk⟩

/-! The laws' sameInts, of a row with itself -/
theorem sameInts_loop (l : List Int) (hb : l.length < 4611686018427387904) (d : Nat) : ∀ (k n : Nat), n + d = l.length → d < k →
    laws_sameInts.l0 k l l (l.length : Int) (n : Int) = some true := by
  induction d with
  | zero =>
    intro k n hn hk
    obtain ⟨k, rfl⟩ : ∃ m, k = m + 1 := ⟨k - 1, by omega⟩
    simp only [laws_sameInts.l0]; rw [if_neg (by omega)]
  | succ d ih =>
    intro k n hn hk
    obtain ⟨k, rfl⟩ : ∃ m, k = m + 1 := ⟨k - 1, by omega⟩
    simp only [laws_sameInts.l0]
    rw [if_pos (by omega), if_pos (by omega), if_pos (by omega), if_pos (by omega), if_pos trivial, w64 (x := (n : Int) + 1) (by omega) (by omega), succ_cast]
    exact ih k (n + 1) (by omega) (by omega)
theorem sameInts_f (l : List Int) (hb : l.length < 4611686018427387904) (k : Nat) (hk : l.length < k) : laws_sameInts.f k l l = some true := by
  unfold laws_sameInts.f
  rw [if_pos rfl]
  exact sameInts_loop l hb l.length k 0 (by omega) hk

/-! A smaller stack is the top of a larger one -/
theorem erase_take (p : Int) (L : List Int) : ∀ (n : Nat), ((L.take (n + 1)).erase p).take n = (L.erase p).take n := by
  induction L with
  | nil => intro n; simp
  | cons x L ih =>
    intro n
    rw [List.take_succ_cons, List.erase_cons, List.erase_cons]
    by_cases e : (x == p) = true
    · rw [if_pos e, if_pos e, List.take_take, Nat.min_self]
    · rw [if_neg e, if_neg e]
      cases n with
      | zero => rfl
      | succ n => rw [List.take_succ_cons, List.take_succ_cons, ih]
theorem touch_top (L : List Int) (p : Int) (s : Nat) : touchL (L.take s) p s = (p :: L.erase p).take s := by
  unfold touchL
  cases s with
  | zero => rfl
  | succ n => rw [List.take_succ_cons, List.take_succ_cons, erase_take]
theorem touch_take (s t : Nat) (h : s ≤ t) (L : List Int) (p : Int) : touchL (L.take s) p s = (touchL L p t).take s := by
  rw [touch_top]
  unfold touchL
  rw [List.take_take, Nat.min_eq_left h]
theorem contains_take (s : Nat) (L : List Int) (p : Int) (h : (L.take s).contains p = true) : L.contains p = true :=
  List.contains_iff_mem.mpr (List.mem_of_mem_take (List.contains_iff_mem.mp h))
theorem play_take (s t : Nat) (h : s ≤ t) (l : List Int) : ∀ (L : List Int) (h1 h2 : Int), h1 ≤ h2 →
    (playL false s l (L.take s) h1).1 = (playL false t l L h2).1.take s ∧ (playL false s l (L.take s) h1).2 ≤ (playL false t l L h2).2 := by
  induction l with
  | nil => intro L h1 h2 hh; exact ⟨rfl, hh⟩
  | cons p ps ih =>
    intro L h1 h2 hh
    unfold playL
    simp only [Bool.false_eq_true, if_false]
    rw [touch_take s t h L p]
    by_cases c1 : (L.take s).contains p = true
    · rw [if_pos c1, if_pos (contains_take s L p c1)]
      exact ih _ _ _ (by omega)
    · rw [if_neg c1]
      by_cases c2 : L.contains p = true
      · rw [if_pos c2]; exact ih _ _ _ (by omega)
      · rw [if_neg c2]; exact ih _ _ _ (by omega)

/-! PlayLru, both ways -/
def lruV (l : List Int) (s : Int) : List Int × Int × Bool := if (goodB l && (decide (0 ≤ s) && decide (s ≤ 40))) = true then ((playL false s.toNat l [] 0).1, (playL false s.toNat l [] 0).2, true) else ([], 0, false)
theorem lru_impl (l : List Int) (s : Int) (hb : l.length < 1000000) (k : Nat) (hk : l.length + 1000 < k) : impl_PlayLru.f k l s = some (lruV l s) := by
  unfold impl_PlayLru.f lruV
  rw [goodRefs_impl l (by omega), isSize_f, Option.bind_some]
  cases hg : goodB l with
  | false => rfl
  | true =>
    rw [if_pos rfl, Option.bind_some, Bool.true_and]
    by_cases c : (decide (0 ≤ s) && decide (s ≤ 40)) = true
    · have c2 : 0 ≤ s ∧ s ≤ 40 := by simpa using c
      rw [if_pos c, if_pos c, play_f l s false c2.1 (by omega) (by omega) k (by omega), Option.bind_some]
    · rw [if_neg c, if_neg c]
theorem lru_none (l : List Int) (s : Int) (h : goodB l = false) : lruV l s = ([], 0, false) := by unfold lruV; rw [h]; rfl
theorem lru_some (l : List Int) (s : Int) (h : goodB l = true) (h0 : 0 ≤ s) (h1 : s ≤ 40) : lruV l s = ((playL false s.toNat l [] 0).1, (playL false s.toNat l [] 0).2, true) := by
  unfold lruV; rw [h, if_pos (by simp; omega)]

/-! Hits of a store, told by distances -/
theorem take_findIdx (x : Int) (L : List Int) : ∀ (s : Nat), x ∈ L → (x ∈ L.take s ↔ L.findIdx (fun y => x == y) < s) := by
  induction L with
  | nil => intro s h; exact absurd h (by simp)
  | cons y L ih =>
    intro s h
    cases s with
    | zero => simp
    | succ s =>
      rw [List.take_succ_cons, List.findIdx_cons, List.mem_cons]
      by_cases e : x = y
      · subst e; simp
      · have h2 : x ∈ L := by rcases List.mem_cons.mp h with h | h; exact absurd h e; exact h
        have hb : (x == y) = false := beq_eq_false_iff_ne.mpr e
        rw [hb, ih s h2]
        simp only [e, false_or, cond_false]
        omega
theorem dist_in (R : List Int) (x : Int) (s : Nat) : ((stackOf R).take s).contains x = (decide (0 < distAt R x) && decide (distAt R x ≤ (s : Int))) := by
  unfold distAt
  by_cases c : R.contains x = true
  · have h1 : x ∈ stackOf R := (mem_stackOf R x).mpr (List.contains_iff_mem.mp c)
    have h2 := take_findIdx x (stackOf R) s h1
    rw [if_pos c, decide_eq_true (show (0 : Int) < ((stackOf R).findIdx (fun y => x == y) : Int) + 1 by omega), Bool.true_and, Bool.eq_iff_iff, List.contains_iff_mem, h2, decide_eq_true_iff]
    omega
  · rw [if_neg c, decide_eq_false (show ¬ (0 : Int) < 0 by omega), Bool.false_and, Bool.eq_false_iff]
    intro h
    exact c (List.contains_iff_mem.mpr ((mem_stackOf R x).mp (List.mem_of_mem_take (List.contains_iff_mem.mp h))))
theorem play_hits (s : Nat) (l : List Int) (d : Nat) : ∀ (n : Nat), n + d = l.length →
    playL false s (l.drop n) ((stackOf (l.take n).reverse).take s) (hitAt (distL l n) s) = ((stackOf l.reverse).take s, hitAt (distL l l.length) s) := by
  induction d with
  | zero =>
    intro n hn
    obtain rfl : n = l.length := by omega
    rw [List.drop_length, List.take_length]
    rfl
  | succ d ih =>
    intro n hn
    have h1 : n < l.length := by omega
    have ht2 : (l.take (n + 1)).reverse = l[n] :: (l.take n).reverse := by rw [List.take_succ_eq_append_getElem h1, List.reverse_append]; rfl
    have hT : touchL ((stackOf (l.take n).reverse).take s) l[n] s = (stackOf (l.take (n + 1)).reverse).take s := by rw [touch_top, ht2]; rfl
    rw [← ih (n + 1) (by omega), List.drop_eq_getElem_cons h1, distL_succ, hitAt_snoc, getD_get l n h1, ← dist_in, ← hT]
    rw [playL]
    simp only [Bool.false_eq_true, if_false]
    by_cases c : ((stackOf (l.take n).reverse).take s).contains l[n] = true
    · rw [if_pos c, if_pos c]
    · rw [if_neg c, if_neg c, Int.add_zero]
theorem hits_of_play (s : Nat) (l : List Int) : (playL false s l [] 0).2 = hitAt (distL l l.length) s := by
  have h := play_hits s l l.length 0 (by omega)
  have e1 : ((stackOf (l.take 0).reverse).take s) = [] := by simp [stackOf]
  have e2 : hitAt (distL l 0) s = 0 := by simp [distL, hitAt]
  rw [e1, e2, List.drop_zero] at h
  rw [h]

theorem many_loop (l D : List Int) (N : Int) (hN : N = 41) (hb : D.length < 1000) (s : Nat) (hs : s < 41) (d : Nat) : ∀ (k n : Nat), n + d = D.length → d < k →
    laws_FnHits.l1 k l (F41 (hitAt D)) D (s : Int) (hitAt D s) true (hitAt (D.take n) s) N (s : Int) D (D.length : Int) (n : Int) = laws_FnHits.l0 (k - d - 1) l (F41 (hitAt D)) D N ((s + 1 : Nat) : Int) := by
  induction d with
  | zero =>
    intro k n hn hk
    obtain ⟨k, rfl⟩ : ∃ m, k = m + 1 := ⟨k - 1, by omega⟩
    have hF := F41_length (hitAt D)
    simp only [laws_FnHits.l1]
    rw [if_neg (by omega), List.take_of_length_le (by omega), F41_rd _ s hs, if_pos trivial, if_pos (by omega), if_pos (by omega), if_pos rfl, if_pos rfl, w64 (x := (s : Int) + 1) (by omega) (by omega), succ_cast]
    rfl
  | succ d ih =>
    intro k n hn hk
    obtain ⟨k, rfl⟩ : ∃ m, k = m + 1 := ⟨k - 1, by omega⟩
    have h1 : n < D.length := by omega
    have hr := hitAt_range (D.take n) s
    rw [List.length_take] at hr
    have ht : D.take (n + 1) = D.take n ++ [D[n]] := List.take_succ_eq_append_getElem h1
    have hi := ih k (n + 1) (by omega) (by omega)
    rw [ht, hitAt_snoc] at hi
    simp only [laws_FnHits.l1]
    rw [if_pos (by omega), if_pos (by omega), if_pos (by omega), rd_nat D n h1, w64 (x := (n : Int) + 1) (by omega) (by omega), succ_cast, show k + 1 - (d + 1) - 1 = k - d - 1 by omega, ← hi]
    by_cases c1 : 0 < D[n]
    · rw [if_pos (show D[n] > 0 from c1)]
      by_cases c2 : D[n] ≤ (s : Int)
      · rw [if_pos c2, decide_eq_true c1, decide_eq_true c2, w64 (by omega) (by omega)]; rfl
      · rw [if_neg c2, decide_eq_false c2, Bool.and_false, if_neg Bool.false_ne_true, Int.add_zero]
    · rw [if_neg (show ¬ D[n] > 0 from c1), decide_eq_false c1, Bool.false_and, if_neg Bool.false_ne_true, Int.add_zero]
theorem sizes_loop (l D : List Int) (hD : D = distL l l.length) (g : goodB l = true) (hb : l.length < 1000) (d : Nat) : ∀ (k n : Nat), n + d = 41 → 1002 * d + 2000 < k →
    laws_FnHits.l0 k l (F41 (hitAt D)) D 41 (n : Int) = some true := by
  have hl : D.length = l.length := by rw [hD, distL_length]
  induction d with
  | zero =>
    intro k n hn hk
    obtain ⟨k, rfl⟩ : ∃ m, k = m + 1 := ⟨k - 1, by omega⟩
    simp only [laws_FnHits.l0]
    rw [if_neg (by omega)]
  | succ d ih =>
    intro k n hn hk
    obtain ⟨k, rfl⟩ : ∃ m, k = m + 1 := ⟨k - 1, by omega⟩
    have hk2 : l.length + 1000 < k := by clear ih; omega
    have hn2 : n ≤ 40 := by clear ih; omega
    have hm := many_loop l D 41 rfl (by omega) n (by omega) D.length k 0 (by omega) (by omega)
    rw [List.take_zero, show hitAt [] n = 0 by simp [hitAt]] at hm
    simp only [laws_FnHits.l0]
    rw [if_pos (by omega), lru_impl l (n : Int) (by omega) k hk2, lru_some l (n : Int) g (by omega) (by omega), Option.bind_some]
    dsimp only
    rw [Int.toNat_natCast, hits_of_play, ← hD]
    exact hm.trans (ih _ (n + 1) (by omega) (by omega))
theorem FnHits : laws_FnHits.Pure := by
  intro code hm hs hw
  have hc := bytes_of code hw
  have hb : code.length < 4611686018427387904 := by omega
  by_cases big : (code.length : Int) > 1048576
  · exact ⟨0, by unfold laws_FnHits.f; rw [if_pos big]⟩
  obtain ⟨l, a1, s1, hl, ha0, ha1, hd⟩ := refs_ok code hc hb 0 0 (by omega) (by omega)
  obtain ⟨m, hk⟩ : ∃ m : Nat, 2000000 ≤ m := ⟨2000000, Nat.le_refl _⟩
  have e0 : ∀ j, spec_DrawHitsOf.f (m + j) code = some l := fun j => by
    unfold spec_DrawHitsOf.f spec_DrawGoodRefs.f; rw [hd (m + j) (by omega), Option.bind_some, Option.bind_some]
  have g1 := goodRefs_impl l (by omega)
  have g2 : ∀ j, spec_GoodRefs.f (m + j) l = some (goodB l) := fun j => goodRefs_spec l (by omega) (m + j) (by omega)
  obtain ⟨D, hDe⟩ : ∃ D, D = distL l l.length := ⟨_, rfl⟩
  have hlen : D.length = l.length := by rw [hDe, distL_length]
  by_cases g : goodB l = true
  · have hp := pages_of_good l g
    have hDr : ∀ x ∈ D, 0 ≤ x ∧ x ≤ 100 := by
      intro x hx
      rw [hDe] at hx
      unfold distL at hx
      obtain ⟨i, hi, rfl⟩ := List.mem_map.mp hx
      exact distAt_range _ _ (fun y hy => hp y (List.mem_of_mem_take (List.mem_reverse.mp hy)))
    have hF := F41_length (hitAt D)
    have d1 : ∀ j, impl_distances.f (m + j) l = some D := fun j => by rw [distances_f l (by omega) hp (m + j) (by omega), hDe]
    have d2 : ∀ j, impl_DistancesOf.f (m + j) l = some (D, true) := fun j => by
      unfold impl_DistancesOf.f; rw [g1, Option.bind_some, g, if_pos rfl, d1, Option.bind_some]
    have d3 : ∀ j, spec_DistancesOf.f (m + j) l = some (D, true) := fun j => by
      unfold spec_DistancesOf.f
      rw [g2, g, Option.bind_some, if_pos rfl]
      have hd := spec_outer l (by omega) l.length (m + j) 0 (by omega) (by omega)
      rw [hDe]
      exact hd
    have h1 : ∀ j, impl_HitsOf.f (m + j) l = some (F41 (hitAt D), true) := fun j => by
      unfold impl_HitsOf.f
      rw [g1, Option.bind_some, g, if_pos rfl, d1, Option.bind_some, if_pos (by omega), replicate41]
      have h := hits_outer D hDr (by omega) D.length (m + j) 0 (by omega) (by omega)
      have e0 : F41 (fun _ => (0 : Int)) = F41 (hitAt (D.take 0)) := F41_congr _ _ (fun s hs => by simp [hitAt])
      rw [e0]
      exact h
    have h2 : ∀ j, spec_HitsOf.f (m + j) l = some (F41 (hitAt D), true) := fun j => by
      unfold spec_HitsOf.f
      rw [d3, Option.bind_some]
      dsimp only
      rw [if_pos rfl, if_pos (by omega), replicate41, Option.bind_some, F41_length]
      exact spec_hits_outer D (by omega) 41 (m + j) 0 (by omega) (by omega)
    have q1 : ∀ j, laws_sameInts.f (m + j) D D = some true := fun j => sameInts_f D (by omega) (m + j) (by omega)
    have q2 : ∀ j, laws_sameInts.f (m + j) (F41 (hitAt D)) (F41 (hitAt D)) = some true := fun j => sameInts_f _ (by omega) (m + j) (by omega)
    have fin := sizes_loop l D hDe g (by omega) 41 (m + 4) 0 (by omega) (by omega)
    refine ⟨m + 5, ?_⟩
    unfold laws_FnHits.f
    rw [if_neg big, e0 5, Option.bind_some, h1 5, h2 5, d2 5, d3 5]
    simp only [Option.bind_some, bne_self_eq_false, Bool.false_eq_true, if_false, q1, q2, if_true, g1, g, laws_FnHits.j0, hF]
    exact fin
  · have g' : goodB l = false := by simpa using g
    have d2 : ∀ j, impl_DistancesOf.f (m + j) l = some ([], false) := fun j => by
      unfold impl_DistancesOf.f; rw [g1, Option.bind_some, g']; rfl
    have d3 : ∀ j, spec_DistancesOf.f (m + j) l = some ([], false) := fun j => by
      unfold spec_DistancesOf.f; rw [g2, g', Option.bind_some]; rfl
    have h1 : ∀ j, impl_HitsOf.f (m + j) l = some ([], false) := fun j => by
      unfold impl_HitsOf.f; rw [g1, Option.bind_some, g']; rfl
    have h2 : ∀ j, spec_HitsOf.f (m + j) l = some ([], false) := fun j => by
      unfold spec_HitsOf.f; rw [d3, Option.bind_some]; rfl
    have q : ∀ j, laws_sameInts.f (m + j) [] [] = some true := fun j => sameInts_f [] (by simp) (m + j) (by simp; omega)
    refine ⟨m + 5, ?_⟩
    unfold laws_FnHits.f
    rw [if_neg big, e0 5, Option.bind_some, h1 5, h2 5, d2 5, d3 5]
    simp only [Option.bind_some, bne_self_eq_false, Bool.false_eq_true, if_false, q, if_true, g1, g', laws_FnHits.j0]
    rfl

end Go.Proofs.Ytgpimekdfnpffaa.Pure
