/- The program's StackAfter returns what the reference's returns, in memory of its own. No conditions. -/
import Derived.Test.YtgkoclacdmmkiaaPFnExactStackAfterx3
set_option linter.unusedVariables false
set_option linter.unusedSimpArgs false
namespace Go.Proofs.Ytgkoclacdmmkiaa.Pure
open Go.RowKit Go.Proofs.Ytgkoclacdmmkiaa.PFnExactStackAfter Go.Proofs.YtgkoclacdmmkiaaW.PrintWords Go.Proofs.YtgkoclacdmmkiaaW.PrintLast

/-! Whole numbers and rows of them -/
theorem w64 {x : Int} (h : -9223372036854775808 ≤ x) (h2 : x < 9223372036854775808) : wrap64 x = x := by unfold wrap64; omega
theorem rd_nat (l : List Int) (n : Nat) (h : n < l.length) : rd l (n : Int) = l[n] := by
  unfold rd; simp [List.getD_eq_getElem?_getD, h]
theorem succ_cast (n : Nat) : ((n : Int) + 1) = ((n + 1 : Nat) : Int) := by omega

/-! The laws' eqIntS -/
theorem eqInts_loop (xs ys : List Int) (hl : xs.length = ys.length) (hb : xs.length < 4611686018427387904) (d : Nat) : ∀ (k n : Nat), n + d = xs.length → d < k →
    laws_eqIntS.l0 k xs ys (n : Int) = some (decide (xs.drop n = ys.drop n)) := by
  induction d with
  | zero =>
    intro k n hn hk
    obtain ⟨k, rfl⟩ : ∃ m, k = m + 1 := ⟨k - 1, by omega⟩
    have c : ¬ (n : Int) < (xs.length : Int) := by omega
    simp only [laws_eqIntS.l0]; rw [if_neg c, List.drop_of_length_le (by omega), List.drop_of_length_le (by omega), decide_eq_true rfl]
  | succ d ih =>
    intro k n hn hk
    obtain ⟨k, rfl⟩ : ∃ m, k = m + 1 := ⟨k - 1, by omega⟩
    have h1 : n < xs.length := by omega
    have h2 : n < ys.length := by omega
    have c1 : (n : Int) < (xs.length : Int) := by omega
    have c2 : (n : Int) < (ys.length : Int) := by omega
    have c0 : (0 : Int) ≤ (n : Int) := by omega
    simp only [laws_eqIntS.l0]
    rw [if_pos c1, if_pos c0, if_pos c2, rd_nat xs n h1, rd_nat ys n h2, List.drop_eq_getElem_cons h1, List.drop_eq_getElem_cons h2, w64 (by omega) (by omega), succ_cast, ih k (n + 1) (by omega) (by omega)]
    by_cases e : xs[n] = ys[n]
    · rw [if_pos e]
      exact congrArg some (decide_eq_decide.mpr (by rw [List.cons.injEq]; exact ⟨fun h => ⟨e, h⟩, fun h => h.2⟩))
    · rw [if_neg e]
      exact congrArg some (decide_eq_false (by rw [List.cons.injEq]; exact fun h => e h.1)).symm
theorem eqInts_f (xs ys : List Int) (hb : xs.length < 4611686018427387904) (k : Nat) (hk : xs.length < k) : laws_eqIntS.f k xs ys = some (decide (xs = ys)) := by
  unfold laws_eqIntS.f
  by_cases e : xs.length = ys.length
  · have c : (xs.length : Int) = (ys.length : Int) := by omega
    rw [if_pos c]
    have h := eqInts_loop xs ys e hb xs.length k 0 (by omega) hk
    simpa using h
  · have c : ¬ (xs.length : Int) = (ys.length : Int) := by omega
    have e2 : ¬ xs = ys := fun h => e (by rw [h])
    rw [if_neg c, decide_eq_false e2]

/-! The laws' toIntS: a copy -/
theorem toInts_loop (xs : List Int) (hb : xs.length < 4611686018427387904) (d : Nat) : ∀ (k n : Nat) (ys : List Int), ys.length = xs.length → n + d = xs.length → d < k →
    laws_toIntS.l0 k xs ys (n : Int) = some (ys.take n ++ xs.drop n) := by
  induction d with
  | zero =>
    intro k n ys hl hn hk
    obtain ⟨k, rfl⟩ : ∃ m, k = m + 1 := ⟨k - 1, by omega⟩
    have c : ¬ (n : Int) < (xs.length : Int) := by omega
    simp only [laws_toIntS.l0]; rw [if_neg c, List.take_of_length_le (by omega), List.drop_of_length_le (by omega), List.append_nil]
  | succ d ih =>
    intro k n ys hl hn hk
    obtain ⟨k, rfl⟩ : ∃ m, k = m + 1 := ⟨k - 1, by omega⟩
    have h1 : n < xs.length := by omega
    have h2 : n < ys.length := by omega
    have c1 : (n : Int) < (xs.length : Int) := by omega
    have c2 : (n : Int) < (ys.length : Int) := by omega
    have c0 : (0 : Int) ≤ (n : Int) := by omega
    simp only [laws_toIntS.l0]
    rw [if_pos c1, if_pos c0, if_pos c2, rd_nat xs n h1, w64 (by omega) (by omega), succ_cast, Int.toNat_natCast, ih k (n + 1) _ (by simp [hl]) (by omega) (by omega), List.drop_eq_getElem_cons h1]
    congr 1
    rw [List.take_add_one, List.take_set_of_le (by omega)]
    simp [h2]
theorem toInts_f (xs : List Int) (hb : xs.length * 8 ≤ 140737488351232) (k : Nat) (hk : xs.length < k) : laws_toIntS.f k xs = some xs := by
  unfold laws_toIntS.f
  rw [if_pos (by omega), if_pos (by omega)]
  have h := toInts_loop xs (by omega) xs.length k 0 (List.replicate ((xs.length : Int) : Int).toNat 0) (by simp) (by omega) hk
  simpa using h

/-! The laws' markIntS and heldIntS: numbers one after the other -/
def markL (a : Int) : Nat → List Int
  | 0 => []
  | n + 1 => a :: markL (a + 1) n
theorem markL_length (n : Nat) : ∀ a : Int, (markL a n).length = n := by
  induction n with
  | zero => intro a; rfl
  | succ n ih => intro a; simp [markL, ih]
theorem markL_get (n : Nat) : ∀ (a : Int) (i : Nat) (h : i < (markL a n).length), (markL a n)[i] = a + i := by
  induction n with
  | zero => intro a i h; simp [markL] at h
  | succ n ih =>
    intro a i h
    cases i with
    | zero => simp [markL]
    | succ i =>
      simp only [markL, List.getElem_cons_succ]
      rw [ih]; omega
theorem markInts_loop (m : Nat) (a : Int) (ha : 0 ≤ a) (hb : a + m < 4611686018427387904) (d : Nat) : ∀ (k n : Nat) (l : List Int), l.length = m → n + d = m → d < k →
    laws_markIntS.l0 k l (a + n) (n : Int) = some (a + m, l.take n ++ markL (a + n) d) := by
  induction d with
  | zero =>
    intro k n l hl hn hk
    obtain ⟨k, rfl⟩ : ∃ m, k = m + 1 := ⟨k - 1, by omega⟩
    have c : ¬ (n : Int) < (l.length : Int) := by omega
    simp only [laws_markIntS.l0]; rw [if_neg c, List.take_of_length_le (by omega)]; simp [markL]; omega
  | succ d ih =>
    intro k n l hl hn hk
    obtain ⟨k, rfl⟩ : ∃ m, k = m + 1 := ⟨k - 1, by omega⟩
    have c1 : (n : Int) < (l.length : Int) := by omega
    have c0 : (0 : Int) ≤ (n : Int) := by omega
    have h1 : n < l.length := by omega
    simp only [laws_markIntS.l0]
    rw [if_pos c1, if_pos c0, w64 (x := a + n + 1) (by omega) (by omega), w64 (x := (n : Int) + 1) (by omega) (by omega), succ_cast, show a + (n : Int) + 1 = a + ((n + 1 : Nat) : Int) by omega, Int.toNat_natCast,
      ih k (n + 1) (l.set n (a + n)) (by rw [List.length_set]; exact hl) (by omega) (by omega)]
    congr 2
    rw [List.take_add_one, List.take_set_of_le (by omega)]
    simp [markL, h1]
    congr 1; omega
theorem markInts_f (l : List Int) (a : Int) (ha : 0 ≤ a) (hb : a + l.length < 4611686018427387904) (k : Nat) (hk : l.length < k) : laws_markIntS.f k l a = some (a + l.length, markL a l.length) := by
  unfold laws_markIntS.f
  have h := markInts_loop l.length a ha hb l.length k 0 l rfl (by omega) hk
  simpa using h
theorem heldInts_loop (m : Nat) (a : Int) (ha : 0 ≤ a) (hb : a + m < 4611686018427387904) (d : Nat) : ∀ (k n : Nat), n + d = m → d < k →
    laws_heldIntS.l0 k (markL a m) (a + n) (n : Int) = some (a + m) := by
  induction d with
  | zero =>
    intro k n hn hk
    obtain ⟨k, rfl⟩ : ∃ m, k = m + 1 := ⟨k - 1, by omega⟩
    have hl := markL_length m a
    have c : ¬ (n : Int) < ((markL a m).length : Int) := by omega
    simp only [laws_heldIntS.l0]; rw [if_neg c]; congr 1; omega
  | succ d ih =>
    intro k n hn hk
    obtain ⟨k, rfl⟩ : ∃ m, k = m + 1 := ⟨k - 1, by omega⟩
    have hl := markL_length m a
    have c1 : (n : Int) < ((markL a m).length : Int) := by omega
    have c0 : (0 : Int) ≤ (n : Int) := by omega
    have h1 : n < (markL a m).length := by omega
    simp only [laws_heldIntS.l0]
    rw [if_pos c1, if_pos c0, rd_nat _ n h1, markL_get, if_pos rfl, w64 (x := a + n + 1) (by omega) (by omega), w64 (x := (n : Int) + 1) (by omega) (by omega), succ_cast, show a + (n : Int) + 1 = a + ((n + 1 : Nat) : Int) by omega]
    exact ih k (n + 1) (by omega) (by omega)
theorem heldInts_f (m : Nat) (a : Int) (ha : 0 ≤ a) (hb : a + m < 4611686018427387904) (k : Nat) (hk : m < k) : laws_heldIntS.f k (markL a m) a = some (a + m) := by
  unfold laws_heldIntS.f
  have h := heldInts_loop m a ha hb m k 0 (by omega) hk
  simpa using h

/-! The first place at which a predicate holds -/
theorem idxO_ge {α : Type} (p : α → Option Bool) (l : List α) : ∀ (n i : Int), 0 ≤ n → idxO p l n = some i → i = -1 ∨ n ≤ i := by
  induction l with
  | nil => intro n i hn h; left; exact (Option.some.inj h).symm
  | cons x xs ih =>
    intro n i hn h
    obtain ⟨b, hb, h2⟩ := Option.bind_eq_some_iff.mp h
    cases b with
    | true => right; have := Option.some.inj h2; omega
    | false => have := ih (n + 1) i (by omega) h2; omega
theorem idxO_all {α : Type} (p : α → Option Bool) (q : α → Bool) (h : ∀ x, p x = some (!q x)) (l : List α) : ∀ (n : Int), 0 ≤ n → ∃ i, idxO p l n = some i ∧ (!decide (i ≥ 0)) = l.all q := by
  induction l with
  | nil => intro n hn; exact ⟨-1, rfl, rfl⟩
  | cons x xs ih =>
    intro n hn
    unfold idxO
    rw [h x, Option.bind_some]
    cases hq : q x with
    | true =>
      obtain ⟨i, h1, h2⟩ := ih (n + 1) (by omega)
      exact ⟨i, h1, by rw [h2, List.all_cons, hq, Bool.true_and]⟩
    | false => exact ⟨n, rfl, by rw [List.all_cons, hq, Bool.false_and, decide_eq_true (show n ≥ 0 from hn)]; rfl⟩

/-! References: good ones -/
def pageB (x : Int) : Bool := decide (0 ≤ x) && decide (x ≤ 99)
def goodB (l : List Int) : Bool := decide (l.length ≤ 200) && l.all pageB
theorem within_f (a b c : Int) : impl_within.f a b c = some (decide (b ≤ a) && decide (a ≤ c)) := by
  unfold impl_within.f
  by_cases h : b ≤ a
  · rw [if_pos h, decide_eq_true h, Bool.true_and]
  · rw [if_neg h, decide_eq_false h, Bool.false_and]
theorem l1In_f (a b c : Int) : spec_l1In.f a b c = some (decide (b ≤ a) && decide (a ≤ c)) := by
  unfold spec_l1In.f
  by_cases h : b ≤ a
  · rw [if_pos h, decide_eq_true h, Bool.true_and]
  · rw [if_neg h, decide_eq_false h, Bool.false_and]
theorem isPage_f (x : Int) : impl_isPage.f x = some (pageB x) := by unfold impl_isPage.f; rw [within_f]; rfl
theorem goodRefs_impl (l : List Int) (hb : l.length < 9223372036854775807) : impl_GoodRefs.f l = some (goodB l) := by
  unfold impl_GoodRefs.f goodB
  by_cases c : l.length ≤ 200
  · have c2 : (l.length : Int) ≤ 200 := by omega
    rw [if_pos c2, decide_eq_true c, Bool.true_and]
    unfold xAll_i64_impl_isPage.f
    rw [if_pos hb]
    obtain ⟨i, h1, h2⟩ := idxO_all xAll_i64_impl_isPage.z pageB (fun x => by unfold xAll_i64_impl_isPage.z; rw [isPage_f]; rfl) l 0 (by omega)
    rw [h1, Option.bind_some, Option.bind_some, h2]
  · have c2 : ¬ (l.length : Int) ≤ 200 := by omega
    rw [if_neg c2, decide_eq_false c, Bool.false_and]
theorem goodRefs_loop (l : List Int) (hb : l.length < 4611686018427387904) (d : Nat) : ∀ (k n : Nat), n + d = l.length → d < k →
    spec_GoodRefs.l0 k l l (l.length : Int) (n : Int) = some ((l.drop n).all pageB && decide (l.length ≤ 200)) := by
  induction d with
  | zero =>
    intro k n hn hk
    obtain ⟨k, rfl⟩ : ∃ m, k = m + 1 := ⟨k - 1, by omega⟩
    have c : ¬ (n : Int) < (l.length : Int) := by omega
    simp only [spec_GoodRefs.l0]; rw [if_neg c, List.drop_of_length_le (by omega), List.all_nil, Bool.true_and]
    exact congrArg some (decide_eq_decide.mpr (by omega))
  | succ d ih =>
    intro k n hn hk
    obtain ⟨k, rfl⟩ : ∃ m, k = m + 1 := ⟨k - 1, by omega⟩
    have h1 : n < l.length := by omega
    have c1 : (n : Int) < (l.length : Int) := by omega
    have c0 : (0 : Int) ≤ (n : Int) := by omega
    simp only [spec_GoodRefs.l0]
    rw [if_pos c1, if_pos c0, if_pos c1, rd_nat l n h1, l1In_f, Option.bind_some, List.drop_eq_getElem_cons h1, List.all_cons, w64 (by omega) (by omega), succ_cast, ih k (n + 1) (by omega) (by omega)]
    cases hp : pageB l[n] with
    | true =>
      have hp' : (decide (0 ≤ l[n]) && decide (l[n] ≤ 99)) = true := hp
      rw [if_pos hp', Bool.true_and]
    | false =>
      have hp' : (decide (0 ≤ l[n]) && decide (l[n] ≤ 99)) = false := hp
      rw [hp', if_neg (by decide)]; rfl
theorem goodRefs_spec (l : List Int) (hb : l.length < 4611686018427387904) (k : Nat) (hk : l.length < k) : spec_GoodRefs.f k l = some (goodB l) := by
  unfold spec_GoodRefs.f goodB
  have h := goodRefs_loop l hb l.length k 0 (by omega) hk
  rw [Bool.and_comm]
  exact h

/-! A stack behind a reference -/
def touchL (st : List Int) (p : Int) (s : Nat) : List Int := (p :: st.erase p).take s
theorem touchL_length (st : List Int) (p : Int) (s : Nat) : (touchL st p s).length ≤ s := by unfold touchL; rw [List.length_take]; omega
theorem touchL_nodup (st : List Int) (p : Int) (s : Nat) (h : st.Nodup) : (touchL st p s).Nodup := by
  unfold touchL
  refine List.Nodup.sublist (List.take_sublist _ _) ?_
  exact List.nodup_cons.mpr ⟨fun hm => by rw [h.mem_erase_iff] at hm; exact hm.1 rfl, h.erase p⟩
theorem touch_f (st : List Int) (p s : Int) (h0 : 0 ≤ s) (hb : st.length < 10000) : impl_touch.f st p s = some (touchL st p s.toNat, st.contains p) := by
  unfold impl_touch.f touchL
  rw [if_pos hb, if_pos h0]

theorem l10Touch_loop (l : List Int) (p s : Int) (h0 : 0 ≤ s) (hb : l.length < 1000000) (d : Nat) : ∀ (k n : Nat) (out : List Int) (hit : Bool), n + d = l.length → d < k → out.length ≤ n + 1 →
    spec_l10Touch.l0 k p s out hit l (l.length : Int) (n : Int) = some ((out ++ (l.drop n).filter (fun x => x != p)).take s.toNat, hit || (l.drop n).contains p) := by
  induction d with
  | zero =>
    intro k n out hit hn hk ho
    obtain ⟨k, rfl⟩ : ∃ m, k = m + 1 := ⟨k - 1, by omega⟩
    have c : ¬ (n : Int) < (l.length : Int) := by omega
    simp only [spec_l10Touch.l0]; rw [if_neg c, List.drop_of_length_le (by omega), List.filter_nil, List.append_nil, List.contains_nil, Bool.or_false]
    by_cases c2 : (out.length : Int) > s
    · rw [if_pos c2, if_pos h0, if_pos (by omega)]
    · rw [if_neg c2, List.take_of_length_le (by omega)]
  | succ d ih =>
    intro k n out hit hn hk ho
    obtain ⟨k, rfl⟩ : ∃ m, k = m + 1 := ⟨k - 1, by omega⟩
    have h1 : n < l.length := by omega
    have c1 : (n : Int) < (l.length : Int) := by omega
    have c0 : (0 : Int) ≤ (n : Int) := by omega
    simp only [spec_l10Touch.l0]
    rw [if_pos c1, if_pos c0, if_pos c1, rd_nat l n h1, w64 (by omega) (by omega), succ_cast, List.drop_eq_getElem_cons h1, List.contains_cons]
    by_cases e : l[n] = p
    · rw [if_pos e, ih k (n + 1) out true (by omega) (by omega) (by omega), List.filter_cons_of_neg (by simp [e]), show (p == l[n]) = true from beq_iff_eq.mpr e.symm]
      simp
    · rw [if_neg e, if_pos (by omega), ih k (n + 1) _ hit (by omega) (by omega) (by simp; omega), List.filter_cons_of_pos (by simp [e]), show (p == l[n]) = false from beq_eq_false_iff_ne.mpr (fun h => e h.symm), Bool.false_or, List.append_assoc]
      rfl
theorem l10Touch_f (st : List Int) (p s : Int) (h0 : 0 ≤ s) (hb : st.length < 1000000) (hd : st.Nodup) (k : Nat) (hk : st.length < k) : spec_l10Touch.f k st p s = some (touchL st p s.toNat, st.contains p) := by
  unfold spec_l10Touch.f touchL
  have h := l10Touch_loop st p s h0 hb st.length k 0 [p] false (by omega) hk (by simp)
  rw [show ((0 : Nat) : Int) = 0 from rfl] at h
  rw [h, List.drop_zero, Bool.false_or, hd.erase_eq_filter]
  rfl

/-! References played -/
def playL (still : Bool) (s : Nat) : List Int → List Int → Int → List Int × Int
  | [], st, h => (st, h)
  | p :: ps, st, h => if st.contains p = true then playL still s ps (if still = true then st else touchL st p s) (h + 1) else playL still s ps (touchL st p s) h
theorem playL_len (still : Bool) (s : Nat) (l : List Int) : ∀ (st : List Int) (h : Int), st.length ≤ s → (playL still s l st h).1.length ≤ s := by
  induction l with
  | nil => intro st h hs; exact hs
  | cons p ps ih =>
    intro st h hs
    unfold playL
    split
    · refine ih _ _ ?_
      split
      · exact hs
      · exact touchL_length _ _ _
    · exact ih _ _ (touchL_length _ _ _)
theorem play_loop (l : List Int) (s : Int) (still : Bool) (h0 : 0 ≤ s) (h1 : s ≤ 5000) (hb : l.length < 1000000) (d : Nat) : ∀ (k n : Nat) (st : List Int) (h : Int), n + d = l.length → d < k → st.length ≤ s.toNat → 0 ≤ h → h ≤ n →
    impl_play.l0 k s still st h l (l.length : Int) (n : Int) = some (playL still s.toNat (l.drop n) st h) := by
  induction d with
  | zero =>
    intro k n st h hn hk hs hh hh2
    obtain ⟨k, rfl⟩ : ∃ m, k = m + 1 := ⟨k - 1, by omega⟩
    have c : ¬ (n : Int) < (l.length : Int) := by omega
    simp only [impl_play.l0]; rw [if_neg c, List.drop_of_length_le (by omega)]
    unfold slices_Clone_int_int.f
    rw [if_pos (by omega)]; rfl
  | succ d ih =>
    intro k n st h hn hk hs hh hh2
    obtain ⟨k, rfl⟩ : ∃ m, k = m + 1 := ⟨k - 1, by omega⟩
    have h1 : n < l.length := by omega
    have c1 : (n : Int) < (l.length : Int) := by omega
    have c0 : (0 : Int) ≤ (n : Int) := by omega
    simp only [impl_play.l0]
    rw [if_pos c1, if_pos c0, if_pos c1, rd_nat l n h1, w64 (x := (n : Int) + 1) (by omega) (by omega), succ_cast, List.drop_eq_getElem_cons h1, touch_f st l[n] s h0 (by omega), Option.bind_some]
    unfold playL
    have hl := touchL_length st l[n] s.toNat
    cases hc : st.contains l[n] with
    | true =>
      simp only [if_true]
      rw [w64 (x := h + 1) (by omega) (by omega)]
      cases still with
      | true => simp only [if_true]; exact ih k (n + 1) st (h + 1) (by omega) (by omega) hs (by omega) (by omega)
      | false => simp only [Bool.false_eq_true, if_false]; exact ih k (n + 1) _ (h + 1) (by omega) (by omega) hl (by omega) (by omega)
    | false =>
      simp only [Bool.false_eq_true, if_false]
      exact ih k (n + 1) _ h (by omega) (by omega) hl (by omega) (by omega)
theorem play_f (l : List Int) (s : Int) (still : Bool) (h0 : 0 ≤ s) (h1 : s ≤ 5000) (hb : l.length < 1000000) (k : Nat) (hk : l.length < k) : impl_play.f k l s still = some (playL still s.toNat l [] 0) := by
  unfold impl_play.f
  have h := play_loop l s still h0 h1 hb l.length k 0 [] 0 (by omega) hk (by simp) (by omega) (by omega)
  simpa using h

theorem l10Play_loop (l : List Int) (s : Int) (h0 : 0 ≤ s) (h1 : s ≤ 5000) (hb : l.length < 1000000) (d : Nat) : ∀ (k n : Nat) (st : List Int) (h : Int), n + d = l.length → d + 5001 < k → st.length ≤ s.toNat → st.Nodup → 0 ≤ h → h ≤ n →
    spec_l10Play.l0 k s st h l (l.length : Int) (n : Int) = some (playL false s.toNat (l.drop n) st h) := by
  induction d with
  | zero =>
    intro k n st h hn hk hs hd hh hh2
    obtain ⟨k, rfl⟩ : ∃ m, k = m + 1 := ⟨k - 1, by omega⟩
    have c : ¬ (n : Int) < (l.length : Int) := by omega
    simp only [spec_l10Play.l0]; rw [if_neg c, List.drop_of_length_le (by omega)]; rfl
  | succ d ih =>
    intro k n st h hn hk hs hd hh hh2
    obtain ⟨k, rfl⟩ : ∃ m, k = m + 1 := ⟨k - 1, by omega⟩
    have h1 : n < l.length := by omega
    have c1 : (n : Int) < (l.length : Int) := by omega
    have c0 : (0 : Int) ≤ (n : Int) := by omega
    simp only [spec_l10Play.l0]
    rw [if_pos c1, if_pos c0, if_pos c1, rd_nat l n h1, w64 (x := (n : Int) + 1) (by omega) (by omega), succ_cast, List.drop_eq_getElem_cons h1, l10Touch_f st l[n] s h0 (by omega) hd k (by omega), Option.bind_some]
    unfold playL
    have hl := touchL_length st l[n] s.toNat
    have hd2 := touchL_nodup st l[n] s.toNat hd
    cases hc : st.contains l[n] with
    | true =>
      simp only [if_true, Bool.false_eq_true, if_false]
      rw [w64 (x := h + 1) (by omega) (by omega)]
      exact ih k (n + 1) _ (h + 1) (by omega) (by omega) hl hd2 (by omega) (by omega)
    | false =>
      simp only [Bool.false_eq_true, if_false]
      exact ih k (n + 1) _ h (by omega) (by omega) hl hd2 (by omega) (by omega)
theorem l10Play_f (l : List Int) (s : Int) (h0 : 0 ≤ s) (h1 : s ≤ 5000) (hb : l.length < 1000000) (k : Nat) (hk : l.length + 5001 < k) : spec_l10Play.f k l s = some (playL false s.toNat l [] 0) := by
  unfold spec_l10Play.f
  have h := l10Play_loop l s h0 h1 hb l.length k 0 [] 0 (by omega) hk (by simp) List.nodup_nil (by omega) (by omega)
  simpa using h

/-! What the exact laws do with lists -/
theorem goodB_len (l : List Int) (h : goodB l = true) : l.length ≤ 200 := by
  unfold goodB at h
  simp only [Bool.and_eq_true, decide_eq_true_eq] at h
  exact h.1

theorem FnExactStackAfter : laws_FnExactStackAfter.Pure := by
  intro l hm hs hw
  obtain ⟨m, hk⟩ : ∃ m, m = l.length + 10000 := ⟨_, rfl⟩
  have t1 : ∀ j, laws_toIntS.f (m + j) l = some l := fun j => toInts_f l hs (m + j) (by omega)
  have g1 := goodRefs_impl l (by omega)
  have g2 : ∀ j, spec_GoodRefs.f (m + j) l = some (goodB l) := fun j => goodRefs_spec l (by omega) (m + j) (by omega)
  have q1 : ∀ j, laws_eqIntS.f (m + j) l l = some true := fun j => by rw [eqInts_f l l (by omega) (m + j) (by omega), decide_eq_true rfl]
  have e : ∃ st b, st.length ≤ 40 ∧ ∀ j, impl_StackAfter.f (m + j) l = some (st, b) ∧ spec_StackAfter.f (m + j) l = some (st, b) := by
    unfold impl_StackAfter.f spec_StackAfter.f
    simp only [g1, g2, Option.bind_some]
    cases hg : goodB l with
    | false => exact ⟨[], false, by simp, fun j => ⟨rfl, rfl⟩⟩
    | true =>
      have hl := goodB_len l hg
      simp only [if_true]
      have hlen := playL_len false 40 l [] 0 (by simp)
      refine ⟨(playL false 40 l [] 0).1, true, by omega, fun j => ⟨?_, ?_⟩⟩
      · rw [play_f l 40 false (by omega) (by omega) (by omega) (m + j) (by omega), Option.bind_some]; rfl
      · rw [l10Play_f l 40 (by omega) (by omega) (by omega) (m + j) (by omega)]
        simp only [Option.bind_some, List.length_nil, Nat.zero_add, List.nil_append]
        rw [if_pos (by rw [show Int.toNat 40 = 40 from rfl]; omega)]; rfl
  obtain ⟨st, b, hst, e⟩ := e
  have e1 := fun j => (e j).1
  have e2 := fun j => (e j).2
  have q2 : ∀ j, laws_eqIntS.f (m + j) st st = some true := fun j => by rw [eqInts_f st st (by omega) (m + j) (by omega), decide_eq_true rfl]
  have m1 : ∀ j, laws_markIntS.f (m + j) l 1 = some ((1 : Int) + l.length, markL 1 l.length) := fun j => markInts_f l 1 (by omega) (by omega) (m + j) (by omega)
  have m2 : ∀ j, laws_markIntS.f (m + j) st 1 = some ((1 : Int) + st.length, markL 1 st.length) := fun j => markInts_f st 1 (by omega) (by omega) (m + j) (by omega)
  have m3 : ∀ j, laws_heldIntS.f (m + j) (markL 1 st.length) 1 = some ((1 : Int) + st.length) := fun j => heldInts_f st.length 1 (by omega) (by omega) (m + j) (by omega)
  have p1 : ¬ (1 : Int) + (l.length : Int) < 0 := by omega
  have p2 : ¬ (1 : Int) + (st.length : Int) < 0 := by omega
  clear e g1 g2 hw
  refine ⟨m + 5, ?_⟩
  unfold laws_FnExactStackAfter.f
  by_cases c : (l.length : Int) > 1048576
  · rw [if_pos c]
  · rw [if_neg c]
    simp only [t1, e1, e2, q1, q2, m1, m2, m3, p1, p2, Option.bind_some, if_true, if_false, bne_self_eq_false, Bool.false_eq_true, laws_FnExactStackAfter.j0, laws_FnExactStackAfter.j1, laws_FnExactStackAfter.j2]

end Go.Proofs.Ytgkoclacdmmkiaa.Pure
