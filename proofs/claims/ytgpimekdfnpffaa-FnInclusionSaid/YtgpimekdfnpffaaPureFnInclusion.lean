/- Of the page lists drawn, a smaller store's stack is the top of the larger one's. No conditions. -/
import Derived.Test.YtgpimekdfnpffaaPFnInclusionx4
import Derived.Lib.VarintBits
set_option linter.unusedVariables false
set_option linter.unusedSimpArgs false
namespace Go.Proofs.Ytgpimekdfnpffaa.Pure
open Go.RowKit Go.Proofs.Ytgpimekdfnpffaa.PFnInclusion Go.Proofs.YtgpimekdfnpffaaW.PrintWords Go.Proofs.YtgpimekdfnpffaaW.PrintLast

theorem bytes_of (l : List Int) (h : ∀ x ∈ l, (Lit.int .u8 x).wf = true) : ∀ x ∈ l, 0 ≤ x ∧ x ≤ 255 := by
  intro x hx
  have := h x hx
  simp [Lit.wf, IntKind.min, IntKind.max, IntKind.bits, IntKind.signed] at this
  omega

/-! Whole numbers and rows of them -/
theorem w64 {x : Int} (h : -9223372036854775808 ≤ x) (h2 : x < 9223372036854775808) : wrap64 x = x := by unfold wrap64; omega
theorem rd_nat (l : List Int) (n : Nat) (h : n < l.length) : rd l (n : Int) = l[n] := by
  unfold rd; simp [List.getD_eq_getElem?_getD, h]
theorem succ_cast (n : Nat) : ((n : Int) + 1) = ((n + 1 : Nat) : Int) := by omega

/-! The first place at which a predicate holds -/
theorem idxO_ge {α : Type} (p : α → Option Bool) (l : List α) : ∀ (n i : Int), 0 ≤ n → idxO p l n = some i → i = -1 ∨ n ≤ i := by
  induction l with
  | nil => intro n i hn h; left; exact (Option.some.inj h).symm
  | cons x xs ih =>
    intro n i hn h
    obtain ⟨b, hb, h2⟩ := Option.bind_eq_some_iff.mp h
    cases b with
    | true => right; have := Option.some.inj h2; omega
    | false => have := ih (n + 1) i (by omega) h2; omega
theorem idxO_all {α : Type} (p : α → Option Bool) (q : α → Bool) (h : ∀ x, p x = some (!q x)) (l : List α) : ∀ (n : Int), 0 ≤ n → ∃ i, idxO p l n = some i ∧ (!decide (i ≥ 0)) = l.all q := by
  induction l with
  | nil => intro n hn; exact ⟨-1, rfl, rfl⟩
  | cons x xs ih =>
    intro n hn
    unfold idxO
    rw [h x, Option.bind_some]
    cases hq : q x with
    | true =>
      obtain ⟨i, h1, h2⟩ := ih (n + 1) (by omega)
      exact ⟨i, h1, by rw [h2, List.all_cons, hq, Bool.true_and]⟩
    | false => exact ⟨n, rfl, by rw [List.all_cons, hq, Bool.false_and, decide_eq_true (show n ≥ 0 from hn)]; rfl⟩

/-! References: good ones -/
def pageB (x : Int) : Bool := decide (0 ≤ x) && decide (x ≤ 99)
def goodB (l : List Int) : Bool := decide (l.length ≤ 200) && l.all pageB
theorem within_f (a b c : Int) : impl_within.f a b c = some (decide (b ≤ a) && decide (a ≤ c)) := by
  unfold impl_within.f
  by_cases h : b ≤ a
  · rw [if_pos h, decide_eq_true h, Bool.true_and]
  · rw [if_neg h, decide_eq_false h, Bool.false_and]
theorem l1In_f (a b c : Int) : spec_l1In.f a b c = some (decide (b ≤ a) && decide (a ≤ c)) := by
  unfold spec_l1In.f
  by_cases h : b ≤ a
  · rw [if_pos h, decide_eq_true h, Bool.true_and]
  · rw [if_neg h, decide_eq_false h, Bool.false_and]
theorem isPage_f (x : Int) : impl_isPage.f x = some (pageB x) := by unfold impl_isPage.f; rw [within_f]; rfl
theorem goodRefs_impl (l : List Int) (hb : l.length < 9223372036854775807) : impl_GoodRefs.f l = some (goodB l) := by
  unfold impl_GoodRefs.f goodB
  by_cases c : l.length ≤ 200
  · have c2 : (l.length : Int) ≤ 200 := by omega
    rw [if_pos c2, decide_eq_true c, Bool.true_and]
    unfold xAll_i64_impl_isPage.f
    rw [if_pos hb]
    obtain ⟨i, h1, h2⟩ := idxO_all xAll_i64_impl_isPage.z pageB (fun x => by unfold xAll_i64_impl_isPage.z; rw [isPage_f]; rfl) l 0 (by omega)
    rw [h1, Option.bind_some, Option.bind_some, h2]
  · have c2 : ¬ (l.length : Int) ≤ 200 := by omega
    rw [if_neg c2, decide_eq_false c, Bool.false_and]
theorem goodRefs_loop (l : List Int) (hb : l.length < 4611686018427387904) (d : Nat) : ∀ (k n : Nat), n + d = l.length → d < k →
    spec_GoodRefs.l0 k l l (l.length : Int) (n : Int) = some ((l.drop n).all pageB && decide (l.length ≤ 200)) := by
  induction d with
  | zero =>
    intro k n hn hk
    obtain ⟨k, rfl⟩ : ∃ m, k = m + 1 := ⟨k - 1, by omega⟩
    have c : ¬ (n : Int) < (l.length : Int) := by omega
    simp only [spec_GoodRefs.l0]; rw [if_neg c, List.drop_of_length_le (by omega), List.all_nil, Bool.true_and]
    exact congrArg some (decide_eq_decide.mpr (by omega))
  | succ d ih =>
    intro k n hn hk
    obtain ⟨k, rfl⟩ : ∃ m, k = m + 1 := ⟨k - 1, by omega⟩
    have h1 : n < l.length := by omega
    have c1 : (n : Int) < (l.length : Int) := by omega
    have c0 : (0 : Int) ≤ (n : Int) := by omega
    simp only [spec_GoodRefs.l0]
    rw [if_pos c1, if_pos c0, if_pos c1, rd_nat l n h1, l1In_f, Option.bind_some, List.drop_eq_getElem_cons h1, List.all_cons, w64 (by omega) (by omega), succ_cast, ih k (n + 1) (by omega) (by omega)]
    cases hp : pageB l[n] with
    | true =>
      have hp' : (decide (0 ≤ l[n]) && decide (l[n] ≤ 99)) = true := hp
      rw [if_pos hp', Bool.true_and]
    | false =>
      have hp' : (decide (0 ≤ l[n]) && decide (l[n] ≤ 99)) = false := hp
      rw [hp', if_neg (by decide)]; rfl
theorem goodRefs_spec (l : List Int) (hb : l.length < 4611686018427387904) (k : Nat) (hk : l.length < k) : spec_GoodRefs.f k l = some (goodB l) := by
  unfold spec_GoodRefs.f goodB
  have h := goodRefs_loop l hb l.length k 0 (by omega) hk
  rw [Bool.and_comm]
  exact h

/-! A stack behind a reference -/
def touchL (st : List Int) (p : Int) (s : Nat) : List Int := (p :: st.erase p).take s
theorem touchL_length (st : List Int) (p : Int) (s : Nat) : (touchL st p s).length ≤ s := by unfold touchL; rw [List.length_take]; omega
theorem touchL_nodup (st : List Int) (p : Int) (s : Nat) (h : st.Nodup) : (touchL st p s).Nodup := by
  unfold touchL
  refine List.Nodup.sublist (List.take_sublist _ _) ?_
  exact List.nodup_cons.mpr ⟨fun hm => by rw [h.mem_erase_iff] at hm; exact hm.1 rfl, h.erase p⟩
theorem touch_f (st : List Int) (p s : Int) (h0 : 0 ≤ s) (hb : st.length < 10000) : impl_touch.f st p s = some (touchL st p s.toNat, st.contains p) := by
  unfold impl_touch.f touchL
  rw [if_pos hb, if_pos h0]

theorem l10Touch_loop (l : List Int) (p s : Int) (h0 : 0 ≤ s) (hb : l.length < 1000000) (d : Nat) : ∀ (k n : Nat) (out : List Int) (hit : Bool), n + d = l.length → d < k → out.length ≤ n + 1 →
    spec_l10Touch.l0 k p s out hit l (l.length : Int) (n : Int) = some ((out ++ (l.drop n).filter (fun x => x != p)).take s.toNat, hit || (l.drop n).contains p) := by
  induction d with
  | zero =>
    intro k n out hit hn hk ho
    obtain ⟨k, rfl⟩ : ∃ m, k = m + 1 := ⟨k - 1, by omega⟩
    have c : ¬ (n : Int) < (l.length : Int) := by omega
    simp only [spec_l10Touch.l0]; rw [if_neg c, List.drop_of_length_le (by omega), List.filter_nil, List.append_nil, List.contains_nil, Bool.or_false]
    by_cases c2 : (out.length : Int) > s
    · rw [if_pos c2, if_pos h0, if_pos (by omega)]
    · rw [if_neg c2, List.take_of_length_le (by omega)]
  | succ d ih =>
    intro k n out hit hn hk ho
    obtain ⟨k, rfl⟩ : ∃ m, k = m + 1 := ⟨k - 1, by omega⟩
    have h1 : n < l.length := by omega
    have c1 : (n : Int) < (l.length : Int) := by omega
    have c0 : (0 : Int) ≤ (n : Int) := by omega
    simp only [spec_l10Touch.l0]
    rw [if_pos c1, if_pos c0, if_pos c1, rd_nat l n h1, w64 (by omega) (by omega), succ_cast, List.drop_eq_getElem_cons h1, List.contains_cons]
    by_cases e : l[n] = p
    · rw [if_pos e, ih k (n + 1) out true (by omega) (by omega) (by omega), List.filter_cons_of_neg (by simp [e]), show (p == l[n]) = true from beq_iff_eq.mpr e.symm]
      simp
    · rw [if_neg e, if_pos (by omega), ih k (n + 1) _ hit (by omega) (by omega) (by simp; omega), List.filter_cons_of_pos (by simp [e]), show (p == l[n]) = false from beq_eq_false_iff_ne.mpr (fun h => e h.symm), Bool.false_or, List.append_assoc]
      rfl
theorem l10Touch_f (st : List Int) (p s : Int) (h0 : 0 ≤ s) (hb : st.length < 1000000) (hd : st.Nodup) (k : Nat) (hk : st.length < k) : spec_l10Touch.f k st p s = some (touchL st p s.toNat, st.contains p) := by
  unfold spec_l10Touch.f touchL
  have h := l10Touch_loop st p s h0 hb st.length k 0 [p] false (by omega) hk (by simp)
  rw [show ((0 : Nat) : Int) = 0 from rfl] at h
  rw [h, List.drop_zero, Bool.false_or, hd.erase_eq_filter]
  rfl

/-! References played -/
def playL (still : Bool) (s : Nat) : List Int → List Int → Int → List Int × Int
  | [], st, h => (st, h)
  | p :: ps, st, h => if st.contains p = true then playL still s ps (if still = true then st else touchL st p s) (h + 1) else playL still s ps (touchL st p s) h
theorem playL_len (still : Bool) (s : Nat) (l : List Int) : ∀ (st : List Int) (h : Int), st.length ≤ s → (playL still s l st h).1.length ≤ s := by
  induction l with
  | nil => intro st h hs; exact hs
  | cons p ps ih =>
    intro st h hs
    unfold playL
    split
    · refine ih _ _ ?_
      split
      · exact hs
      · exact touchL_length _ _ _
    · exact ih _ _ (touchL_length _ _ _)
theorem play_loop (l : List Int) (s : Int) (still : Bool) (h0 : 0 ≤ s) (h1 : s ≤ 5000) (hb : l.length < 1000000) (d : Nat) : ∀ (k n : Nat) (st : List Int) (h : Int), n + d = l.length → d < k → st.length ≤ s.toNat → 0 ≤ h → h ≤ n →
    impl_play.l0 k s still st h l (l.length : Int) (n : Int) = some (playL still s.toNat (l.drop n) st h) := by
  induction d with
  | zero =>
    intro k n st h hn hk hs hh hh2
    obtain ⟨k, rfl⟩ : ∃ m, k = m + 1 := ⟨k - 1, by omega⟩
    have c : ¬ (n : Int) < (l.length : Int) := by omega
    simp only [impl_play.l0]; rw [if_neg c, List.drop_of_length_le (by omega)]
    unfold slices_Clone_int_int.f
    rw [if_pos (by omega)]; rfl
  | succ d ih =>
    intro k n st h hn hk hs hh hh2
    obtain ⟨k, rfl⟩ : ∃ m, k = m + 1 := ⟨k - 1, by omega⟩
    have h1 : n < l.length := by omega
    have c1 : (n : Int) < (l.length : Int) := by omega
    have c0 : (0 : Int) ≤ (n : Int) := by omega
    simp only [impl_play.l0]
    rw [if_pos c1, if_pos c0, if_pos c1, rd_nat l n h1, w64 (x := (n : Int) + 1) (by omega) (by omega), succ_cast, List.drop_eq_getElem_cons h1, touch_f st l[n] s h0 (by omega), Option.bind_some]
    unfold playL
    have hl := touchL_length st l[n] s.toNat
    cases hc : st.contains l[n] with
    | true =>
      simp only [if_true]
      rw [w64 (x := h + 1) (by omega) (by omega)]
      cases still with
      | true => simp only [if_true]; exact ih k (n + 1) st (h + 1) (by omega) (by omega) hs (by omega) (by omega)
      | false => simp only [Bool.false_eq_true, if_false]; exact ih k (n + 1) _ (h + 1) (by omega) (by omega) hl (by omega) (by omega)
    | false =>
      simp only [Bool.false_eq_true, if_false]
      exact ih k (n + 1) _ h (by omega) (by omega) hl (by omega) (by omega)
theorem play_f (l : List Int) (s : Int) (still : Bool) (h0 : 0 ≤ s) (h1 : s ≤ 5000) (hb : l.length < 1000000) (k : Nat) (hk : l.length < k) : impl_play.f k l s still = some (playL still s.toNat l [] 0) := by
  unfold impl_play.f
  have h := play_loop l s still h0 h1 hb l.length k 0 [] 0 (by omega) hk (by simp) (by omega) (by omega)
  simpa using h

theorem l10Play_loop (l : List Int) (s : Int) (h0 : 0 ≤ s) (h1 : s ≤ 5000) (hb : l.length < 1000000) (d : Nat) : ∀ (k n : Nat) (st : List Int) (h : Int), n + d = l.length → d + 5001 < k → st.length ≤ s.toNat → st.Nodup → 0 ≤ h → h ≤ n →
    spec_l10Play.l0 k s st h l (l.length : Int) (n : Int) = some (playL false s.toNat (l.drop n) st h) := by
  induction d with
  | zero =>
    intro k n st h hn hk hs hd hh hh2
    obtain ⟨k, rfl⟩ : ∃ m, k = m + 1 := ⟨k - 1, by omega⟩
    have c : ¬ (n : Int) < (l.length : Int) := by omega
    simp only [spec_l10Play.l0]; rw [if_neg c, List.drop_of_length_le (by omega)]; rfl
  | succ d ih =>
    intro k n st h hn hk hs hd hh hh2
    obtain ⟨k, rfl⟩ : ∃ m, k = m + 1 := ⟨k - 1, by omega⟩
    have h1 : n < l.length := by omega
    have c1 : (n : Int) < (l.length : Int) := by omega
    have c0 : (0 : Int) ≤ (n : Int) := by omega
    simp only [spec_l10Play.l0]
    rw [if_pos c1, if_pos c0, if_pos c1, rd_nat l n h1, w64 (x := (n : Int) + 1) (by omega) (by omega), succ_cast, List.drop_eq_getElem_cons h1, l10Touch_f st l[n] s h0 (by omega) hd k (by omega), Option.bind_some]
    unfold playL
    have hl := touchL_length st l[n] s.toNat
    have hd2 := touchL_nodup st l[n] s.toNat hd
    cases hc : st.contains l[n] with
    | true =>
      simp only [if_true, Bool.false_eq_true, if_false]
      rw [w64 (x := h + 1) (by omega) (by omega)]
      exact ih k (n + 1) _ (h + 1) (by omega) (by omega) hl hd2 (by omega) (by omega)
    | false =>
      simp only [Bool.false_eq_true, if_false]
      exact ih k (n + 1) _ h (by omega) (by omega) hl hd2 (by omega) (by omega)
theorem l10Play_f (l : List Int) (s : Int) (h0 : 0 ≤ s) (h1 : s ≤ 5000) (hb : l.length < 1000000) (k : Nat) (hk : l.length + 5001 < k) : spec_l10Play.f k l s = some (playL false s.toNat l [] 0) := by
  unfold spec_l10Play.f
  have h := l10Play_loop l s h0 h1 hb l.length k 0 [] 0 (by omega) hk (by simp) List.nodup_nil (by omega) (by omega)
  simpa using h

theorem isSize_f (x : Int) : impl_isSize.f x = some (decide (0 ≤ x) && decide (x ≤ 40)) := by unfold impl_isSize.f; rw [within_f]; rfl

/-! What the exact laws do with lists -/
theorem goodB_len (l : List Int) (h : goodB l = true) : l.length ≤ 200 := by
  unfold goodB at h
  simp only [Bool.and_eq_true, decide_eq_true_eq] at h
  exact h.1

/-! The cursor that draws an argument out of bytes -/
theorem and255 (y : Int) (h0 : 0 ≤ y) (h1 : y < 18446744073709551616) : bits .and .u64 y 255 = y % 256 := bits_mask .u64 64 (by decide) wraps_u64 8 (by decide) y h0 h1
theorem and255_range (s : Int) : 0 ≤ bits .and .u64 ((IntKind.u64.wrap s) / 1099511627776) 255 ∧ bits .and .u64 ((IntKind.u64.wrap s) / 1099511627776) 255 ≤ 255 := by
  have h : IntKind.u64.wrap s = s % 18446744073709551616 := IntKind.wrap_u64 s
  rw [h, and255 _ (by omega) (by omega)]
  omega
theorem rd_byte (l : List Int) (hc : ∀ x ∈ l, 0 ≤ x ∧ x ≤ 255) (i : Int) (h0 : 0 ≤ i) (h1 : i < l.length) : 0 ≤ rd l i ∧ rd l i ≤ 255 := by
  obtain ⟨n, rfl⟩ : ∃ n : Nat, i = (n : Int) := ⟨i.toNat, by omega⟩
  rw [rd_nat l n (by omega)]
  exact hc _ (List.getElem_mem _)
theorem next_ok (code : List Int) (hc : ∀ x ∈ code, 0 ≤ x ∧ x ≤ 255) (hb : code.length < 4611686018427387904) (a s : Int) (h0 : 0 ≤ a) (h1 : a < 4611686018427387904) :
    ∃ b s', spec_l1Cur_next.f code a s = some (b, a + 1, s') ∧ 0 ≤ b ∧ b ≤ 255 := by
  have hw : wrap64 (a + 1) = a + 1 := w64 (by omega) (by omega)
  unfold spec_l1Cur_next.f
  rw [hw]
  by_cases c : a < (code.length : Int)
  · have hr := rd_byte code hc a h0 c
    rw [if_pos c, if_pos h0, if_pos (by omega)]
    exact ⟨_, _, rfl, by rw [w64 (by omega) (by omega)]; exact hr⟩
  · rw [if_neg c, if_neg (by omega)]
    refine ⟨_, _, rfl, ?_⟩
    have hr := and255_range ((IntKind.u64.wrap (IntKind.u64.wrap (s * 6364136223846793005))) + 1442695040888963407)
    rw [w64 (by omega) (by omega)]
    exact hr
theorem tmod_range (x n : Int) (h : 0 ≤ x) (hn : 0 < n) : 0 ≤ Int.tmod x n ∧ Int.tmod x n < n := ⟨Int.tmod_nonneg n h, Int.tmod_lt_of_pos x hn⟩
theorem pick_ok (code : List Int) (hc : ∀ x ∈ code, 0 ≤ x ∧ x ≤ 255) (hb : code.length < 4611686018427387904) (a s n : Int) (h0 : 0 ≤ a) (h1 : a < 4611686018427380000) :
    ∃ v a' s', spec_l1Cur_pick.f code a s n = some (v, a', s') ∧ 0 ≤ v ∧ (v < n ∨ v = 0) ∧ a ≤ a' ∧ a' ≤ a + 2 := by
  unfold spec_l1Cur_pick.f
  by_cases c : n ≤ 1
  · rw [if_pos c]
    exact ⟨0, a, s, rfl, by omega, by omega, by omega, by omega⟩
  · rw [if_neg c]
    obtain ⟨b, s1, e1, hb0, hb1⟩ := next_ok code hc hb a s h0 (by omega)
    rw [e1, Option.bind_some]
    by_cases c2 : n > 200
    · rw [if_pos c2]
      obtain ⟨b2, s2, e2, hb2, hb3⟩ := next_ok code hc hb (a + 1) s1 (by omega) (by omega)
      try dsimp only
      rw [e2, Option.bind_some, if_neg (by omega)]
      have hw1 : wrap64 (b * 256) = b * 256 := w64 (by omega) (by omega)
      have hw2 : wrap64 (b * 256 + b2) = b * 256 + b2 := w64 (by omega) (by omega)
      have hr := tmod_range (b * 256 + b2) n (by omega) (by omega)
      refine ⟨_, _, _, rfl, ?_⟩
      simp only [hw1, hw2]
      exact ⟨hr.1, Or.inl hr.2, by omega, by omega⟩
    · rw [if_neg c2, if_neg (by omega)]
      have hr := tmod_range b n (by omega) (by omega)
      refine ⟨_, _, _, rfl, hr.1, Or.inl hr.2, ?_, ?_⟩ <;> dsimp only <;> omega
theorem one_ok (code : List Int) (hc : ∀ x ∈ code, 0 ≤ x ∧ x ≤ 255) (hb : code.length < 4611686018427387904) (a s n : Int) (h0 : 0 ≤ a) (h1 : a < 4611686018427380000) :
    ∃ v a' s', spec_l1Cur_one.f code a s n = some (v, a', s') ∧ a ≤ a' ∧ a' ≤ a + 2 := by
  unfold spec_l1Cur_one.f
  obtain ⟨v, a', s', e, h⟩ := pick_ok code hc hb a s n h0 h1
  rw [e, Option.bind_some]
  exact ⟨_, _, _, rfl, h.2.2⟩
theorem among_ok (code : List Int) (hc : ∀ x ∈ code, 0 ≤ x ∧ x ≤ 255) (hb : code.length < 4611686018427387904) (l : List Int) (hl : 0 < l.length) (a s : Int) (h0 : 0 ≤ a) (h1 : a < 4611686018427380000) :
    ∃ v a' s', spec_l1Cur_among.f code a s l = some (v, a', s') ∧ v ∈ l ∧ a ≤ a' ∧ a' ≤ a + 2 := by
  unfold spec_l1Cur_among.f
  obtain ⟨v, a', s', e, h⟩ := pick_ok code hc hb a s (l.length : Int) h0 h1
  rw [e, Option.bind_some, if_pos h.1]
  have c : v < (l.length : Int) := by omega
  try dsimp only
  rw [if_pos c]
  refine ⟨_, _, _, rfl, ?_, h.2.2⟩
  obtain ⟨n, rfl⟩ : ∃ n : Nat, v = (n : Int) := ⟨v.toNat, by omega⟩
  try dsimp only
  rw [rd_nat l n (by omega)]
  exact List.getElem_mem _

/-! References drawn -/
theorem refs_loop (code : List Int) (hc : ∀ x ∈ code, 0 ≤ x ∧ x ≤ 255) (hb : code.length < 4611686018427387904) (x5 : Int) (d : Nat) : ∀ (l : List Int) (a s : Int), l.length + d ≤ 1000 → 0 ≤ a → a + 2 * d ≤ 4000 →
    ∃ l' a' s', l'.length ≤ l.length + d ∧ 0 ≤ a' ∧ a' ≤ a + 2 * d + 4 ∧ ∀ k, d < k → spec_l1Cur_refs.l0 k l (d : Int) x5 code a s = some (l', a', s') := by
  induction d with
  | zero =>
    intro l a s hl h0 h1
    by_cases c : (l.length : Int) > 0
    · obtain ⟨b, a1, s1, e1, h2⟩ := one_ok code hc hb a s 40 h0 (by omega)
      cases b with
      | false =>
        refine ⟨l, a1, s1, by omega, by omega, by omega, fun k hk => ?_⟩
        obtain ⟨k, rfl⟩ : ∃ m, k = m + 1 := ⟨k - 1, by omega⟩
        simp only [spec_l1Cur_refs.l0]
        rw [if_neg (by omega), if_pos c, e1, Option.bind_some, if_neg Bool.false_ne_true]
      | true =>
        obtain ⟨v, a2, s2, e2, _, h3⟩ := among_ok code hc hb [-1, 99, 100] (by decide) a1 s1 (by omega) (by omega)
        refine ⟨l.set (0 : Int).toNat v, a2, s2, by rw [List.length_set]; omega, by omega, by omega, fun k hk => ?_⟩
        obtain ⟨k, rfl⟩ : ∃ m, k = m + 1 := ⟨k - 1, by omega⟩
        simp only [spec_l1Cur_refs.l0]
        rw [if_neg (by omega), if_pos c, e1, Option.bind_some, if_pos rfl, e2, Option.bind_some, if_pos (by omega)]
    · refine ⟨l, a, s, by omega, by omega, by omega, fun k hk => ?_⟩
      obtain ⟨k, rfl⟩ : ∃ m, k = m + 1 := ⟨k - 1, by omega⟩
      simp only [spec_l1Cur_refs.l0]
      rw [if_neg (by omega), if_neg c]
  | succ d ih =>
    intro l a s hl h0 h1
    obtain ⟨v, a1, s1, e1, _, _, h2⟩ := pick_ok code hc hb a s x5 h0 (by omega)
    obtain ⟨l', a', s', g1, g2, g3, g4⟩ := ih (l ++ [v]) a1 s1 (by rw [List.length_append, List.length_singleton]; omega) (by omega) (by omega)
    rw [List.length_append, List.length_singleton] at g1
    refine ⟨l', a', s', by omega, g2, by omega, fun k hk => ?_⟩
    obtain ⟨k, rfl⟩ : ∃ m, k = m + 1 := ⟨k - 1, by omega⟩
    simp only [spec_l1Cur_refs.l0]
    rw [if_pos (by omega), e1, Option.bind_some, if_pos (by omega), w64 (x := ((d + 1 : Nat) : Int) - 1) (by omega) (by omega), show ((d + 1 : Nat) : Int) - 1 = (d : Int) by omega]
    exact g4 k (by omega)
theorem refs_j0 (code : List Int) (hc : ∀ x ∈ code, 0 ≤ x ∧ x ≤ 255) (hb : code.length < 4611686018427387904) (n : Int) (h0 : 0 ≤ n) (h1 : n ≤ 300) (a s : Int) (ha : 0 ≤ a) (ha1 : a ≤ 100) :
    ∃ l' a' s', l'.length ≤ 300 ∧ 0 ≤ a' ∧ a' ≤ 1000 ∧ ∀ k, 400 < k → spec_l1Cur_refs.j0 k [] n code a s = some (l', a', s') := by
  obtain ⟨d, rfl⟩ : ∃ d : Nat, n = (d : Int) := ⟨n.toNat, by omega⟩
  obtain ⟨v, a1, s1, e1, _, _, h2⟩ := pick_ok code hc hb a s 9 ha (by omega)
  obtain ⟨b, a2, s2, e2, h3⟩ := one_ok code hc hb a1 s1 20 (by omega) (by omega)
  obtain ⟨x5, hx⟩ : ∃ x5 : Int, x5 = if b = true then 60 else wrap64 (1 + v) := ⟨_, rfl⟩
  obtain ⟨l', a', s', g1, g2, g3, g4⟩ := refs_loop code hc hb x5 d [] a2 s2 (by simp; omega) (by omega) (by omega)
  refine ⟨l', a', s', by simp at g1; omega, g2, by omega, fun k hk => ?_⟩
  obtain ⟨k, rfl⟩ : ∃ m, k = m + 2 := ⟨k - 2, by omega⟩
  simp only [spec_l1Cur_refs.j0]
  rw [e1, Option.bind_some, e2, Option.bind_some]
  have g := g4 k (by omega)
  cases b with
  | true => rw [if_pos rfl] at hx; subst hx; rw [if_pos rfl]; simp only [spec_l1Cur_refs.j1]; exact g
  | false => rw [if_neg Bool.false_ne_true] at hx; subst hx; rw [if_neg Bool.false_ne_true]; simp only [spec_l1Cur_refs.j1]; exact g
theorem refs_ok (code : List Int) (hc : ∀ x ∈ code, 0 ≤ x ∧ x ≤ 255) (hb : code.length < 4611686018427387904) (a s : Int) (ha : 0 ≤ a) (ha1 : a ≤ 50) :
    ∃ l' a' s', l'.length ≤ 300 ∧ 0 ≤ a' ∧ a' ≤ 1000 ∧ ∀ k, 400 < k → spec_l1Cur_refs.f k code a s = some (l', a', s') := by
  obtain ⟨v, a1, s1, e1, hv0, hv1, h2⟩ := pick_ok code hc hb a s 30 ha (by omega)
  obtain ⟨b, a2, s2, e2, h3⟩ := one_ok code hc hb a1 s1 12 (by omega) (by omega)
  unfold spec_l1Cur_refs.f
  simp only [e1, Option.bind_some, e2]
  cases b with
  | false =>
    obtain ⟨l', a', s', g⟩ := refs_j0 code hc hb v hv0 (by omega) a2 s2 (by omega) (by omega)
    exact ⟨l', a', s', g.1, g.2.1, g.2.2.1, fun k hk => by rw [if_neg Bool.false_ne_true]; exact g.2.2.2 k hk⟩
  | true =>
    obtain ⟨v2, a3, s3, e3, hw0, hw1, h4⟩ := pick_ok code hc hb a2 s2 12 (by omega) (by omega)
    obtain ⟨l', a', s', g⟩ := refs_j0 code hc hb (wrap64 (190 + v2)) (by rw [w64 (by omega) (by omega)]; omega) (by rw [w64 (by omega) (by omega)]; omega) a3 s3 (by omega) (by omega)
    exact ⟨l', a', s', g.1, g.2.1, g.2.2.1, fun k hk => by rw [if_pos rfl, e3, Option.bind_some]; exact g.2.2.2 k hk⟩

theorem size_ok (code : List Int) (hc : ∀ x ∈ code, 0 ≤ x ∧ x ≤ 255) (hb : code.length < 4611686018427387904) (a s : Int) (ha : 0 ≤ a) (ha1 : a ≤ 10000) :
    ∃ v a' s', spec_l1Cur_size.f code a s = some (v, a', s') ∧ -1 ≤ v ∧ v ≤ 41 ∧ a ≤ a' ∧ a' ≤ a + 4 := by
  unfold spec_l1Cur_size.f
  obtain ⟨b, a1, s1, e1, h1⟩ := one_ok code hc hb a s 20 ha (by omega)
  rw [e1, Option.bind_some]
  cases b with
  | true =>
    rw [if_pos rfl]
    obtain ⟨v, a2, s2, e2, hm, h3⟩ := among_ok code hc hb [-1, 0, 40, 41] (by decide) a1 s1 (by omega) (by omega)
    try dsimp only
    rw [e2, Option.bind_some]
    refine ⟨_, _, _, rfl, ?_, ?_, by try dsimp only; omega, by try dsimp only; omega⟩ <;> (simp at hm ⊢; omega)
  | false =>
    rw [if_neg Bool.false_ne_true]
    obtain ⟨v, a2, s2, e2, h2, h3, h4⟩ := pick_ok code hc hb a1 s1 8 (by omega) (by omega)
    try dsimp only
    rw [e2, Option.bind_some]
    exact ⟨_, _, _, rfl, by try dsimp only; rw [w64 (by omega) (by omega)]; omega, by try dsimp only; rw [w64 (by omega) (by omega)]; omega, by try dsimp only; omega, by try dsimp only; omega⟩

/-! The laws' sameInts, of a row with itself -/
theorem sameInts_loop (l : List Int) (hb : l.length < 4611686018427387904) (d : Nat) : ∀ (k n : Nat), n + d = l.length → d < k →
    laws_sameInts.l0 k l l (l.length : Int) (n : Int) = some true := by
  induction d with
  | zero =>
    intro k n hn hk
    obtain ⟨k, rfl⟩ : ∃ m, k = m + 1 := ⟨k - 1, by omega⟩
    simp only [laws_sameInts.l0]; rw [if_neg (by omega)]
  | succ d ih =>
    intro k n hn hk
    obtain ⟨k, rfl⟩ : ∃ m, k = m + 1 := ⟨k - 1, by omega⟩
    simp only [laws_sameInts.l0]
    rw [if_pos (by omega), if_pos (by omega), if_pos (by omega), if_pos (by omega), if_pos trivial, w64 (x := (n : Int) + 1) (by omega) (by omega), succ_cast]
    exact ih k (n + 1) (by omega) (by omega)
theorem sameInts_f (l : List Int) (hb : l.length < 4611686018427387904) (k : Nat) (hk : l.length < k) : laws_sameInts.f k l l = some true := by
  unfold laws_sameInts.f
  rw [if_pos rfl]
  exact sameInts_loop l hb l.length k 0 (by omega) hk

/-! A smaller stack is the top of a larger one -/
theorem erase_take (p : Int) (L : List Int) : ∀ (n : Nat), ((L.take (n + 1)).erase p).take n = (L.erase p).take n := by
  induction L with
  | nil => intro n; simp
  | cons x L ih =>
    intro n
    rw [List.take_succ_cons, List.erase_cons, List.erase_cons]
    by_cases e : (x == p) = true
    · rw [if_pos e, if_pos e, List.take_take, Nat.min_self]
    · rw [if_neg e, if_neg e]
      cases n with
      | zero => rfl
      | succ n => rw [List.take_succ_cons, List.take_succ_cons, ih]
theorem touch_top (L : List Int) (p : Int) (s : Nat) : touchL (L.take s) p s = (p :: L.erase p).take s := by
  unfold touchL
  cases s with
  | zero => rfl
  | succ n => rw [List.take_succ_cons, List.take_succ_cons, erase_take]
theorem touch_take (s t : Nat) (h : s ≤ t) (L : List Int) (p : Int) : touchL (L.take s) p s = (touchL L p t).take s := by
  rw [touch_top]
  unfold touchL
  rw [List.take_take, Nat.min_eq_left h]
theorem contains_take (s : Nat) (L : List Int) (p : Int) (h : (L.take s).contains p = true) : L.contains p = true :=
  List.contains_iff_mem.mpr (List.mem_of_mem_take (List.contains_iff_mem.mp h))
theorem play_take (s t : Nat) (h : s ≤ t) (l : List Int) : ∀ (L : List Int) (h1 h2 : Int), h1 ≤ h2 →
    (playL false s l (L.take s) h1).1 = (playL false t l L h2).1.take s ∧ (playL false s l (L.take s) h1).2 ≤ (playL false t l L h2).2 := by
  induction l with
  | nil => intro L h1 h2 hh; exact ⟨rfl, hh⟩
  | cons p ps ih =>
    intro L h1 h2 hh
    unfold playL
    simp only [Bool.false_eq_true, if_false]
    rw [touch_take s t h L p]
    by_cases c1 : (L.take s).contains p = true
    · rw [if_pos c1, if_pos (contains_take s L p c1)]
      exact ih _ _ _ (by omega)
    · rw [if_neg c1]
      by_cases c2 : L.contains p = true
      · rw [if_pos c2]; exact ih _ _ _ (by omega)
      · rw [if_neg c2]; exact ih _ _ _ (by omega)

/-! PlayLru, both ways -/
def lruV (l : List Int) (s : Int) : List Int × Int × Bool := if (goodB l && (decide (0 ≤ s) && decide (s ≤ 40))) = true then ((playL false s.toNat l [] 0).1, (playL false s.toNat l [] 0).2, true) else ([], 0, false)
theorem lru_impl (l : List Int) (s : Int) (hb : l.length < 1000000) (k : Nat) (hk : l.length + 1000 < k) : impl_PlayLru.f k l s = some (lruV l s) := by
  unfold impl_PlayLru.f lruV
  rw [goodRefs_impl l (by omega), isSize_f, Option.bind_some]
  cases hg : goodB l with
  | false => rfl
  | true =>
    rw [if_pos rfl, Option.bind_some, Bool.true_and]
    by_cases c : (decide (0 ≤ s) && decide (s ≤ 40)) = true
    · have c2 : 0 ≤ s ∧ s ≤ 40 := by simpa using c
      rw [if_pos c, if_pos c, play_f l s false c2.1 (by omega) (by omega) k (by omega), Option.bind_some]
    · rw [if_neg c, if_neg c]
theorem lru_none (l : List Int) (s : Int) (h : goodB l = false) : lruV l s = ([], 0, false) := by unfold lruV; rw [h]; rfl
theorem lru_some (l : List Int) (s : Int) (h : goodB l = true) (h0 : 0 ≤ s) (h1 : s ≤ 40) : lruV l s = ((playL false s.toNat l [] 0).1, (playL false s.toNat l [] 0).2, true) := by
  unfold lruV; rw [h, if_pos (by simp; omega)]

theorem lru_spec (l : List Int) (s : Int) (hb : l.length < 1000000) (k : Nat) (hk : l.length + 10000 < k) : spec_PlayLru.f k l s = some (lruV l s) := by
  unfold spec_PlayLru.f lruV
  rw [goodRefs_spec l (by omega) k (by omega), l1In_f, Option.bind_some]
  cases hg : goodB l with
  | false => rfl
  | true =>
    rw [if_pos rfl, Option.bind_some, Bool.true_and]
    by_cases c : (decide (0 ≤ s) && decide (s ≤ 40)) = true
    · have c2 : 0 ≤ s ∧ s ≤ 40 := by simpa using c
      have hlen := playL_len false s.toNat l [] 0 (by simp)
      rw [if_pos c, if_pos c, l10Play_f l s c2.1 (by omega) (by omega) k (by omega)]
      simp only [Option.bind_some, List.length_nil, Nat.zero_add, List.nil_append]
      rw [if_pos (by omega)]
    · rw [if_neg c, if_neg c]

theorem FnInclusion : laws_FnInclusion.Pure := by
  intro code hm hs hw
  have hc := bytes_of code hw
  have hb : code.length < 4611686018427387904 := by omega
  by_cases big : (code.length : Int) > 1048576
  · exact ⟨0, by unfold laws_FnInclusion.f; rw [if_pos big]⟩
  obtain ⟨l, a1, s1, hl, ha0, ha1, hd⟩ := refs_ok code hc hb 0 0 (by omega) (by omega)
  obtain ⟨size, a2, s2, hsz, hz0, hz1, _⟩ := size_ok code hc hb a1 s1 ha0 (by omega)
  obtain ⟨m, hk⟩ : ∃ m, m = 100000 := ⟨_, rfl⟩
  have e0 : ∀ j, spec_DrawPlayLru.f (m + j) code = some (l, size) := fun j => by
    unfold spec_DrawPlayLru.f; rw [hd (m + j) (by omega), Option.bind_some, hsz, Option.bind_some]
  have e1 : ∀ j, impl_PlayLru.f (m + j) l size = some (lruV l size) := fun j => lru_impl l size (by omega) (m + j) (by omega)
  have e2 : ∀ j, spec_PlayLru.f (m + j) l size = some (lruV l size) := fun j => lru_spec l size (by omega) (m + j) (by omega)
  by_cases g : (goodB l && (decide (0 ≤ size) && decide (size ≤ 40))) = true
  · have g1 : goodB l = true ∧ 0 ≤ size ∧ size ≤ 40 := by simpa using g
    have v := lru_some l size g1.1 g1.2.1 g1.2.2
    have hlen := playL_len false size.toNat l [] 0 (by simp)
    obtain ⟨st, hst⟩ : ∃ st, st = (playL false size.toNat l [] 0).1 := ⟨_, rfl⟩
    obtain ⟨hits, hh⟩ : ∃ h, h = (playL false size.toNat l [] 0).2 := ⟨_, rfl⟩
    rw [← hst, ← hh] at v
    rw [← hst] at hlen
    simp only [v] at e1 e2
    have hA := play_take size.toNat 40 (by omega) l [] 0 0 (by omega)
    rw [List.take_nil, ← hst, ← hh] at hA
    have hAl := playL_len false 40 l [] 0 (by simp)
    obtain ⟨A, hAe⟩ : ∃ A, A = (playL false 40 l [] 0).1 := ⟨_, rfl⟩
    rw [← hAe] at hA hAl
    have e3 : ∀ j, impl_StackAfter.f (m + j) l = some (A, true) := fun j => by
      unfold impl_StackAfter.f
      rw [goodRefs_impl l (by omega), Option.bind_some, g1.1, if_pos rfl, play_f l 40 false (by omega) (by omega) (by omega) (m + j) (by omega), Option.bind_some, hAe]; rfl
    have stl : st.length = min size.toNat A.length := by rw [hA.1, List.length_take]
    have stA : A.take st.length = st := by
      rw [hA.1, List.length_take]
      by_cases c : size.toNat ≤ A.length
      · rw [Nat.min_eq_left c]
      · rw [Nat.min_eq_right (by omega), List.take_of_length_le (Nat.le_refl _), List.take_of_length_le (by omega)]
    have q : ∀ j, laws_sameInts.f (m + j) st st = some true := fun j => sameInts_f st (by omega) (m + j) (by omega)
    have hn : ((st.length : Int) : Int).toNat = st.length := Int.toNat_natCast _
    have fin : laws_FnInclusion.j1 (m + 4) l size st hits false = some true := by
      simp only [laws_FnInclusion.j1]
      rw [if_neg (by decide)]
      by_cases c40 : size = 40
      · rw [if_pos c40]
      · rw [if_neg c40, w64 (by omega) (by omega), lru_impl l (size + 1) (by omega) (m + 3) (by omega), lru_some l (size + 1) g1.1 (by omega) (by omega), Option.bind_some]
        have hB := play_take size.toNat (size + 1).toNat (by omega) l [] 0 0 (by omega)
        rw [List.take_nil, ← hst, ← hh] at hB
        obtain ⟨B, hBe⟩ : ∃ B, B = (playL false (size + 1).toNat l [] 0).1 := ⟨_, rfl⟩
        obtain ⟨hb2, hbe⟩ : ∃ B, B = (playL false (size + 1).toNat l [] 0).2 := ⟨_, rfl⟩
        rw [← hBe, ← hbe] at hB
        rw [← hBe, ← hbe]
        have bl : st.length = min size.toNat B.length := by rw [hB.1, List.length_take]
        have stB : B.take st.length = st := by
          rw [hB.1, List.length_take]
          by_cases c : size.toNat ≤ B.length
          · rw [Nat.min_eq_left c]
          · rw [Nat.min_eq_right (by omega), List.take_of_length_le (Nat.le_refl _), List.take_of_length_le (by omega)]
        try dsimp only
        rw [if_pos rfl, if_pos (by omega), if_pos (by omega), if_pos (by omega), if_pos (by omega), hn, stB, q 3, Option.bind_some]
    refine ⟨m + 5, ?_⟩
    unfold laws_FnInclusion.f
    rw [if_neg big, e0 5, Option.bind_some]
    try dsimp only
    rw [e1 5, e2 5, Option.bind_some, Option.bind_some]
    try dsimp only
    rw [if_neg (by simp), if_pos rfl, q 5, Option.bind_some]
    simp only [laws_FnInclusion.j0]
    rw [if_neg (by decide), if_pos trivial, e3 4, Option.bind_some]
    try dsimp only
    rw [if_pos rfl, if_neg (by omega), if_pos (by omega), if_pos (by omega), hn, stA, q 4, Option.bind_some, if_pos rfl]
    by_cases c : (st.length : Int) < size
    · rw [if_pos c, show ((st.length : Int) != (A.length : Int)) = false by rw [bne_eq_false_iff_eq]; omega]
      exact fin
    · rw [if_neg c]
      exact fin
  · have v : lruV l size = ([], 0, false) := by unfold lruV; rw [if_neg g]
    simp only [v] at e1 e2
    have q : ∀ j, laws_sameInts.f (m + j) [] [] = some true := fun j => sameInts_f [] (by simp) (m + j) (by simp; omega)
    refine ⟨m + 5, ?_⟩
    unfold laws_FnInclusion.f
    rw [if_neg big, e0 5, Option.bind_some]
    try dsimp only
    rw [e1 5, e2 5, Option.bind_some, Option.bind_some]
    try dsimp only
    rw [if_neg (by simp), if_pos rfl, q 5, Option.bind_some]
    simp only [laws_FnInclusion.j0]
    rw [if_neg (by decide), if_neg (by decide)]
    rfl

end Go.Proofs.Ytgpimekdfnpffaa.Pure
