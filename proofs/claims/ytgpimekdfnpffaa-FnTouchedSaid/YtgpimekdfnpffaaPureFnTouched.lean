/- What is touched is ahead, all else stays in its order, and a window's pages are no fewer in a greater one, for drawn stacks and references. No conditions. -/
import Derived.Test.YtgpimekdfnpffaaPFnTouchedx6
import Derived.Lib.VarintBits
set_option linter.unusedVariables false
set_option linter.unusedSimpArgs false
namespace Go.Proofs.Ytgpimekdfnpffaa.Pure
open Go.RowKit Go.Proofs.Ytgpimekdfnpffaa.PFnTouched Go.Proofs.YtgpimekdfnpffaaW.PrintWords Go.Proofs.YtgpimekdfnpffaaW.PrintLast

theorem bytes_of (l : List Int) (h : ∀ x ∈ l, (Lit.int .u8 x).wf = true) : ∀ x ∈ l, 0 ≤ x ∧ x ≤ 255 := by
  intro x hx
  have := h x hx
  simp [Lit.wf, IntKind.min, IntKind.max, IntKind.bits, IntKind.signed] at this
  omega

/-! Whole numbers and rows of them -/
theorem w64 {x : Int} (h : -9223372036854775808 ≤ x) (h2 : x < 9223372036854775808) : wrap64 x = x := by unfold wrap64; omega
theorem rd_nat (l : List Int) (n : Nat) (h : n < l.length) : rd l (n : Int) = l[n] := by
  unfold rd; simp [List.getD_eq_getElem?_getD, h]
theorem succ_cast (n : Nat) : ((n : Int) + 1) = ((n + 1 : Nat) : Int) := by omega

/-! The first place at which a predicate holds -/
theorem idxO_ge {α : Type} (p : α → Option Bool) (l : List α) : ∀ (n i : Int), 0 ≤ n → idxO p l n = some i → i = -1 ∨ n ≤ i := by
  induction l with
  | nil => intro n i hn h; left; exact (Option.some.inj h).symm
  | cons x xs ih =>
    intro n i hn h
    obtain ⟨b, hb, h2⟩ := Option.bind_eq_some_iff.mp h
    cases b with
    | true => right; have := Option.some.inj h2; omega
    | false => have := ih (n + 1) i (by omega) h2; omega
theorem idxO_all {α : Type} (p : α → Option Bool) (q : α → Bool) (h : ∀ x, p x = some (!q x)) (l : List α) : ∀ (n : Int), 0 ≤ n → ∃ i, idxO p l n = some i ∧ (!decide (i ≥ 0)) = l.all q := by
  induction l with
  | nil => intro n hn; exact ⟨-1, rfl, rfl⟩
  | cons x xs ih =>
    intro n hn
    unfold idxO
    rw [h x, Option.bind_some]
    cases hq : q x with
    | true =>
      obtain ⟨i, h1, h2⟩ := ih (n + 1) (by omega)
      exact ⟨i, h1, by rw [h2, List.all_cons, hq, Bool.true_and]⟩
    | false => exact ⟨n, rfl, by rw [List.all_cons, hq, Bool.false_and, decide_eq_true (show n ≥ 0 from hn)]; rfl⟩

/-! References: good ones -/
def pageB (x : Int) : Bool := decide (0 ≤ x) && decide (x ≤ 99)
def goodB (l : List Int) : Bool := decide (l.length ≤ 200) && l.all pageB
theorem within_f (a b c : Int) : impl_within.f a b c = some (decide (b ≤ a) && decide (a ≤ c)) := by
  unfold impl_within.f
  by_cases h : b ≤ a
  · rw [if_pos h, decide_eq_true h, Bool.true_and]
  · rw [if_neg h, decide_eq_false h, Bool.false_and]
theorem l1In_f (a b c : Int) : spec_l1In.f a b c = some (decide (b ≤ a) && decide (a ≤ c)) := by
  unfold spec_l1In.f
  by_cases h : b ≤ a
  · rw [if_pos h, decide_eq_true h, Bool.true_and]
  · rw [if_neg h, decide_eq_false h, Bool.false_and]
theorem isPage_f (x : Int) : impl_isPage.f x = some (pageB x) := by unfold impl_isPage.f; rw [within_f]; rfl
theorem goodRefs_impl (l : List Int) (hb : l.length < 9223372036854775807) : impl_GoodRefs.f l = some (goodB l) := by
  unfold impl_GoodRefs.f goodB
  by_cases c : l.length ≤ 200
  · have c2 : (l.length : Int) ≤ 200 := by omega
    rw [if_pos c2, decide_eq_true c, Bool.true_and]
    unfold xAll_i64_impl_isPage.f
    rw [if_pos hb]
    obtain ⟨i, h1, h2⟩ := idxO_all xAll_i64_impl_isPage.z pageB (fun x => by unfold xAll_i64_impl_isPage.z; rw [isPage_f]; rfl) l 0 (by omega)
    rw [h1, Option.bind_some, Option.bind_some, h2]
  · have c2 : ¬ (l.length : Int) ≤ 200 := by omega
    rw [if_neg c2, decide_eq_false c, Bool.false_and]
theorem goodRefs_loop (l : List Int) (hb : l.length < 4611686018427387904) (d : Nat) : ∀ (k n : Nat), n + d = l.length → d < k →
    spec_GoodRefs.l0 k l l (l.length : Int) (n : Int) = some ((l.drop n).all pageB && decide (l.length ≤ 200)) := by
  induction d with
  | zero =>
    intro k n hn hk
    obtain ⟨k, rfl⟩ : ∃ m, k = m + 1 := ⟨k - 1, by omega⟩
    have c : ¬ (n : Int) < (l.length : Int) := by omega
    simp only [spec_GoodRefs.l0]; rw [if_neg c, List.drop_of_length_le (by omega), List.all_nil, Bool.true_and]
    exact congrArg some (decide_eq_decide.mpr (by omega))
  | succ d ih =>
    intro k n hn hk
    obtain ⟨k, rfl⟩ : ∃ m, k = m + 1 := ⟨k - 1, by omega⟩
    have h1 : n < l.length := by omega
    have c1 : (n : Int) < (l.length : Int) := by omega
    have c0 : (0 : Int) ≤ (n : Int) := by omega
    simp only [spec_GoodRefs.l0]
    rw [if_pos c1, if_pos c0, if_pos c1, rd_nat l n h1, l1In_f, Option.bind_some, List.drop_eq_getElem_cons h1, List.all_cons, w64 (by omega) (by omega), succ_cast, ih k (n + 1) (by omega) (by omega)]
    cases hp : pageB l[n] with
    | true =>
      have hp' : (decide (0 ≤ l[n]) && decide (l[n] ≤ 99)) = true := hp
      rw [if_pos hp', Bool.true_and]
    | false =>
      have hp' : (decide (0 ≤ l[n]) && decide (l[n] ≤ 99)) = false := hp
      rw [hp', if_neg (by decide)]; rfl
theorem goodRefs_spec (l : List Int) (hb : l.length < 4611686018427387904) (k : Nat) (hk : l.length < k) : spec_GoodRefs.f k l = some (goodB l) := by
  unfold spec_GoodRefs.f goodB
  have h := goodRefs_loop l hb l.length k 0 (by omega) hk
  rw [Bool.and_comm]
  exact h

/-! A stack behind a reference -/
def touchL (st : List Int) (p : Int) (s : Nat) : List Int := (p :: st.erase p).take s
theorem touchL_length (st : List Int) (p : Int) (s : Nat) : (touchL st p s).length ≤ s := by unfold touchL; rw [List.length_take]; omega
theorem touchL_nodup (st : List Int) (p : Int) (s : Nat) (h : st.Nodup) : (touchL st p s).Nodup := by
  unfold touchL
  refine List.Nodup.sublist (List.take_sublist _ _) ?_
  exact List.nodup_cons.mpr ⟨fun hm => by rw [h.mem_erase_iff] at hm; exact hm.1 rfl, h.erase p⟩
theorem touch_f (st : List Int) (p s : Int) (h0 : 0 ≤ s) (hb : st.length < 10000) : impl_touch.f st p s = some (touchL st p s.toNat, st.contains p) := by
  unfold impl_touch.f touchL
  rw [if_pos hb, if_pos h0]

theorem l10Touch_loop (l : List Int) (p s : Int) (h0 : 0 ≤ s) (hb : l.length < 1000000) (d : Nat) : ∀ (k n : Nat) (out : List Int) (hit : Bool), n + d = l.length → d < k → out.length ≤ n + 1 →
    spec_l10Touch.l0 k p s out hit l (l.length : Int) (n : Int) = some ((out ++ (l.drop n).filter (fun x => x != p)).take s.toNat, hit || (l.drop n).contains p) := by
  induction d with
  | zero =>
    intro k n out hit hn hk ho
    obtain ⟨k, rfl⟩ : ∃ m, k = m + 1 := ⟨k - 1, by omega⟩
    have c : ¬ (n : Int) < (l.length : Int) := by omega
    simp only [spec_l10Touch.l0]; rw [if_neg c, List.drop_of_length_le (by omega), List.filter_nil, List.append_nil, List.contains_nil, Bool.or_false]
    by_cases c2 : (out.length : Int) > s
    · rw [if_pos c2, if_pos h0, if_pos (by omega)]
    · rw [if_neg c2, List.take_of_length_le (by omega)]
  | succ d ih =>
    intro k n out hit hn hk ho
    obtain ⟨k, rfl⟩ : ∃ m, k = m + 1 := ⟨k - 1, by omega⟩
    have h1 : n < l.length := by omega
    have c1 : (n : Int) < (l.length : Int) := by omega
    have c0 : (0 : Int) ≤ (n : Int) := by omega
    simp only [spec_l10Touch.l0]
    rw [if_pos c1, if_pos c0, if_pos c1, rd_nat l n h1, w64 (by omega) (by omega), succ_cast, List.drop_eq_getElem_cons h1, List.contains_cons]
    by_cases e : l[n] = p
    · rw [if_pos e, ih k (n + 1) out true (by omega) (by omega) (by omega), List.filter_cons_of_neg (by simp [e]), show (p == l[n]) = true from beq_iff_eq.mpr e.symm]
      simp
    · rw [if_neg e, if_pos (by omega), ih k (n + 1) _ hit (by omega) (by omega) (by simp; omega), List.filter_cons_of_pos (by simp [e]), show (p == l[n]) = false from beq_eq_false_iff_ne.mpr (fun h => e h.symm), Bool.false_or, List.append_assoc]
      rfl
theorem l10Touch_f (st : List Int) (p s : Int) (h0 : 0 ≤ s) (hb : st.length < 1000000) (hd : st.Nodup) (k : Nat) (hk : st.length < k) : spec_l10Touch.f k st p s = some (touchL st p s.toNat, st.contains p) := by
  unfold spec_l10Touch.f touchL
  have h := l10Touch_loop st p s h0 hb st.length k 0 [p] false (by omega) hk (by simp)
  rw [show ((0 : Nat) : Int) = 0 from rfl] at h
  rw [h, List.drop_zero, Bool.false_or, hd.erase_eq_filter]
  rfl

/-! References played -/
def playL (still : Bool) (s : Nat) : List Int → List Int → Int → List Int × Int
  | [], st, h => (st, h)
  | p :: ps, st, h => if st.contains p = true then playL still s ps (if still = true then st else touchL st p s) (h + 1) else playL still s ps (touchL st p s) h
theorem playL_len (still : Bool) (s : Nat) (l : List Int) : ∀ (st : List Int) (h : Int), st.length ≤ s → (playL still s l st h).1.length ≤ s := by
  induction l with
  | nil => intro st h hs; exact hs
  | cons p ps ih =>
    intro st h hs
    unfold playL
    split
    · refine ih _ _ ?_
      split
      · exact hs
      · exact touchL_length _ _ _
    · exact ih _ _ (touchL_length _ _ _)

theorem l10Play_loop (l : List Int) (s : Int) (h0 : 0 ≤ s) (h1 : s ≤ 5000) (hb : l.length < 1000000) (d : Nat) : ∀ (k n : Nat) (st : List Int) (h : Int), n + d = l.length → d + 5001 < k → st.length ≤ s.toNat → st.Nodup → 0 ≤ h → h ≤ n →
    spec_l10Play.l0 k s st h l (l.length : Int) (n : Int) = some (playL false s.toNat (l.drop n) st h) := by
  induction d with
  | zero =>
    intro k n st h hn hk hs hd hh hh2
    obtain ⟨k, rfl⟩ : ∃ m, k = m + 1 := ⟨k - 1, by omega⟩
    have c : ¬ (n : Int) < (l.length : Int) := by omega
    simp only [spec_l10Play.l0]; rw [if_neg c, List.drop_of_length_le (by omega)]; rfl
  | succ d ih =>
    intro k n st h hn hk hs hd hh hh2
    obtain ⟨k, rfl⟩ : ∃ m, k = m + 1 := ⟨k - 1, by omega⟩
    have h1 : n < l.length := by omega
    have c1 : (n : Int) < (l.length : Int) := by omega
    have c0 : (0 : Int) ≤ (n : Int) := by omega
    simp only [spec_l10Play.l0]
    rw [if_pos c1, if_pos c0, if_pos c1, rd_nat l n h1, w64 (x := (n : Int) + 1) (by omega) (by omega), succ_cast, List.drop_eq_getElem_cons h1, l10Touch_f st l[n] s h0 (by omega) hd k (by omega), Option.bind_some]
    unfold playL
    have hl := touchL_length st l[n] s.toNat
    have hd2 := touchL_nodup st l[n] s.toNat hd
    cases hc : st.contains l[n] with
    | true =>
      simp only [if_true, Bool.false_eq_true, if_false]
      rw [w64 (x := h + 1) (by omega) (by omega)]
      exact ih k (n + 1) _ (h + 1) (by omega) (by omega) hl hd2 (by omega) (by omega)
    | false =>
      simp only [Bool.false_eq_true, if_false]
      exact ih k (n + 1) _ h (by omega) (by omega) hl hd2 (by omega) (by omega)
theorem l10Play_f (l : List Int) (s : Int) (h0 : 0 ≤ s) (h1 : s ≤ 5000) (hb : l.length < 1000000) (k : Nat) (hk : l.length + 5001 < k) : spec_l10Play.f k l s = some (playL false s.toNat l [] 0) := by
  unfold spec_l10Play.f
  have h := l10Play_loop l s h0 h1 hb l.length k 0 [] 0 (by omega) hk (by simp) List.nodup_nil (by omega) (by omega)
  simpa using h

theorem isSize_f (x : Int) : impl_isSize.f x = some (decide (0 ≤ x) && decide (x ≤ 40)) := by unfold impl_isSize.f; rw [within_f]; rfl

/-! What the exact laws do with lists -/
theorem goodB_len (l : List Int) (h : goodB l = true) : l.length ≤ 200 := by
  unfold goodB at h
  simp only [Bool.and_eq_true, decide_eq_true_eq] at h
  exact h.1

/-! The cursor that draws an argument out of bytes -/
theorem and255 (y : Int) (h0 : 0 ≤ y) (h1 : y < 18446744073709551616) : bits .and .u64 y 255 = y % 256 := bits_mask .u64 64 (by decide) wraps_u64 8 (by decide) y h0 h1
theorem and255_range (s : Int) : 0 ≤ bits .and .u64 ((IntKind.u64.wrap s) / 1099511627776) 255 ∧ bits .and .u64 ((IntKind.u64.wrap s) / 1099511627776) 255 ≤ 255 := by
  have h : IntKind.u64.wrap s = s % 18446744073709551616 := IntKind.wrap_u64 s
  rw [h, and255 _ (by omega) (by omega)]
  omega
theorem rd_byte (l : List Int) (hc : ∀ x ∈ l, 0 ≤ x ∧ x ≤ 255) (i : Int) (h0 : 0 ≤ i) (h1 : i < l.length) : 0 ≤ rd l i ∧ rd l i ≤ 255 := by
  obtain ⟨n, rfl⟩ : ∃ n : Nat, i = (n : Int) := ⟨i.toNat, by omega⟩
  rw [rd_nat l n (by omega)]
  exact hc _ (List.getElem_mem _)
theorem next_ok (code : List Int) (hc : ∀ x ∈ code, 0 ≤ x ∧ x ≤ 255) (hb : code.length < 4611686018427387904) (a s : Int) (h0 : 0 ≤ a) (h1 : a < 4611686018427387904) :
    ∃ b s', spec_l1Cur_next.f code a s = some (b, a + 1, s') ∧ 0 ≤ b ∧ b ≤ 255 := by
  have hw : wrap64 (a + 1) = a + 1 := w64 (by omega) (by omega)
  unfold spec_l1Cur_next.f
  rw [hw]
  by_cases c : a < (code.length : Int)
  · have hr := rd_byte code hc a h0 c
    rw [if_pos c, if_pos h0, if_pos (by omega)]
    exact ⟨_, _, rfl, by rw [w64 (by omega) (by omega)]; exact hr⟩
  · rw [if_neg c, if_neg (by omega)]
    refine ⟨_, _, rfl, ?_⟩
    have hr := and255_range ((IntKind.u64.wrap (IntKind.u64.wrap (s * 6364136223846793005))) + 1442695040888963407)
    rw [w64 (by omega) (by omega)]
    exact hr
theorem tmod_range (x n : Int) (h : 0 ≤ x) (hn : 0 < n) : 0 ≤ Int.tmod x n ∧ Int.tmod x n < n := ⟨Int.tmod_nonneg n h, Int.tmod_lt_of_pos x hn⟩
theorem pick_ok (code : List Int) (hc : ∀ x ∈ code, 0 ≤ x ∧ x ≤ 255) (hb : code.length < 4611686018427387904) (a s n : Int) (h0 : 0 ≤ a) (h1 : a < 4611686018427380000) :
    ∃ v a' s', spec_l1Cur_pick.f code a s n = some (v, a', s') ∧ 0 ≤ v ∧ (v < n ∨ v = 0) ∧ a ≤ a' ∧ a' ≤ a + 2 := by
  unfold spec_l1Cur_pick.f
  by_cases c : n ≤ 1
  · rw [if_pos c]
    exact ⟨0, a, s, rfl, by omega, by omega, by omega, by omega⟩
  · rw [if_neg c]
    obtain ⟨b, s1, e1, hb0, hb1⟩ := next_ok code hc hb a s h0 (by omega)
    rw [e1, Option.bind_some]
    by_cases c2 : n > 200
    · rw [if_pos c2]
      obtain ⟨b2, s2, e2, hb2, hb3⟩ := next_ok code hc hb (a + 1) s1 (by omega) (by omega)
      try dsimp only
      rw [e2, Option.bind_some, if_neg (by omega)]
      have hw1 : wrap64 (b * 256) = b * 256 := w64 (by omega) (by omega)
      have hw2 : wrap64 (b * 256 + b2) = b * 256 + b2 := w64 (by omega) (by omega)
      have hr := tmod_range (b * 256 + b2) n (by omega) (by omega)
      refine ⟨_, _, _, rfl, ?_⟩
      simp only [hw1, hw2]
      exact ⟨hr.1, Or.inl hr.2, by omega, by omega⟩
    · rw [if_neg c2, if_neg (by omega)]
      have hr := tmod_range b n (by omega) (by omega)
      refine ⟨_, _, _, rfl, hr.1, Or.inl hr.2, ?_, ?_⟩ <;> dsimp only <;> omega
theorem one_ok (code : List Int) (hc : ∀ x ∈ code, 0 ≤ x ∧ x ≤ 255) (hb : code.length < 4611686018427387904) (a s n : Int) (h0 : 0 ≤ a) (h1 : a < 4611686018427380000) :
    ∃ v a' s', spec_l1Cur_one.f code a s n = some (v, a', s') ∧ a ≤ a' ∧ a' ≤ a + 2 := by
  unfold spec_l1Cur_one.f
  obtain ⟨v, a', s', e, h⟩ := pick_ok code hc hb a s n h0 h1
  rw [e, Option.bind_some]
  exact ⟨_, _, _, rfl, h.2.2⟩
theorem among_ok (code : List Int) (hc : ∀ x ∈ code, 0 ≤ x ∧ x ≤ 255) (hb : code.length < 4611686018427387904) (l : List Int) (hl : 0 < l.length) (a s : Int) (h0 : 0 ≤ a) (h1 : a < 4611686018427380000) :
    ∃ v a' s', spec_l1Cur_among.f code a s l = some (v, a', s') ∧ v ∈ l ∧ a ≤ a' ∧ a' ≤ a + 2 := by
  unfold spec_l1Cur_among.f
  obtain ⟨v, a', s', e, h⟩ := pick_ok code hc hb a s (l.length : Int) h0 h1
  rw [e, Option.bind_some, if_pos h.1]
  have c : v < (l.length : Int) := by omega
  try dsimp only
  rw [if_pos c]
  refine ⟨_, _, _, rfl, ?_, h.2.2⟩
  obtain ⟨n, rfl⟩ : ∃ n : Nat, v = (n : Int) := ⟨v.toNat, by omega⟩
  try dsimp only
  rw [rd_nat l n (by omega)]
  exact List.getElem_mem _

/-! References drawn -/
theorem refs_loop (code : List Int) (hc : ∀ x ∈ code, 0 ≤ x ∧ x ≤ 255) (hb : code.length < 4611686018427387904) (x5 : Int) (d : Nat) : ∀ (l : List Int) (a s : Int), l.length + d ≤ 1000 → 0 ≤ a → a + 2 * d ≤ 4000 →
    ∃ l' a' s', l'.length ≤ l.length + d ∧ 0 ≤ a' ∧ a' ≤ a + 2 * d + 4 ∧ ∀ k, d < k → spec_l1Cur_refs.l0 k l (d : Int) x5 code a s = some (l', a', s') := by
  induction d with
  | zero =>
    intro l a s hl h0 h1
    by_cases c : (l.length : Int) > 0
    · obtain ⟨b, a1, s1, e1, h2⟩ := one_ok code hc hb a s 40 h0 (by omega)
      cases b with
      | false =>
        refine ⟨l, a1, s1, by omega, by omega, by omega, fun k hk => ?_⟩
        obtain ⟨k, rfl⟩ : ∃ m, k = m + 1 := ⟨k - 1, by omega⟩
        simp only [spec_l1Cur_refs.l0]
        rw [if_neg (by omega), if_pos c, e1, Option.bind_some, if_neg Bool.false_ne_true]
      | true =>
        obtain ⟨v, a2, s2, e2, _, h3⟩ := among_ok code hc hb [-1, 99, 100] (by decide) a1 s1 (by omega) (by omega)
        refine ⟨l.set (0 : Int).toNat v, a2, s2, by rw [List.length_set]; omega, by omega, by omega, fun k hk => ?_⟩
        obtain ⟨k, rfl⟩ : ∃ m, k = m + 1 := ⟨k - 1, by omega⟩
        simp only [spec_l1Cur_refs.l0]
        rw [if_neg (by omega), if_pos c, e1, Option.bind_some, if_pos rfl, e2, Option.bind_some, if_pos (by omega)]
    · refine ⟨l, a, s, by omega, by omega, by omega, fun k hk => ?_⟩
      obtain ⟨k, rfl⟩ : ∃ m, k = m + 1 := ⟨k - 1, by omega⟩
      simp only [spec_l1Cur_refs.l0]
      rw [if_neg (by omega), if_neg c]
  | succ d ih =>
    intro l a s hl h0 h1
    obtain ⟨v, a1, s1, e1, _, _, h2⟩ := pick_ok code hc hb a s x5 h0 (by omega)
    obtain ⟨l', a', s', g1, g2, g3, g4⟩ := ih (l ++ [v]) a1 s1 (by rw [List.length_append, List.length_singleton]; omega) (by omega) (by omega)
    rw [List.length_append, List.length_singleton] at g1
    refine ⟨l', a', s', by omega, g2, by omega, fun k hk => ?_⟩
    obtain ⟨k, rfl⟩ : ∃ m, k = m + 1 := ⟨k - 1, by omega⟩
    simp only [spec_l1Cur_refs.l0]
    rw [if_pos (by omega), e1, Option.bind_some, if_pos (by omega), w64 (x := ((d + 1 : Nat) : Int) - 1) (by omega) (by omega), show ((d + 1 : Nat) : Int) - 1 = (d : Int) by omega]
    exact g4 k (by omega)
theorem refs_j0 (code : List Int) (hc : ∀ x ∈ code, 0 ≤ x ∧ x ≤ 255) (hb : code.length < 4611686018427387904) (n : Int) (h0 : 0 ≤ n) (h1 : n ≤ 300) (a s : Int) (ha : 0 ≤ a) (ha1 : a ≤ 100) :
    ∃ l' a' s', l'.length ≤ 300 ∧ 0 ≤ a' ∧ a' ≤ 1000 ∧ ∀ k, 400 < k → spec_l1Cur_refs.j0 k [] n code a s = some (l', a', s') := by
  obtain ⟨d, rfl⟩ : ∃ d : Nat, n = (d : Int) := ⟨n.toNat, by omega⟩
  obtain ⟨v, a1, s1, e1, _, _, h2⟩ := pick_ok code hc hb a s 9 ha (by omega)
  obtain ⟨b, a2, s2, e2, h3⟩ := one_ok code hc hb a1 s1 20 (by omega) (by omega)
  obtain ⟨x5, hx⟩ : ∃ x5 : Int, x5 = if b = true then 60 else wrap64 (1 + v) := ⟨_, rfl⟩
  obtain ⟨l', a', s', g1, g2, g3, g4⟩ := refs_loop code hc hb x5 d [] a2 s2 (by simp; omega) (by omega) (by omega)
  refine ⟨l', a', s', by simp at g1; omega, g2, by omega, fun k hk => ?_⟩
  obtain ⟨k, rfl⟩ : ∃ m, k = m + 2 := ⟨k - 2, by omega⟩
  simp only [spec_l1Cur_refs.j0]
  rw [e1, Option.bind_some, e2, Option.bind_some]
  have g := g4 k (by omega)
  cases b with
  | true => rw [if_pos rfl] at hx; subst hx; rw [if_pos rfl]; simp only [spec_l1Cur_refs.j1]; exact g
  | false => rw [if_neg Bool.false_ne_true] at hx; subst hx; rw [if_neg Bool.false_ne_true]; simp only [spec_l1Cur_refs.j1]; exact g
theorem refs_ok (code : List Int) (hc : ∀ x ∈ code, 0 ≤ x ∧ x ≤ 255) (hb : code.length < 4611686018427387904) (a s : Int) (ha : 0 ≤ a) (ha1 : a ≤ 50) :
    ∃ l' a' s', l'.length ≤ 300 ∧ 0 ≤ a' ∧ a' ≤ 1000 ∧ ∀ k, 400 < k → spec_l1Cur_refs.f k code a s = some (l', a', s') := by
  obtain ⟨v, a1, s1, e1, hv0, hv1, h2⟩ := pick_ok code hc hb a s 30 ha (by omega)
  obtain ⟨b, a2, s2, e2, h3⟩ := one_ok code hc hb a1 s1 12 (by omega) (by omega)
  unfold spec_l1Cur_refs.f
  simp only [e1, Option.bind_some, e2]
  cases b with
  | false =>
    obtain ⟨l', a', s', g⟩ := refs_j0 code hc hb v hv0 (by omega) a2 s2 (by omega) (by omega)
    exact ⟨l', a', s', g.1, g.2.1, g.2.2.1, fun k hk => by rw [if_neg Bool.false_ne_true]; exact g.2.2.2 k hk⟩
  | true =>
    obtain ⟨v2, a3, s3, e3, hw0, hw1, h4⟩ := pick_ok code hc hb a2 s2 12 (by omega) (by omega)
    obtain ⟨l', a', s', g⟩ := refs_j0 code hc hb (wrap64 (190 + v2)) (by rw [w64 (by omega) (by omega)]; omega) (by rw [w64 (by omega) (by omega)]; omega) a3 s3 (by omega) (by omega)
    exact ⟨l', a', s', g.1, g.2.1, g.2.2.1, fun k hk => by rw [if_pos rfl, e3, Option.bind_some]; exact g.2.2.2 k hk⟩

theorem size_ok (code : List Int) (hc : ∀ x ∈ code, 0 ≤ x ∧ x ≤ 255) (hb : code.length < 4611686018427387904) (a s : Int) (ha : 0 ≤ a) (ha1 : a ≤ 10000) :
    ∃ v a' s', spec_l1Cur_size.f code a s = some (v, a', s') ∧ -1 ≤ v ∧ v ≤ 41 ∧ a ≤ a' ∧ a' ≤ a + 4 := by
  unfold spec_l1Cur_size.f
  obtain ⟨b, a1, s1, e1, h1⟩ := one_ok code hc hb a s 20 ha (by omega)
  rw [e1, Option.bind_some]
  cases b with
  | true =>
    rw [if_pos rfl]
    obtain ⟨v, a2, s2, e2, hm, h3⟩ := among_ok code hc hb [-1, 0, 40, 41] (by decide) a1 s1 (by omega) (by omega)
    try dsimp only
    rw [e2, Option.bind_some]
    refine ⟨_, _, _, rfl, ?_, ?_, by try dsimp only; omega, by try dsimp only; omega⟩ <;> (simp at hm ⊢; omega)
  | false =>
    rw [if_neg Bool.false_ne_true]
    obtain ⟨v, a2, s2, e2, h2, h3, h4⟩ := pick_ok code hc hb a1 s1 8 (by omega) (by omega)
    try dsimp only
    rw [e2, Option.bind_some]
    exact ⟨_, _, _, rfl, by try dsimp only; rw [w64 (by omega) (by omega)]; omega, by try dsimp only; rw [w64 (by omega) (by omega)]; omega, by try dsimp only; omega, by try dsimp only; omega⟩

/-! The laws' sameInts, of a row with itself -/
theorem sameInts_loop (l : List Int) (hb : l.length < 4611686018427387904) (d : Nat) : ∀ (k n : Nat), n + d = l.length → d < k →
    laws_sameInts.l0 k l l (l.length : Int) (n : Int) = some true := by
  induction d with
  | zero =>
    intro k n hn hk
    obtain ⟨k, rfl⟩ : ∃ m, k = m + 1 := ⟨k - 1, by omega⟩
    simp only [laws_sameInts.l0]; rw [if_neg (by omega)]
  | succ d ih =>
    intro k n hn hk
    obtain ⟨k, rfl⟩ : ∃ m, k = m + 1 := ⟨k - 1, by omega⟩
    simp only [laws_sameInts.l0]
    rw [if_pos (by omega), if_pos (by omega), if_pos (by omega), if_pos (by omega), if_pos trivial, w64 (x := (n : Int) + 1) (by omega) (by omega), succ_cast]
    exact ih k (n + 1) (by omega) (by omega)
theorem sameInts_f (l : List Int) (hb : l.length < 4611686018427387904) (k : Nat) (hk : l.length < k) : laws_sameInts.f k l l = some true := by
  unfold laws_sameInts.f
  rw [if_pos rfl]
  exact sameInts_loop l hb l.length k 0 (by omega) hk

/-! Stacks: all unlike numbers, the last one first. Of a row told backwards -/
def stackOf : List Int → List Int
  | [] => []
  | x :: R => x :: (stackOf R).erase x
theorem mem_stackOf (R : List Int) : ∀ y, y ∈ stackOf R ↔ y ∈ R := by
  induction R with
  | nil => intro y; exact Iff.rfl
  | cons x R ih =>
    intro y
    unfold stackOf
    by_cases e : y = x
    · simp [e]
    · rw [List.mem_cons, List.mem_cons, List.mem_erase_of_ne e, ih]
theorem nodup_stackOf (R : List Int) : (stackOf R).Nodup := by
  induction R with
  | nil => exact List.nodup_nil
  | cons x R ih =>
    unfold stackOf
    exact List.nodup_cons.mpr ⟨fun h => by rw [ih.mem_erase_iff] at h; exact h.1 rfl, ih.erase x⟩
theorem stackOf_append (A R : List Int) : stackOf (A ++ R) = stackOf A ++ (stackOf R).filter (fun y => !A.contains y) := by
  induction A with
  | nil =>
    simp only [stackOf, List.nil_append]
    exact (List.filter_eq_self.mpr (by simp)).symm
  | cons a A ih =>
    rw [List.cons_append]
    simp only [stackOf]
    rw [ih, List.cons_append]
    congr 1
    by_cases e : a ∈ A
    · rw [List.erase_append_left _ ((mem_stackOf A a).mpr e)]
      congr 1
      apply List.filter_congr
      intro y hy
      by_cases e2 : y = a
      · subst e2; simp [e]
      · simp [e2]
    · have e2 : a ∉ stackOf A := fun h => e ((mem_stackOf A a).mp h)
      have hd : ((stackOf R).filter (fun y => !A.contains y)).Nodup := (nodup_stackOf R).filter _
      rw [List.erase_append_right _ e2, List.erase_of_not_mem e2, List.Nodup.erase_eq_filter hd, List.filter_filter]
      congr 1
      apply List.filter_congr
      intro y hy
      by_cases e3 : y = a
      · subst e3; simp
      · simp [e3]
theorem stackOf_last (A : List Int) (x : Int) (h : x ∉ A) : (stackOf (A ++ [x])).length = (stackOf A).length + 1 := by
  rw [stackOf_append]
  simp [stackOf, h]
theorem findIdx_at (A : List Int) (x : Int) (B : List Int) (h : x ∉ A) : (stackOf (A ++ x :: B)).findIdx (fun y => x == y) = (stackOf A).length := by
  rw [stackOf_append]
  simp only [stackOf]
  rw [List.filter_cons_of_pos (by simp [h])]
  have h2 : x ∉ stackOf A := fun hh => h ((mem_stackOf A x).mp hh)
  rw [List.findIdx_append]
  have h3 : List.findIdx (fun y => x == y) (stackOf A) = (stackOf A).length := by
    rw [List.findIdx_eq_length]
    intro y hy
    exact beq_eq_false_iff_ne.mpr (fun e => h2 (e ▸ hy))
  rw [h3]
  simp [List.findIdx_cons]
theorem small_length (n : Nat) : ∀ (l : List Int), l.Nodup → (∀ x ∈ l, 0 ≤ x ∧ x < (n : Int)) → l.length ≤ n := by
  induction n with
  | zero =>
    intro l _ h
    cases l with
    | nil => exact Nat.le_refl _
    | cons x xs => have := h x (by simp); omega
  | succ n ih =>
    intro l hd h
    have h2 := ih (l.erase (n : Int)) (hd.erase _) (fun x hx => by
      rw [hd.mem_erase_iff] at hx
      have := h x hx.2
      have h3 := hx.1
      omega)
    rw [List.length_erase] at h2
    split at h2 <;> omega
theorem stackOf_small (R : List Int) (h : ∀ x ∈ R, 0 ≤ x ∧ x ≤ 99) : (stackOf R).length ≤ 100 :=
  small_length 100 (stackOf R) (nodup_stackOf R) (fun x hx => by have := h x ((mem_stackOf R x).mp hx); omega)
theorem touch_stackOf (R : List Int) (x : Int) (hx : 0 ≤ x ∧ x ≤ 99) (h : ∀ x ∈ R, 0 ≤ x ∧ x ≤ 99) : touchL (stackOf R) x 100 = stackOf (x :: R) := by
  unfold touchL
  have h2 := stackOf_small (x :: R) (fun y hy => by
    rcases List.mem_cons.mp hy with rfl | hy
    · exact hx
    · exact h y hy)
  exact List.take_of_length_le h2

theorem unlikeN_stack (l : List Int) (n : Nat) (hn : n ≤ l.length) : unlikeN l n = (stackOf (l.take n).reverse).length := by
  induction n with
  | zero => simp [unlikeN, stackOf]
  | succ n ih =>
    have h1 : n < l.length := by omega
    unfold unlikeN
    rw [ih (by omega), List.take_succ_eq_append_getElem h1, List.reverse_append, List.reverse_singleton, List.singleton_append]
    simp only [stackOf, List.length_cons]
    have e : l.getD n 0 = l[n] := by simp [List.getD_eq_getElem?_getD, h1]
    rw [e, List.length_erase]
    have e2 : (l[n] ∈ stackOf (l.take n).reverse) ↔ ((l.take n).contains l[n] = true) := by rw [mem_stackOf, List.mem_reverse, List.contains_iff_mem]
    by_cases c : (l.take n).contains l[n] = true
    · rw [if_pos c, if_pos (e2.mpr c)]
      have h3 : 0 < (stackOf (l.take n).reverse).length := List.length_pos_of_mem (e2.mpr c)
      omega
    · rw [if_neg c, if_neg (fun h => c (e2.mp h))]
theorem unlike_f (l : List Int) (hb : l.length < 4611686018427387904) : spec_l10Unlike.f l = some ((stackOf l.reverse).length : Int) := by
  unfold spec_l10Unlike.f
  rw [if_pos hb, unlikeN_stack l l.length (Nat.le_refl _), List.take_length]

/-! unlike, by the sorted row -/
theorem nodup_length_le (a : List Int) : ∀ (b : List Int), a.Nodup → (∀ x ∈ a, x ∈ b) → a.length ≤ b.length := by
  induction a with
  | nil => intro b _ _; exact Nat.zero_le _
  | cons x a ih =>
    intro b hd hm
    have hx := hm x (by simp)
    have h2 := ih (b.erase x) (List.nodup_cons.mp hd).2 (fun y hy => by
      have hne : y ≠ x := fun e => by subst e; exact (List.nodup_cons.mp hd).1 hy
      rw [List.mem_erase_of_ne hne]
      exact hm y (by simp [hy]))
    rw [List.length_erase_of_mem hx] at h2
    have := List.length_pos_of_mem hx
    rw [List.length_cons]; omega
theorem stackOf_len_congr (a b : List Int) (h : ∀ x, x ∈ a ↔ x ∈ b) : (stackOf a).length = (stackOf b).length := by
  apply Nat.le_antisymm
  · exact nodup_length_le _ _ (nodup_stackOf a) (fun x hx => (mem_stackOf b x).mpr ((h x).mp ((mem_stackOf a x).mp hx)))
  · exact nodup_length_le _ _ (nodup_stackOf b) (fun x hx => (mem_stackOf a x).mpr ((h x).mpr ((mem_stackOf b x).mp hx)))
theorem sorted_at (S : List Int) (hS : S.Pairwise (fun x y => decide (x ≤ y) = true)) (i j : Nat) (hij : i ≤ j) (hj : j < S.length) : S[i] ≤ S[j] := by
  rcases Nat.lt_or_eq_of_le hij with h | h
  · have := List.pairwise_iff_getElem.mp hS i j (by omega) hj h
    exact of_decide_eq_true this
  · subst h; exact Int.le_refl _
theorem keeps_sorted (S : List Int) (hS : S.Pairwise (fun x y => decide (x ≤ y) = true)) (m : Nat) (hm : m < S.length) : Lib.keeps S.toArray m = !(S.take m).contains S[m] := by
  have g1 : S.toArray[m]! = S[m] := by simp [hm]
  unfold Lib.keeps
  rw [g1]
  by_cases c : (S.take m).contains S[m] = true
  · rw [c]
    obtain ⟨i, hi, e⟩ := List.getElem_of_mem (List.contains_iff_mem.mp c)
    have hi2 : i < m := by rw [List.length_take] at hi; omega
    have g2 : S.toArray[m - 1]! = S[m - 1] := by simp [show m - 1 < S.length by omega]
    rw [List.getElem_take] at e
    have h1 := sorted_at S hS i (m - 1) (by omega) (by omega)
    have h2 := sorted_at S hS (m - 1) m (by omega) hm
    rw [g2]
    apply decide_eq_false
    rintro (h | h)
    · omega
    · exact h (by omega)
  · have c2 : (S.take m).contains S[m] = false := by simpa using c
    rw [c2]
    apply decide_eq_true
    by_cases h0 : m = 0
    · exact Or.inl h0
    · right
      have g2 : S.toArray[m - 1]! = S[m - 1] := by simp [show m - 1 < S.length by omega]
      rw [g2]
      intro e
      apply c
      rw [List.contains_iff_mem, e]
      have : S[m - 1] = (S.take m)[m - 1]'(by rw [List.length_take]; omega) := by rw [List.getElem_take]
      rw [this]
      exact List.getElem_mem _
theorem compactUpTo_len (S : List Int) (hS : S.Pairwise (fun x y => decide (x ≤ y) = true)) (n : Nat) (hn : n ≤ S.length) : (Lib.compactUpTo S.toArray n).length = unlikeN S n := by
  induction n with
  | zero => rfl
  | succ n ih =>
    rw [Lib.compactUpTo_succ, List.length_append, ih (by omega), keeps_sorted S hS n (by omega)]
    unfold unlikeN
    have e : S.getD n 0 = S[n] := by simp [List.getD_eq_getElem?_getD, show n < S.length by omega]
    rw [e]
    conv => rhs; unfold unlikeN
    cases (S.take n).contains S[n] <;> simp
theorem unlikeimpl_f (l : List Int) (hb : l.length < 1000000000000) : impl_unlike.f l = some ((stackOf l.reverse).length : Int) := by
  unfold impl_unlike.f
  rw [if_pos hb]
  have hS : (l.mergeSort fun x y => decide (x ≤ y)).Pairwise (fun x y => decide (x ≤ y) = true) :=
    List.pairwise_mergeSort (fun a b c h1 h2 => by simp at *; omega) (fun a b => by simp; omega) l
  have h1 : (Lib.compact (l.mergeSort fun x y => decide (x ≤ y))).length = (stackOf l.reverse).length := by
    unfold Lib.compact
    rw [compactUpTo_len _ hS _ (Nat.le_refl _), unlikeN_stack _ _ (Nat.le_refl _), List.take_length]
    apply stackOf_len_congr
    intro x
    rw [List.mem_reverse, List.mem_reverse, List.mem_mergeSort]
  rw [h1]

/-! A stack that is given, behind a reference -/
theorem allPage_f (l : List Int) (hb : l.length < 9223372036854775807) : xAll_i64_impl_isPage.f l = some (l.all pageB) := by
  unfold xAll_i64_impl_isPage.f
  rw [if_pos hb]
  obtain ⟨i, h1, h2⟩ := idxO_all xAll_i64_impl_isPage.z pageB (fun x => by unfold xAll_i64_impl_isPage.z; rw [isPage_f]; rfl) l 0 (by omega)
  rw [h1, Option.bind_some, h2]
theorem nodup_of_len (l : List Int) : ∀ (S : List Int), S.Nodup → (∀ x ∈ S, x ∈ l) → l.length ≤ S.length → l.Nodup := by
  induction l with
  | nil => intro S _ _ _; exact List.nodup_nil
  | cons x t ih =>
    intro S hS hm hl
    rw [List.length_cons] at hl
    have h1 : ∀ y ∈ S.erase x, y ∈ t := fun y hy => by
      rw [hS.mem_erase_iff] at hy
      exact (List.mem_cons.mp (hm y hy.2)).resolve_left hy.1
    have h2 : S.length - 1 ≤ (S.erase x).length := by rw [List.length_erase]; split <;> omega
    refine List.nodup_cons.mpr ⟨fun hx => ?_, ih (S.erase x) (hS.erase x) h1 (by omega)⟩
    have := nodup_length_le S t hS (fun y hy => by
      rcases List.mem_cons.mp (hm y hy) with rfl | h
      · exact hx
      · exact h)
    omega
theorem unlike_nodup (l : List Int) : (stackOf l.reverse).length = l.length ↔ l.Nodup := by
  refine ⟨fun h => nodup_of_len l _ (nodup_stackOf l.reverse) (fun x hx => List.mem_reverse.mp ((mem_stackOf _ x).mp hx)) (by omega), fun h => ?_⟩
  apply Nat.le_antisymm
  · exact nodup_length_le _ _ (nodup_stackOf l.reverse) (fun x hx => List.mem_reverse.mp ((mem_stackOf _ x).mp hx))
  · exact nodup_length_le _ _ h (fun x hx => (mem_stackOf _ x).mpr (List.mem_reverse.mpr hx))
def goodSt (l : List Int) (s : Int) : Bool := (decide (0 ≤ s) && decide (s ≤ 40)) && (decide ((l.length : Int) ≤ s) && (l.all pageB && decide l.Nodup))
theorem goodSt_iff (l : List Int) (s : Int) : goodSt l s = true ↔ (0 ≤ s ∧ s ≤ 40) ∧ (l.length : Int) ≤ s ∧ l.all pageB = true ∧ l.Nodup := by
  unfold goodSt
  rw [Bool.and_eq_true, Bool.and_eq_true, Bool.and_eq_true, Bool.and_eq_true, decide_eq_true_iff, decide_eq_true_iff, decide_eq_true_iff, decide_eq_true_iff]
/-- what TouchLru tells -/
def touT (l : List Int) (p s : Int) : List Int × Bool × Bool := if goodSt l s = true ∧ pageB p = true then (touchL l p s.toNat, l.contains p, true) else ([], false, false)
theorem touT_no (l : List Int) (p s : Int) (h : ¬ (((0 ≤ s ∧ s ≤ 40) ∧ (l.length : Int) ≤ s ∧ l.all pageB = true ∧ l.Nodup) ∧ pageB p = true)) : touT l p s = ([], false, false) := by
  unfold touT
  rw [if_neg (fun hh => h ⟨(goodSt_iff l s).mp hh.1, hh.2⟩)]
theorem touchLru_impl (l : List Int) (p s : Int) (hb : l.length < 1000000000) (k : Nat) (hk : 0 < k) : impl_TouchLru.f k l p s = some (touT l p s) := by
  obtain ⟨k, rfl⟩ : ∃ m, k = m + 1 := ⟨k - 1, by omega⟩
  have hj : ∀ k, impl_TouchLru.j0 (k + 1) l p s true = some ([], false, false) := fun k => by simp [impl_TouchLru.j0]
  unfold impl_TouchLru.f
  rw [isSize_f, Option.bind_some]
  by_cases c1 : (decide (0 ≤ s) && decide (s ≤ 40)) = true
  · have c1' : 0 ≤ s ∧ s ≤ 40 := by simpa using c1
    rw [if_pos c1]
    by_cases c2 : (l.length : Int) > s
    · rw [if_pos c2, hj, touT_no l p s (fun h => by have := h.1.2.1; omega)]
    · rw [if_neg c2, allPage_f l (by omega), Option.bind_some]
      by_cases c3 : l.all pageB = true
      · rw [if_pos c3, unlikeimpl_f l (by omega), Option.bind_some]
        by_cases c4 : l.Nodup
        · rw [if_pos (by rw [(unlike_nodup l).mpr c4]), isPage_f, Option.bind_some]
          cases hp : pageB p with
          | false => rw [Bool.not_false, hj, touT_no l p s (fun h => by rw [hp] at h; cases h.2)]
          | true =>
            rw [Bool.not_true]
            simp only [impl_TouchLru.j0, Bool.false_eq_true, if_false]
            rw [touch_f l p s c1'.1 (by omega)]
            simp only [Option.bind_some, slices_Clip_int_int.f]
            unfold touT
            rw [if_pos ⟨(goodSt_iff l s).mpr ⟨c1', by omega, c3, c4⟩, hp⟩]
        · rw [if_neg (fun h => c4 ((unlike_nodup l).mp (by omega))), hj, touT_no l p s (fun h => c4 h.1.2.2.2)]
      · rw [if_neg c3, hj, touT_no l p s (fun h => c3 h.1.2.2.1)]
  · rw [if_neg c1, hj, touT_no l p s (fun h => c1 (by simpa using h.1.1))]
theorem stack_inner (l : List Int) (s p : Int) (n K : Nat) (T : List Int) (R : Bool) (hb : l.length < 1000000000) (hT : T.length < 1000000000) (hn : n < l.length) (hR : ∀ k, K < k → spec_l10Stack.l0 k l s l (l.length : Int) ((n + 1 : Nat) : Int) = some R) (d : Nat) : ∀ (k j : Nat), j + d = T.length → d + K + 1 < k →
    spec_l10Stack.l1 k l s p l (l.length : Int) (n : Int) T (T.length : Int) (j : Int) = some (if p ∈ T.drop j then false else if pageB p = true then R else false) := by
  induction d with
  | zero =>
    intro k j hj hk
    obtain ⟨k, rfl⟩ : ∃ m, k = m + 1 := ⟨k - 1, by omega⟩
    simp only [spec_l10Stack.l1]
    rw [if_neg (by omega), l1In_f, Option.bind_some, w64 (x := (n : Int) + 1) (by omega) (by omega), succ_cast, hR k (by omega), List.drop_of_length_le (by omega)]
    show (if pageB p = true then some R else some false) = some (if p ∈ ([] : List Int) then false else if pageB p = true then R else false)
    rw [if_neg (show ¬ p ∈ ([] : List Int) by simp)]
    split <;> rfl
  | succ d ih =>
    intro k j hj hk
    obtain ⟨k, rfl⟩ : ∃ m, k = m + 1 := ⟨k - 1, by omega⟩
    have h1 : j < T.length := by omega
    simp only [spec_l10Stack.l1]
    rw [if_pos (by omega), if_pos (by omega), if_pos (by omega), rd_nat T j h1, w64 (x := (j : Int) + 1) (by omega) (by omega), succ_cast, List.drop_eq_getElem_cons h1]
    by_cases e : T[j] = p
    · rw [if_pos e, if_pos (by rw [e]; exact List.mem_cons_self)]
    · rw [if_neg e, ih k (j + 1) (by omega) (by omega)]
      have hm : p ∈ T[j] :: T.drop (j + 1) ↔ p ∈ T.drop (j + 1) := by
        rw [List.mem_cons]
        exact ⟨fun h => h.resolve_left (fun h => e h.symm), Or.inr⟩
      by_cases c : p ∈ T.drop (j + 1)
      · rw [if_pos c, if_pos (hm.mpr c)]
      · rw [if_neg c, if_neg (fun h => c (hm.mp h))]
def stP (l : List Int) (n : Nat) : Prop := ∀ i, n ≤ i → ∀ (h : i < l.length), ¬ l[i] ∈ l.take i ∧ pageB l[i] = true
theorem stack_outer (l : List Int) (s : Int) (hb : l.length < 1000000000) (d : Nat) : ∀ (k n : Nat), n + d = l.length → (d + 1) * (l.length + 4) < k →
    (stP l n → spec_l10Stack.l0 k l s l (l.length : Int) (n : Int) = some ((decide (0 ≤ s) && decide (s ≤ 40)) && decide ((l.length : Int) ≤ s))) ∧ (¬ stP l n → spec_l10Stack.l0 k l s l (l.length : Int) (n : Int) = some false) := by
  induction d with
  | zero =>
    intro k n hn hk
    obtain ⟨k, rfl⟩ : ∃ m, k = m + 1 := ⟨k - 1, by omega⟩
    refine ⟨fun _ => ?_, fun h => absurd (fun i h1 h2 => by omega) h⟩
    simp only [spec_l10Stack.l0]
    rw [if_neg (by omega), l1In_f, Option.bind_some]
    cases (decide (0 ≤ s) && decide (s ≤ 40)) <;> rfl
  | succ d ih =>
    intro k n hn hk
    rw [Nat.succ_mul] at hk
    obtain ⟨K, hK⟩ : ∃ K, K = (d + 1) * (l.length + 4) := ⟨_, rfl⟩
    rw [← hK] at hk ih
    obtain ⟨k, rfl⟩ : ∃ m, k = m + 1 := ⟨k - 1, by omega⟩
    have h1 : n < l.length := by omega
    have hTl : (l.take n).length = n := by rw [List.length_take]; omega
    have hstep : ∀ R, (∀ k, K < k → spec_l10Stack.l0 k l s l (l.length : Int) ((n + 1 : Nat) : Int) = some R) → spec_l10Stack.l0 (k + 1) l s l (l.length : Int) (n : Int) = some (if l[n] ∈ l.take n then false else if pageB l[n] = true then R else false) := fun R hR => by
      simp only [spec_l10Stack.l0]
      rw [if_pos (by omega), if_pos (by omega), if_pos (by omega), if_pos (by omega), rd_nat l n h1, Int.toNat_natCast]
      have z := stack_inner l s l[n] n K (l.take n) R hb (by omega) h1 hR (l.take n).length k 0 (by omega) (by omega)
      rw [List.drop_zero] at z
      exact z
    by_cases hP : stP l (n + 1)
    · rw [hstep _ (fun k hk => (ih k (n + 1) (by omega) hk).1 hP)]
      refine ⟨fun h => ?_, fun h => ?_⟩
      · rw [if_neg (h n (Nat.le_refl _) h1).1, if_pos (h n (Nat.le_refl _) h1).2]
      · by_cases c : l[n] ∈ l.take n
        · rw [if_pos c]
        · rw [if_neg c]
          by_cases c2 : pageB l[n] = true
          · refine absurd (fun i h2 h3 => ?_) h
            rcases Nat.lt_or_eq_of_le h2 with h4 | h4
            · exact hP i h4 h3
            · subst h4; exact ⟨c, c2⟩
          · rw [if_neg c2]
    · rw [hstep false (fun k hk => (ih k (n + 1) (by omega) hk).2 hP)]
      refine ⟨fun h => absurd (fun i h2 h3 => h i (by omega) h3) hP, fun _ => ?_⟩
      split
      · rfl
      · split <;> rfl
theorem stP_iff (l : List Int) : stP l 0 ↔ l.all pageB = true ∧ l.Nodup := by
  constructor
  · intro h
    refine ⟨?_, ?_⟩
    · rw [List.all_eq_true]
      intro x hx
      obtain ⟨i, hi, rfl⟩ := List.getElem_of_mem hx
      exact (h i (Nat.zero_le _) hi).2
    · refine List.pairwise_iff_getElem.mpr (fun i j hi hj hij e => ?_)
      refine (h j (Nat.zero_le _) hj).1 ?_
      have : l[i] = (l.take j)[i]'(by rw [List.length_take]; omega) := by rw [List.getElem_take]
      rw [← e, this]
      exact List.getElem_mem _
  · rintro ⟨ha, hd⟩ i _ hi
    refine ⟨fun hm => ?_, List.all_eq_true.mp ha _ (List.getElem_mem _)⟩
    obtain ⟨j, hj, e⟩ := List.getElem_of_mem hm
    have hj2 : j < i := by rw [List.length_take] at hj; omega
    rw [List.getElem_take] at e
    exact List.pairwise_iff_getElem.mp hd j i (by omega) hi hj2 e
theorem l10Stack_f (l : List Int) (s : Int) (hb : l.length < 1000000000) (k : Nat) (hk : (l.length + 1) * (l.length + 4) < k) : spec_l10Stack.f k l s = some (goodSt l s) := by
  have z := stack_outer l s hb l.length k 0 (by omega) hk
  unfold spec_l10Stack.f
  by_cases h : stP l 0
  · have h2 := (stP_iff l).mp h
    rw [show (0 : Int) = ((0 : Nat) : Int) from rfl, z.1 h]
    unfold goodSt
    rw [h2.1, decide_eq_true h2.2, Bool.and_true, Bool.and_true]
  · rw [show (0 : Int) = ((0 : Nat) : Int) from rfl, z.2 h]
    cases hg : goodSt l s with
    | false => rfl
    | true => exact absurd ((stP_iff l).mpr ((goodSt_iff l s).mp hg).2.2) h
theorem touchLru_spec (l : List Int) (p s : Int) (hb : l.length < 1000000000) (k : Nat) (hk : (l.length + 1) * (l.length + 4) < k) : spec_TouchLru.f k l p s = some (touT l p s) := by
  have hk2 : l.length < k := by
    have : l.length * 1 ≤ (l.length + 1) * (l.length + 4) := Nat.mul_le_mul (by omega) (by omega)
    omega
  unfold spec_TouchLru.f
  rw [l10Stack_f l s hb k hk, Option.bind_some]
  by_cases c : goodSt l s = true
  · have c2 := (goodSt_iff l s).mp c
    rw [if_pos c, l1In_f, Option.bind_some]
    by_cases c3 : pageB p = true
    · have c4 : (decide (0 ≤ p) && decide (p ≤ 99)) = true := c3
      have hl := touchL_length l p s.toNat
      rw [if_pos c4, l10Touch_f l p s c2.1.1 (by omega) c2.2.2.2 k hk2]
      simp only [Option.bind_some, List.nil_append, List.length_nil]
      rw [if_pos (by omega)]
      unfold touT
      rw [if_pos ⟨c, c3⟩]
    · have c4 : ¬ (decide (0 ≤ p) && decide (p ≤ 99)) = true := c3
      rw [if_neg c4]
      unfold touT
      rw [if_neg (fun h => c3 h.2)]
  · rw [if_neg c]
    unfold touT
    rw [if_neg (fun h => c h.1)]
theorem touT_len (l : List Int) (p s : Int) : (touT l p s).1.length ≤ 40 := by
  unfold touT
  split
  · rename_i h
    have c := (goodSt_iff l s).mp h.1
    have := touchL_length l p s.toNat
    show (touchL l p s.toNat).length ≤ 40
    omega
  · simp

/-! How many unlike pages in each window -/
def winAt (l : List Int) (w i : Nat) : Int := ((stackOf ((l.take (i + 1)).drop (i + 1 - w)).reverse).length : Int)
def winL (l : List Int) (w n : Nat) : List Int := (List.range n).map (winAt l w)
theorem winL_length (l : List Int) (w n : Nat) : (winL l w n).length = n := by unfold winL; simp
theorem winL_succ (l : List Int) (w n : Nat) : winL l w (n + 1) = winL l w n ++ [winAt l w n] := by unfold winL; rw [List.range_succ, List.map_append]; rfl
theorem mx0 (n w : Nat) : mx (((n + 1 : Nat) : Int) - (w : Int)) 0 = ((n + 1 - w : Nat) : Int) := by unfold mx; split <;> omega
theorem win_impl (l : List Int) (w : Nat) (hw : w ≤ 200) (hb : l.length < 1000000) (d : Nat) : ∀ (k n : Nat), n + d = l.length → d < k →
    impl_WorkingSet.l0 k l (w : Int) (winL l w n) (l.length : Int) (n : Int) = some (winL l w l.length, true) := by
  induction d with
  | zero =>
    intro k n hn hk
    obtain ⟨k, rfl⟩ : ∃ m, k = m + 1 := ⟨k - 1, by omega⟩
    simp only [impl_WorkingSet.l0]
    rw [if_neg (by omega), show n = l.length by omega]
  | succ d ih =>
    intro k n hn hk
    obtain ⟨k, rfl⟩ : ∃ m, k = m + 1 := ⟨k - 1, by omega⟩
    simp only [impl_WorkingSet.l0]
    rw [if_pos (by omega), w64 (x := (n : Int) + 1) (by omega) (by omega), succ_cast, w64 (x := ((n + 1 : Nat) : Int) - (w : Int)) (by omega) (by omega), mx0, if_pos (by omega), if_pos (by omega), if_pos (by omega), Int.toNat_natCast, Int.toNat_natCast,
      unlikeimpl_f _ (by rw [List.length_drop, List.length_take]; omega), Option.bind_some, if_pos (by rw [winL_length]; omega)]
    have h := ih k (n + 1) (by omega) (by omega)
    rw [winL_succ] at h
    exact h
theorem win_spec (l : List Int) (w : Nat) (hw : w ≤ 200) (hb : l.length < 1000000) (d : Nat) : ∀ (k n : Nat), n + d = l.length → d < k →
    spec_WorkingSet.l0 k l (w : Int) (winL l w n) (l.length : Int) (n : Int) = some (winL l w l.length, true) := by
  induction d with
  | zero =>
    intro k n hn hk
    obtain ⟨k, rfl⟩ : ∃ m, k = m + 1 := ⟨k - 1, by omega⟩
    simp only [spec_WorkingSet.l0]
    rw [if_neg (by omega), show n = l.length by omega]
  | succ d ih =>
    intro k n hn hk
    obtain ⟨k, rfl⟩ : ∃ m, k = m + 1 := ⟨k - 1, by omega⟩
    have h := ih k (n + 1) (by omega) (by omega)
    rw [winL_succ] at h
    simp only [spec_WorkingSet.l0]
    rw [if_pos (by omega), w64 (x := (n : Int) + 1) (by omega) (by omega), succ_cast, w64 (x := ((n + 1 : Nat) : Int) - (w : Int)) (by omega) (by omega)]
    by_cases c : ((n + 1 : Nat) : Int) - (w : Int) < 0
    · rw [if_pos c, if_pos (by omega), if_pos (by omega), Int.toNat_natCast, unlike_f _ (by rw [List.length_drop, List.length_take]; omega), Option.bind_some, if_pos (by rw [winL_length]; omega)]
      rw [← h]
      unfold winAt
      rw [show n + 1 - w = 0 by omega]
    · rw [if_neg c, if_pos (by omega), if_pos (by omega), if_pos (by omega), Int.toNat_natCast, show (((n + 1 : Nat) : Int) - (w : Int)).toNat = n + 1 - w by omega, unlike_f _ (by rw [List.length_drop, List.length_take]; omega), Option.bind_some, if_pos (by rw [winL_length]; omega)]
      rw [← h]
      rfl

/-- what WorkingSet tells -/
def wsT (l : List Int) (w : Int) : List Int × Bool := if goodB l = true ∧ 1 ≤ w ∧ w ≤ 200 then (winL l w.toNat l.length, true) else ([], false)
theorem ws_f (l : List Int) (w : Int) (hb : l.length < 1000000) (k : Nat) (hk : l.length + 10 < k) : impl_WorkingSet.f k l w = some (wsT l w) ∧ spec_WorkingSet.f k l w = some (wsT l w) := by
  obtain ⟨k, rfl⟩ : ∃ m, k = m + 1 := ⟨k - 1, by omega⟩
  have g1 := goodRefs_impl l (by omega)
  have g3 := goodRefs_spec l (by omega) (k + 1) (by omega)
  by_cases C : goodB l = true ∧ 1 ≤ w ∧ w ≤ 200
  · obtain ⟨v, rfl⟩ : ∃ v : Nat, w = (v : Int) := ⟨w.toNat, by omega⟩
    have hv : wsT l (v : Int) = (winL l v l.length, true) := by unfold wsT; rw [if_pos C, Int.toNat_natCast]
    have c : (decide (1 ≤ (v : Int)) && decide ((v : Int) ≤ 200)) = true := by simp; omega
    rw [hv]
    unfold impl_WorkingSet.f spec_WorkingSet.f
    rw [g1, g3, within_f, l1In_f, C.1, c]
    simp only [Option.bind_some, impl_WorkingSet.j0, spec_WorkingSet.j0, Bool.false_eq_true, if_false, if_true, Bool.not_true]
    exact ⟨win_impl l v (by omega) (by omega) l.length k 0 (by omega) (by omega), win_spec l v (by omega) (by omega) l.length k 0 (by omega) (by omega)⟩
  · have hv : wsT l w = ([], false) := by unfold wsT; rw [if_neg C]
    rw [hv]
    unfold impl_WorkingSet.f spec_WorkingSet.f
    rw [g1, g3, within_f, l1In_f]
    cases hg : goodB l with
    | false => simp [impl_WorkingSet.j0, spec_WorkingSet.j0]
    | true =>
      have c3 : (decide (1 ≤ w) && decide (w ≤ 200)) = false := by
        cases h : (decide (1 ≤ w) && decide (w ≤ 200)) with
        | false => rfl
        | true => exact absurd ⟨hg, by simpa using h⟩ C
      rw [c3]
      simp [impl_WorkingSet.j0, spec_WorkingSet.j0]
theorem rev_len (W : List Int) : (stackOf W.reverse).length = (stackOf W).length := stackOf_len_congr _ _ (fun x => List.mem_reverse)
theorem cons_len (x : Int) (W : List Int) : (stackOf W).length ≤ (stackOf (x :: W)).length ∧ (stackOf (x :: W)).length ≤ (stackOf W).length + 1 := by
  show _ ≤ (x :: (stackOf W).erase x).length ∧ (x :: (stackOf W).erase x).length ≤ _
  rw [List.length_cons, List.length_erase]
  split <;> omega
theorem win_facts (l : List Int) (w i : Nat) (hi : i < l.length) (hw : 1 ≤ w) : winAt l w i ≤ winAt l (w + 1) i ∧ winAt l (w + 1) i ≤ winAt l w i + 1 ∧ 1 ≤ winAt l w i ∧ winAt l w i ≤ w := by
  have hT : (l.take (i + 1)).length = i + 1 := by rw [List.length_take]; omega
  unfold winAt
  rw [rev_len, rev_len]
  have h1 : (stackOf ((l.take (i + 1)).drop (i + 1 - w))).length ≤ ((l.take (i + 1)).drop (i + 1 - w)).length := nodup_length_le _ _ (nodup_stackOf _) (fun x hx => (mem_stackOf _ x).mp hx)
  rw [List.length_drop, hT] at h1
  have h2 : 0 < (stackOf ((l.take (i + 1)).drop (i + 1 - w))).length := by
    have h3 : 0 < ((l.take (i + 1)).drop (i + 1 - w)).length := by rw [List.length_drop, hT]; omega
    exact List.length_pos_of_mem ((mem_stackOf _ _).mpr (List.getElem_mem h3))
  obtain ⟨a, ha⟩ : ∃ a, a = i + 1 - w := ⟨_, rfl⟩
  rw [← ha] at h1 h2 ⊢
  by_cases c : a = 0
  · subst c
    rw [show i + 1 - (w + 1) = 0 by omega]
    omega
  · obtain ⟨j, rfl⟩ : ∃ j, a = j + 1 := ⟨a - 1, by omega⟩
    have h4 : (l.take (i + 1)).drop j = (l.take (i + 1))[j]'(by omega) :: (l.take (i + 1)).drop (j + 1) := List.drop_eq_getElem_cons (by omega)
    rw [show i + 1 - (w + 1) = j by omega, h4]
    have h5 := cons_len ((l.take (i + 1))[j]'(by omega)) ((l.take (i + 1)).drop (j + 1))
    omega
theorem winL_get (l : List Int) (w n i : Nat) (hi : i < n) : (winL l w n)[i]'(by rw [winL_length]; exact hi) = winAt l w i := by
  unfold winL; rw [List.getElem_map, List.getElem_range]
theorem drawTouch_ok (code : List Int) (hc : ∀ x ∈ code, 0 ≤ x ∧ x ≤ 255) (hb : code.length < 4611686018427387904) : ∃ l p s, l.length ≤ 100 ∧ ∀ k, 100000 < k → spec_DrawTouchLru.f k code = some (l, p, s) := by
  obtain ⟨s, a1, s1, e1, hs0, hs1, h1, h2⟩ := size_ok code hc hb 0 0 (by omega) (by omega)
  obtain ⟨r, a2, s2, hr, h3, h4, e2⟩ := refs_ok code hc hb a1 s1 (by omega) (by omega)
  have hj1 : ∀ (x : List Int), x.length ≤ 41 → ∃ l p, l.length ≤ 100 ∧ ∀ k, 0 < k → spec_DrawTouchLru.j1 k s x code a2 s2 = some (l, p, s) := fun x hx => by
    obtain ⟨b, a3, s3, e3, h5⟩ := one_ok code hc hb a2 s2 20 h3 (by omega)
    cases b with
    | true =>
      obtain ⟨v, a4, s4, e4, _, _, h6⟩ := pick_ok code hc hb a3 s3 5 (by omega) (by omega)
      obtain ⟨v2, a5, s5, e5, _⟩ := pick_ok code hc hb a4 s4 12 (by omega) (by omega)
      refine ⟨x ++ [v], v2, by simp; omega, fun k hk => ?_⟩
      obtain ⟨k, rfl⟩ : ∃ m, k = m + 1 := ⟨k - 1, by omega⟩
      simp only [spec_DrawTouchLru.j1]
      rw [e3, Option.bind_some, if_pos rfl]
      try dsimp only
      rw [e4, Option.bind_some, if_pos (by omega)]
      try dsimp only
      rw [e5, Option.bind_some]
    | false =>
      obtain ⟨v2, a5, s5, e5, _⟩ := pick_ok code hc hb a3 s3 12 (by omega) (by omega)
      refine ⟨x, v2, by omega, fun k hk => ?_⟩
      obtain ⟨k, rfl⟩ : ∃ m, k = m + 1 := ⟨k - 1, by omega⟩
      simp only [spec_DrawTouchLru.j1]
      rw [e3, Option.bind_some, if_neg Bool.false_ne_true]
      try dsimp only
      rw [e5, Option.bind_some]
  have hno : ∃ l p, l.length ≤ 100 ∧ ∀ k, 1 < k → spec_DrawTouchLru.j0 k s [] r false code a2 s2 = some (l, p, s) := by
    obtain ⟨l, p, hl, h⟩ := hj1 [] (by simp)
    refine ⟨l, p, hl, fun k hk => ?_⟩
    obtain ⟨k, rfl⟩ : ∃ m, k = m + 1 := ⟨k - 1, by omega⟩
    simp only [spec_DrawTouchLru.j0, Bool.false_eq_true, if_false]
    exact h k (by omega)
  unfold spec_DrawTouchLru.f
  simp only [e1, Option.bind_some]
  cases hg : goodB r with
  | false =>
    obtain ⟨l, p, hl, h⟩ := hno
    refine ⟨l, p, s, hl, fun k hk => ?_⟩
    rw [e2 k (by omega), Option.bind_some]
    try dsimp only
    rw [goodRefs_spec r (by omega) k (by omega), hg, Option.bind_some, if_neg Bool.false_ne_true]
    exact h k (by omega)
  | true =>
    by_cases c : s ≥ 0
    · have hpl := playL_len false s.toNat r [] 0 (Nat.zero_le _)
      obtain ⟨l, p, hl, h⟩ := hj1 (playL false s.toNat r [] 0).1 (by omega)
      refine ⟨l, p, s, hl, fun k hk => ?_⟩
      rw [e2 k (by omega), Option.bind_some]
      try dsimp only
      rw [goodRefs_spec r (by omega) k (by omega), hg, Option.bind_some, if_pos rfl, decide_eq_true c]
      obtain ⟨k, rfl⟩ : ∃ m, k = m + 1 := ⟨k - 1, by omega⟩
      simp only [spec_DrawTouchLru.j0, if_true]
      rw [l10Play_f r s (by omega) (by omega) (by omega) k (by omega), Option.bind_some]
      exact h k (by omega)
    · obtain ⟨l, p, hl, h⟩ := hno
      refine ⟨l, p, s, hl, fun k hk => ?_⟩
      rw [e2 k (by omega), Option.bind_some]
      try dsimp only
      rw [goodRefs_spec r (by omega) k (by omega), hg, Option.bind_some, if_pos rfl, decide_eq_false c]
      exact h k (by omega)
theorem drawWs_ok (code : List Int) (hc : ∀ x ∈ code, 0 ≤ x ∧ x ≤ 255) (hb : code.length < 4611686018427387904) : ∃ l w, l.length ≤ 300 ∧ ∀ k, 1000 < k → spec_DrawWorkingSet.f k code = some (l, w) := by
  obtain ⟨r, a2, s2, hr, h3, h4, e2⟩ := refs_ok code hc hb 0 0 (by omega) (by omega)
  obtain ⟨v, a3, s3, e3, _⟩ := among_ok code hc hb [0, 1, 2, 5, 10, 200, 201] (by decide) a2 s2 h3 (by omega)
  refine ⟨r, v, hr, fun k hk => ?_⟩
  unfold spec_DrawWorkingSet.f
  rw [e2 k (by omega), Option.bind_some]
  try dsimp only
  rw [e3, Option.bind_some]
theorem ft_loop (l : List Int) (w : Nat) (hw : 1 ≤ w) (hw2 : w ≤ 200) (hb : l.length < 1000000) (d : Nat) : ∀ (k n : Nat), n + d = l.length → d < k →
    laws_FnTouched.l0 k (w : Int) (winL l w l.length) (winL l (w + 1) l.length) (l.length : Int) (n : Int) = some true := by
  induction d with
  | zero =>
    intro k n hn hk
    obtain ⟨k, rfl⟩ : ∃ m, k = m + 1 := ⟨k - 1, by omega⟩
    simp only [laws_FnTouched.l0]
    rw [if_neg (by omega)]
  | succ d ih =>
    intro k n hn hk
    obtain ⟨k, rfl⟩ : ∃ m, k = m + 1 := ⟨k - 1, by omega⟩
    have h1 : n < l.length := by omega
    obtain ⟨f1, f2, f3, f4⟩ := win_facts l w n h1 hw
    simp only [laws_FnTouched.l0]
    rw [winL_length, winL_length, if_pos (by omega), if_pos (by omega), if_pos (by omega), if_pos (by omega),
      rd_nat (winL l w l.length) n (by rw [winL_length]; exact h1), rd_nat (winL l (w + 1) l.length) n (by rw [winL_length]; exact h1), winL_get l w l.length n h1, winL_get l (w + 1) l.length n h1,
      w64 (x := winAt l w n + 1) (by omega) (by omega), w64 (x := (n : Int) + 1) (by omega) (by omega), succ_cast,
      if_neg (by omega), if_neg (by omega), if_neg (by omega), if_neg (by omega)]
    exact ih k (n + 1) (by omega) (by omega)
set_option maxRecDepth 100000 in
theorem ft_second (more : List Int) (hc2 : ∀ x ∈ more, 0 ≤ x ∧ x ≤ 255) (hb2 : more.length < 4611686018427387904) : laws_FnTouched.j1 200000 more false = some true := by
  obtain ⟨l, w, hl, hd⟩ := drawWs_ok more hc2 hb2
  obtain ⟨m, hm⟩ : ∃ m, m = 190000 := ⟨_, rfl⟩
  rw [show 200000 = m + 10000 by omega]
  have d1 : ∀ j, spec_DrawWorkingSet.f (m + j) more = some (l, w) := fun j => hd (m + j) (by omega)
  have e1 : ∀ j x, impl_WorkingSet.f (m + j) l x = some (wsT l x) := fun j x => (ws_f l x (by omega) (m + j) (by omega)).1
  have e2 : ∀ j x, spec_WorkingSet.f (m + j) l x = some (wsT l x) := fun j x => (ws_f l x (by omega) (m + j) (by omega)).2
  have hwl : (wsT l w).1.length ≤ 1000 := by
    unfold wsT
    split
    · show (winL l w.toNat l.length).length ≤ 1000; rw [winL_length]; omega
    · simp
  have q1 : ∀ j, laws_sameInts.f (m + j) (wsT l w).1 (wsT l w).1 = some true := fun j => sameInts_f _ (by omega) (m + j) (by omega)
  simp only [laws_FnTouched.j1, d1, e1, e2, q1, Option.bind_some, bne_self_eq_false, Bool.false_eq_true, if_false, Bool.not_true, laws_FnTouched.j2]
  by_cases g : goodB l = true ∧ 1 ≤ w ∧ w ≤ 200
  · have v1 : wsT l w = (winL l w.toNat l.length, true) := by unfold wsT; rw [if_pos g]
    obtain ⟨x, rfl⟩ : ∃ x : Nat, w = (x : Int) := ⟨w.toNat, by omega⟩
    rw [Int.toNat_natCast] at v1
    rw [v1]
    simp only [if_true, laws_FnTouched.j3]
    by_cases c : (x : Int) = 200
    · rw [if_pos (beq_iff_eq.mpr c)]
    · have c2 : ((x : Int) == 200) = false := beq_eq_false_iff_ne.mpr c
      rw [c2, if_neg Bool.false_ne_true, w64 (by omega) (by omega), succ_cast, e1, Option.bind_some]
      have v2 : wsT l ((x + 1 : Nat) : Int) = (winL l (x + 1) l.length, true) := by
        unfold wsT
        rw [if_pos ⟨g.1, by omega, by omega⟩, Int.toNat_natCast]
      rw [v2]
      simp only [if_true, winL_length, bne_self_eq_false]
      simp only [laws_FnTouched.j4, Bool.false_eq_true, if_false, winL_length]
      exact ft_loop l x (by omega) (by omega) (by omega) l.length _ 0 (by omega) (by omega)
  · have v1 : wsT l w = ([], false) := by unfold wsT; rw [if_neg g]
    rw [v1]
    simp only [Bool.false_eq_true, if_false, laws_FnTouched.j3, if_true]
set_option maxRecDepth 100000 in
theorem FnTouched : laws_FnTouched.Pure := by
  intro code more hm hs hw hm2 hs2 hw2
  have hc := bytes_of code hw
  have hc2 := bytes_of more hw2
  have hb : code.length < 4611686018427387904 := by omega
  have hb2 : more.length < 4611686018427387904 := by omega
  by_cases big : wrap64 ((code.length : Int) + (more.length : Int)) > 1048576
  · exact ⟨0, by unfold laws_FnTouched.f; rw [if_pos big]⟩
  obtain ⟨l, p, s, hl, hd⟩ := drawTouch_ok code hc hb
  have f2 := ft_second more hc2 hb2
  refine ⟨200000 + 1, ?_⟩
  have hfu : (l.length + 1) * (l.length + 4) < 200000 := by
    have : (l.length + 1) * (l.length + 4) ≤ 101 * 104 := Nat.mul_le_mul (by omega) (by omega)
    omega
  have htl := touT_len l p s
  unfold laws_FnTouched.f
  rw [if_neg big, hd _ (by omega)]
  simp only [Option.bind_some]
  rw [touchLru_impl l p s (by omega) _ (by omega), touchLru_spec l p s (by omega) _ (by omega)]
  simp only [Option.bind_some, bne_self_eq_false, Bool.false_eq_true, if_false]
  rw [sameInts_f _ (by omega) _ (by omega), Option.bind_some, Bool.not_true]
  simp only [laws_FnTouched.j0, Bool.false_eq_true, if_false]
  by_cases g : goodSt l s = true ∧ pageB p = true
  · have v : touT l p s = (touchL l p s.toNat, l.contains p, true) := by unfold touT; rw [if_pos g]
    have g2 := (goodSt_iff l s).mp g.1
    have hlen := touchL_length l p s.toNat
    rw [v]
    simp only [if_true]
    by_cases c : s > 0
    · obtain ⟨n, hn⟩ : ∃ n, s.toNat = n + 1 := ⟨s.toNat - 1, by omega⟩
      have ht : touchL l p s.toNat = p :: (l.erase p).take n := by unfold touchL; rw [hn, List.take_succ_cons]
      have hrd : rd (touchL l p s.toNat) 0 = p := by rw [ht]; rfl
      have hpos : 0 < (touchL l p s.toNat).length := by rw [ht]; exact Nat.succ_pos _
      rw [if_pos c, if_neg (by omega), if_pos (by omega), hrd, if_pos rfl, decide_eq_false (by omega)]
      exact f2
    · rw [if_neg c]; exact f2
  · have v : touT l p s = ([], false, false) := by unfold touT; rw [if_neg g]
    rw [v]
    simp only [Bool.false_eq_true, if_false]
    exact f2

end Go.Proofs.Ytgpimekdfnpffaa.Pure
