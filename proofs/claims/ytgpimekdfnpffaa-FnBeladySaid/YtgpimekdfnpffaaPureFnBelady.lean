/- To throw away what is wanted last is best (Belady), for drawn references: no other way of the four has more hits, and the misses are as many as unlike pages at least, and just so many where they all fit. No conditions. -/
import Derived.Test.YtgpimekdfnpffaaPFnBeladyx8
import Derived.Lib.VarintBits
set_option linter.unusedVariables false
set_option linter.unusedSimpArgs false
namespace Go.Proofs.Ytgpimekdfnpffaa.Pure
open Go.RowKit Go.Proofs.Ytgpimekdfnpffaa.PFnBelady Go.Proofs.YtgpimekdfnpffaaW.PrintWords Go.Proofs.YtgpimekdfnpffaaW.PrintLast

theorem bytes_of (l : List Int) (h : ∀ x ∈ l, (Lit.int .u8 x).wf = true) : ∀ x ∈ l, 0 ≤ x ∧ x ≤ 255 := by
  intro x hx
  have := h x hx
  simp [Lit.wf, IntKind.min, IntKind.max, IntKind.bits, IntKind.signed] at this
  omega

/-! Whole numbers and rows of them -/
theorem w64 {x : Int} (h : -9223372036854775808 ≤ x) (h2 : x < 9223372036854775808) : wrap64 x = x := by unfold wrap64; omega
theorem rd_nat (l : List Int) (n : Nat) (h : n < l.length) : rd l (n : Int) = l[n] := by
  unfold rd; simp [List.getD_eq_getElem?_getD, h]
theorem succ_cast (n : Nat) : ((n : Int) + 1) = ((n + 1 : Nat) : Int) := by omega

/-! The first place at which a predicate holds -/
theorem idxO_ge {α : Type} (p : α → Option Bool) (l : List α) : ∀ (n i : Int), 0 ≤ n → idxO p l n = some i → i = -1 ∨ n ≤ i := by
  induction l with
  | nil => intro n i hn h; left; exact (Option.some.inj h).symm
  | cons x xs ih =>
    intro n i hn h
    obtain ⟨b, hb, h2⟩ := Option.bind_eq_some_iff.mp h
    cases b with
    | true => right; have := Option.some.inj h2; omega
    | false => have := ih (n + 1) i (by omega) h2; omega
theorem idxO_all {α : Type} (p : α → Option Bool) (q : α → Bool) (h : ∀ x, p x = some (!q x)) (l : List α) : ∀ (n : Int), 0 ≤ n → ∃ i, idxO p l n = some i ∧ (!decide (i ≥ 0)) = l.all q := by
  induction l with
  | nil => intro n hn; exact ⟨-1, rfl, rfl⟩
  | cons x xs ih =>
    intro n hn
    unfold idxO
    rw [h x, Option.bind_some]
    cases hq : q x with
    | true =>
      obtain ⟨i, h1, h2⟩ := ih (n + 1) (by omega)
      exact ⟨i, h1, by rw [h2, List.all_cons, hq, Bool.true_and]⟩
    | false => exact ⟨n, rfl, by rw [List.all_cons, hq, Bool.false_and, decide_eq_true (show n ≥ 0 from hn)]; rfl⟩

/-! References: good ones -/
def pageB (x : Int) : Bool := decide (0 ≤ x) && decide (x ≤ 99)
def goodB (l : List Int) : Bool := decide (l.length ≤ 200) && l.all pageB
theorem within_f (a b c : Int) : impl_within.f a b c = some (decide (b ≤ a) && decide (a ≤ c)) := by
  unfold impl_within.f
  by_cases h : b ≤ a
  · rw [if_pos h, decide_eq_true h, Bool.true_and]
  · rw [if_neg h, decide_eq_false h, Bool.false_and]
theorem l1In_f (a b c : Int) : spec_l1In.f a b c = some (decide (b ≤ a) && decide (a ≤ c)) := by
  unfold spec_l1In.f
  by_cases h : b ≤ a
  · rw [if_pos h, decide_eq_true h, Bool.true_and]
  · rw [if_neg h, decide_eq_false h, Bool.false_and]
theorem isPage_f (x : Int) : impl_isPage.f x = some (pageB x) := by unfold impl_isPage.f; rw [within_f]; rfl
theorem goodRefs_impl (l : List Int) (hb : l.length < 9223372036854775807) : impl_GoodRefs.f l = some (goodB l) := by
  unfold impl_GoodRefs.f goodB
  by_cases c : l.length ≤ 200
  · have c2 : (l.length : Int) ≤ 200 := by omega
    rw [if_pos c2, decide_eq_true c, Bool.true_and]
    unfold xAll_i64_impl_isPage.f
    rw [if_pos hb]
    obtain ⟨i, h1, h2⟩ := idxO_all xAll_i64_impl_isPage.z pageB (fun x => by unfold xAll_i64_impl_isPage.z; rw [isPage_f]; rfl) l 0 (by omega)
    rw [h1, Option.bind_some, Option.bind_some, h2]
  · have c2 : ¬ (l.length : Int) ≤ 200 := by omega
    rw [if_neg c2, decide_eq_false c, Bool.false_and]
theorem goodRefs_loop (l : List Int) (hb : l.length < 4611686018427387904) (d : Nat) : ∀ (k n : Nat), n + d = l.length → d < k →
    spec_GoodRefs.l0 k l l (l.length : Int) (n : Int) = some ((l.drop n).all pageB && decide (l.length ≤ 200)) := by
  induction d with
  | zero =>
    intro k n hn hk
    obtain ⟨k, rfl⟩ : ∃ m, k = m + 1 := ⟨k - 1, by omega⟩
    have c : ¬ (n : Int) < (l.length : Int) := by omega
    simp only [spec_GoodRefs.l0]; rw [if_neg c, List.drop_of_length_le (by omega), List.all_nil, Bool.true_and]
    exact congrArg some (decide_eq_decide.mpr (by omega))
  | succ d ih =>
    intro k n hn hk
    obtain ⟨k, rfl⟩ : ∃ m, k = m + 1 := ⟨k - 1, by omega⟩
    have h1 : n < l.length := by omega
    have c1 : (n : Int) < (l.length : Int) := by omega
    have c0 : (0 : Int) ≤ (n : Int) := by omega
    simp only [spec_GoodRefs.l0]
    rw [if_pos c1, if_pos c0, if_pos c1, rd_nat l n h1, l1In_f, Option.bind_some, List.drop_eq_getElem_cons h1, List.all_cons, w64 (by omega) (by omega), succ_cast, ih k (n + 1) (by omega) (by omega)]
    cases hp : pageB l[n] with
    | true =>
      have hp' : (decide (0 ≤ l[n]) && decide (l[n] ≤ 99)) = true := hp
      rw [if_pos hp', Bool.true_and]
    | false =>
      have hp' : (decide (0 ≤ l[n]) && decide (l[n] ≤ 99)) = false := hp
      rw [hp', if_neg (by decide)]; rfl
theorem goodRefs_spec (l : List Int) (hb : l.length < 4611686018427387904) (k : Nat) (hk : l.length < k) : spec_GoodRefs.f k l = some (goodB l) := by
  unfold spec_GoodRefs.f goodB
  have h := goodRefs_loop l hb l.length k 0 (by omega) hk
  rw [Bool.and_comm]
  exact h

/-! A stack behind a reference -/
def touchL (st : List Int) (p : Int) (s : Nat) : List Int := (p :: st.erase p).take s
theorem touchL_length (st : List Int) (p : Int) (s : Nat) : (touchL st p s).length ≤ s := by unfold touchL; rw [List.length_take]; omega
theorem touchL_nodup (st : List Int) (p : Int) (s : Nat) (h : st.Nodup) : (touchL st p s).Nodup := by
  unfold touchL
  refine List.Nodup.sublist (List.take_sublist _ _) ?_
  exact List.nodup_cons.mpr ⟨fun hm => by rw [h.mem_erase_iff] at hm; exact hm.1 rfl, h.erase p⟩
theorem touch_f (st : List Int) (p s : Int) (h0 : 0 ≤ s) (hb : st.length < 10000) : impl_touch.f st p s = some (touchL st p s.toNat, st.contains p) := by
  unfold impl_touch.f touchL
  rw [if_pos hb, if_pos h0]

/-! References played -/
def playL (still : Bool) (s : Nat) : List Int → List Int → Int → List Int × Int
  | [], st, h => (st, h)
  | p :: ps, st, h => if st.contains p = true then playL still s ps (if still = true then st else touchL st p s) (h + 1) else playL still s ps (touchL st p s) h
theorem playL_len (still : Bool) (s : Nat) (l : List Int) : ∀ (st : List Int) (h : Int), st.length ≤ s → (playL still s l st h).1.length ≤ s := by
  induction l with
  | nil => intro st h hs; exact hs
  | cons p ps ih =>
    intro st h hs
    unfold playL
    split
    · refine ih _ _ ?_
      split
      · exact hs
      · exact touchL_length _ _ _
    · exact ih _ _ (touchL_length _ _ _)
theorem play_loop (l : List Int) (s : Int) (still : Bool) (h0 : 0 ≤ s) (h1 : s ≤ 5000) (hb : l.length < 1000000) (d : Nat) : ∀ (k n : Nat) (st : List Int) (h : Int), n + d = l.length → d < k → st.length ≤ s.toNat → 0 ≤ h → h ≤ n →
    impl_play.l0 k s still st h l (l.length : Int) (n : Int) = some (playL still s.toNat (l.drop n) st h) := by
  induction d with
  | zero =>
    intro k n st h hn hk hs hh hh2
    obtain ⟨k, rfl⟩ : ∃ m, k = m + 1 := ⟨k - 1, by omega⟩
    have c : ¬ (n : Int) < (l.length : Int) := by omega
    simp only [impl_play.l0]; rw [if_neg c, List.drop_of_length_le (by omega)]
    unfold slices_Clone_int_int.f
    rw [if_pos (by omega)]; rfl
  | succ d ih =>
    intro k n st h hn hk hs hh hh2
    obtain ⟨k, rfl⟩ : ∃ m, k = m + 1 := ⟨k - 1, by omega⟩
    have h1 : n < l.length := by omega
    have c1 : (n : Int) < (l.length : Int) := by omega
    have c0 : (0 : Int) ≤ (n : Int) := by omega
    simp only [impl_play.l0]
    rw [if_pos c1, if_pos c0, if_pos c1, rd_nat l n h1, w64 (x := (n : Int) + 1) (by omega) (by omega), succ_cast, List.drop_eq_getElem_cons h1, touch_f st l[n] s h0 (by omega), Option.bind_some]
    unfold playL
    have hl := touchL_length st l[n] s.toNat
    cases hc : st.contains l[n] with
    | true =>
      simp only [if_true]
      rw [w64 (x := h + 1) (by omega) (by omega)]
      cases still with
      | true => simp only [if_true]; exact ih k (n + 1) st (h + 1) (by omega) (by omega) hs (by omega) (by omega)
      | false => simp only [Bool.false_eq_true, if_false]; exact ih k (n + 1) _ (h + 1) (by omega) (by omega) hl (by omega) (by omega)
    | false =>
      simp only [Bool.false_eq_true, if_false]
      exact ih k (n + 1) _ h (by omega) (by omega) hl (by omega) (by omega)
theorem play_f (l : List Int) (s : Int) (still : Bool) (h0 : 0 ≤ s) (h1 : s ≤ 5000) (hb : l.length < 1000000) (k : Nat) (hk : l.length < k) : impl_play.f k l s still = some (playL still s.toNat l [] 0) := by
  unfold impl_play.f
  have h := play_loop l s still h0 h1 hb l.length k 0 [] 0 (by omega) hk (by simp) (by omega) (by omega)
  simpa using h

theorem isSize_f (x : Int) : impl_isSize.f x = some (decide (0 ≤ x) && decide (x ≤ 40)) := by unfold impl_isSize.f; rw [within_f]; rfl

/-! What the exact laws do with lists -/
theorem goodB_len (l : List Int) (h : goodB l = true) : l.length ≤ 200 := by
  unfold goodB at h
  simp only [Bool.and_eq_true, decide_eq_true_eq] at h
  exact h.1

/-! The cursor that draws an argument out of bytes -/
theorem and255 (y : Int) (h0 : 0 ≤ y) (h1 : y < 18446744073709551616) : bits .and .u64 y 255 = y % 256 := bits_mask .u64 64 (by decide) wraps_u64 8 (by decide) y h0 h1
theorem and255_range (s : Int) : 0 ≤ bits .and .u64 ((IntKind.u64.wrap s) / 1099511627776) 255 ∧ bits .and .u64 ((IntKind.u64.wrap s) / 1099511627776) 255 ≤ 255 := by
  have h : IntKind.u64.wrap s = s % 18446744073709551616 := IntKind.wrap_u64 s
  rw [h, and255 _ (by omega) (by omega)]
  omega
theorem rd_byte (l : List Int) (hc : ∀ x ∈ l, 0 ≤ x ∧ x ≤ 255) (i : Int) (h0 : 0 ≤ i) (h1 : i < l.length) : 0 ≤ rd l i ∧ rd l i ≤ 255 := by
  obtain ⟨n, rfl⟩ : ∃ n : Nat, i = (n : Int) := ⟨i.toNat, by omega⟩
  rw [rd_nat l n (by omega)]
  exact hc _ (List.getElem_mem _)
theorem next_ok (code : List Int) (hc : ∀ x ∈ code, 0 ≤ x ∧ x ≤ 255) (hb : code.length < 4611686018427387904) (a s : Int) (h0 : 0 ≤ a) (h1 : a < 4611686018427387904) :
    ∃ b s', spec_l1Cur_next.f code a s = some (b, a + 1, s') ∧ 0 ≤ b ∧ b ≤ 255 := by
  have hw : wrap64 (a + 1) = a + 1 := w64 (by omega) (by omega)
  unfold spec_l1Cur_next.f
  rw [hw]
  by_cases c : a < (code.length : Int)
  · have hr := rd_byte code hc a h0 c
    rw [if_pos c, if_pos h0, if_pos (by omega)]
    exact ⟨_, _, rfl, by rw [w64 (by omega) (by omega)]; exact hr⟩
  · rw [if_neg c, if_neg (by omega)]
    refine ⟨_, _, rfl, ?_⟩
    have hr := and255_range ((IntKind.u64.wrap (IntKind.u64.wrap (s * 6364136223846793005))) + 1442695040888963407)
    rw [w64 (by omega) (by omega)]
    exact hr
theorem tmod_range (x n : Int) (h : 0 ≤ x) (hn : 0 < n) : 0 ≤ Int.tmod x n ∧ Int.tmod x n < n := ⟨Int.tmod_nonneg n h, Int.tmod_lt_of_pos x hn⟩
theorem pick_ok (code : List Int) (hc : ∀ x ∈ code, 0 ≤ x ∧ x ≤ 255) (hb : code.length < 4611686018427387904) (a s n : Int) (h0 : 0 ≤ a) (h1 : a < 4611686018427380000) :
    ∃ v a' s', spec_l1Cur_pick.f code a s n = some (v, a', s') ∧ 0 ≤ v ∧ (v < n ∨ v = 0) ∧ a ≤ a' ∧ a' ≤ a + 2 := by
  unfold spec_l1Cur_pick.f
  by_cases c : n ≤ 1
  · rw [if_pos c]
    exact ⟨0, a, s, rfl, by omega, by omega, by omega, by omega⟩
  · rw [if_neg c]
    obtain ⟨b, s1, e1, hb0, hb1⟩ := next_ok code hc hb a s h0 (by omega)
    rw [e1, Option.bind_some]
    by_cases c2 : n > 200
    · rw [if_pos c2]
      obtain ⟨b2, s2, e2, hb2, hb3⟩ := next_ok code hc hb (a + 1) s1 (by omega) (by omega)
      try dsimp only
      rw [e2, Option.bind_some, if_neg (by omega)]
      have hw1 : wrap64 (b * 256) = b * 256 := w64 (by omega) (by omega)
      have hw2 : wrap64 (b * 256 + b2) = b * 256 + b2 := w64 (by omega) (by omega)
      have hr := tmod_range (b * 256 + b2) n (by omega) (by omega)
      refine ⟨_, _, _, rfl, ?_⟩
      simp only [hw1, hw2]
      exact ⟨hr.1, Or.inl hr.2, by omega, by omega⟩
    · rw [if_neg c2, if_neg (by omega)]
      have hr := tmod_range b n (by omega) (by omega)
      refine ⟨_, _, _, rfl, hr.1, Or.inl hr.2, ?_, ?_⟩ <;> dsimp only <;> omega
theorem one_ok (code : List Int) (hc : ∀ x ∈ code, 0 ≤ x ∧ x ≤ 255) (hb : code.length < 4611686018427387904) (a s n : Int) (h0 : 0 ≤ a) (h1 : a < 4611686018427380000) :
    ∃ v a' s', spec_l1Cur_one.f code a s n = some (v, a', s') ∧ a ≤ a' ∧ a' ≤ a + 2 := by
  unfold spec_l1Cur_one.f
  obtain ⟨v, a', s', e, h⟩ := pick_ok code hc hb a s n h0 h1
  rw [e, Option.bind_some]
  exact ⟨_, _, _, rfl, h.2.2⟩
theorem among_ok (code : List Int) (hc : ∀ x ∈ code, 0 ≤ x ∧ x ≤ 255) (hb : code.length < 4611686018427387904) (l : List Int) (hl : 0 < l.length) (a s : Int) (h0 : 0 ≤ a) (h1 : a < 4611686018427380000) :
    ∃ v a' s', spec_l1Cur_among.f code a s l = some (v, a', s') ∧ v ∈ l ∧ a ≤ a' ∧ a' ≤ a + 2 := by
  unfold spec_l1Cur_among.f
  obtain ⟨v, a', s', e, h⟩ := pick_ok code hc hb a s (l.length : Int) h0 h1
  rw [e, Option.bind_some, if_pos h.1]
  have c : v < (l.length : Int) := by omega
  try dsimp only
  rw [if_pos c]
  refine ⟨_, _, _, rfl, ?_, h.2.2⟩
  obtain ⟨n, rfl⟩ : ∃ n : Nat, v = (n : Int) := ⟨v.toNat, by omega⟩
  try dsimp only
  rw [rd_nat l n (by omega)]
  exact List.getElem_mem _

/-! References drawn -/
theorem refs_loop (code : List Int) (hc : ∀ x ∈ code, 0 ≤ x ∧ x ≤ 255) (hb : code.length < 4611686018427387904) (x5 : Int) (d : Nat) : ∀ (l : List Int) (a s : Int), l.length + d ≤ 1000 → 0 ≤ a → a + 2 * d ≤ 4000 →
    ∃ l' a' s', l'.length ≤ l.length + d ∧ 0 ≤ a' ∧ a' ≤ a + 2 * d + 4 ∧ ∀ k, d < k → spec_l1Cur_refs.l0 k l (d : Int) x5 code a s = some (l', a', s') := by
  induction d with
  | zero =>
    intro l a s hl h0 h1
    by_cases c : (l.length : Int) > 0
    · obtain ⟨b, a1, s1, e1, h2⟩ := one_ok code hc hb a s 40 h0 (by omega)
      cases b with
      | false =>
        refine ⟨l, a1, s1, by omega, by omega, by omega, fun k hk => ?_⟩
        obtain ⟨k, rfl⟩ : ∃ m, k = m + 1 := ⟨k - 1, by omega⟩
        simp only [spec_l1Cur_refs.l0]
        rw [if_neg (by omega), if_pos c, e1, Option.bind_some, if_neg Bool.false_ne_true]
      | true =>
        obtain ⟨v, a2, s2, e2, _, h3⟩ := among_ok code hc hb [-1, 99, 100] (by decide) a1 s1 (by omega) (by omega)
        refine ⟨l.set (0 : Int).toNat v, a2, s2, by rw [List.length_set]; omega, by omega, by omega, fun k hk => ?_⟩
        obtain ⟨k, rfl⟩ : ∃ m, k = m + 1 := ⟨k - 1, by omega⟩
        simp only [spec_l1Cur_refs.l0]
        rw [if_neg (by omega), if_pos c, e1, Option.bind_some, if_pos rfl, e2, Option.bind_some, if_pos (by omega)]
    · refine ⟨l, a, s, by omega, by omega, by omega, fun k hk => ?_⟩
      obtain ⟨k, rfl⟩ : ∃ m, k = m + 1 := ⟨k - 1, by omega⟩
      simp only [spec_l1Cur_refs.l0]
      rw [if_neg (by omega), if_neg c]
  | succ d ih =>
    intro l a s hl h0 h1
    obtain ⟨v, a1, s1, e1, _, _, h2⟩ := pick_ok code hc hb a s x5 h0 (by omega)
    obtain ⟨l', a', s', g1, g2, g3, g4⟩ := ih (l ++ [v]) a1 s1 (by rw [List.length_append, List.length_singleton]; omega) (by omega) (by omega)
    rw [List.length_append, List.length_singleton] at g1
    refine ⟨l', a', s', by omega, g2, by omega, fun k hk => ?_⟩
    obtain ⟨k, rfl⟩ : ∃ m, k = m + 1 := ⟨k - 1, by omega⟩
    simp only [spec_l1Cur_refs.l0]
    rw [if_pos (by omega), e1, Option.bind_some, if_pos (by omega), w64 (x := ((d + 1 : Nat) : Int) - 1) (by omega) (by omega), show ((d + 1 : Nat) : Int) - 1 = (d : Int) by omega]
    exact g4 k (by omega)
theorem refs_j0 (code : List Int) (hc : ∀ x ∈ code, 0 ≤ x ∧ x ≤ 255) (hb : code.length < 4611686018427387904) (n : Int) (h0 : 0 ≤ n) (h1 : n ≤ 300) (a s : Int) (ha : 0 ≤ a) (ha1 : a ≤ 100) :
    ∃ l' a' s', l'.length ≤ 300 ∧ 0 ≤ a' ∧ a' ≤ 1000 ∧ ∀ k, 400 < k → spec_l1Cur_refs.j0 k [] n code a s = some (l', a', s') := by
  obtain ⟨d, rfl⟩ : ∃ d : Nat, n = (d : Int) := ⟨n.toNat, by omega⟩
  obtain ⟨v, a1, s1, e1, _, _, h2⟩ := pick_ok code hc hb a s 9 ha (by omega)
  obtain ⟨b, a2, s2, e2, h3⟩ := one_ok code hc hb a1 s1 20 (by omega) (by omega)
  obtain ⟨x5, hx⟩ : ∃ x5 : Int, x5 = if b = true then 60 else wrap64 (1 + v) := ⟨_, rfl⟩
  obtain ⟨l', a', s', g1, g2, g3, g4⟩ := refs_loop code hc hb x5 d [] a2 s2 (by simp; omega) (by omega) (by omega)
  refine ⟨l', a', s', by simp at g1; omega, g2, by omega, fun k hk => ?_⟩
  obtain ⟨k, rfl⟩ : ∃ m, k = m + 2 := ⟨k - 2, by omega⟩
  simp only [spec_l1Cur_refs.j0]
  rw [e1, Option.bind_some, e2, Option.bind_some]
  have g := g4 k (by omega)
  cases b with
  | true => rw [if_pos rfl] at hx; subst hx; rw [if_pos rfl]; simp only [spec_l1Cur_refs.j1]; exact g
  | false => rw [if_neg Bool.false_ne_true] at hx; subst hx; rw [if_neg Bool.false_ne_true]; simp only [spec_l1Cur_refs.j1]; exact g
theorem refs_ok (code : List Int) (hc : ∀ x ∈ code, 0 ≤ x ∧ x ≤ 255) (hb : code.length < 4611686018427387904) (a s : Int) (ha : 0 ≤ a) (ha1 : a ≤ 50) :
    ∃ l' a' s', l'.length ≤ 300 ∧ 0 ≤ a' ∧ a' ≤ 1000 ∧ ∀ k, 400 < k → spec_l1Cur_refs.f k code a s = some (l', a', s') := by
  obtain ⟨v, a1, s1, e1, hv0, hv1, h2⟩ := pick_ok code hc hb a s 30 ha (by omega)
  obtain ⟨b, a2, s2, e2, h3⟩ := one_ok code hc hb a1 s1 12 (by omega) (by omega)
  unfold spec_l1Cur_refs.f
  simp only [e1, Option.bind_some, e2]
  cases b with
  | false =>
    obtain ⟨l', a', s', g⟩ := refs_j0 code hc hb v hv0 (by omega) a2 s2 (by omega) (by omega)
    exact ⟨l', a', s', g.1, g.2.1, g.2.2.1, fun k hk => by rw [if_neg Bool.false_ne_true]; exact g.2.2.2 k hk⟩
  | true =>
    obtain ⟨v2, a3, s3, e3, hw0, hw1, h4⟩ := pick_ok code hc hb a2 s2 12 (by omega) (by omega)
    obtain ⟨l', a', s', g⟩ := refs_j0 code hc hb (wrap64 (190 + v2)) (by rw [w64 (by omega) (by omega)]; omega) (by rw [w64 (by omega) (by omega)]; omega) a3 s3 (by omega) (by omega)
    exact ⟨l', a', s', g.1, g.2.1, g.2.2.1, fun k hk => by rw [if_pos rfl, e3, Option.bind_some]; exact g.2.2.2 k hk⟩

theorem size_ok (code : List Int) (hc : ∀ x ∈ code, 0 ≤ x ∧ x ≤ 255) (hb : code.length < 4611686018427387904) (a s : Int) (ha : 0 ≤ a) (ha1 : a ≤ 10000) :
    ∃ v a' s', spec_l1Cur_size.f code a s = some (v, a', s') ∧ -1 ≤ v ∧ v ≤ 41 ∧ a ≤ a' ∧ a' ≤ a + 4 := by
  unfold spec_l1Cur_size.f
  obtain ⟨b, a1, s1, e1, h1⟩ := one_ok code hc hb a s 20 ha (by omega)
  rw [e1, Option.bind_some]
  cases b with
  | true =>
    rw [if_pos rfl]
    obtain ⟨v, a2, s2, e2, hm, h3⟩ := among_ok code hc hb [-1, 0, 40, 41] (by decide) a1 s1 (by omega) (by omega)
    try dsimp only
    rw [e2, Option.bind_some]
    refine ⟨_, _, _, rfl, ?_, ?_, by try dsimp only; omega, by try dsimp only; omega⟩ <;> (simp at hm ⊢; omega)
  | false =>
    rw [if_neg Bool.false_ne_true]
    obtain ⟨v, a2, s2, e2, h2, h3, h4⟩ := pick_ok code hc hb a1 s1 8 (by omega) (by omega)
    try dsimp only
    rw [e2, Option.bind_some]
    exact ⟨_, _, _, rfl, by try dsimp only; rw [w64 (by omega) (by omega)]; omega, by try dsimp only; rw [w64 (by omega) (by omega)]; omega, by try dsimp only; omega, by try dsimp only; omega⟩

/-! The laws' sameInts, of a row with itself -/
theorem sameInts_loop (l : List Int) (hb : l.length < 4611686018427387904) (d : Nat) : ∀ (k n : Nat), n + d = l.length → d < k →
    laws_sameInts.l0 k l l (l.length : Int) (n : Int) = some true := by
  induction d with
  | zero =>
    intro k n hn hk
    obtain ⟨k, rfl⟩ : ∃ m, k = m + 1 := ⟨k - 1, by omega⟩
    simp only [laws_sameInts.l0]; rw [if_neg (by omega)]
  | succ d ih =>
    intro k n hn hk
    obtain ⟨k, rfl⟩ : ∃ m, k = m + 1 := ⟨k - 1, by omega⟩
    simp only [laws_sameInts.l0]
    rw [if_pos (by omega), if_pos (by omega), if_pos (by omega), if_pos (by omega), if_pos trivial, w64 (x := (n : Int) + 1) (by omega) (by omega), succ_cast]
    exact ih k (n + 1) (by omega) (by omega)
theorem sameInts_f (l : List Int) (hb : l.length < 4611686018427387904) (k : Nat) (hk : l.length < k) : laws_sameInts.f k l l = some true := by
  unfold laws_sameInts.f
  rw [if_pos rfl]
  exact sameInts_loop l hb l.length k 0 (by omega) hk

/-! PlayLru, both ways -/
def lruV (l : List Int) (s : Int) : List Int × Int × Bool := if (goodB l && (decide (0 ≤ s) && decide (s ≤ 40))) = true then ((playL false s.toNat l [] 0).1, (playL false s.toNat l [] 0).2, true) else ([], 0, false)
theorem lru_impl (l : List Int) (s : Int) (hb : l.length < 1000000) (k : Nat) (hk : l.length + 1000 < k) : impl_PlayLru.f k l s = some (lruV l s) := by
  unfold impl_PlayLru.f lruV
  rw [goodRefs_impl l (by omega), isSize_f, Option.bind_some]
  cases hg : goodB l with
  | false => rfl
  | true =>
    rw [if_pos rfl, Option.bind_some, Bool.true_and]
    by_cases c : (decide (0 ≤ s) && decide (s ≤ 40)) = true
    · have c2 : 0 ≤ s ∧ s ≤ 40 := by simpa using c
      rw [if_pos c, if_pos c, play_f l s false c2.1 (by omega) (by omega) k (by omega), Option.bind_some]
    · rw [if_neg c, if_neg c]
theorem lru_none (l : List Int) (s : Int) (h : goodB l = false) : lruV l s = ([], 0, false) := by unfold lruV; rw [h]; rfl
theorem lru_some (l : List Int) (s : Int) (h : goodB l = true) (h0 : 0 ≤ s) (h1 : s ≤ 40) : lruV l s = ((playL false s.toNat l [] 0).1, (playL false s.toNat l [] 0).2, true) := by
  unfold lruV; rw [h, if_pos (by simp; omega)]

/-! The next place of a page -/
def placeN (l : List Int) (p : Int) : Nat := l.findIdx (fun x => p == x)
theorem placeN_cons (x : Int) (xs : List Int) (p : Int) : placeN (x :: xs) p = if p = x then 0 else placeN xs p + 1 := by
  unfold placeN
  rw [List.findIdx_cons]
  by_cases h : p = x
  · rw [if_pos h, show (p == x) = true from beq_iff_eq.mpr h]; rfl
  · rw [if_neg h, show (p == x) = false from beq_eq_false_iff_ne.mpr h]; rfl
theorem placeN_le (l : List Int) (p : Int) : placeN l p ≤ l.length := List.findIdx_le_length
theorem index_loop (l : List Int) (p : Int) (hb : l.length < 4611686018427387904) (d : Nat) : ∀ (k n : Nat), n + d = l.length → d < k →
    slices_Index_int_int.l0 k l p (l.length : Int) (n : Int) = some (if n + placeN (l.drop n) p < l.length then ((n + placeN (l.drop n) p : Nat) : Int) else -1) := by
  induction d with
  | zero =>
    intro k n hn hk
    obtain ⟨k, rfl⟩ : ∃ m, k = m + 1 := ⟨k - 1, by omega⟩
    have c : ¬ (n : Int) < (l.length : Int) := by omega
    simp only [slices_Index_int_int.l0]; rw [if_neg c, if_neg (by omega)]
  | succ d ih =>
    intro k n hn hk
    obtain ⟨k, rfl⟩ : ∃ m, k = m + 1 := ⟨k - 1, by omega⟩
    have h1 : n < l.length := by omega
    have c1 : (n : Int) < (l.length : Int) := by omega
    have c0 : (0 : Int) ≤ (n : Int) := by omega
    simp only [slices_Index_int_int.l0]
    rw [if_pos c1, if_pos c0, if_pos c1, rd_nat l n h1, List.drop_eq_getElem_cons h1, placeN_cons, w64 (by omega) (by omega), succ_cast, ih k (n + 1) (by omega) (by omega)]
    by_cases e : p = l[n]
    · rw [if_pos e, if_pos e, if_pos (by omega), Nat.add_zero]
    · rw [if_neg e, if_neg e, show n + 1 + placeN (List.drop (n + 1) l) p = n + (placeN (List.drop (n + 1) l) p + 1) by omega]
theorem index_f (l : List Int) (p : Int) (hb : l.length < 4611686018427387904) (k : Nat) (hk : l.length < k) : slices_Index_int_int.f k l p = some (if placeN l p < l.length then (placeN l p : Int) else -1) := by
  unfold slices_Index_int_int.f
  have h := index_loop l p hb l.length k 0 (by omega) hk
  simpa using h

theorem nextUse_f (l : List Int) (n : Nat) (p : Int) (hn : n ≤ l.length) (hb : l.length < 4611686018427387904) (k : Nat) (hk : l.length < k) : impl_nextUse.f k l (n : Int) p = some ((n + placeN (l.drop n) p : Nat) : Int) := by
  unfold impl_nextUse.f
  rw [if_pos (by omega), if_pos (by omega), Int.toNat_natCast, index_f _ p (by rw [List.length_drop]; omega) k (by rw [List.length_drop]; omega), Option.bind_some]
  have hle := placeN_le (l.drop n) p
  rw [List.length_drop] at hle ⊢
  by_cases c : placeN (l.drop n) p < l.length - n
  · rw [if_pos c, if_neg (by omega), w64 (by omega) (by omega)]; congr 1
  · rw [if_neg c, if_pos (by omega)]; congr 1; omega

theorem l11_loop (l : List Int) (p : Int) (hb : l.length < 4611686018427387904) (d : Nat) : ∀ (k n : Nat), n + d = l.length → d < k →
    spec_l11Next.l0 k l (n : Int) p = some ((n + placeN (l.drop n) p : Nat) : Int) := by
  induction d with
  | zero =>
    intro k n hn hk
    obtain ⟨k, rfl⟩ : ∃ m, k = m + 1 := ⟨k - 1, by omega⟩
    have c : ¬ (n : Int) < (l.length : Int) := by omega
    simp only [spec_l11Next.l0]; rw [if_neg c, List.drop_of_length_le (by omega)]; rfl
  | succ d ih =>
    intro k n hn hk
    obtain ⟨k, rfl⟩ : ∃ m, k = m + 1 := ⟨k - 1, by omega⟩
    have h1 : n < l.length := by omega
    have c1 : (n : Int) < (l.length : Int) := by omega
    have c0 : (0 : Int) ≤ (n : Int) := by omega
    simp only [spec_l11Next.l0]
    rw [if_pos c1, if_pos c0, rd_nat l n h1, List.drop_eq_getElem_cons h1, placeN_cons, w64 (by omega) (by omega), succ_cast, ih k (n + 1) (by omega) (by omega)]
    by_cases e : p = l[n]
    · rw [if_pos e.symm, if_pos e, Nat.add_zero]
    · rw [if_neg (fun h => e h.symm), if_neg e, show n + 1 + placeN (List.drop (n + 1) l) p = n + (placeN (List.drop (n + 1) l) p + 1) by omega]

/-! Rising lists: where a page stands, or would -/
def posL (l : List Int) (p : Int) : Nat := (l.takeWhile fun x => decide (x < p)).length
theorem posL_le (l : List Int) (p : Int) : posL l p ≤ l.length := by
  induction l with
  | nil => simp [posL]
  | cons x xs ih =>
    unfold posL at ih ⊢
    rw [List.takeWhile_cons]
    split
    · simp only [List.length_cons]; omega
    · simp
theorem posL_cons (x : Int) (xs : List Int) (p : Int) : posL (x :: xs) p = if x < p then posL xs p + 1 else 0 := by
  unfold posL
  rw [List.takeWhile_cons]
  by_cases h : x < p
  · simp [h]
  · simp [h]
theorem posL_lt (l : List Int) (p : Int) : ∀ (i : Nat) (h : i < l.length), i < posL l p → l[i] < p := by
  induction l with
  | nil => intro i h; simp at h
  | cons x xs ih =>
    intro i h hi
    rw [posL_cons] at hi
    by_cases c : x < p
    · rw [if_pos c] at hi
      cases i with
      | zero => exact c
      | succ i => exact ih i (by simpa using h) (by omega)
    · rw [if_neg c] at hi; omega
theorem posL_ge (l : List Int) (hs : l.Pairwise (· < ·)) (p : Int) : ∀ (i : Nat) (h : i < l.length), posL l p ≤ i → p ≤ l[i] := by
  induction l with
  | nil => intro i h; simp at h
  | cons x xs ih =>
    intro i h hi
    obtain ⟨h1, h2⟩ := List.pairwise_cons.mp hs
    rw [posL_cons] at hi
    by_cases c : x < p
    · rw [if_pos c] at hi
      cases i with
      | zero => omega
      | succ i => exact ih h2 i (by simpa using h) (by omega)
    · cases i with
      | zero => simp only [List.getElem_cons_zero]; omega
      | succ i =>
        have hi2 : i < xs.length := by simpa using h
        have z := h1 xs[i] (List.getElem_mem _)
        simp only [List.getElem_cons_succ]; omega
theorem posL_mem (l : List Int) (hs : l.Pairwise (· < ·)) (p : Int) : p ∈ l ↔ ∃ h : posL l p < l.length, l[posL l p] = p := by
  constructor
  · intro hm
    obtain ⟨i, hi, rfl⟩ := List.getElem_of_mem hm
    have h1 : ¬ i < posL l l[i] := fun h => by have := posL_lt l l[i] i hi h; omega
    have hlt : posL l l[i] < l.length := by omega
    have h2 := posL_ge l hs l[i] (posL l l[i]) hlt (Nat.le_refl _)
    refine ⟨hlt, ?_⟩
    by_cases e : posL l l[i] = i
    · simp only [e]
    · have h3 := List.pairwise_iff_getElem.mp hs (posL l l[i]) i hlt hi (by omega)
      omega
  · rintro ⟨h, e⟩
    rw [← e]; exact List.getElem_mem h
def insM (l : List Int) (p : Int) : List Int := insL l (posL l p) p
theorem insM_length (l : List Int) (p : Int) : (insM l p).length = l.length + 1 := insL_length l _ p (posL_le l p)
theorem insM_mem (l : List Int) (p q : Int) : q ∈ insM l p ↔ q = p ∨ q ∈ l := by
  unfold insM insL
  rw [List.mem_append, List.mem_cons]
  constructor
  · rintro (h | rfl | h)
    · exact Or.inr (List.mem_of_mem_take h)
    · exact Or.inl rfl
    · exact Or.inr (List.mem_of_mem_drop h)
  · rintro (rfl | h)
    · exact Or.inr (Or.inl rfl)
    · rw [← List.take_append_drop (posL l p) l, List.mem_append] at h
      rcases h with h | h
      · exact Or.inl h
      · exact Or.inr (Or.inr h)
theorem insM_sorted (l : List Int) (p : Int) (hs : l.Pairwise (· < ·)) (hn : ¬ p ∈ l) : (insM l p).Pairwise (· < ·) := by
  unfold insM insL
  refine List.pairwise_append.mpr ⟨hs.sublist (List.take_sublist _ _), List.pairwise_cons.mpr ⟨fun q hq => ?_, hs.sublist (List.drop_sublist _ _)⟩, fun a ha b hb => ?_⟩
  · obtain ⟨i, hi, rfl⟩ := List.getElem_of_mem hq
    rw [List.getElem_drop]
    have h1 := posL_ge l hs p (posL l p + i) (by rw [List.length_drop] at hi; omega) (by omega)
    have h2 : l[posL l p + i]'(by rw [List.length_drop] at hi; omega) ≠ p := fun e => hn (e ▸ List.getElem_mem _)
    omega
  · obtain ⟨i, hi, rfl⟩ := List.getElem_of_mem ha
    rw [List.length_take] at hi
    rw [List.getElem_take]
    have h1 := posL_lt l p i (by omega) (by omega)
    rcases List.mem_cons.mp hb with rfl | hb
    · exact h1
    · obtain ⟨j, hj, rfl⟩ := List.getElem_of_mem hb
      rw [List.length_drop] at hj
      rw [List.getElem_drop]
      exact List.pairwise_iff_getElem.mp hs i (posL l p + j) (by omega) (by omega) (by omega)
theorem binary_loop (l : List Int) (p : Int) (hs : l.Pairwise (· < ·)) (hb : l.length < 1000000) (d : Nat) : ∀ (k i j : Nat), i ≤ posL l p → posL l p ≤ j → j ≤ l.length → j - i ≤ d → d < k →
    slices_BinarySearch_int_int.l0 k l p (l.length : Int) (i : Int) (j : Int) = some ((posL l p : Int), decide (p ∈ l)) := by
  induction d with
  | zero =>
    intro k i j h1 h2 h3 hd hk
    obtain ⟨k, rfl⟩ : ∃ m, k = m + 1 := ⟨k - 1, by omega⟩
    obtain rfl : i = posL l p := by omega
    simp only [slices_BinarySearch_int_int.l0]
    rw [if_neg (by omega)]
    by_cases c : posL l p < l.length
    · rw [if_pos (by omega), if_pos (by omega), if_pos (by omega), rd_nat l _ c]
      by_cases e : l[posL l p] = p
      · rw [if_pos e, decide_eq_true ((posL_mem l hs p).mpr ⟨c, e⟩)]
      · rw [if_neg e]
        unfold slices_isNaN_int.f
        simp only [bne_self_eq_false, Option.bind_some, Bool.false_eq_true, if_false]
        rw [decide_eq_false (fun h => e ((posL_mem l hs p).mp h).2)]
    · rw [if_neg (by omega), decide_eq_false (fun h => c ((posL_mem l hs p).mp h).1)]
  | succ d ih =>
    intro k i j h1 h2 h3 hd hk
    obtain ⟨k, rfl⟩ : ∃ m, k = m + 1 := ⟨k - 1, by omega⟩
    by_cases c : i < j
    · have hm : wrap64 (IntKind.u64.wrap (wrap64 ((i : Int) + (j : Int))) / 2) = (((i + j) / 2 : Nat) : Int) := by
        rw [w64 (x := (i : Int) + j) (by omega) (by omega)]
        have e : IntKind.u64.wrap ((i : Int) + (j : Int)) = (i : Int) + j := by
          rw [IntKind.wrap_u64]; omega
        rw [e, w64 (by omega) (by omega)]; omega
      have hlt : (i + j) / 2 < l.length := by omega
      simp only [slices_BinarySearch_int_int.l0]
      rw [if_pos (by omega), hm, if_pos (by omega), if_pos (by omega), rd_nat l _ hlt]
      unfold cmp_Less_int.f cmp_isNaN_int.f
      simp only [bne_self_eq_false, Option.bind_some, Bool.false_eq_true, if_false, decide_eq_true_eq]
      by_cases e : l[(i + j) / 2] < p
      · have hp : (i + j) / 2 < posL l p := by
          refine Classical.byContradiction fun h => ?_
          have := posL_ge l hs p ((i + j) / 2) hlt (by omega)
          omega
        rw [if_pos e, w64 (by omega) (by omega), succ_cast]
        exact ih k _ j (by omega) h2 h3 (by omega) (by omega)
      · have hp : posL l p ≤ (i + j) / 2 := by
          refine Classical.byContradiction fun h => ?_
          have := posL_lt l p ((i + j) / 2) hlt (by omega)
          omega
        rw [if_neg e]
        exact ih k i _ h1 hp (by omega) (by omega) (by omega)
    · refine at_rounds (g := fun k => slices_BinarySearch_int_int.l0 k l p (l.length : Int) (i : Int) (j : Int)) (fun k => slices_BinarySearch_int_int.mono_l k _ _ _ _ _) (show k ≤ k + 1 by omega) ?_
      exact ih k i j h1 h2 h3 (by omega) (by omega)
theorem binary_f (l : List Int) (p : Int) (hs : l.Pairwise (· < ·)) (hb : l.length < 1000000) (k : Nat) (hk : l.length < k) : slices_BinarySearch_int_int.f k l p = some ((posL l p : Int), decide (p ∈ l)) :=
  binary_loop l p hs hb l.length k 0 l.length (Nat.zero_le _) (posL_le l p) (Nat.le_refl _) (by omega) hk
theorem erase_sorted (l : List Int) (n : Nat) (hs : l.Pairwise (· < ·)) : (l.eraseIdx n).Pairwise (· < ·) := hs.sublist (List.eraseIdx_sublist _ _)

/-! the reference's words for the same -/
theorem l11At_loop (l : List Int) (p : Int) (hs : l.Pairwise (· < ·)) (hb : l.length < 1000000) (d : Nat) : ∀ (k n : Nat), n + d = l.length → n ≤ posL l p → d < k → spec_l11At.l0 k l p (n : Int) = some ((posL l p : Int), decide (p ∈ l)) := by
  induction d with
  | zero =>
    intro k n hn hp hk
    obtain ⟨k, rfl⟩ : ∃ m, k = m + 1 := ⟨k - 1, by omega⟩
    have hle := posL_le l p
    simp only [spec_l11At.l0]
    rw [if_neg (by omega), decide_eq_false (fun h => by have := ((posL_mem l hs p).mp h).1; omega), show n = posL l p by omega]
  | succ d ih =>
    intro k n hn hp hk
    obtain ⟨k, rfl⟩ : ∃ m, k = m + 1 := ⟨k - 1, by omega⟩
    have h1 : n < l.length := by omega
    simp only [spec_l11At.l0]
    rw [if_pos (by omega), if_pos (by omega), rd_nat l n h1]
    by_cases e : l[n] < p
    · have hp2 : n < posL l p := by
        refine Classical.byContradiction fun h => ?_
        have := posL_ge l hs p n h1 (by omega)
        omega
      rw [if_pos e, w64 (by omega) (by omega), succ_cast]
      exact ih k (n + 1) (by omega) (by omega) (by omega)
    · have hp2 : posL l p = n := by
        refine Classical.byContradiction fun h => ?_
        have := posL_lt l p n h1 (by omega)
        omega
      rw [if_neg e, hp2]
      congr 2
      by_cases e2 : l[n] = p
      · rw [decide_eq_true ((posL_mem l hs p).mpr ⟨by omega, by simp only [hp2]; exact e2⟩)]; simp [e2]
      · rw [decide_eq_false (fun h => e2 (by obtain ⟨h3, h4⟩ := (posL_mem l hs p).mp h; simp only [hp2] at h4; exact h4))]; simp [e2]
theorem l11At_f (l : List Int) (p : Int) (hs : l.Pairwise (· < ·)) (hb : l.length < 1000000) (k : Nat) (hk : l.length < k) : spec_l11At.f k l p = some ((posL l p : Int), decide (p ∈ l)) :=
  l11At_loop l p hs hb l.length k 0 (by omega) (Nat.zero_le _) hk
theorem l11Without_f (l : List Int) (n : Nat) (hn : n < l.length) (hb : l.length < 1000000) : spec_l11Without.f l (n : Int) = some (l.eraseIdx n) := by
  unfold spec_l11Without.f
  rw [Option.bind_some, if_pos (by omega), if_pos (by omega), if_pos (by simp; omega), Option.bind_some, w64 (by omega) (by omega), if_pos (by omega), if_pos (by omega), if_pos (by simp; omega), Int.toNat_natCast, succ_cast, Int.toNat_natCast, List.nil_append, List.eraseIdx_eq_take_drop_succ]
theorem l11Put_f (l : List Int) (p : Int) (hs : l.Pairwise (· < ·)) (hb : l.length < 1000000) (k : Nat) (hk : l.length < k) : spec_l11Put.f k l p = some (insM l p) := by
  have hle := posL_le l p
  unfold spec_l11Put.f
  rw [l11At_f l p hs hb k hk, Option.bind_some, if_pos (by omega), if_pos (by omega), if_pos (by simp; omega), Option.bind_some, if_pos (by simp; omega), Option.bind_some, if_pos (by simp; omega), Int.toNat_natCast, List.nil_append]
  unfold insM insL
  rw [List.append_assoc, List.singleton_append]

/-! References played by a rule -/
def playM {σ : Type} (goes : σ → Nat → List Int → Nat × σ) (sz : Nat) : List Int → Nat → List Int → Nat → σ → List Int × Nat
  | [], _, pages, hits, _ => (pages, hits)
  | p :: ps, i, pages, hits, s =>
    if p ∈ pages then playM goes sz ps (i + 1) pages (hits + 1) s
    else if sz = 0 then playM goes sz ps (i + 1) pages hits s
    else if pages.length = sz then playM goes sz ps (i + 1) (insM (pages.eraseIdx (goes s (i + 1) pages).1) p) hits (goes s (i + 1) pages).2
    else playM goes sz ps (i + 1) (insM pages p) hits s
theorem playM_cons {σ : Type} (goes : σ → Nat → List Int → Nat × σ) (sz : Nat) (p : Int) (ps : List Int) (i : Nat) (pages : List Int) (hits : Nat) (s : σ) : playM goes sz (p :: ps) i pages hits s =
    if p ∈ pages then playM goes sz ps (i + 1) pages (hits + 1) s
    else if sz = 0 then playM goes sz ps (i + 1) pages hits s
    else if pages.length = sz then playM goes sz ps (i + 1) (insM (pages.eraseIdx (goes s (i + 1) pages).1) p) hits (goes s (i + 1) pages).2
    else playM goes sz ps (i + 1) (insM pages p) hits s := rfl
theorem erase_length (l : List Int) (n : Nat) (h : n < l.length) : (l.eraseIdx n).length = l.length - 1 := List.length_eraseIdx_of_lt h
theorem erase_not_mem (l : List Int) (n : Nat) (p : Int) (hn : ¬ p ∈ l) : ¬ p ∈ l.eraseIdx n := fun h => hn (List.mem_of_mem_eraseIdx h)
/-- what a rule must do: it names a place; and what it remembers stays well -/
def Rules {σ : Type} (goesM : σ → Nat → List Int → Nat × σ) (sz N : Nat) (P : σ → Prop) : Prop :=
  ∀ (s : σ) (n : Nat) (pages : List Int), P s → n ≤ N → pages.length = sz → 0 < sz → (goesM s n pages).1 < sz ∧ P (goesM s n pages).2
theorem playM_facts {σ : Type} (goesM : σ → Nat → List Int → Nat × σ) (sz N : Nat) (P : σ → Prop) (hg : Rules goesM sz N P) (l : List Int) : ∀ (i : Nat) (pages : List Int) (hits : Nat) (s : σ), P s → pages.Pairwise (· < ·) → pages.length ≤ sz → i + l.length ≤ N →
    (playM goesM sz l i pages hits s).1.length ≤ sz ∧ hits ≤ (playM goesM sz l i pages hits s).2 ∧ (playM goesM sz l i pages hits s).2 ≤ hits + l.length ∧ (playM goesM sz l i pages hits s).1.Pairwise (· < ·) := by
  induction l with
  | nil => intro i pages hits s hp hs hl hn; exact ⟨hl, Nat.le_refl _, by simp [playM], hs⟩
  | cons p ps ih =>
    intro i pages hits s hp hs hl hn
    simp only [List.length_cons] at hn ⊢
    rw [playM_cons]
    by_cases hm : p ∈ pages
    · rw [if_pos hm]
      obtain ⟨a, b, c, d⟩ := ih (i + 1) pages (hits + 1) s hp hs hl (by omega)
      exact ⟨a, by omega, by omega, d⟩
    · rw [if_neg hm]
      by_cases h0 : sz = 0
      · rw [if_pos h0]
        obtain ⟨a, b, c, d⟩ := ih (i + 1) pages hits s hp hs hl (by omega)
        exact ⟨a, by omega, by omega, d⟩
      · rw [if_neg h0]
        by_cases hq : pages.length = sz
        · rw [if_pos hq]
          obtain ⟨g1, g2⟩ := hg s (i + 1) pages hp (by omega) hq (by omega)
          obtain ⟨a, b, c, d⟩ := ih (i + 1) (insM (pages.eraseIdx (goesM s (i + 1) pages).1) p) hits (goesM s (i + 1) pages).2 g2 (insM_sorted _ _ (erase_sorted _ _ hs) (erase_not_mem _ _ _ hm)) (by rw [insM_length, erase_length _ _ (by omega)]; omega) (by omega)
          exact ⟨a, by omega, by omega, d⟩
        · rw [if_neg hq]
          obtain ⟨a, b, c, d⟩ := ih (i + 1) (insM pages p) hits s hp (insM_sorted _ _ hs hm) (by rw [insM_length]; omega) (by omega)
          exact ⟨a, by omega, by omega, d⟩
theorem playO_f {σ : Type} (k : Nat) (goes : σ → Int → List Int → Option (Int × σ)) (goesM : σ → Nat → List Int → Nat × σ) (sz N : Nat) (hsz : sz ≤ 1000) (hN : N < 1000000) (hk : 1000 < k) (P : σ → Prop) (hg : Rules goesM sz N P)
    (hgo : ∀ (s : σ) (n : Nat) (pages : List Int), P s → n ≤ N → pages.length = sz → 0 < sz → goes s (n : Int) pages = some (((goesM s n pages).1 : Int), (goesM s n pages).2)) (l : List Int) :
    ∀ (i : Nat) (pages : List Int) (hits : Nat) (s : σ), P s → pages.Pairwise (· < ·) → pages.length ≤ sz → i + l.length ≤ N → hits ≤ i →
    playO k goes (sz : Int) l (i : Int) pages (hits : Int) s = some ((playM goesM sz l i pages hits s).1, ((playM goesM sz l i pages hits s).2 : Int)) := by
  induction l with
  | nil => intro i pages hits s hp hs hl hn hh; rfl
  | cons p ps ih =>
    intro i pages hits s hp hs hl hn hh
    simp only [List.length_cons] at hn
    rw [playM_cons]
    unfold playO
    rw [binary_f pages p hs (by omega) k (by omega), Option.bind_some]
    by_cases hm : p ∈ pages
    · rw [if_pos hm]
      simp only [decide_eq_true hm, if_true]
      rw [w64 (by omega) (by omega), succ_cast, succ_cast]
      exact ih (i + 1) pages (hits + 1) s hp hs hl (by omega) (by omega)
    · rw [if_neg hm]
      simp only [decide_eq_false hm, Bool.false_eq_true, if_false]
      by_cases h0 : sz = 0
      · rw [if_pos h0, if_pos (by omega), succ_cast]
        exact ih (i + 1) pages hits s hp hs hl (by omega) (by omega)
      · rw [if_neg h0, if_neg (by omega)]
        by_cases hq : pages.length = sz
        · obtain ⟨g1, g2⟩ := hg s (i + 1) pages hp (by omega) hq (by omega)
          have g3 := hgo s (i + 1) pages hp (by omega) hq (by omega)
          have hel : (pages.eraseIdx (goesM s (i + 1) pages).1).length = pages.length - 1 := erase_length _ _ (by omega)
          have hes := erase_sorted pages (goesM s (i + 1) pages).1 hs
          have hle := posL_le (pages.eraseIdx (goesM s (i + 1) pages).1) p
          rw [if_pos hq, if_pos (by omega), w64 (by omega) (by omega), succ_cast, g3, Option.bind_some]
          simp only [Int.toNat_natCast]
          rw [if_pos (by omega), binary_f _ p hes (by omega) k (by omega), Option.bind_some]
          simp only [Int.toNat_natCast]
          rw [if_pos (by omega)]
          exact ih (i + 1) (insM (pages.eraseIdx (goesM s (i + 1) pages).1) p) hits _ g2 (insM_sorted _ _ hes (erase_not_mem _ _ _ hm)) (by rw [insM_length]; omega) (by omega) (by omega)
        · have hle := posL_le pages p
          rw [if_neg hq, if_neg (by omega), succ_cast]
          simp only [Int.toNat_natCast]
          rw [if_pos (by omega)]
          exact ih (i + 1) (insM pages p) hits s hp (insM_sorted _ _ hs hm) (by rw [insM_length]; omega) (by omega) (by omega)

/-! The page that is wanted last -/
def worstG (f : Int → Nat) (pages : List Int) : List Int → Nat → Nat → Nat
  | [], _, b => b
  | p :: ps, j, b => worstG f pages ps (j + 1) (if f p > f (pages.getD b 0) then j else b)
theorem worstG_lt (f : Int → Nat) (pages : List Int) (ps : List Int) : ∀ (j b n : Nat), j + ps.length ≤ n → b < n → worstG f pages ps j b < n := by
  induction ps with
  | nil => intro j b n h hb; exact hb
  | cons p ps ih =>
    intro j b n h hb
    simp only [List.length_cons] at h
    unfold worstG
    exact ih (j + 1) _ n (by omega) (by split <;> omega)
/-- where a page is wanted next, from one place on -/
def nextN (l : List Int) (n : Nat) (q : Int) : Nat := n + placeN (l.drop n) q
def optM (l : List Int) (_ : Unit) (n : Nat) (pages : List Int) : Nat × Unit := (worstG (nextN l n) pages pages 0 0, ())
theorem rd_getD (l : List Int) (n : Nat) : rd l (n : Int) = l.getD n 0 := by unfold rd; rw [Int.toNat_natCast]
theorem optO_f (k : Nat) (l pages : List Int) (n : Nat) (hn : n ≤ l.length) (hb : l.length < 1000000) (hk : l.length < k) (ps : List Int) : ∀ (j b : Nat), j + ps.length ≤ pages.length → b < pages.length →
    optO k l pages (n : Int) ps (j : Int) (b : Int) = some ((worstG (nextN l n) pages ps j b : Nat) : Int) := by
  induction ps with
  | nil => intro j b h hb2; rfl
  | cons p ps ih =>
    intro j b h hb2
    simp only [List.length_cons] at h
    unfold optO worstG
    rw [nextUse_f l n p hn (by omega) k hk, Option.bind_some, if_pos (by omega), rd_getD, nextUse_f l n _ hn (by omega) k hk, Option.bind_some, succ_cast]
    by_cases c : nextN l n p > nextN l n (pages.getD b 0)
    · rw [if_pos c, if_pos (by unfold nextN at c; omega)]
      exact ih (j + 1) j (by omega) (by omega)
    · rw [if_neg c, if_neg (by unfold nextN at c; omega)]
      exact ih (j + 1) b (by omega) hb2
theorem opt_rules (l : List Int) (sz : Nat) : Rules (optM l) sz l.length (fun _ => True) := by
  intro s n pages _ hn hl h0
  exact ⟨worstG_lt _ _ _ 0 0 sz (by omega) h0, trivial⟩
theorem optG_f (k : Nat) (l : List Int) (sz : Nat) (hsz : sz ≤ 1000) (hb : l.length < 1000000) (hk : l.length < k) (s : Unit) (n : Nat) (pages : List Int) (hn : n ≤ l.length) (hl : pages.length = sz) (h0 : 0 < sz) :
    optG k l s (n : Int) pages = some (((optM l s n pages).1 : Int), (optM l s n pages).2) := by
  unfold optG
  rw [if_pos (by omega)]
  have h := optO_f k l pages n hn hb hk pages 0 0 (by omega) (by omega)
  rw [show ((0 : Nat) : Int) = 0 from rfl] at h
  rw [h]; rfl

set_option maxRecDepth 100000 in
theorem implPlayOpt_f (l : List Int) (sz : Nat) (hsz : sz ≤ 40) (hg : goodB l = true) (k : Nat) (hk : 2000 < k) : impl_PlayOpt.f k l (sz : Int) = some ((playM (optM l) sz l 0 [] 0 ()).1, ((playM (optM l) sz l 0 [] 0 ()).2 : Int), true) := by
  have hl := goodB_len l hg
  obtain ⟨a, b, c, d⟩ := playM_facts (optM l) sz l.length _ (opt_rules l sz) l 0 [] 0 () trivial List.Pairwise.nil (Nat.zero_le _) (by omega)
  unfold impl_PlayOpt.f
  rw [goodRefs_impl l (by omega), Option.bind_some, hg, if_pos rfl, isSize_f, Option.bind_some, decide_eq_true (p := (0 : Int) ≤ (sz : Int)) (by omega), decide_eq_true (p := (sz : Int) ≤ 40) (by omega), Bool.true_and, if_pos rfl]
  have h := playO_f k (optG k l) (optM l) sz l.length (by omega) (by omega) (by omega) (fun _ => True) (opt_rules l sz) (fun s n pages _ hn hq h0 => optG_f k l sz (by omega) (by omega) (by omega) s n pages hn hq h0) l 0 [] 0 () trivial List.Pairwise.nil (Nat.zero_le _) (by omega) (Nat.zero_le _)
  rw [show ((0 : Nat) : Int) = 0 from rfl] at h
  rw [h, Option.bind_some, if_pos ⟨Nat.lt_of_le_of_lt a (by omega), by omega⟩]

/-! the reference's loops -/
theorem l11Next_f (l : List Int) (n : Nat) (p : Int) (hn : n ≤ l.length) (hb : l.length < 1000000) (k : Nat) (hk : l.length < k) : spec_l11Next.f k l (n : Int) p = some ((nextN l n p : Nat) : Int) := by
  unfold spec_l11Next.f nextN
  exact l11_loop l p (by omega) (l.length - n) k n (by omega) (by omega)
set_option maxRecDepth 100000 in
theorem specOpt_inner (l : List Int) (size hits p : Int) (i : Nat) (pages : List Int) (hi : i + 1 ≤ l.length) (hb : l.length < 1000000) (hpl : 0 < pages.length) (hpb : pages.length ≤ 1000) (hs : pages.Pairwise (· < ·)) (d : Nat) : ∀ (k j b : Nat), j + d = pages.length → d + (l.length + 2000) < k → b < pages.length →
    spec_PlayOpt.l1 k l size pages hits (i : Int) p (b : Int) l (l.length : Int) (i : Int) pages (pages.length : Int) (j : Int) = spec_PlayOpt.l0 (k - d - 1) l size (insM (pages.eraseIdx (worstG (nextN l (i + 1)) pages (pages.drop j) j b)) p) hits l (l.length : Int) ((i + 1 : Nat) : Int) := by
  induction d with
  | zero =>
    intro k j b hj hk hbl
    obtain ⟨k, rfl⟩ : ∃ m, k = m + 1 := ⟨k - 1, by omega⟩
    simp only [spec_PlayOpt.l1]
    rw [if_neg (by omega), List.drop_of_length_le (by omega), l11Without_f pages b hbl (by omega), Option.bind_some, l11Put_f _ p (erase_sorted _ _ hs) (by have := List.length_eraseIdx_le pages b; omega) k (by have := List.length_eraseIdx_le pages b; omega), Option.bind_some, w64 (by omega) (by omega), succ_cast, show k + 1 - 0 - 1 = k by omega]
    rfl
  | succ d ih =>
    intro k j b hj hk hbl
    obtain ⟨k, rfl⟩ : ∃ m, k = m + 1 := ⟨k - 1, by omega⟩
    have hjl : j < pages.length := by omega
    have e : worstG (nextN l (i + 1)) pages (pages.drop j) j b = worstG (nextN l (i + 1)) pages (pages.drop (j + 1)) (j + 1) (if nextN l (i + 1) pages[j] > nextN l (i + 1) (pages.getD b 0) then j else b) := by
      rw [List.drop_eq_getElem_cons hjl]; rfl
    conv => lhs; simp only [spec_PlayOpt.l1]
    rw [if_pos (by omega), if_pos (by omega), if_pos (by omega), rd_nat pages j hjl, w64 (x := (i : Int) + 1) (by omega) (by omega), succ_cast, l11Next_f l (i + 1) _ hi hb k (by omega), Option.bind_some, if_pos (by omega), if_pos (by omega), rd_getD, l11Next_f l (i + 1) _ hi hb k (by omega), Option.bind_some, w64 (x := (j : Int) + 1) (by omega) (by omega), succ_cast, e]
    by_cases c : nextN l (i + 1) pages[j] > nextN l (i + 1) (pages.getD b 0)
    · rw [if_pos (by omega), if_pos c, ih k (j + 1) j (by omega) (by omega) hjl, show k - d - 1 = k + 1 - (d + 1) - 1 by omega]
    · rw [if_neg (by omega), if_neg c, ih k (j + 1) b (by omega) (by omega) hbl, show k - d - 1 = k + 1 - (d + 1) - 1 by omega]
set_option maxRecDepth 100000 in
theorem specOpt_loop (l : List Int) (sz : Nat) (hsz : sz ≤ 1000) (hb : l.length < 1000000) (d : Nat) : ∀ (k i hits : Nat) (pages : List Int), i + d = l.length → d * (sz + 3) + (l.length + 4000) < k → pages.Pairwise (· < ·) → pages.length ≤ sz → hits ≤ i →
    spec_PlayOpt.l0 k l (sz : Int) pages (hits : Int) l (l.length : Int) (i : Int) = some ((playM (optM l) sz (l.drop i) i pages hits ()).1, ((playM (optM l) sz (l.drop i) i pages hits ()).2 : Int), true) := by
  induction d with
  | zero =>
    intro k i hits pages hi hk hs hpl hh
    obtain ⟨k, rfl⟩ : ∃ m, k = m + 1 := ⟨k - 1, by omega⟩
    simp only [spec_PlayOpt.l0]
    rw [if_neg (by omega), List.drop_of_length_le (by omega)]
    rfl
  | succ d ih =>
    intro k i hits pages hi hk hs hpl hh
    obtain ⟨k, rfl⟩ : ∃ m, k = m + 1 := ⟨k - 1, by omega⟩
    have hk2 : d * (sz + 3) + (sz + 3) + (l.length + 4000) < k + 1 := by rw [← Nat.succ_mul]; exact hk
    have hil : i < l.length := by omega
    simp only [spec_PlayOpt.l0]
    rw [if_pos (by omega), if_pos (by omega), if_pos (by omega), rd_nat l i hil, l11At_f pages _ hs (by omega) k (by omega), Option.bind_some, List.drop_eq_getElem_cons hil, playM_cons, w64 (x := (i : Int) + 1) (by omega) (by omega), succ_cast]
    by_cases hm : l[i] ∈ pages
    · rw [if_pos hm]
      simp only [decide_eq_true hm, if_true]
      rw [w64 (by omega) (by omega), succ_cast]
      exact ih k (i + 1) (hits + 1) pages (by omega) (by omega) hs hpl (by omega)
    · rw [if_neg hm]
      simp only [decide_eq_false hm, Bool.false_eq_true, if_false]
      by_cases h0 : sz = 0
      · rw [if_pos h0, if_pos (by omega)]
        exact ih k (i + 1) hits pages (by omega) (by omega) hs hpl (by omega)
      · rw [if_neg h0, if_neg (by omega)]
        by_cases hq : pages.length = sz
        · have hin := specOpt_inner l (sz : Int) (hits : Int) l[i] i pages (by omega) hb (by omega) (by omega) hs pages.length k 0 0 (by omega) (by omega) (by omega)
          rw [show ((0 : Nat) : Int) = 0 from rfl] at hin
          have hw : worstG (nextN l (i + 1)) pages pages 0 0 < sz := worstG_lt _ _ _ 0 0 sz (by omega) (by omega)
          rw [if_pos hq, if_pos (by omega), hin]
          have hel := erase_length pages (worstG (nextN l (i + 1)) pages pages 0 0) (by omega)
          have h := ih (k - pages.length - 1) (i + 1) hits (insM (pages.eraseIdx (worstG (nextN l (i + 1)) pages pages 0 0)) l[i]) (by omega) (by omega) (insM_sorted _ _ (erase_sorted _ _ hs) (erase_not_mem _ _ _ hm)) (by rw [insM_length, hel]; omega) (by omega)
          rw [List.drop_zero]
          exact h
        · rw [if_neg hq, if_neg (by omega), l11Put_f pages _ hs (by omega) k (by omega), Option.bind_some]
          exact ih k (i + 1) hits (insM pages l[i]) (by omega) (by omega) (insM_sorted _ _ hs hm) (by rw [insM_length]; omega) (by omega)
set_option maxRecDepth 100000 in
theorem specPlayOpt_f (l : List Int) (sz : Nat) (hsz : sz ≤ 40) (hg : goodB l = true) (k : Nat) (hk : 20000 < k) : spec_PlayOpt.f k l (sz : Int) = some ((playM (optM l) sz l 0 [] 0 ()).1, ((playM (optM l) sz l 0 [] 0 ()).2 : Int), true) := by
  have hl := goodB_len l hg
  obtain ⟨k, rfl⟩ : ∃ m, k = m + 1 := ⟨k - 1, by omega⟩
  unfold spec_PlayOpt.f
  rw [goodRefs_spec l (by omega) _ (by omega), Option.bind_some, hg, if_pos rfl, l1In_f, Option.bind_some, decide_eq_true (p := (0 : Int) ≤ (sz : Int)) (by omega), decide_eq_true (p := (sz : Int) ≤ 40) (by omega), Bool.true_and]
  simp only [Bool.not_true, spec_PlayOpt.j0, Bool.false_eq_true, if_false]
  have hm : l.length * (sz + 3) ≤ 200 * 43 := Nat.mul_le_mul hl (by omega)
  have h := specOpt_loop l sz (by omega) (by omega) l.length k 0 0 [] (by omega) (by omega) List.Pairwise.nil (Nat.zero_le _) (Nat.zero_le _)
  rw [List.drop_zero, show ((0 : Nat) : Int) = 0 from rfl] at h
  exact h

/-! What is chosen -/
def chM (sz : Nat) : List Int → Nat → List Int → Nat × List Int
  | [], _, _ => (0, [])
  | n :: r, _, _ => ((Int.tmod n sz).toNat, r)
def allNN (l : List Int) : Prop := ∀ x ∈ l, 0 ≤ x
theorem tmod_nn (n : Int) (sz : Nat) (hn : 0 ≤ n) (h0 : 0 < sz) : 0 ≤ Int.tmod n sz ∧ Int.tmod n sz < sz := by
  rw [Int.tmod_eq_emod_of_nonneg hn]
  exact ⟨Int.emod_nonneg _ (by omega), Int.emod_lt_of_pos _ (by omega)⟩
theorem ch_rules (sz N : Nat) : Rules (chM sz) sz N allNN := by
  intro s n pages hp hn hl h0
  cases s with
  | nil => exact ⟨h0, fun x hx => by simp [chM] at hx⟩
  | cons c r =>
    have h := tmod_nn c sz (hp c List.mem_cons_self) h0
    exact ⟨by simp only [chM]; omega, fun x hx => hp x (List.mem_cons_of_mem _ hx)⟩
theorem chG_f (sz : Nat) (s : List Int) (n : Nat) (pages : List Int) (hp : allNN s) (h0 : 0 < sz) : chG (sz : Int) s (n : Int) pages = some (((chM sz s n pages).1 : Int), (chM sz s n pages).2) := by
  cases s with
  | nil => rfl
  | cons c r =>
    have h := tmod_nn c sz (hp c List.mem_cons_self) h0
    have e : chG (sz : Int) (c :: r) (n : Int) pages = if (sz : Int) = 0 then none else some (Int.tmod c sz, r) := rfl
    rw [e, if_neg (by omega)]
    simp only [chM]
    rw [Int.toNat_of_nonneg h.1]
def nnB (x : Int) : Bool := decide (x ≥ 0)
theorem allNN_iff (l : List Int) : l.all nnB = true ↔ allNN l := by
  unfold nnB allNN
  simp [List.all_eq_true]
theorem allCh_f (l : List Int) (hl : l.length < 9223372036854775807) : xAll_i64_impl_PlayChoices_1.f l = some (l.all nnB) := by
  obtain ⟨i, h1, h2⟩ := idxO_all xAll_i64_impl_PlayChoices_1.z nnB (fun x => by unfold xAll_i64_impl_PlayChoices_1.z impl_PlayChoices_1.f; rfl) l 0 (by omega)
  unfold xAll_i64_impl_PlayChoices_1.f
  rw [if_pos hl, h1, Option.bind_some, h2]

/-- what PlayChoices tells -/
def chT (l : List Int) (size : Int) (cs : List Int) : List Int × Int × Bool :=
  if goodB l = true ∧ 0 ≤ size ∧ size ≤ 40 ∧ cs.length ≤ 200 ∧ cs.all nnB = true then ((playM (chM size.toNat) size.toNat l 0 [] 0 cs).1, ((playM (chM size.toNat) size.toNat l 0 [] 0 cs).2 : Int), true) else ([], 0, false)
set_option maxRecDepth 100000 in
theorem implCh_f (l : List Int) (size : Int) (cs : List Int) (hl : l.length < 9223372036854775807) (k : Nat) (hk : 2000 < k) : impl_PlayChoices.f k l size cs = some (chT l size cs) := by
  unfold impl_PlayChoices.f chT
  rw [goodRefs_impl l hl, Option.bind_some]
  cases hg : goodB l with
  | false => simp
  | true =>
    have hl2 := goodB_len l hg
    rw [if_pos rfl, isSize_f, Option.bind_some]
    by_cases c : 0 ≤ size ∧ size ≤ 40
    · obtain ⟨sz, rfl⟩ := Int.eq_ofNat_of_zero_le c.1
      rw [decide_eq_true c.1, decide_eq_true c.2, Bool.true_and, if_pos rfl]
      by_cases c2 : cs.length ≤ 200
      · rw [if_neg (by omega), allCh_f cs (by omega), Option.bind_some]
        cases hc : cs.all nnB with
        | false => simp
        | true =>
          have hnn := (allNN_iff cs).mp hc
          obtain ⟨a, b, e, d⟩ := playM_facts (chM sz) sz l.length _ (ch_rules sz l.length) l 0 [] 0 cs hnn List.Pairwise.nil (Nat.zero_le _) (by omega)
          have h := playO_f k (chG (sz : Int)) (chM sz) sz l.length (by omega) (by omega) (by omega) allNN (ch_rules sz l.length) (fun s n pages hp hn hq h0 => chG_f sz s n pages hp h0) l 0 [] 0 cs hnn List.Pairwise.nil (Nat.zero_le _) (by omega) (Nat.zero_le _)
          rw [show ((0 : Nat) : Int) = 0 from rfl] at h
          rw [if_pos rfl, h, Option.bind_some, if_pos ⟨Nat.lt_of_le_of_lt a (by omega), by omega⟩, if_pos ⟨rfl, c.1, c.2, c2, rfl⟩, Int.toNat_natCast]
      · rw [if_pos (by omega), if_neg (fun h => c2 h.2.2.2.1)]
    · have c2 : (decide (0 ≤ size) && decide (size ≤ 40)) = false := by simpa using c
      rw [c2, if_neg (by decide), if_neg (fun h => c ⟨h.2.1, h.2.2.1⟩)]

/-! the reference's loops -/
set_option maxRecDepth 100000 in
theorem specCh_look (l : List Int) (sz : Int) (cs : List Int) (hc : cs.length < 1000000) (T : Option (List Int × Int × Bool)) (K : Nat) (hT : ∀ k, K ≤ k → spec_PlayChoices.l1 k sz cs ([] : List Int) 0 0 l (l.length : Int) 0 = T) (d : Nat) : ∀ (k j : Nat), j + d = cs.length → d + K < k →
    spec_PlayChoices.l0 k l sz cs cs (cs.length : Int) (j : Int) = if (cs.drop j).all nnB = true then T else some ([], 0, false) := by
  induction d with
  | zero =>
    intro k j hj hk
    obtain ⟨k, rfl⟩ : ∃ m, k = m + 1 := ⟨k - 1, by omega⟩
    simp only [spec_PlayChoices.l0]
    rw [if_neg (by omega), List.drop_of_length_le (by omega), List.all_nil, if_pos rfl]
    exact hT k (by omega)
  | succ d ih =>
    intro k j hj hk
    obtain ⟨k, rfl⟩ : ∃ m, k = m + 1 := ⟨k - 1, by omega⟩
    have hjl : j < cs.length := by omega
    simp only [spec_PlayChoices.l0]
    rw [if_pos (by omega), if_pos (by omega), if_pos (by omega), rd_nat cs j hjl, List.drop_eq_getElem_cons hjl, List.all_cons, w64 (by omega) (by omega), succ_cast, ih k (j + 1) (by omega) (by omega)]
    by_cases c : cs[j] < 0
    · rw [if_pos c, show nnB cs[j] = false from decide_eq_false (by omega), Bool.false_and, if_neg (by decide)]
    · rw [if_neg c, show nnB cs[j] = true from decide_eq_true (by omega), Bool.true_and]
set_option maxRecDepth 100000 in
theorem specCh_loop (l : List Int) (sz : Nat) (hsz : sz ≤ 1000) (hb : l.length < 1000000) (cs : List Int) (hcl : cs.length < 1000000) (hc : allNN cs) (d : Nat) : ∀ (k i hits q : Nat) (pages : List Int), i + d = l.length → d + 2000 < k → pages.Pairwise (· < ·) → pages.length ≤ sz → hits ≤ i → q ≤ i → q ≤ cs.length →
    spec_PlayChoices.l1 k (sz : Int) cs pages (hits : Int) (q : Int) l (l.length : Int) (i : Int) = some ((playM (chM sz) sz (l.drop i) i pages hits (cs.drop q)).1, ((playM (chM sz) sz (l.drop i) i pages hits (cs.drop q)).2 : Int), true) := by
  induction d with
  | zero =>
    intro k i hits q pages hi hk hs hpl hh hq1 hq2
    obtain ⟨k, rfl⟩ : ∃ m, k = m + 1 := ⟨k - 1, by omega⟩
    simp only [spec_PlayChoices.l1]
    rw [if_neg (by omega), List.drop_of_length_le (by omega)]
    rfl
  | succ d ih =>
    intro k i hits q pages hi hk hs hpl hh hq1 hq2
    obtain ⟨k, rfl⟩ : ∃ m, k = m + 1 := ⟨k - 1, by omega⟩
    have hil : i < l.length := by omega
    simp only [spec_PlayChoices.l1]
    rw [if_pos (by omega), if_pos (by omega), if_pos (by omega), rd_nat l i hil, l11At_f pages _ hs (by omega) k (by omega), Option.bind_some, List.drop_eq_getElem_cons hil, playM_cons, w64 (x := (i : Int) + 1) (by omega) (by omega), succ_cast]
    by_cases hm : l[i] ∈ pages
    · rw [if_pos hm]
      simp only [decide_eq_true hm, if_true]
      rw [w64 (by omega) (by omega), succ_cast]
      exact ih k (i + 1) (hits + 1) q pages (by omega) (by omega) hs hpl (by omega) (by omega) hq2
    · rw [if_neg hm]
      simp only [decide_eq_false hm, Bool.false_eq_true, if_false]
      by_cases h0 : sz = 0
      · rw [if_pos h0, if_pos (by omega)]
        exact ih k (i + 1) hits q pages (by omega) (by omega) hs hpl (by omega) (by omega) hq2
      · rw [if_neg h0, if_neg (by omega)]
        by_cases hq : pages.length = sz
        · rw [if_pos hq, if_pos (by omega)]
          by_cases hql : q < cs.length
          · have hn := tmod_nn cs[q] sz (hc _ (List.getElem_mem hql)) (by omega)
            have e : Int.tmod cs[q] sz = (((Int.tmod cs[q] sz).toNat : Nat) : Int) := (Int.toNat_of_nonneg hn.1).symm
            have hlt : (Int.tmod cs[q] sz).toNat < pages.length := by omega
            have hel := erase_length pages _ hlt
            rw [if_pos (by omega), if_pos (by omega), rd_nat cs q hql, e, l11Without_f pages _ hlt (by omega), Option.bind_some, l11Put_f _ _ (erase_sorted _ _ hs) (by omega) k (by omega), Option.bind_some, w64 (by omega) (by omega), succ_cast, List.drop_eq_getElem_cons hql]
            have h := ih k (i + 1) hits (q + 1) (insM (pages.eraseIdx (Int.tmod cs[q] sz).toNat) l[i]) (by omega) (by omega) (insM_sorted _ _ (erase_sorted _ _ hs) (erase_not_mem _ _ _ hm)) (by rw [insM_length, hel]; omega) (by omega) (by omega) (by omega)
            exact h
          · have hel := erase_length pages 0 (by omega)
            have hdz : cs.drop q = [] := List.drop_of_length_le (by omega)
            have h1 := l11Without_f pages 0 (by omega) (by omega)
            rw [show ((0 : Nat) : Int) = 0 from rfl] at h1
            rw [if_neg (by omega), h1, Option.bind_some, l11Put_f _ _ (erase_sorted _ _ hs) (by omega) k (by omega), Option.bind_some]
            have h := ih k (i + 1) hits q (insM (pages.eraseIdx 0) l[i]) (by omega) (by omega) (insM_sorted _ _ (erase_sorted _ _ hs) (erase_not_mem _ _ _ hm)) (by rw [insM_length, hel]; omega) (by omega) (by omega) hq2
            rw [hdz] at h ⊢
            exact h
        · rw [if_neg hq, if_neg (by omega), l11Put_f pages _ hs (by omega) k (by omega), Option.bind_some]
          exact ih k (i + 1) hits q (insM pages l[i]) (by omega) (by omega) (insM_sorted _ _ hs hm) (by rw [insM_length]; omega) (by omega) (by omega) hq2
set_option maxRecDepth 100000 in
theorem specCh_bad_loop (l : List Int) (sz : Int) (cs : List Int) (hc : cs.length < 1000000) (d : Nat) : ∀ (k j : Nat), j + d = cs.length → d < k → ¬ (cs.drop j).all nnB = true →
    spec_PlayChoices.l0 k l sz cs cs (cs.length : Int) (j : Int) = some ([], 0, false) := by
  induction d with
  | zero =>
    intro k j hj hk hn
    rw [List.drop_of_length_le (by omega)] at hn
    exact absurd rfl hn
  | succ d ih =>
    intro k j hj hk hn
    obtain ⟨k, rfl⟩ : ∃ m, k = m + 1 := ⟨k - 1, by omega⟩
    have hjl : j < cs.length := by omega
    rw [List.drop_eq_getElem_cons hjl, List.all_cons] at hn
    simp only [spec_PlayChoices.l0]
    rw [if_pos (by omega), if_pos (by omega), if_pos (by omega), rd_nat cs j hjl, w64 (by omega) (by omega), succ_cast]
    by_cases c : cs[j] < 0
    · rw [if_pos c]
    · rw [if_neg c]
      refine ih k (j + 1) (by omega) (by omega) (fun h => hn ?_)
      rw [show nnB cs[j] = true from decide_eq_true (by omega), Bool.true_and]; exact h
theorem specCh_bad (l : List Int) (sz : Int) (cs : List Int) (hc : cs.length < 1000000) (hn : ¬ cs.all nnB = true) (k : Nat) (hk : cs.length < k) : spec_PlayChoices.l0 k l sz cs cs (cs.length : Int) 0 = some ([], 0, false) :=
  specCh_bad_loop l sz cs hc cs.length k 0 (by omega) hk hn
set_option maxRecDepth 100000 in
theorem specCh_f (l : List Int) (size : Int) (cs : List Int) (hl : l.length < 4611686018427387904) (k : Nat) (hk : l.length + 5000 < k) : spec_PlayChoices.f k l size cs = some (chT l size cs) := by
  obtain ⟨k, rfl⟩ : ∃ m, k = m + 1 := ⟨k - 1, by omega⟩
  unfold spec_PlayChoices.f chT
  rw [goodRefs_spec l hl _ (by omega), Option.bind_some]
  cases hg : goodB l with
  | false => rw [if_neg (by decide), if_neg (fun h => by cases h.1)]; rfl
  | true =>
    have hl2 := goodB_len l hg
    rw [if_pos rfl, l1In_f, Option.bind_some]
    by_cases c : 0 ≤ size ∧ size ≤ 40
    · obtain ⟨sz, rfl⟩ := Int.eq_ofNat_of_zero_le c.1
      rw [decide_eq_true c.1, decide_eq_true c.2, Bool.true_and, if_pos rfl]
      by_cases c2 : cs.length ≤ 200
      · rw [decide_eq_false (p := (cs.length : Int) > 200) (by omega)]
        simp only [spec_PlayChoices.j0, Bool.false_eq_true, if_false]
        by_cases hc : cs.all nnB = true
        · have hnn := (allNN_iff cs).mp hc
          have h := specCh_look l (sz : Int) cs (by omega) _ (l.length + 2001) (fun k hk2 => specCh_loop l sz (by omega) (by omega) cs (by omega) hnn l.length k 0 0 0 [] (by omega) (by omega) List.Pairwise.nil (Nat.zero_le _) (Nat.zero_le _) (Nat.zero_le _) (Nat.zero_le _)) cs.length k 0 (by omega) (by omega)
          simp only [List.drop_zero] at h
          rw [if_pos hc] at h
          rw [if_pos ⟨trivial, c.1, c.2, c2, hc⟩, Int.toNat_natCast]
          exact h
        · rw [if_neg (fun h => hc h.2.2.2.2)]
          exact specCh_bad l (sz : Int) cs (by omega) hc k (by omega)
      · rw [decide_eq_true (p := (cs.length : Int) > 200) (by omega), if_neg (fun h => c2 h.2.2.2.1)]
        simp only [spec_PlayChoices.j0, if_true]
    · have c2 : (decide (0 ≤ size) && decide (size ≤ 40)) = false := by simpa using c
      rw [c2, if_neg (by decide), if_neg (fun h => c ⟨h.2.1, h.2.2.1⟩)]
      rfl

/-! Caches, whatever throws away: what a run is -/
theorem len_le_of_sub : ∀ (A B : List Int), A.Nodup → (∀ x ∈ A, x ∈ B) → A.length ≤ B.length
  | [], _, _, _ => Nat.zero_le _
  | a :: xs, B, hn, hs => by
    obtain ⟨h1, h2⟩ := List.nodup_cons.mp hn
    have ha := hs a List.mem_cons_self
    have hl : (B.erase a).length = B.length - 1 := List.length_erase_of_mem ha
    have hp := List.length_pos_of_mem ha
    have ih := len_le_of_sub xs (B.erase a) h2 (fun x hx => (List.mem_erase_of_ne (fun e => h1 (by rw [← e]; exact hx))).mpr (hs x (List.mem_cons_of_mem _ hx)))
    simp only [List.length_cons]; omega
theorem countP_split (P : Int → Bool) (p : Int) : ∀ (X : List Int), X.Nodup → X.countP P = X.countP (fun q => decide (q ≠ p) && P q) + (if p ∈ X ∧ P p = true then 1 else 0)
  | [], _ => by simp
  | x :: xs, hn => by
    obtain ⟨h1, h2⟩ := List.nodup_cons.mp hn
    have ih := countP_split P p xs h2
    rw [List.countP_cons, List.countP_cons, ih]
    by_cases e : x = p
    · subst e
      rw [if_neg (show ¬ (x ∈ xs ∧ P x = true) from fun h => h1 h.1)]
      cases P x <;> simp
    · have e2 : (p ∈ x :: xs ∧ P p = true) ↔ (p ∈ xs ∧ P p = true) := by
        rw [List.mem_cons]
        exact ⟨fun ⟨h, h'⟩ => ⟨h.resolve_left (fun e' => e e'.symm), h'⟩, fun ⟨h, h'⟩ => ⟨Or.inr h, h'⟩⟩
      simp only [e2, decide_eq_true (show x ≠ p from e), Bool.true_and]
      omega
theorem countP_sub (P : Int → Bool) (A B : List Int) (hn : A.Nodup) (hs : ∀ x ∈ A, P x = true → x ∈ B) : A.countP P ≤ B.countP P := by
  rw [List.countP_eq_length_filter, List.countP_eq_length_filter]
  refine len_le_of_sub _ _ (hn.sublist List.filter_sublist) (fun x hx => ?_)
  obtain ⟨h1, h2⟩ := List.mem_filter.mp hx
  exact List.mem_filter.mpr ⟨hs x h1 h2, h2⟩
/-- what is there behind each reference: the page; of the others, such as were there; and so many hits -/
def Run (s : Nat) : List Int → List Int → Nat → Prop
  | [], _, h => h = 0
  | p :: ps, C, h => ∃ C' h', Run s ps C' h' ∧ C'.Nodup ∧ C'.length ≤ s ∧ p ∈ C' ∧ (∀ q ∈ C', q = p ∨ q ∈ C) ∧ h = h' + (if p ∈ C then 1 else 0)
theorem sorted_nodup (l : List Int) (h : l.Pairwise (· < ·)) : l.Nodup := h.imp (fun hab => by omega)
theorem playM_run {σ : Type} (goesM : σ → Nat → List Int → Nat × σ) (sz N : Nat) (h0 : 0 < sz) (P : σ → Prop) (hg : Rules goesM sz N P) (l : List Int) : ∀ (i : Nat) (pages : List Int) (hits : Nat) (s : σ), P s → pages.Pairwise (· < ·) → pages.length ≤ sz → i + l.length ≤ N →
    ∃ h, Run sz l pages h ∧ (playM goesM sz l i pages hits s).2 = hits + h := by
  induction l with
  | nil => intro i pages hits s hp hs hl hn; exact ⟨0, rfl, rfl⟩
  | cons p ps ih =>
    intro i pages hits s hp hs hl hn
    simp only [List.length_cons] at hn
    rw [playM_cons]
    by_cases hm : p ∈ pages
    · obtain ⟨h, h1, h2⟩ := ih (i + 1) pages (hits + 1) s hp hs hl (by omega)
      rw [if_pos hm]
      exact ⟨h + 1, ⟨pages, h, h1, sorted_nodup _ hs, hl, hm, fun q hq => Or.inr hq, by rw [if_pos hm]⟩, by omega⟩
    · rw [if_neg hm, if_neg (by omega)]
      by_cases hq : pages.length = sz
      · obtain ⟨g1, g2⟩ := hg s (i + 1) pages hp (by omega) hq (by omega)
        have hes := insM_sorted _ p (erase_sorted pages (goesM s (i + 1) pages).1 hs) (erase_not_mem _ _ _ hm)
        have hel : (insM (pages.eraseIdx (goesM s (i + 1) pages).1) p).length ≤ sz := by rw [insM_length, erase_length _ _ (by omega)]; omega
        obtain ⟨h, h1, h2⟩ := ih (i + 1) (insM (pages.eraseIdx (goesM s (i + 1) pages).1) p) hits _ g2 hes hel (by omega)
        rw [if_pos hq]
        exact ⟨h, ⟨_, h, h1, sorted_nodup _ hes, hel, (insM_mem _ _ _).mpr (Or.inl rfl), fun q hq2 => ((insM_mem _ _ _).mp hq2).imp id List.mem_of_mem_eraseIdx, by rw [if_neg hm, Nat.add_zero]⟩, h2⟩
      · have hes := insM_sorted _ p hs hm
        have hel : (insM pages p).length ≤ sz := by rw [insM_length]; omega
        obtain ⟨h, h1, h2⟩ := ih (i + 1) (insM pages p) hits s hp hes hel (by omega)
        rw [if_neg hq]
        exact ⟨h, ⟨_, h, h1, sorted_nodup _ hes, hel, (insM_mem _ _ _).mpr (Or.inl rfl), fun q hq2 => (insM_mem _ _ _).mp hq2, by rw [if_neg hm, Nat.add_zero]⟩, h2⟩
theorem playM_zero {σ : Type} (goesM : σ → Nat → List Int → Nat × σ) (l : List Int) : ∀ (i hits : Nat) (s : σ), (playM goesM 0 l i [] hits s).2 = hits := by
  induction l with
  | nil => intro i hits s; rfl
  | cons p ps ih => intro i hits s; rw [playM_cons, if_neg (by simp), if_pos rfl]; exact ih _ _ _
/-- the stack that is played, likewise -/
theorem playL_run (still : Bool) (s : Nat) (h0 : 0 < s) (l : List Int) : ∀ (st : List Int) (a : Int), st.Nodup → st.length ≤ s → ∃ h : Nat, Run s l st h ∧ (playL still s l st a).2 = a + h := by
  induction l with
  | nil => intro st a hn hl; exact ⟨0, rfl, by simp [playL]⟩
  | cons p ps ih =>
    intro st a hn hl
    have ht1 := touchL_nodup st p s hn
    have ht2 := touchL_length st p s
    have ht3 : p ∈ touchL st p s := by
      unfold touchL
      obtain ⟨n, rfl⟩ : ∃ n, s = n + 1 := ⟨s - 1, by omega⟩
      rw [List.take_succ_cons]; exact List.mem_cons_self
    have ht4 : ∀ q ∈ touchL st p s, q = p ∨ q ∈ st := fun q hq => by
      rcases List.mem_cons.mp (List.mem_of_mem_take hq) with h | h
      · exact Or.inl h
      · exact Or.inr (List.mem_of_mem_erase h)
    unfold playL
    cases hc : st.contains p with
    | true =>
      have hm : p ∈ st := List.contains_iff_mem.mp hc
      rw [if_pos rfl]
      cases still with
      | true =>
        rw [if_pos rfl]
        obtain ⟨h, h1, h2⟩ := ih st (a + 1) hn hl
        exact ⟨h + 1, ⟨st, h, h1, hn, hl, hm, fun q hq => Or.inr hq, by rw [if_pos hm]⟩, by omega⟩
      | false =>
        rw [if_neg (by decide)]
        obtain ⟨h, h1, h2⟩ := ih _ (a + 1) ht1 ht2
        exact ⟨h + 1, ⟨_, h, h1, ht1, ht2, ht3, ht4, by rw [if_pos hm]⟩, by omega⟩
    | false =>
      have hm : ¬ p ∈ st := fun h => by rw [List.contains_iff_mem.mpr h] at hc; cases hc
      rw [if_neg (by decide)]
      obtain ⟨h, h1, h2⟩ := ih _ a ht1 ht2
      exact ⟨h, ⟨_, h, h1, ht1, ht2, ht3, ht4, by rw [if_neg hm, Nat.add_zero]⟩, h2⟩
theorem playL_zero (still : Bool) (l : List Int) : ∀ a : Int, (playL still 0 l [] a).2 = a := by
  induction l with
  | nil => intro a; rfl
  | cons p ps ih =>
    intro a
    have ht : touchL [] p 0 = [] := rfl
    unfold playL
    rw [ht]
    simpa using ih a
theorem run_le (s : Nat) (l : List Int) : ∀ (C : List Int) (h : Nat), Run s l C h → h ≤ l.length := by
  induction l with
  | nil => intro C h hr; exact Nat.le_of_eq hr
  | cons p ps ih =>
    intro C h hr
    obtain ⟨C', h', h1, _, _, _, _, h2⟩ := hr
    have := ih C' h' h1
    simp only [List.length_cons]
    split at h2 <;> omega

/-! Belady: no run has more hits than to throw away what is wanted last -/
theorem worstG_max (f : Int → Nat) (pages : List Int) (d : Nat) : ∀ (j b : Nat), j + d = pages.length → f (pages.getD b 0) ≤ f (pages.getD (worstG f pages (pages.drop j) j b) 0) ∧ ∀ q ∈ pages.drop j, f q ≤ f (pages.getD (worstG f pages (pages.drop j) j b) 0) := by
  induction d with
  | zero =>
    intro j b hj
    rw [List.drop_of_length_le (by omega)]
    exact ⟨Nat.le_refl _, fun q hq => by simp at hq⟩
  | succ d ih =>
    intro j b hj
    have hl : j < pages.length := by omega
    rw [List.drop_eq_getElem_cons hl]
    have hg : pages.getD j 0 = pages[j] := by simp [List.getD_eq_getElem?_getD, hl]
    unfold worstG
    obtain ⟨i1, i2⟩ := ih (j + 1) (if f pages[j] > f (pages.getD b 0) then j else b) (by omega)
    by_cases c : f pages[j] > f (pages.getD b 0)
    · rw [if_pos c] at i1 i2 ⊢
      rw [hg] at i1
      refine ⟨by omega, fun q hq => ?_⟩
      rcases List.mem_cons.mp hq with rfl | hq
      · exact i1
      · exact i2 q hq
    · rw [if_neg c] at i1 i2 ⊢
      refine ⟨i1, fun q hq => ?_⟩
      rcases List.mem_cons.mp hq with rfl | hq
      · omega
      · exact i2 q hq
theorem countP_insM (P : Int → Bool) (l : List Int) (p : Int) : (insM l p).countP P = l.countP P + (if P p = true then 1 else 0) := by
  unfold insM insL
  rw [List.countP_append, List.countP_cons]
  have h : (l.take (posL l p)).countP P + (l.drop (posL l p)).countP P = l.countP P := by rw [← List.countP_append, List.take_append_drop]
  omega
theorem countP_erase (P : Int → Bool) (l : List Int) (n : Nat) (h : n < l.length) : l.countP P = (l.eraseIdx n).countP P + (if P l[n] = true then 1 else 0) := by
  rw [List.eraseIdx_eq_take_drop_succ, List.countP_append]
  have e : l.countP P = (l.take n).countP P + (l.drop n).countP P := by rw [← List.countP_append, List.take_append_drop]
  rw [e, List.drop_eq_getElem_cons h, List.countP_cons]
  omega
theorem nextN_ge (L : List Int) (i : Nat) (q : Int) : i ≤ nextN L i q := Nat.le_add_right _ _
theorem nextN_here (L : List Int) (i : Nat) (h : i < L.length) : nextN L i L[i] = i := by
  unfold nextN
  rw [List.drop_eq_getElem_cons h, placeN_cons, if_pos rfl]; rfl
theorem nextN_other (L : List Int) (i : Nat) (h : i < L.length) (q : Int) (hq : q ≠ L[i]) : nextN L i q = nextN L (i + 1) q := by
  unfold nextN
  rw [List.drop_eq_getElem_cons h, placeN_cons, if_neg hq]; omega
def cntN (f : Int → Nat) (t : Nat) (X : List Int) : Nat := X.countP (fun q => decide (f q < t))
/-- the others that are wanted before t -/
def othN (f : Int → Nat) (p : Int) (t : Nat) (X : List Int) : Nat := X.countP (fun q => decide (q ≠ p) && decide (f q < t))
theorem cnt_next (L : List Int) (i : Nat) (h : i < L.length) (t : Nat) (X : List Int) (hn : X.Nodup) : cntN (nextN L (i + 1)) t X = othN (nextN L (i + 1)) L[i] t X + (if L[i] ∈ X ∧ nextN L (i + 1) L[i] < t then 1 else 0) := by
  unfold cntN othN
  rw [countP_split _ L[i] X hn]
  simp only [decide_eq_true_eq]
theorem cnt_here (L : List Int) (i : Nat) (h : i < L.length) (t : Nat) (X : List Int) (hn : X.Nodup) : cntN (nextN L i) t X = othN (nextN L (i + 1)) L[i] t X + (if L[i] ∈ X ∧ i < t then 1 else 0) := by
  unfold cntN othN
  rw [countP_split _ L[i] X hn]
  simp only [decide_eq_true_eq, nextN_here L i h]
  congr 1
  refine List.countP_congr (fun q _ => ?_)
  by_cases e : q = L[i]
  · simp [e]
  · simp [e, nextN_other L i h q e]
theorem oth_sub (f : Int → Nat) (p : Int) (t : Nat) (A B : List Int) (hn : A.Nodup) (hs : ∀ q ∈ A, q = p ∨ q ∈ B) : othN f p t A ≤ othN f p t B := by
  unfold othN
  refine countP_sub _ _ _ hn (fun x hx hp => ?_)
  simp only [Bool.and_eq_true, decide_eq_true_eq] at hp
  exact (hs x hx).resolve_left hp.1
theorem oth_lt (f : Int → Nat) (p : Int) (t : Nat) (A : List Int) (hn : A.Nodup) (hp : p ∈ A) : othN f p t A + 1 ≤ A.length := by
  have h : A.countP (fun _ => true) = A.countP (fun q => decide (q ≠ p)) + 1 := by
    have h := countP_split (fun _ => true) p A hn
    rw [if_pos ⟨hp, rfl⟩] at h
    simpa only [Bool.and_true] using h
  have h2 : A.countP (fun _ => true) = A.length := by simp
  have h3 : othN f p t A ≤ A.countP (fun q => decide (q ≠ p)) := by
    unfold othN
    refine List.countP_mono_left (fun q _ hq => ?_)
    simp only [Bool.and_eq_true, decide_eq_true_eq] at hq ⊢
    exact hq.1
  omega
theorem oth_zero (L : List Int) (i : Nat) (p : Int) (t : Nat) (ht : t ≤ i + 1) (X : List Int) : othN (nextN L (i + 1)) p t X = 0 := by
  unfold othN
  rw [List.countP_eq_zero]
  intro q _ hq
  simp only [Bool.and_eq_true, decide_eq_true_eq] at hq
  have := nextN_ge L (i + 1) q
  omega
/-- behind a miss: what is thrown away costs nothing -/
theorem oth_goes (L : List Int) (i s : Nat) (hs0 : 0 < s) (p : Int) (F : List Int) (hF : F.Pairwise (· < ·)) (hpF : ¬ p ∈ F) (hl : F.length ≤ s) (t : Nat) (C' : List Int) (hn : C'.Nodup) (hc : C'.length ≤ s) (hp : p ∈ C') (m : Nat)
    (h : othN (nextN L (i + 1)) p t C' ≤ othN (nextN L (i + 1)) p t F + m) :
    othN (nextN L (i + 1)) p t C' ≤ othN (nextN L (i + 1)) p t (if F.length = s then insM (F.eraseIdx (optM L () (i + 1) F).1) p else insM F p) + m := by
  have hpp : (decide (p ≠ p) && decide (nextN L (i + 1) p < t)) = false := by simp
  by_cases hq : F.length = s
  · rw [if_pos hq]
    have hw : (optM L () (i + 1) F).1 < F.length := worstG_lt _ _ _ 0 0 F.length (by omega) (by omega)
    obtain ⟨_, hmx⟩ := worstG_max (nextN L (i + 1)) F F.length 0 0 (by omega)
    rw [List.drop_zero] at hmx
    have hge : F.getD (worstG (nextN L (i + 1)) F F 0 0) 0 = F[(optM L () (i + 1) F).1]'hw := by
      simp [List.getD_eq_getElem?_getD, optM, show worstG (nextN L (i + 1)) F F 0 0 < F.length from hw]
    rw [hge] at hmx
    have e1 : othN (nextN L (i + 1)) p t (insM (F.eraseIdx (optM L () (i + 1) F).1) p) = othN (nextN L (i + 1)) p t (F.eraseIdx (optM L () (i + 1) F).1) := by
      unfold othN; rw [countP_insM, hpp]; simp
    have e2 : othN (nextN L (i + 1)) p t F = othN (nextN L (i + 1)) p t (F.eraseIdx (optM L () (i + 1) F).1) + (if (decide (F[(optM L () (i + 1) F).1]'hw ≠ p) && decide (nextN L (i + 1) (F[(optM L () (i + 1) F).1]'hw) < t)) = true then 1 else 0) := by
      unfold othN; exact countP_erase _ F _ hw
    rw [e1]
    by_cases c : nextN L (i + 1) (F[(optM L () (i + 1) F).1]'hw) < t
    · have hall : othN (nextN L (i + 1)) p t (F.eraseIdx (optM L () (i + 1) F).1) = (F.eraseIdx (optM L () (i + 1) F).1).length := by
        unfold othN
        rw [List.countP_eq_length]
        intro q hq2
        have hqF := List.mem_of_mem_eraseIdx hq2
        have h3 := hmx q hqF
        simp only [Bool.and_eq_true, decide_eq_true_eq]
        exact ⟨fun e => hpF (e ▸ hqF), by omega⟩
      have h4 := oth_lt (nextN L (i + 1)) p t C' hn hp
      rw [hall, erase_length _ _ hw]
      omega
    · rw [if_neg (by simp [c])] at e2
      omega
  · rw [if_neg hq]
    have e1 : othN (nextN L (i + 1)) p t (insM F p) = othN (nextN L (i + 1)) p t F := by
      unfold othN; rw [countP_insM, hpp]; simp
    rw [e1]; exact h
theorem belady (L : List Int) (s : Nat) (hs0 : 0 < s) (d : Nat) : ∀ (i : Nat) (C F : List Int) (M h hits : Nat), i + d = L.length → C.Nodup → F.Pairwise (· < ·) → F.length ≤ s → Run s (L.drop i) C h →
    (∀ t, t ≤ L.length → cntN (nextN L i) t C ≤ cntN (nextN L i) t F + M) → h + hits ≤ (playM (optM L) s (L.drop i) i F hits ()).2 + M := by
  induction d with
  | zero =>
    intro i C F M h hits hi hC hF hl hr hM
    rw [List.drop_of_length_le (by omega)] at hr ⊢
    obtain rfl : h = 0 := hr
    show 0 + hits ≤ hits + M
    omega
  | succ d ih =>
    intro i C F M h hits hi hC hF hl hr hM
    have hil : i < L.length := by omega
    rw [List.drop_eq_getElem_cons hil] at hr ⊢
    obtain ⟨C', h', hr', hC', hl', hp', hs', he⟩ := hr
    rw [playM_cons]
    have hFn := sorted_nodup F hF
    have hM2 : ∀ t, t ≤ L.length → othN (nextN L (i + 1)) L[i] t C + (if L[i] ∈ C ∧ i < t then 1 else 0) ≤ othN (nextN L (i + 1)) L[i] t F + (if L[i] ∈ F ∧ i < t then 1 else 0) + M := fun t ht => by
      have z := hM t ht
      rw [cnt_here L i hil t C hC, cnt_here L i hil t F hFn] at z
      exact z
    have hsub : ∀ t, othN (nextN L (i + 1)) L[i] t C' ≤ othN (nextN L (i + 1)) L[i] t C := fun t => oth_sub _ _ t C' C hC' hs'
    have hgo : ∀ (F' : List Int) (M' : Nat), F'.Pairwise (· < ·) → L[i] ∈ F' → (∀ t, t ≤ L.length → othN (nextN L (i + 1)) L[i] t C' ≤ othN (nextN L (i + 1)) L[i] t F' + M') → ∀ t, t ≤ L.length → cntN (nextN L (i + 1)) t C' ≤ cntN (nextN L (i + 1)) t F' + M' := fun F' M' hF' hpF' hall t ht => by
      have z := hall t ht
      rw [cnt_next L i hil t C' hC', cnt_next L i hil t F' (sorted_nodup F' hF')]
      by_cases c : nextN L (i + 1) L[i] < t
      · rw [if_pos ⟨hp', c⟩, if_pos ⟨hpF', c⟩]; omega
      · rw [if_neg (fun h => c h.2), if_neg (fun h => c h.2)]; omega
    by_cases hm : L[i] ∈ F
    · rw [if_pos hm]
      by_cases hmc : L[i] ∈ C
      · rw [if_pos hmc] at he
        have := ih (i + 1) C' F M h' (hits + 1) (by omega) hC' hF hl hr' (hgo F M hF hm (fun t ht => by
          have z := hM2 t ht
          have z2 := hsub t
          by_cases c : i < t
          · rw [if_pos ⟨hmc, c⟩, if_pos ⟨hm, c⟩] at z; omega
          · rw [if_neg (fun h => c h.2), if_neg (fun h => c h.2)] at z; omega))
        omega
      · rw [if_neg hmc] at he
        have := ih (i + 1) C' F (M + 1) h' (hits + 1) (by omega) hC' hF hl hr' (hgo F (M + 1) hF hm (fun t ht => by
          have z := hM2 t ht
          have z2 := hsub t
          rw [if_neg (fun h => hmc h.1)] at z
          split at z <;> omega))
        omega
    · rw [if_neg hm, if_neg (by omega)]
      have hw : F.length = s → (optM L () (i + 1) F).1 < F.length := fun hq => worstG_lt _ _ _ 0 0 F.length (by omega) (by omega)
      obtain ⟨F', hF'⟩ : ∃ F', F' = (if F.length = s then insM (F.eraseIdx (optM L () (i + 1) F).1) L[i] else insM F L[i]) := ⟨_, rfl⟩
      have hF's : F'.Pairwise (· < ·) ∧ F'.length ≤ s ∧ L[i] ∈ F' := by
        rw [hF']
        by_cases hq : F.length = s
        · rw [if_pos hq]
          exact ⟨insM_sorted _ _ (erase_sorted _ _ hF) (erase_not_mem _ _ _ hm), by rw [insM_length, erase_length _ _ (hw hq)]; omega, (insM_mem _ _ _).mpr (Or.inl rfl)⟩
        · rw [if_neg hq]
          exact ⟨insM_sorted _ _ hF hm, by rw [insM_length]; omega, (insM_mem _ _ _).mpr (Or.inl rfl)⟩
      have hplay : (if F.length = s then playM (optM L) s (L.drop (i + 1)) (i + 1) (insM (F.eraseIdx (optM L () (i + 1) F).1) L[i]) hits (optM L () (i + 1) F).2 else playM (optM L) s (L.drop (i + 1)) (i + 1) (insM F L[i]) hits ()) = playM (optM L) s (L.drop (i + 1)) (i + 1) F' hits () := by
        rw [hF']
        by_cases hq : F.length = s
        · rw [if_pos hq, if_pos hq]
        · rw [if_neg hq, if_neg hq]
      rw [hplay]
      by_cases hmc : L[i] ∈ C
      · rw [if_pos hmc] at he
        have hM1 : 1 ≤ M := by
          have z := hM2 (i + 1) (by omega)
          rw [if_pos ⟨hmc, by omega⟩, if_neg (fun h => hm h.1), oth_zero L i _ _ (Nat.le_refl _) F] at z
          omega
        have := ih (i + 1) C' F' (M - 1) h' hits (by omega) hC' hF's.1 hF's.2.1 hr' (hgo F' (M - 1) hF's.1 hF's.2.2 (fun t ht => by
          by_cases c : i < t
          · have z := hM2 t ht
            have z2 := hsub t
            rw [if_pos ⟨hmc, c⟩, if_neg (fun h => hm h.1)] at z
            rw [hF']
            exact oth_goes L i s hs0 L[i] F hF hm hl t C' hC' hl' hp' (M - 1) (by omega)
          · rw [oth_zero L i _ t (by omega) C']; omega))
        omega
      · rw [if_neg hmc] at he
        have := ih (i + 1) C' F' M h' hits (by omega) hC' hF's.1 hF's.2.1 hr' (hgo F' M hF's.1 hF's.2.2 (fun t ht => by
          have z := hM2 t ht
          have z2 := hsub t
          rw [if_neg (fun h => hmc h.1), if_neg (fun h => hm h.1)] at z
          rw [hF']
          exact oth_goes L i s hs0 L[i] F hF hm hl t C' hC' hl' hp' M (by omega)))
        omega
/-- no run has more hits -/
theorem belady_all (L : List Int) (s : Nat) (hs0 : 0 < s) (h : Nat) (hr : Run s L [] h) : h ≤ (playM (optM L) s L 0 [] 0 ()).2 := by
  have z := belady L s hs0 L.length 0 [] [] 0 h 0 (by omega) List.nodup_nil List.Pairwise.nil (Nat.zero_le _) (by rw [List.drop_zero]; exact hr) (fun t _ => Nat.le_refl _)
  rw [List.drop_zero] at z
  omega

/-! Stacks: all unlike numbers, the last one first. Of a row told backwards -/
def stackOf : List Int → List Int
  | [] => []
  | x :: R => x :: (stackOf R).erase x
theorem mem_stackOf (R : List Int) : ∀ y, y ∈ stackOf R ↔ y ∈ R := by
  induction R with
  | nil => intro y; exact Iff.rfl
  | cons x R ih =>
    intro y
    unfold stackOf
    by_cases e : y = x
    · simp [e]
    · rw [List.mem_cons, List.mem_cons, List.mem_erase_of_ne e, ih]
theorem nodup_stackOf (R : List Int) : (stackOf R).Nodup := by
  induction R with
  | nil => exact List.nodup_nil
  | cons x R ih =>
    unfold stackOf
    exact List.nodup_cons.mpr ⟨fun h => by rw [ih.mem_erase_iff] at h; exact h.1 rfl, ih.erase x⟩
theorem stackOf_append (A R : List Int) : stackOf (A ++ R) = stackOf A ++ (stackOf R).filter (fun y => !A.contains y) := by
  induction A with
  | nil =>
    simp only [stackOf, List.nil_append]
    exact (List.filter_eq_self.mpr (by simp)).symm
  | cons a A ih =>
    rw [List.cons_append]
    simp only [stackOf]
    rw [ih, List.cons_append]
    congr 1
    by_cases e : a ∈ A
    · rw [List.erase_append_left _ ((mem_stackOf A a).mpr e)]
      congr 1
      apply List.filter_congr
      intro y hy
      by_cases e2 : y = a
      · subst e2; simp [e]
      · simp [e2]
    · have e2 : a ∉ stackOf A := fun h => e ((mem_stackOf A a).mp h)
      have hd : ((stackOf R).filter (fun y => !A.contains y)).Nodup := (nodup_stackOf R).filter _
      rw [List.erase_append_right _ e2, List.erase_of_not_mem e2, List.Nodup.erase_eq_filter hd, List.filter_filter]
      congr 1
      apply List.filter_congr
      intro y hy
      by_cases e3 : y = a
      · subst e3; simp
      · simp [e3]
theorem stackOf_last (A : List Int) (x : Int) (h : x ∉ A) : (stackOf (A ++ [x])).length = (stackOf A).length + 1 := by
  rw [stackOf_append]
  simp [stackOf, h]
theorem findIdx_at (A : List Int) (x : Int) (B : List Int) (h : x ∉ A) : (stackOf (A ++ x :: B)).findIdx (fun y => x == y) = (stackOf A).length := by
  rw [stackOf_append]
  simp only [stackOf]
  rw [List.filter_cons_of_pos (by simp [h])]
  have h2 : x ∉ stackOf A := fun hh => h ((mem_stackOf A x).mp hh)
  rw [List.findIdx_append]
  have h3 : List.findIdx (fun y => x == y) (stackOf A) = (stackOf A).length := by
    rw [List.findIdx_eq_length]
    intro y hy
    exact beq_eq_false_iff_ne.mpr (fun e => h2 (e ▸ hy))
  rw [h3]
  simp [List.findIdx_cons]
theorem small_length (n : Nat) : ∀ (l : List Int), l.Nodup → (∀ x ∈ l, 0 ≤ x ∧ x < (n : Int)) → l.length ≤ n := by
  induction n with
  | zero =>
    intro l _ h
    cases l with
    | nil => exact Nat.le_refl _
    | cons x xs => have := h x (by simp); omega
  | succ n ih =>
    intro l hd h
    have h2 := ih (l.erase (n : Int)) (hd.erase _) (fun x hx => by
      rw [hd.mem_erase_iff] at hx
      have := h x hx.2
      have h3 := hx.1
      omega)
    rw [List.length_erase] at h2
    split at h2 <;> omega
theorem stackOf_small (R : List Int) (h : ∀ x ∈ R, 0 ≤ x ∧ x ≤ 99) : (stackOf R).length ≤ 100 :=
  small_length 100 (stackOf R) (nodup_stackOf R) (fun x hx => by have := h x ((mem_stackOf R x).mp hx); omega)
theorem touch_stackOf (R : List Int) (x : Int) (hx : 0 ≤ x ∧ x ≤ 99) (h : ∀ x ∈ R, 0 ≤ x ∧ x ≤ 99) : touchL (stackOf R) x 100 = stackOf (x :: R) := by
  unfold touchL
  have h2 := stackOf_small (x :: R) (fun y hy => by
    rcases List.mem_cons.mp hy with rfl | hy
    · exact hx
    · exact h y hy)
  exact List.take_of_length_le h2

/-! So many unlike, up to a place -/
def unlikeN (l : List Int) : Nat → Nat
  | 0 => 0
  | n + 1 => unlikeN l n + if (l.take n).contains (l.getD n 0) = true then 0 else 1
theorem unlikeN_stack (l : List Int) (n : Nat) (hn : n ≤ l.length) : unlikeN l n = (stackOf (l.take n).reverse).length := by
  induction n with
  | zero => simp [unlikeN, stackOf]
  | succ n ih =>
    have h1 : n < l.length := by omega
    unfold unlikeN
    rw [ih (by omega), List.take_succ_eq_append_getElem h1, List.reverse_append, List.reverse_singleton, List.singleton_append]
    simp only [stackOf, List.length_cons]
    have e : l.getD n 0 = l[n] := by simp [List.getD_eq_getElem?_getD, h1]
    rw [e, List.length_erase]
    have e2 : (l[n] ∈ stackOf (l.take n).reverse) ↔ ((l.take n).contains l[n] = true) := by rw [mem_stackOf, List.mem_reverse, List.contains_iff_mem]
    by_cases c : (l.take n).contains l[n] = true
    · rw [if_pos c, if_pos (e2.mpr c)]
      have h3 : 0 < (stackOf (l.take n).reverse).length := List.length_pos_of_mem (e2.mpr c)
      omega
    · rw [if_neg c, if_neg (fun h => c (e2.mp h))]

/-! unlike, by the sorted row -/
theorem nodup_length_le (a : List Int) : ∀ (b : List Int), a.Nodup → (∀ x ∈ a, x ∈ b) → a.length ≤ b.length := by
  induction a with
  | nil => intro b _ _; exact Nat.zero_le _
  | cons x a ih =>
    intro b hd hm
    have hx := hm x (by simp)
    have h2 := ih (b.erase x) (List.nodup_cons.mp hd).2 (fun y hy => by
      have hne : y ≠ x := fun e => by subst e; exact (List.nodup_cons.mp hd).1 hy
      rw [List.mem_erase_of_ne hne]
      exact hm y (by simp [hy]))
    rw [List.length_erase_of_mem hx] at h2
    have := List.length_pos_of_mem hx
    rw [List.length_cons]; omega
theorem stackOf_len_congr (a b : List Int) (h : ∀ x, x ∈ a ↔ x ∈ b) : (stackOf a).length = (stackOf b).length := by
  apply Nat.le_antisymm
  · exact nodup_length_le _ _ (nodup_stackOf a) (fun x hx => (mem_stackOf b x).mpr ((h x).mp ((mem_stackOf a x).mp hx)))
  · exact nodup_length_le _ _ (nodup_stackOf b) (fun x hx => (mem_stackOf a x).mpr ((h x).mpr ((mem_stackOf b x).mp hx)))
theorem sorted_at (S : List Int) (hS : S.Pairwise (fun x y => decide (x ≤ y) = true)) (i j : Nat) (hij : i ≤ j) (hj : j < S.length) : S[i] ≤ S[j] := by
  rcases Nat.lt_or_eq_of_le hij with h | h
  · have := List.pairwise_iff_getElem.mp hS i j (by omega) hj h
    exact of_decide_eq_true this
  · subst h; exact Int.le_refl _
theorem keeps_sorted (S : List Int) (hS : S.Pairwise (fun x y => decide (x ≤ y) = true)) (m : Nat) (hm : m < S.length) : Lib.keeps S.toArray m = !(S.take m).contains S[m] := by
  have g1 : S.toArray[m]! = S[m] := by simp [hm]
  unfold Lib.keeps
  rw [g1]
  by_cases c : (S.take m).contains S[m] = true
  · rw [c]
    obtain ⟨i, hi, e⟩ := List.getElem_of_mem (List.contains_iff_mem.mp c)
    have hi2 : i < m := by rw [List.length_take] at hi; omega
    have g2 : S.toArray[m - 1]! = S[m - 1] := by simp [show m - 1 < S.length by omega]
    rw [List.getElem_take] at e
    have h1 := sorted_at S hS i (m - 1) (by omega) (by omega)
    have h2 := sorted_at S hS (m - 1) m (by omega) hm
    rw [g2]
    apply decide_eq_false
    rintro (h | h)
    · omega
    · exact h (by omega)
  · have c2 : (S.take m).contains S[m] = false := by simpa using c
    rw [c2]
    apply decide_eq_true
    by_cases h0 : m = 0
    · exact Or.inl h0
    · right
      have g2 : S.toArray[m - 1]! = S[m - 1] := by simp [show m - 1 < S.length by omega]
      rw [g2]
      intro e
      apply c
      rw [List.contains_iff_mem, e]
      have : S[m - 1] = (S.take m)[m - 1]'(by rw [List.length_take]; omega) := by rw [List.getElem_take]
      rw [this]
      exact List.getElem_mem _
theorem compactUpTo_len (S : List Int) (hS : S.Pairwise (fun x y => decide (x ≤ y) = true)) (n : Nat) (hn : n ≤ S.length) : (Lib.compactUpTo S.toArray n).length = unlikeN S n := by
  induction n with
  | zero => rfl
  | succ n ih =>
    rw [Lib.compactUpTo_succ, List.length_append, ih (by omega), keeps_sorted S hS n (by omega)]
    unfold unlikeN
    have e : S.getD n 0 = S[n] := by simp [List.getD_eq_getElem?_getD, show n < S.length by omega]
    rw [e]
    conv => rhs; unfold unlikeN
    cases (S.take n).contains S[n] <;> simp
theorem unlikeimpl_f (l : List Int) (hb : l.length < 1000000000000) : impl_unlike.f l = some ((stackOf l.reverse).length : Int) := by
  unfold impl_unlike.f
  rw [if_pos hb]
  have hS : (l.mergeSort fun x y => decide (x ≤ y)).Pairwise (fun x y => decide (x ≤ y) = true) :=
    List.pairwise_mergeSort (fun a b c h1 h2 => by simp at *; omega) (fun a b => by simp; omega) l
  have h1 : (Lib.compact (l.mergeSort fun x y => decide (x ≤ y))).length = (stackOf l.reverse).length := by
    unfold Lib.compact
    rw [compactUpTo_len _ hS _ (Nat.le_refl _), unlikeN_stack _ _ (Nat.le_refl _), List.take_length]
    apply stackOf_len_congr
    intro x
    rw [List.mem_reverse, List.mem_reverse, List.mem_mergeSort]
  rw [h1]

/-! What must be missed: every page once -/
def coldN (C l : List Int) : Nat := (stackOf l).countP (fun q => !C.contains q)
theorem erase_countP (P : Int → Bool) (l : List Int) (p : Int) (hn : l.Nodup) : (l.erase p).countP P = l.countP (fun q => decide (q ≠ p) && P q) := by
  rw [List.Nodup.erase_eq_filter hn, List.countP_filter]
  refine List.countP_congr (fun q _ => ?_)
  simp only [Bool.and_eq_true, decide_eq_true_eq, bne_iff_ne, ne_eq]
  exact And.comm
theorem coldN_cons (C : List Int) (p : Int) (ps : List Int) : coldN C (p :: ps) = (stackOf ps).countP (fun q => decide (q ≠ p) && !C.contains q) + (if p ∈ C then 0 else 1) := by
  unfold coldN
  show ((p :: (stackOf ps).erase p).countP _) = _
  rw [List.countP_cons, erase_countP _ _ _ (nodup_stackOf ps)]
  by_cases c : p ∈ C
  · rw [if_pos c, List.contains_iff_mem.mpr c]; simp
  · have c2 : C.contains p = false := by simpa using c
    rw [if_neg c, c2]; simp
theorem run_cold (s : Nat) (l : List Int) : ∀ (C : List Int) (h : Nat), Run s l C h → h + coldN C l ≤ l.length := by
  induction l with
  | nil => intro C h hr; obtain rfl : h = 0 := hr; exact Nat.le_refl _
  | cons p ps ih =>
    intro C h hr
    obtain ⟨C', h', h1, _, _, _, hs, h2⟩ := hr
    have z := ih C' h' h1
    rw [coldN_cons]
    have z2 : (stackOf ps).countP (fun q => decide (q ≠ p) && !C.contains q) ≤ coldN C' ps := by
      unfold coldN
      refine List.countP_mono_left (fun q _ hq => ?_)
      simp only [Bool.and_eq_true, decide_eq_true_eq, Bool.not_eq_true'] at hq ⊢
      cases c : C'.contains q with
      | false => rfl
      | true =>
        rcases hs q (List.contains_iff_mem.mp c) with e | e
        · exact absurd e hq.1
        · rw [List.contains_iff_mem.mpr e] at hq; exact absurd hq.2 (by decide)
    simp only [List.length_cons]
    split at h2 <;> rename_i c <;> simp only [c, if_true, if_false] <;> omega
theorem play_cold {σ : Type} (goesM : σ → Nat → List Int → Nat × σ) (sz : Nat) (l : List Int) : ∀ (i : Nat) (pages : List Int) (hits : Nat) (s : σ), pages.length + coldN pages l ≤ sz →
    (playM goesM sz l i pages hits s).2 + coldN pages l = hits + l.length := by
  induction l with
  | nil => intro i pages hits s h; rfl
  | cons p ps ih =>
    intro i pages hits s h
    rw [coldN_cons] at h ⊢
    rw [playM_cons]
    simp only [List.length_cons]
    by_cases c : p ∈ pages
    · rw [if_pos c] at h ⊢
      rw [if_pos c]
      have e : (stackOf ps).countP (fun q => decide (q ≠ p) && !pages.contains q) = coldN pages ps := by
        unfold coldN
        refine List.countP_congr (fun q _ => ?_)
        simp only [Bool.and_eq_true, decide_eq_true_eq, Bool.not_eq_true']
        refine ⟨fun h => h.2, fun h => ⟨fun e => ?_, h⟩⟩
        rw [e, List.contains_iff_mem.mpr c] at h; cases h
      rw [e] at h ⊢
      have := ih (i + 1) pages (hits + 1) s (by omega)
      omega
    · rw [if_neg c] at h ⊢
      rw [if_neg c, if_neg (by omega), if_neg (by omega)]
      have e : (stackOf ps).countP (fun q => decide (q ≠ p) && !pages.contains q) = coldN (insM pages p) ps := by
        unfold coldN
        refine List.countP_congr (fun q _ => ?_)
        have hi := insM_mem pages p q
        by_cases c2 : q ∈ insM pages p
        · rw [List.contains_iff_mem.mpr c2]
          simp only [Bool.and_eq_true, decide_eq_true_eq, Bool.not_eq_true', Bool.not_true, Bool.false_eq_true, iff_false]
          rintro ⟨h1, h2⟩
          rcases hi.mp c2 with e | e
          · exact h1 e
          · rw [List.contains_iff_mem.mpr e] at h2; cases h2
        · have c3 : (insM pages p).contains q = false := by simpa using c2
          rw [c3]
          simp only [Bool.and_eq_true, decide_eq_true_eq, Bool.not_eq_true', Bool.not_false, iff_true]
          refine ⟨fun e => c2 (hi.mpr (Or.inl e)), ?_⟩
          cases c4 : pages.contains q with
          | false => rfl
          | true => exact absurd (hi.mpr (Or.inr (List.contains_iff_mem.mp c4))) c2
      rw [e] at h ⊢
      have := ih (i + 1) (insM pages p) hits s (by rw [insM_length]; omega)
      omega
theorem coldN_nil (l : List Int) : coldN [] l = (stackOf l.reverse).length := by
  have e : coldN [] l = (stackOf l).length := by
    unfold coldN
    rw [List.countP_eq_length]
    intro q _; rfl
  rw [e]
  exact stackOf_len_congr _ _ (fun x => by rw [List.mem_reverse])

/-! Choices drawn -/
theorem drawCh_loop (code : List Int) (hc : ∀ x ∈ code, 0 ≤ x ∧ x ≤ 255) (hb : code.length < 4611686018427387904) (r : List Int) (d : Nat) : ∀ (l : List Int) (a s : Int), l.length + d ≤ 1000 → 0 ≤ a → a + 2 * d ≤ 4000 →
    ∃ v cs, ∀ k, d < k → spec_DrawPlayChoices.l0 k r l (d : Int) code a s = some (r, v, cs) := by
  induction d with
  | zero =>
    intro l a s hl h0 h1
    by_cases c : (l.length : Int) > 0
    · obtain ⟨b, a1, s1, e1, h2⟩ := one_ok code hc hb a s 40 h0 (by omega)
      obtain ⟨v, a2, s2, e2, _⟩ := size_ok code hc hb a1 s1 (by omega) (by omega)
      cases b with
      | false =>
        refine ⟨v, l, fun k hk => ?_⟩
        obtain ⟨k, rfl⟩ : ∃ m, k = m + 1 := ⟨k - 1, by omega⟩
        simp only [spec_DrawPlayChoices.l0]
        rw [if_neg (by omega), if_pos c, e1, Option.bind_some, if_neg Bool.false_ne_true, e2, Option.bind_some]
      | true =>
        refine ⟨v, l.set (0 : Int).toNat (-1), fun k hk => ?_⟩
        obtain ⟨k, rfl⟩ : ∃ m, k = m + 1 := ⟨k - 1, by omega⟩
        simp only [spec_DrawPlayChoices.l0]
        rw [if_neg (by omega), if_pos c, e1, Option.bind_some, if_pos rfl, if_pos (by omega), e2, Option.bind_some]
    · obtain ⟨v, a2, s2, e2, _⟩ := size_ok code hc hb a s (by omega) (by omega)
      refine ⟨v, l, fun k hk => ?_⟩
      obtain ⟨k, rfl⟩ : ∃ m, k = m + 1 := ⟨k - 1, by omega⟩
      simp only [spec_DrawPlayChoices.l0]
      rw [if_neg (by omega), if_neg c, e2, Option.bind_some]
  | succ d ih =>
    intro l a s hl h0 h1
    obtain ⟨v, a1, s1, e1, _, _, h2⟩ := pick_ok code hc hb a s 9 h0 (by omega)
    obtain ⟨v2, cs, g⟩ := ih (l ++ [v]) a1 s1 (by rw [List.length_append, List.length_singleton]; omega) (by omega) (by omega)
    refine ⟨v2, cs, fun k hk => ?_⟩
    obtain ⟨k, rfl⟩ : ∃ m, k = m + 1 := ⟨k - 1, by omega⟩
    simp only [spec_DrawPlayChoices.l0]
    rw [if_pos (by omega), e1, Option.bind_some, if_pos (by omega), w64 (x := ((d + 1 : Nat) : Int) - 1) (by omega) (by omega), show ((d + 1 : Nat) : Int) - 1 = (d : Int) by omega]
    exact g k (by omega)
theorem drawCh_ok (code : List Int) (hc : ∀ x ∈ code, 0 ≤ x ∧ x ≤ 255) (hb : code.length < 4611686018427387904) : ∃ r v cs, ∀ k, 1000 < k → spec_DrawPlayChoices.f k code = some (r, v, cs) := by
  obtain ⟨r, a1, s1, _, h0, h1, hd⟩ := refs_ok code hc hb 0 0 (by omega) (by omega)
  obtain ⟨n, a2, s2, e2, hn0, hn1, h2⟩ := pick_ok code hc hb a1 s1 30 h0 (by omega)
  obtain ⟨d, rfl⟩ := Int.eq_ofNat_of_zero_le hn0
  obtain ⟨v, cs, g⟩ := drawCh_loop code hc hb r d [] a2 s2 (by simp; omega) (by omega) (by omega)
  refine ⟨r, v, cs, fun k hk => ?_⟩
  unfold spec_DrawPlayChoices.f
  rw [hd k (by omega), Option.bind_some]
  try dsimp only
  rw [e2, Option.bind_some]
  exact g k (by omega)

def fifoV (l : List Int) (s : Int) : List Int × Int × Bool := if (goodB l && (decide (0 ≤ s) && decide (s ≤ 40))) = true then ((playL true s.toNat l [] 0).1, (playL true s.toNat l [] 0).2, true) else ([], 0, false)
theorem fifo_impl (l : List Int) (s : Int) (hb : l.length < 1000000) (k : Nat) (hk : l.length + 1000 < k) : impl_PlayFifo.f k l s = some (fifoV l s) := by
  unfold impl_PlayFifo.f fifoV
  rw [goodRefs_impl l (by omega), isSize_f, Option.bind_some]
  cases hg : goodB l with
  | false => rfl
  | true =>
    rw [if_pos rfl, Option.bind_some, Bool.true_and]
    by_cases c : (decide (0 ≤ s) && decide (s ≤ 40)) = true
    · have c2 : 0 ≤ s ∧ s ≤ 40 := by simpa using c
      rw [if_pos c, if_pos c, play_f l s true c2.1 (by omega) (by omega) k (by omega), Option.bind_some]
    · rw [if_neg c, if_neg c]
/-- what PlayOpt tells -/
def optT (l : List Int) (size : Int) : List Int × Int × Bool :=
  if goodB l = true ∧ 0 ≤ size ∧ size ≤ 40 then ((playM (optM l) size.toNat l 0 [] 0 ()).1, ((playM (optM l) size.toNat l 0 [] 0 ()).2 : Int), true) else ([], 0, false)
theorem optT_f (l : List Int) (size : Int) (hl : l.length < 1000000) (k : Nat) (hk : l.length + 20000 < k) : impl_PlayOpt.f k l size = some (optT l size) ∧ spec_PlayOpt.f k l size = some (optT l size) := by
  obtain ⟨q, hq⟩ : ∃ q, k = q + 1 := ⟨k - 1, by omega⟩
  have g1 := goodRefs_impl l (by omega)
  have g3 := goodRefs_spec l (by omega) (q + 1) (by omega)
  unfold optT
  by_cases c : goodB l = true ∧ 0 ≤ size ∧ size ≤ 40
  · rw [if_pos c]
    obtain ⟨sz, rfl⟩ := Int.eq_ofNat_of_zero_le c.2.1
    exact ⟨implPlayOpt_f l sz (by omega) c.1 k (by omega), specPlayOpt_f l sz (by omega) c.1 k (by omega)⟩
  · rw [if_neg c, hq]
    unfold impl_PlayOpt.f spec_PlayOpt.f
    rw [g1, g3]
    cases hg : goodB l with
    | false => simp [spec_PlayOpt.j0]
    | true =>
      have c2 : (decide (0 ≤ size) && decide (size ≤ 40)) = false := by
        have : ¬ (0 ≤ size ∧ size ≤ 40) := fun h => c ⟨hg, h⟩
        simpa using this
      rw [isSize_f, l1In_f]
      simp only [Option.bind_some, if_true, c2, Bool.false_eq_true, if_false, Bool.not_false, spec_PlayOpt.j0]
      first | exact ⟨rfl, rfl⟩ | exact ⟨trivial, rfl⟩ | simp
theorem playT_le {σ : Type} (goesM : σ → Nat → List Int → Nat × σ) (sz : Nat) (P : σ → Prop) (l : List Int) (hg : Rules goesM sz l.length P) (s : σ) (hs : P s) : (playM goesM sz l 0 [] 0 s).2 ≤ (playM (optM l) sz l 0 [] 0 ()).2 := by
  by_cases h0 : sz = 0
  · subst h0; rw [playM_zero, playM_zero]; exact Nat.le_refl _
  · obtain ⟨h, hr, e⟩ := playM_run goesM sz l.length (by omega) P hg l 0 [] 0 s hs List.Pairwise.nil (Nat.zero_le _) (by omega)
    have := belady_all l sz (by omega) h hr
    omega
theorem playLT_le (still : Bool) (sz : Nat) (l : List Int) : (playL still sz l [] 0).2 ≤ ((playM (optM l) sz l 0 [] 0 ()).2 : Int) := by
  by_cases h0 : sz = 0
  · subst h0; rw [playM_zero, playL_zero]; exact Int.le_refl _
  · obtain ⟨h, hr, e⟩ := playL_run still sz (by omega) l [] 0 List.nodup_nil (Nat.zero_le _)
    have := belady_all l sz (by omega) h hr
    omega
theorem opt_cold (l : List Int) (sz : Nat) : (playM (optM l) sz l 0 [] 0 ()).2 + (stackOf l.reverse).length ≤ l.length := by
  rw [← coldN_nil]
  by_cases h0 : sz = 0
  · subst h0
    rw [playM_zero, coldN_nil, Nat.zero_add]
    have := nodup_length_le _ _ (nodup_stackOf l.reverse) (fun x hx => (mem_stackOf _ x).mp hx)
    rwa [List.length_reverse] at this
  · obtain ⟨h, hr, e⟩ := playM_run (optM l) sz l.length (by omega) _ (opt_rules l sz) l 0 [] 0 () trivial List.Pairwise.nil (Nat.zero_le _) (by omega)
    have := run_cold sz l [] h hr
    omega
set_option maxRecDepth 100000 in
theorem FnBelady : laws_FnBelady.Pure := by
  intro code more hm hs hw hm2 hs2 hw2
  have hc := bytes_of code hw
  have hc2 := bytes_of more hw2
  have hb : code.length < 4611686018427387904 := by omega
  have hb2 : more.length < 4611686018427387904 := by omega
  by_cases big : wrap64 ((code.length : Int) + (more.length : Int)) > 1048576
  · exact ⟨0, by unfold laws_FnBelady.f; rw [if_pos big]⟩
  obtain ⟨l, a1, s1, hl, ha0, ha1, hd⟩ := refs_ok code hc hb 0 0 (by omega) (by omega)
  obtain ⟨size, a2, s2, hsz, hz0, hz1, _⟩ := size_ok code hc hb a1 s1 ha0 (by omega)
  obtain ⟨dr, dv, cs, hdc⟩ := drawCh_ok more hc2 hb2
  obtain ⟨m, hk⟩ : ∃ m, m = 100000 := ⟨_, rfl⟩
  have e0 : ∀ j, spec_DrawPlayOpt.f (m + j) code = some (l, size) := fun j => by
    unfold spec_DrawPlayOpt.f spec_DrawPlayLru.f; rw [hd (m + j) (by omega), Option.bind_some, hsz, Option.bind_some, Option.bind_some]
  have e1 : ∀ j, impl_PlayLru.f (m + j) l size = some (lruV l size) := fun j => lru_impl l size (by omega) (m + j) (by omega)
  have e2 : ∀ j, impl_PlayFifo.f (m + j) l size = some (fifoV l size) := fun j => fifo_impl l size (by omega) (m + j) (by omega)
  have e3 : ∀ j, impl_PlayOpt.f (m + j) l size = some (optT l size) := fun j => (optT_f l size (by omega) (m + j) (by omega)).1
  have e4 : ∀ j, spec_PlayOpt.f (m + j) l size = some (optT l size) := fun j => (optT_f l size (by omega) (m + j) (by omega)).2
  have e5 : ∀ j, spec_DrawPlayChoices.f (m + j) more = some (dr, dv, cs) := fun j => hdc (m + j) (by omega)
  have e6 : ∀ j, impl_PlayChoices.f (m + j) l size cs = some (chT l size cs) := fun j => implCh_f l size cs (by omega) (m + j) (by omega)
  have e7 : ∀ j, spec_PlayChoices.f (m + j) l size cs = some (chT l size cs) := fun j => specCh_f l size cs (by omega) (m + j) (by omega)
  have hol : (optT l size).1.length ≤ 40 := by
    unfold optT
    split
    · rename_i h
      obtain ⟨f1, _, _, _⟩ := playM_facts (optM l) size.toNat l.length _ (opt_rules l size.toNat) l 0 [] 0 () trivial List.Pairwise.nil (Nat.zero_le _) (by omega)
      exact Nat.le_trans f1 (by omega)
    · simp
  have e8 : ∀ j, laws_sameInts.f (m + j) (optT l size).1 (optT l size).1 = some true := fun j => sameInts_f _ (by omega) (m + j) (by omega)
  refine ⟨m + 5, ?_⟩
  unfold laws_FnBelady.f
  rw [if_neg big]
  simp only [e0, e3, e4, e8, Option.bind_some, bne_self_eq_false, Bool.false_eq_true, if_false, if_true, Bool.not_true, laws_FnBelady.j0]
  simp only [e1, e2, e5, e6, e7, Option.bind_some, bne_self_eq_false, Bool.false_eq_true, if_false, if_true]
  by_cases g : goodB l = true ∧ 0 ≤ size ∧ size ≤ 40
  · have hl2 := goodB_len l g.1
    have v1 := lru_some l size g.1 g.2.1 g.2.2
    have v2 : fifoV l size = ((playL true size.toNat l [] 0).1, (playL true size.toNat l [] 0).2, true) := by unfold fifoV; rw [g.1, if_pos (by simp; omega)]
    have v3 : optT l size = ((playM (optM l) size.toNat l 0 [] 0 ()).1, ((playM (optM l) size.toNat l 0 [] 0 ()).2 : Int), true) := by unfold optT; rw [if_pos g]
    obtain ⟨sz, rfl⟩ := Int.eq_ofNat_of_zero_le g.2.1
    rw [Int.toNat_natCast] at v1 v2 v3
    have hco := opt_cold l sz
    have p1 := playLT_le false sz l
    have p2 := playLT_le true sz l
    have c1 : impl_ColdOf.f l = some (((stackOf l.reverse).length : Int), true) := by
      unfold impl_ColdOf.f; rw [goodRefs_impl l (by omega), g.1, Option.bind_some, if_pos rfl, unlikeimpl_f l (by omega), Option.bind_some]
    have c2 : impl_MissesOf.f l (sz : Int) ((playM (optM l) sz l 0 [] 0 ()).2 : Int) = some ((l.length : Int) - ((playM (optM l) sz l 0 [] 0 ()).2 : Int), true) := by
      unfold impl_MissesOf.f
      rw [goodRefs_impl l (by omega), g.1, Option.bind_some, if_pos rfl, isSize_f, Option.bind_some, decide_eq_true g.2.1, decide_eq_true g.2.2, if_pos (by rfl), within_f, Option.bind_some, decide_eq_true (p := (0 : Int) ≤ _) (by omega), decide_eq_true (p := ((playM (optM l) sz l 0 [] 0 ()).2 : Int) ≤ (l.length : Int)) (by omega), if_pos (by rfl), w64 (by omega) (by omega)]
    simp only [v1, v2, v3, c1, c2, Option.bind_some, if_true]
    have q : ((l.length : Int) - ((playM (optM l) sz l 0 [] 0 ()).2 : Int)) ≥ ((stackOf l.reverse).length : Int) := by omega
    rw [if_pos p1, if_pos p2, if_pos q]
    have q2 : (if (sz : Int) < ((stackOf l.reverse).length : Int) then (some true) else some (((l.length : Int) - ((playM (optM l) sz l 0 [] 0 ()).2 : Int)) == ((stackOf l.reverse).length : Int))) = some true := by
      by_cases c : (sz : Int) < ((stackOf l.reverse).length : Int)
      · rw [if_pos c]
      · rw [if_neg c]
        have z := play_cold (optM l) sz l 0 [] 0 () (by rw [coldN_nil]; simp; omega)
        rw [coldN_nil] at z
        exact congrArg some (beq_iff_eq.mpr (by omega))
    rw [q2]
    by_cases cc : goodB l = true ∧ 0 ≤ (sz : Int) ∧ (sz : Int) ≤ 40 ∧ cs.length ≤ 200 ∧ cs.all nnB = true
    · have v4 : chT l (sz : Int) cs = ((playM (chM sz) sz l 0 [] 0 cs).1, ((playM (chM sz) sz l 0 [] 0 cs).2 : Int), true) := by unfold chT; rw [if_pos cc, Int.toNat_natCast]
      have p3 := playT_le (chM sz) sz allNN l (ch_rules sz l.length) cs ((allNN_iff cs).mp cc.2.2.2.2)
      rw [v4]
      simp only [if_true]
      rw [if_pos (by omega)]
    · have v4 : chT l (sz : Int) cs = ([], 0, false) := by unfold chT; rw [if_neg cc]
      rw [v4]
      simp only [Bool.false_eq_true, if_false]
  · have v : optT l size = ([], 0, false) := by unfold optT; rw [if_neg g]
    rw [v]
    rfl

end Go.Proofs.Ytgpimekdfnpffaa.Pure
