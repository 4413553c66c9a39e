/- What was used least lately, with more room, is not much worse than the best with less (Sleator and Tarjan), for drawn references. No conditions. -/
import Derived.Test.YtgpimekdfnpffaaPFnCompetitivex5
import Derived.Lib.VarintBits
set_option linter.unusedVariables false
set_option linter.unusedSimpArgs false
namespace Go.Proofs.Ytgpimekdfnpffaa.Pure
open Go.RowKit Go.Proofs.Ytgpimekdfnpffaa.PFnCompetitive Go.Proofs.YtgpimekdfnpffaaW.PrintWords Go.Proofs.YtgpimekdfnpffaaW.PrintLast

theorem bytes_of (l : List Int) (h : ∀ x ∈ l, (Lit.int .u8 x).wf = true) : ∀ x ∈ l, 0 ≤ x ∧ x ≤ 255 := by
  intro x hx
  have := h x hx
  simp [Lit.wf, IntKind.min, IntKind.max, IntKind.bits, IntKind.signed] at this
  omega

/-! Whole numbers and rows of them -/
theorem w64 {x : Int} (h : -9223372036854775808 ≤ x) (h2 : x < 9223372036854775808) : wrap64 x = x := by unfold wrap64; omega
theorem rd_nat (l : List Int) (n : Nat) (h : n < l.length) : rd l (n : Int) = l[n] := by
  unfold rd; simp [List.getD_eq_getElem?_getD, h]
theorem succ_cast (n : Nat) : ((n : Int) + 1) = ((n + 1 : Nat) : Int) := by omega

/-! The first place at which a predicate holds -/
theorem idxO_ge {α : Type} (p : α → Option Bool) (l : List α) : ∀ (n i : Int), 0 ≤ n → idxO p l n = some i → i = -1 ∨ n ≤ i := by
  induction l with
  | nil => intro n i hn h; left; exact (Option.some.inj h).symm
  | cons x xs ih =>
    intro n i hn h
    obtain ⟨b, hb, h2⟩ := Option.bind_eq_some_iff.mp h
    cases b with
    | true => right; have := Option.some.inj h2; omega
    | false => have := ih (n + 1) i (by omega) h2; omega
theorem idxO_all {α : Type} (p : α → Option Bool) (q : α → Bool) (h : ∀ x, p x = some (!q x)) (l : List α) : ∀ (n : Int), 0 ≤ n → ∃ i, idxO p l n = some i ∧ (!decide (i ≥ 0)) = l.all q := by
  induction l with
  | nil => intro n hn; exact ⟨-1, rfl, rfl⟩
  | cons x xs ih =>
    intro n hn
    unfold idxO
    rw [h x, Option.bind_some]
    cases hq : q x with
    | true =>
      obtain ⟨i, h1, h2⟩ := ih (n + 1) (by omega)
      exact ⟨i, h1, by rw [h2, List.all_cons, hq, Bool.true_and]⟩
    | false => exact ⟨n, rfl, by rw [List.all_cons, hq, Bool.false_and, decide_eq_true (show n ≥ 0 from hn)]; rfl⟩

/-! References: good ones -/
def pageB (x : Int) : Bool := decide (0 ≤ x) && decide (x ≤ 99)
def goodB (l : List Int) : Bool := decide (l.length ≤ 200) && l.all pageB
theorem within_f (a b c : Int) : impl_within.f a b c = some (decide (b ≤ a) && decide (a ≤ c)) := by
  unfold impl_within.f
  by_cases h : b ≤ a
  · rw [if_pos h, decide_eq_true h, Bool.true_and]
  · rw [if_neg h, decide_eq_false h, Bool.false_and]
theorem l1In_f (a b c : Int) : spec_l1In.f a b c = some (decide (b ≤ a) && decide (a ≤ c)) := by
  unfold spec_l1In.f
  by_cases h : b ≤ a
  · rw [if_pos h, decide_eq_true h, Bool.true_and]
  · rw [if_neg h, decide_eq_false h, Bool.false_and]
theorem isPage_f (x : Int) : impl_isPage.f x = some (pageB x) := by unfold impl_isPage.f; rw [within_f]; rfl
theorem goodRefs_impl (l : List Int) (hb : l.length < 9223372036854775807) : impl_GoodRefs.f l = some (goodB l) := by
  unfold impl_GoodRefs.f goodB
  by_cases c : l.length ≤ 200
  · have c2 : (l.length : Int) ≤ 200 := by omega
    rw [if_pos c2, decide_eq_true c, Bool.true_and]
    unfold xAll_i64_impl_isPage.f
    rw [if_pos hb]
    obtain ⟨i, h1, h2⟩ := idxO_all xAll_i64_impl_isPage.z pageB (fun x => by unfold xAll_i64_impl_isPage.z; rw [isPage_f]; rfl) l 0 (by omega)
    rw [h1, Option.bind_some, Option.bind_some, h2]
  · have c2 : ¬ (l.length : Int) ≤ 200 := by omega
    rw [if_neg c2, decide_eq_false c, Bool.false_and]
theorem goodRefs_loop (l : List Int) (hb : l.length < 4611686018427387904) (d : Nat) : ∀ (k n : Nat), n + d = l.length → d < k →
    spec_GoodRefs.l0 k l l (l.length : Int) (n : Int) = some ((l.drop n).all pageB && decide (l.length ≤ 200)) := by
  induction d with
  | zero =>
    intro k n hn hk
    obtain ⟨k, rfl⟩ : ∃ m, k = m + 1 := ⟨k - 1, by omega⟩
    have c : ¬ (n : Int) < (l.length : Int) := by omega
    simp only [spec_GoodRefs.l0]; rw [if_neg c, List.drop_of_length_le (by omega), List.all_nil, Bool.true_and]
    exact congrArg some (decide_eq_decide.mpr (by omega))
  | succ d ih =>
    intro k n hn hk
    obtain ⟨k, rfl⟩ : ∃ m, k = m + 1 := ⟨k - 1, by omega⟩
    have h1 : n < l.length := by omega
    have c1 : (n : Int) < (l.length : Int) := by omega
    have c0 : (0 : Int) ≤ (n : Int) := by omega
    simp only [spec_GoodRefs.l0]
    rw [if_pos c1, if_pos c0, if_pos c1, rd_nat l n h1, l1In_f, Option.bind_some, List.drop_eq_getElem_cons h1, List.all_cons, w64 (by omega) (by omega), succ_cast, ih k (n + 1) (by omega) (by omega)]
    cases hp : pageB l[n] with
    | true =>
      have hp' : (decide (0 ≤ l[n]) && decide (l[n] ≤ 99)) = true := hp
      rw [if_pos hp', Bool.true_and]
    | false =>
      have hp' : (decide (0 ≤ l[n]) && decide (l[n] ≤ 99)) = false := hp
      rw [hp', if_neg (by decide)]; rfl
theorem goodRefs_spec (l : List Int) (hb : l.length < 4611686018427387904) (k : Nat) (hk : l.length < k) : spec_GoodRefs.f k l = some (goodB l) := by
  unfold spec_GoodRefs.f goodB
  have h := goodRefs_loop l hb l.length k 0 (by omega) hk
  rw [Bool.and_comm]
  exact h

/-! A stack behind a reference -/
def touchL (st : List Int) (p : Int) (s : Nat) : List Int := (p :: st.erase p).take s
theorem touchL_length (st : List Int) (p : Int) (s : Nat) : (touchL st p s).length ≤ s := by unfold touchL; rw [List.length_take]; omega
theorem touchL_nodup (st : List Int) (p : Int) (s : Nat) (h : st.Nodup) : (touchL st p s).Nodup := by
  unfold touchL
  refine List.Nodup.sublist (List.take_sublist _ _) ?_
  exact List.nodup_cons.mpr ⟨fun hm => by rw [h.mem_erase_iff] at hm; exact hm.1 rfl, h.erase p⟩
theorem touch_f (st : List Int) (p s : Int) (h0 : 0 ≤ s) (hb : st.length < 10000) : impl_touch.f st p s = some (touchL st p s.toNat, st.contains p) := by
  unfold impl_touch.f touchL
  rw [if_pos hb, if_pos h0]

theorem l10Touch_loop (l : List Int) (p s : Int) (h0 : 0 ≤ s) (hb : l.length < 1000000) (d : Nat) : ∀ (k n : Nat) (out : List Int) (hit : Bool), n + d = l.length → d < k → out.length ≤ n + 1 →
    spec_l10Touch.l0 k p s out hit l (l.length : Int) (n : Int) = some ((out ++ (l.drop n).filter (fun x => x != p)).take s.toNat, hit || (l.drop n).contains p) := by
  induction d with
  | zero =>
    intro k n out hit hn hk ho
    obtain ⟨k, rfl⟩ : ∃ m, k = m + 1 := ⟨k - 1, by omega⟩
    have c : ¬ (n : Int) < (l.length : Int) := by omega
    simp only [spec_l10Touch.l0]; rw [if_neg c, List.drop_of_length_le (by omega), List.filter_nil, List.append_nil, List.contains_nil, Bool.or_false]
    by_cases c2 : (out.length : Int) > s
    · rw [if_pos c2, if_pos h0, if_pos (by omega)]
    · rw [if_neg c2, List.take_of_length_le (by omega)]
  | succ d ih =>
    intro k n out hit hn hk ho
    obtain ⟨k, rfl⟩ : ∃ m, k = m + 1 := ⟨k - 1, by omega⟩
    have h1 : n < l.length := by omega
    have c1 : (n : Int) < (l.length : Int) := by omega
    have c0 : (0 : Int) ≤ (n : Int) := by omega
    simp only [spec_l10Touch.l0]
    rw [if_pos c1, if_pos c0, if_pos c1, rd_nat l n h1, w64 (by omega) (by omega), succ_cast, List.drop_eq_getElem_cons h1, List.contains_cons]
    by_cases e : l[n] = p
    · rw [if_pos e, ih k (n + 1) out true (by omega) (by omega) (by omega), List.filter_cons_of_neg (by simp [e]), show (p == l[n]) = true from beq_iff_eq.mpr e.symm]
      simp
    · rw [if_neg e, if_pos (by omega), ih k (n + 1) _ hit (by omega) (by omega) (by simp; omega), List.filter_cons_of_pos (by simp [e]), show (p == l[n]) = false from beq_eq_false_iff_ne.mpr (fun h => e h.symm), Bool.false_or, List.append_assoc]
      rfl
theorem l10Touch_f (st : List Int) (p s : Int) (h0 : 0 ≤ s) (hb : st.length < 1000000) (hd : st.Nodup) (k : Nat) (hk : st.length < k) : spec_l10Touch.f k st p s = some (touchL st p s.toNat, st.contains p) := by
  unfold spec_l10Touch.f touchL
  have h := l10Touch_loop st p s h0 hb st.length k 0 [p] false (by omega) hk (by simp)
  rw [show ((0 : Nat) : Int) = 0 from rfl] at h
  rw [h, List.drop_zero, Bool.false_or, hd.erase_eq_filter]
  rfl

/-! References played -/
def playL (still : Bool) (s : Nat) : List Int → List Int → Int → List Int × Int
  | [], st, h => (st, h)
  | p :: ps, st, h => if st.contains p = true then playL still s ps (if still = true then st else touchL st p s) (h + 1) else playL still s ps (touchL st p s) h
theorem playL_len (still : Bool) (s : Nat) (l : List Int) : ∀ (st : List Int) (h : Int), st.length ≤ s → (playL still s l st h).1.length ≤ s := by
  induction l with
  | nil => intro st h hs; exact hs
  | cons p ps ih =>
    intro st h hs
    unfold playL
    split
    · refine ih _ _ ?_
      split
      · exact hs
      · exact touchL_length _ _ _
    · exact ih _ _ (touchL_length _ _ _)
theorem play_loop (l : List Int) (s : Int) (still : Bool) (h0 : 0 ≤ s) (h1 : s ≤ 5000) (hb : l.length < 1000000) (d : Nat) : ∀ (k n : Nat) (st : List Int) (h : Int), n + d = l.length → d < k → st.length ≤ s.toNat → 0 ≤ h → h ≤ n →
    impl_play.l0 k s still st h l (l.length : Int) (n : Int) = some (playL still s.toNat (l.drop n) st h) := by
  induction d with
  | zero =>
    intro k n st h hn hk hs hh hh2
    obtain ⟨k, rfl⟩ : ∃ m, k = m + 1 := ⟨k - 1, by omega⟩
    have c : ¬ (n : Int) < (l.length : Int) := by omega
    simp only [impl_play.l0]; rw [if_neg c, List.drop_of_length_le (by omega)]
    unfold slices_Clone_int_int.f
    rw [if_pos (by omega)]; rfl
  | succ d ih =>
    intro k n st h hn hk hs hh hh2
    obtain ⟨k, rfl⟩ : ∃ m, k = m + 1 := ⟨k - 1, by omega⟩
    have h1 : n < l.length := by omega
    have c1 : (n : Int) < (l.length : Int) := by omega
    have c0 : (0 : Int) ≤ (n : Int) := by omega
    simp only [impl_play.l0]
    rw [if_pos c1, if_pos c0, if_pos c1, rd_nat l n h1, w64 (x := (n : Int) + 1) (by omega) (by omega), succ_cast, List.drop_eq_getElem_cons h1, touch_f st l[n] s h0 (by omega), Option.bind_some]
    unfold playL
    have hl := touchL_length st l[n] s.toNat
    cases hc : st.contains l[n] with
    | true =>
      simp only [if_true]
      rw [w64 (x := h + 1) (by omega) (by omega)]
      cases still with
      | true => simp only [if_true]; exact ih k (n + 1) st (h + 1) (by omega) (by omega) hs (by omega) (by omega)
      | false => simp only [Bool.false_eq_true, if_false]; exact ih k (n + 1) _ (h + 1) (by omega) (by omega) hl (by omega) (by omega)
    | false =>
      simp only [Bool.false_eq_true, if_false]
      exact ih k (n + 1) _ h (by omega) (by omega) hl (by omega) (by omega)
theorem play_f (l : List Int) (s : Int) (still : Bool) (h0 : 0 ≤ s) (h1 : s ≤ 5000) (hb : l.length < 1000000) (k : Nat) (hk : l.length < k) : impl_play.f k l s still = some (playL still s.toNat l [] 0) := by
  unfold impl_play.f
  have h := play_loop l s still h0 h1 hb l.length k 0 [] 0 (by omega) hk (by simp) (by omega) (by omega)
  simpa using h

theorem l10Play_loop (l : List Int) (s : Int) (h0 : 0 ≤ s) (h1 : s ≤ 5000) (hb : l.length < 1000000) (d : Nat) : ∀ (k n : Nat) (st : List Int) (h : Int), n + d = l.length → d + 5001 < k → st.length ≤ s.toNat → st.Nodup → 0 ≤ h → h ≤ n →
    spec_l10Play.l0 k s st h l (l.length : Int) (n : Int) = some (playL false s.toNat (l.drop n) st h) := by
  induction d with
  | zero =>
    intro k n st h hn hk hs hd hh hh2
    obtain ⟨k, rfl⟩ : ∃ m, k = m + 1 := ⟨k - 1, by omega⟩
    have c : ¬ (n : Int) < (l.length : Int) := by omega
    simp only [spec_l10Play.l0]; rw [if_neg c, List.drop_of_length_le (by omega)]; rfl
  | succ d ih =>
    intro k n st h hn hk hs hd hh hh2
    obtain ⟨k, rfl⟩ : ∃ m, k = m + 1 := ⟨k - 1, by omega⟩
    have h1 : n < l.length := by omega
    have c1 : (n : Int) < (l.length : Int) := by omega
    have c0 : (0 : Int) ≤ (n : Int) := by omega
    simp only [spec_l10Play.l0]
    rw [if_pos c1, if_pos c0, if_pos c1, rd_nat l n h1, w64 (x := (n : Int) + 1) (by omega) (by omega), succ_cast, List.drop_eq_getElem_cons h1, l10Touch_f st l[n] s h0 (by omega) hd k (by omega), Option.bind_some]
    unfold playL
    have hl := touchL_length st l[n] s.toNat
    have hd2 := touchL_nodup st l[n] s.toNat hd
    cases hc : st.contains l[n] with
    | true =>
      simp only [if_true, Bool.false_eq_true, if_false]
      rw [w64 (x := h + 1) (by omega) (by omega)]
      exact ih k (n + 1) _ (h + 1) (by omega) (by omega) hl hd2 (by omega) (by omega)
    | false =>
      simp only [Bool.false_eq_true, if_false]
      exact ih k (n + 1) _ h (by omega) (by omega) hl hd2 (by omega) (by omega)
theorem l10Play_f (l : List Int) (s : Int) (h0 : 0 ≤ s) (h1 : s ≤ 5000) (hb : l.length < 1000000) (k : Nat) (hk : l.length + 5001 < k) : spec_l10Play.f k l s = some (playL false s.toNat l [] 0) := by
  unfold spec_l10Play.f
  have h := l10Play_loop l s h0 h1 hb l.length k 0 [] 0 (by omega) hk (by simp) List.nodup_nil (by omega) (by omega)
  simpa using h

theorem isSize_f (x : Int) : impl_isSize.f x = some (decide (0 ≤ x) && decide (x ≤ 40)) := by unfold impl_isSize.f; rw [within_f]; rfl

/-! What the exact laws do with lists -/
theorem goodB_len (l : List Int) (h : goodB l = true) : l.length ≤ 200 := by
  unfold goodB at h
  simp only [Bool.and_eq_true, decide_eq_true_eq] at h
  exact h.1

/-! The cursor that draws an argument out of bytes -/
theorem and255 (y : Int) (h0 : 0 ≤ y) (h1 : y < 18446744073709551616) : bits .and .u64 y 255 = y % 256 := bits_mask .u64 64 (by decide) wraps_u64 8 (by decide) y h0 h1
theorem and255_range (s : Int) : 0 ≤ bits .and .u64 ((IntKind.u64.wrap s) / 1099511627776) 255 ∧ bits .and .u64 ((IntKind.u64.wrap s) / 1099511627776) 255 ≤ 255 := by
  have h : IntKind.u64.wrap s = s % 18446744073709551616 := IntKind.wrap_u64 s
  rw [h, and255 _ (by omega) (by omega)]
  omega
theorem rd_byte (l : List Int) (hc : ∀ x ∈ l, 0 ≤ x ∧ x ≤ 255) (i : Int) (h0 : 0 ≤ i) (h1 : i < l.length) : 0 ≤ rd l i ∧ rd l i ≤ 255 := by
  obtain ⟨n, rfl⟩ : ∃ n : Nat, i = (n : Int) := ⟨i.toNat, by omega⟩
  rw [rd_nat l n (by omega)]
  exact hc _ (List.getElem_mem _)
theorem next_ok (code : List Int) (hc : ∀ x ∈ code, 0 ≤ x ∧ x ≤ 255) (hb : code.length < 4611686018427387904) (a s : Int) (h0 : 0 ≤ a) (h1 : a < 4611686018427387904) :
    ∃ b s', spec_l1Cur_next.f code a s = some (b, a + 1, s') ∧ 0 ≤ b ∧ b ≤ 255 := by
  have hw : wrap64 (a + 1) = a + 1 := w64 (by omega) (by omega)
  unfold spec_l1Cur_next.f
  rw [hw]
  by_cases c : a < (code.length : Int)
  · have hr := rd_byte code hc a h0 c
    rw [if_pos c, if_pos h0, if_pos (by omega)]
    exact ⟨_, _, rfl, by rw [w64 (by omega) (by omega)]; exact hr⟩
  · rw [if_neg c, if_neg (by omega)]
    refine ⟨_, _, rfl, ?_⟩
    have hr := and255_range ((IntKind.u64.wrap (IntKind.u64.wrap (s * 6364136223846793005))) + 1442695040888963407)
    rw [w64 (by omega) (by omega)]
    exact hr
theorem tmod_range (x n : Int) (h : 0 ≤ x) (hn : 0 < n) : 0 ≤ Int.tmod x n ∧ Int.tmod x n < n := ⟨Int.tmod_nonneg n h, Int.tmod_lt_of_pos x hn⟩
theorem pick_ok (code : List Int) (hc : ∀ x ∈ code, 0 ≤ x ∧ x ≤ 255) (hb : code.length < 4611686018427387904) (a s n : Int) (h0 : 0 ≤ a) (h1 : a < 4611686018427380000) :
    ∃ v a' s', spec_l1Cur_pick.f code a s n = some (v, a', s') ∧ 0 ≤ v ∧ (v < n ∨ v = 0) ∧ a ≤ a' ∧ a' ≤ a + 2 := by
  unfold spec_l1Cur_pick.f
  by_cases c : n ≤ 1
  · rw [if_pos c]
    exact ⟨0, a, s, rfl, by omega, by omega, by omega, by omega⟩
  · rw [if_neg c]
    obtain ⟨b, s1, e1, hb0, hb1⟩ := next_ok code hc hb a s h0 (by omega)
    rw [e1, Option.bind_some]
    by_cases c2 : n > 200
    · rw [if_pos c2]
      obtain ⟨b2, s2, e2, hb2, hb3⟩ := next_ok code hc hb (a + 1) s1 (by omega) (by omega)
      try dsimp only
      rw [e2, Option.bind_some, if_neg (by omega)]
      have hw1 : wrap64 (b * 256) = b * 256 := w64 (by omega) (by omega)
      have hw2 : wrap64 (b * 256 + b2) = b * 256 + b2 := w64 (by omega) (by omega)
      have hr := tmod_range (b * 256 + b2) n (by omega) (by omega)
      refine ⟨_, _, _, rfl, ?_⟩
      simp only [hw1, hw2]
      exact ⟨hr.1, Or.inl hr.2, by omega, by omega⟩
    · rw [if_neg c2, if_neg (by omega)]
      have hr := tmod_range b n (by omega) (by omega)
      refine ⟨_, _, _, rfl, hr.1, Or.inl hr.2, ?_, ?_⟩ <;> dsimp only <;> omega
theorem one_ok (code : List Int) (hc : ∀ x ∈ code, 0 ≤ x ∧ x ≤ 255) (hb : code.length < 4611686018427387904) (a s n : Int) (h0 : 0 ≤ a) (h1 : a < 4611686018427380000) :
    ∃ v a' s', spec_l1Cur_one.f code a s n = some (v, a', s') ∧ a ≤ a' ∧ a' ≤ a + 2 := by
  unfold spec_l1Cur_one.f
  obtain ⟨v, a', s', e, h⟩ := pick_ok code hc hb a s n h0 h1
  rw [e, Option.bind_some]
  exact ⟨_, _, _, rfl, h.2.2⟩
theorem among_ok (code : List Int) (hc : ∀ x ∈ code, 0 ≤ x ∧ x ≤ 255) (hb : code.length < 4611686018427387904) (l : List Int) (hl : 0 < l.length) (a s : Int) (h0 : 0 ≤ a) (h1 : a < 4611686018427380000) :
    ∃ v a' s', spec_l1Cur_among.f code a s l = some (v, a', s') ∧ v ∈ l ∧ a ≤ a' ∧ a' ≤ a + 2 := by
  unfold spec_l1Cur_among.f
  obtain ⟨v, a', s', e, h⟩ := pick_ok code hc hb a s (l.length : Int) h0 h1
  rw [e, Option.bind_some, if_pos h.1]
  have c : v < (l.length : Int) := by omega
  try dsimp only
  rw [if_pos c]
  refine ⟨_, _, _, rfl, ?_, h.2.2⟩
  obtain ⟨n, rfl⟩ : ∃ n : Nat, v = (n : Int) := ⟨v.toNat, by omega⟩
  try dsimp only
  rw [rd_nat l n (by omega)]
  exact List.getElem_mem _

/-! References drawn -/
theorem refs_loop (code : List Int) (hc : ∀ x ∈ code, 0 ≤ x ∧ x ≤ 255) (hb : code.length < 4611686018427387904) (x5 : Int) (d : Nat) : ∀ (l : List Int) (a s : Int), l.length + d ≤ 1000 → 0 ≤ a → a + 2 * d ≤ 4000 →
    ∃ l' a' s', l'.length ≤ l.length + d ∧ 0 ≤ a' ∧ a' ≤ a + 2 * d + 4 ∧ ∀ k, d < k → spec_l1Cur_refs.l0 k l (d : Int) x5 code a s = some (l', a', s') := by
  induction d with
  | zero =>
    intro l a s hl h0 h1
    by_cases c : (l.length : Int) > 0
    · obtain ⟨b, a1, s1, e1, h2⟩ := one_ok code hc hb a s 40 h0 (by omega)
      cases b with
      | false =>
        refine ⟨l, a1, s1, by omega, by omega, by omega, fun k hk => ?_⟩
        obtain ⟨k, rfl⟩ : ∃ m, k = m + 1 := ⟨k - 1, by omega⟩
        simp only [spec_l1Cur_refs.l0]
        rw [if_neg (by omega), if_pos c, e1, Option.bind_some, if_neg Bool.false_ne_true]
      | true =>
        obtain ⟨v, a2, s2, e2, _, h3⟩ := among_ok code hc hb [-1, 99, 100] (by decide) a1 s1 (by omega) (by omega)
        refine ⟨l.set (0 : Int).toNat v, a2, s2, by rw [List.length_set]; omega, by omega, by omega, fun k hk => ?_⟩
        obtain ⟨k, rfl⟩ : ∃ m, k = m + 1 := ⟨k - 1, by omega⟩
        simp only [spec_l1Cur_refs.l0]
        rw [if_neg (by omega), if_pos c, e1, Option.bind_some, if_pos rfl, e2, Option.bind_some, if_pos (by omega)]
    · refine ⟨l, a, s, by omega, by omega, by omega, fun k hk => ?_⟩
      obtain ⟨k, rfl⟩ : ∃ m, k = m + 1 := ⟨k - 1, by omega⟩
      simp only [spec_l1Cur_refs.l0]
      rw [if_neg (by omega), if_neg c]
  | succ d ih =>
    intro l a s hl h0 h1
    obtain ⟨v, a1, s1, e1, _, _, h2⟩ := pick_ok code hc hb a s x5 h0 (by omega)
    obtain ⟨l', a', s', g1, g2, g3, g4⟩ := ih (l ++ [v]) a1 s1 (by rw [List.length_append, List.length_singleton]; omega) (by omega) (by omega)
    rw [List.length_append, List.length_singleton] at g1
    refine ⟨l', a', s', by omega, g2, by omega, fun k hk => ?_⟩
    obtain ⟨k, rfl⟩ : ∃ m, k = m + 1 := ⟨k - 1, by omega⟩
    simp only [spec_l1Cur_refs.l0]
    rw [if_pos (by omega), e1, Option.bind_some, if_pos (by omega), w64 (x := ((d + 1 : Nat) : Int) - 1) (by omega) (by omega), show ((d + 1 : Nat) : Int) - 1 = (d : Int) by omega]
    exact g4 k (by omega)
theorem refs_j0 (code : List Int) (hc : ∀ x ∈ code, 0 ≤ x ∧ x ≤ 255) (hb : code.length < 4611686018427387904) (n : Int) (h0 : 0 ≤ n) (h1 : n ≤ 300) (a s : Int) (ha : 0 ≤ a) (ha1 : a ≤ 100) :
    ∃ l' a' s', l'.length ≤ 300 ∧ 0 ≤ a' ∧ a' ≤ 1000 ∧ ∀ k, 400 < k → spec_l1Cur_refs.j0 k [] n code a s = some (l', a', s') := by
  obtain ⟨d, rfl⟩ : ∃ d : Nat, n = (d : Int) := ⟨n.toNat, by omega⟩
  obtain ⟨v, a1, s1, e1, _, _, h2⟩ := pick_ok code hc hb a s 9 ha (by omega)
  obtain ⟨b, a2, s2, e2, h3⟩ := one_ok code hc hb a1 s1 20 (by omega) (by omega)
  obtain ⟨x5, hx⟩ : ∃ x5 : Int, x5 = if b = true then 60 else wrap64 (1 + v) := ⟨_, rfl⟩
  obtain ⟨l', a', s', g1, g2, g3, g4⟩ := refs_loop code hc hb x5 d [] a2 s2 (by simp; omega) (by omega) (by omega)
  refine ⟨l', a', s', by simp at g1; omega, g2, by omega, fun k hk => ?_⟩
  obtain ⟨k, rfl⟩ : ∃ m, k = m + 2 := ⟨k - 2, by omega⟩
  simp only [spec_l1Cur_refs.j0]
  rw [e1, Option.bind_some, e2, Option.bind_some]
  have g := g4 k (by omega)
  cases b with
  | true => rw [if_pos rfl] at hx; subst hx; rw [if_pos rfl]; simp only [spec_l1Cur_refs.j1]; exact g
  | false => rw [if_neg Bool.false_ne_true] at hx; subst hx; rw [if_neg Bool.false_ne_true]; simp only [spec_l1Cur_refs.j1]; exact g
theorem refs_ok (code : List Int) (hc : ∀ x ∈ code, 0 ≤ x ∧ x ≤ 255) (hb : code.length < 4611686018427387904) (a s : Int) (ha : 0 ≤ a) (ha1 : a ≤ 50) :
    ∃ l' a' s', l'.length ≤ 300 ∧ 0 ≤ a' ∧ a' ≤ 1000 ∧ ∀ k, 400 < k → spec_l1Cur_refs.f k code a s = some (l', a', s') := by
  obtain ⟨v, a1, s1, e1, hv0, hv1, h2⟩ := pick_ok code hc hb a s 30 ha (by omega)
  obtain ⟨b, a2, s2, e2, h3⟩ := one_ok code hc hb a1 s1 12 (by omega) (by omega)
  unfold spec_l1Cur_refs.f
  simp only [e1, Option.bind_some, e2]
  cases b with
  | false =>
    obtain ⟨l', a', s', g⟩ := refs_j0 code hc hb v hv0 (by omega) a2 s2 (by omega) (by omega)
    exact ⟨l', a', s', g.1, g.2.1, g.2.2.1, fun k hk => by rw [if_neg Bool.false_ne_true]; exact g.2.2.2 k hk⟩
  | true =>
    obtain ⟨v2, a3, s3, e3, hw0, hw1, h4⟩ := pick_ok code hc hb a2 s2 12 (by omega) (by omega)
    obtain ⟨l', a', s', g⟩ := refs_j0 code hc hb (wrap64 (190 + v2)) (by rw [w64 (by omega) (by omega)]; omega) (by rw [w64 (by omega) (by omega)]; omega) a3 s3 (by omega) (by omega)
    exact ⟨l', a', s', g.1, g.2.1, g.2.2.1, fun k hk => by rw [if_pos rfl, e3, Option.bind_some]; exact g.2.2.2 k hk⟩

theorem size_ok (code : List Int) (hc : ∀ x ∈ code, 0 ≤ x ∧ x ≤ 255) (hb : code.length < 4611686018427387904) (a s : Int) (ha : 0 ≤ a) (ha1 : a ≤ 10000) :
    ∃ v a' s', spec_l1Cur_size.f code a s = some (v, a', s') ∧ -1 ≤ v ∧ v ≤ 41 ∧ a ≤ a' ∧ a' ≤ a + 4 := by
  unfold spec_l1Cur_size.f
  obtain ⟨b, a1, s1, e1, h1⟩ := one_ok code hc hb a s 20 ha (by omega)
  rw [e1, Option.bind_some]
  cases b with
  | true =>
    rw [if_pos rfl]
    obtain ⟨v, a2, s2, e2, hm, h3⟩ := among_ok code hc hb [-1, 0, 40, 41] (by decide) a1 s1 (by omega) (by omega)
    try dsimp only
    rw [e2, Option.bind_some]
    refine ⟨_, _, _, rfl, ?_, ?_, by try dsimp only; omega, by try dsimp only; omega⟩ <;> (simp at hm ⊢; omega)
  | false =>
    rw [if_neg Bool.false_ne_true]
    obtain ⟨v, a2, s2, e2, h2, h3, h4⟩ := pick_ok code hc hb a1 s1 8 (by omega) (by omega)
    try dsimp only
    rw [e2, Option.bind_some]
    exact ⟨_, _, _, rfl, by try dsimp only; rw [w64 (by omega) (by omega)]; omega, by try dsimp only; rw [w64 (by omega) (by omega)]; omega, by try dsimp only; omega, by try dsimp only; omega⟩

/-! PlayLru, both ways -/
def lruV (l : List Int) (s : Int) : List Int × Int × Bool := if (goodB l && (decide (0 ≤ s) && decide (s ≤ 40))) = true then ((playL false s.toNat l [] 0).1, (playL false s.toNat l [] 0).2, true) else ([], 0, false)
theorem lru_impl (l : List Int) (s : Int) (hb : l.length < 1000000) (k : Nat) (hk : l.length + 1000 < k) : impl_PlayLru.f k l s = some (lruV l s) := by
  unfold impl_PlayLru.f lruV
  rw [goodRefs_impl l (by omega), isSize_f, Option.bind_some]
  cases hg : goodB l with
  | false => rfl
  | true =>
    rw [if_pos rfl, Option.bind_some, Bool.true_and]
    by_cases c : (decide (0 ≤ s) && decide (s ≤ 40)) = true
    · have c2 : 0 ≤ s ∧ s ≤ 40 := by simpa using c
      rw [if_pos c, if_pos c, play_f l s false c2.1 (by omega) (by omega) k (by omega), Option.bind_some]
    · rw [if_neg c, if_neg c]
theorem lru_none (l : List Int) (s : Int) (h : goodB l = false) : lruV l s = ([], 0, false) := by unfold lruV; rw [h]; rfl
theorem lru_some (l : List Int) (s : Int) (h : goodB l = true) (h0 : 0 ≤ s) (h1 : s ≤ 40) : lruV l s = ((playL false s.toNat l [] 0).1, (playL false s.toNat l [] 0).2, true) := by
  unfold lruV; rw [h, if_pos (by simp; omega)]

theorem lru_spec (l : List Int) (s : Int) (hb : l.length < 1000000) (k : Nat) (hk : l.length + 10000 < k) : spec_PlayLru.f k l s = some (lruV l s) := by
  unfold spec_PlayLru.f lruV
  rw [goodRefs_spec l (by omega) k (by omega), l1In_f, Option.bind_some]
  cases hg : goodB l with
  | false => rfl
  | true =>
    rw [if_pos rfl, Option.bind_some, Bool.true_and]
    by_cases c : (decide (0 ≤ s) && decide (s ≤ 40)) = true
    · have c2 : 0 ≤ s ∧ s ≤ 40 := by simpa using c
      have hlen := playL_len false s.toNat l [] 0 (by simp)
      rw [if_pos c, if_pos c, l10Play_f l s c2.1 (by omega) (by omega) k (by omega)]
      simp only [Option.bind_some, List.length_nil, Nat.zero_add, List.nil_append]
      rw [if_pos (by omega)]
    · rw [if_neg c, if_neg c]

/-! The next place of a page -/
def placeN (l : List Int) (p : Int) : Nat := l.findIdx (fun x => p == x)
theorem placeN_cons (x : Int) (xs : List Int) (p : Int) : placeN (x :: xs) p = if p = x then 0 else placeN xs p + 1 := by
  unfold placeN
  rw [List.findIdx_cons]
  by_cases h : p = x
  · rw [if_pos h, show (p == x) = true from beq_iff_eq.mpr h]; rfl
  · rw [if_neg h, show (p == x) = false from beq_eq_false_iff_ne.mpr h]; rfl
theorem placeN_le (l : List Int) (p : Int) : placeN l p ≤ l.length := List.findIdx_le_length
theorem index_loop (l : List Int) (p : Int) (hb : l.length < 4611686018427387904) (d : Nat) : ∀ (k n : Nat), n + d = l.length → d < k →
    slices_Index_int_int.l0 k l p (l.length : Int) (n : Int) = some (if n + placeN (l.drop n) p < l.length then ((n + placeN (l.drop n) p : Nat) : Int) else -1) := by
  induction d with
  | zero =>
    intro k n hn hk
    obtain ⟨k, rfl⟩ : ∃ m, k = m + 1 := ⟨k - 1, by omega⟩
    have c : ¬ (n : Int) < (l.length : Int) := by omega
    simp only [slices_Index_int_int.l0]; rw [if_neg c, if_neg (by omega)]
  | succ d ih =>
    intro k n hn hk
    obtain ⟨k, rfl⟩ : ∃ m, k = m + 1 := ⟨k - 1, by omega⟩
    have h1 : n < l.length := by omega
    have c1 : (n : Int) < (l.length : Int) := by omega
    have c0 : (0 : Int) ≤ (n : Int) := by omega
    simp only [slices_Index_int_int.l0]
    rw [if_pos c1, if_pos c0, if_pos c1, rd_nat l n h1, List.drop_eq_getElem_cons h1, placeN_cons, w64 (by omega) (by omega), succ_cast, ih k (n + 1) (by omega) (by omega)]
    by_cases e : p = l[n]
    · rw [if_pos e, if_pos e, if_pos (by omega), Nat.add_zero]
    · rw [if_neg e, if_neg e, show n + 1 + placeN (List.drop (n + 1) l) p = n + (placeN (List.drop (n + 1) l) p + 1) by omega]
theorem index_f (l : List Int) (p : Int) (hb : l.length < 4611686018427387904) (k : Nat) (hk : l.length < k) : slices_Index_int_int.f k l p = some (if placeN l p < l.length then (placeN l p : Int) else -1) := by
  unfold slices_Index_int_int.f
  have h := index_loop l p hb l.length k 0 (by omega) hk
  simpa using h

theorem nextUse_f (l : List Int) (n : Nat) (p : Int) (hn : n ≤ l.length) (hb : l.length < 4611686018427387904) (k : Nat) (hk : l.length < k) : impl_nextUse.f k l (n : Int) p = some ((n + placeN (l.drop n) p : Nat) : Int) := by
  unfold impl_nextUse.f
  rw [if_pos (by omega), if_pos (by omega), Int.toNat_natCast, index_f _ p (by rw [List.length_drop]; omega) k (by rw [List.length_drop]; omega), Option.bind_some]
  have hle := placeN_le (l.drop n) p
  rw [List.length_drop] at hle ⊢
  by_cases c : placeN (l.drop n) p < l.length - n
  · rw [if_pos c, if_neg (by omega), w64 (by omega) (by omega)]; congr 1
  · rw [if_neg c, if_pos (by omega)]; congr 1; omega

/-! Rising lists: where a page stands, or would -/
def posL (l : List Int) (p : Int) : Nat := (l.takeWhile fun x => decide (x < p)).length
theorem posL_le (l : List Int) (p : Int) : posL l p ≤ l.length := by
  induction l with
  | nil => simp [posL]
  | cons x xs ih =>
    unfold posL at ih ⊢
    rw [List.takeWhile_cons]
    split
    · simp only [List.length_cons]; omega
    · simp
theorem posL_cons (x : Int) (xs : List Int) (p : Int) : posL (x :: xs) p = if x < p then posL xs p + 1 else 0 := by
  unfold posL
  rw [List.takeWhile_cons]
  by_cases h : x < p
  · simp [h]
  · simp [h]
theorem posL_lt (l : List Int) (p : Int) : ∀ (i : Nat) (h : i < l.length), i < posL l p → l[i] < p := by
  induction l with
  | nil => intro i h; simp at h
  | cons x xs ih =>
    intro i h hi
    rw [posL_cons] at hi
    by_cases c : x < p
    · rw [if_pos c] at hi
      cases i with
      | zero => exact c
      | succ i => exact ih i (by simpa using h) (by omega)
    · rw [if_neg c] at hi; omega
theorem posL_ge (l : List Int) (hs : l.Pairwise (· < ·)) (p : Int) : ∀ (i : Nat) (h : i < l.length), posL l p ≤ i → p ≤ l[i] := by
  induction l with
  | nil => intro i h; simp at h
  | cons x xs ih =>
    intro i h hi
    obtain ⟨h1, h2⟩ := List.pairwise_cons.mp hs
    rw [posL_cons] at hi
    by_cases c : x < p
    · rw [if_pos c] at hi
      cases i with
      | zero => omega
      | succ i => exact ih h2 i (by simpa using h) (by omega)
    · cases i with
      | zero => simp only [List.getElem_cons_zero]; omega
      | succ i =>
        have hi2 : i < xs.length := by simpa using h
        have z := h1 xs[i] (List.getElem_mem _)
        simp only [List.getElem_cons_succ]; omega
theorem posL_mem (l : List Int) (hs : l.Pairwise (· < ·)) (p : Int) : p ∈ l ↔ ∃ h : posL l p < l.length, l[posL l p] = p := by
  constructor
  · intro hm
    obtain ⟨i, hi, rfl⟩ := List.getElem_of_mem hm
    have h1 : ¬ i < posL l l[i] := fun h => by have := posL_lt l l[i] i hi h; omega
    have hlt : posL l l[i] < l.length := by omega
    have h2 := posL_ge l hs l[i] (posL l l[i]) hlt (Nat.le_refl _)
    refine ⟨hlt, ?_⟩
    by_cases e : posL l l[i] = i
    · simp only [e]
    · have h3 := List.pairwise_iff_getElem.mp hs (posL l l[i]) i hlt hi (by omega)
      omega
  · rintro ⟨h, e⟩
    rw [← e]; exact List.getElem_mem h
def insM (l : List Int) (p : Int) : List Int := insL l (posL l p) p
theorem insM_length (l : List Int) (p : Int) : (insM l p).length = l.length + 1 := insL_length l _ p (posL_le l p)
theorem insM_mem (l : List Int) (p q : Int) : q ∈ insM l p ↔ q = p ∨ q ∈ l := by
  unfold insM insL
  rw [List.mem_append, List.mem_cons]
  constructor
  · rintro (h | rfl | h)
    · exact Or.inr (List.mem_of_mem_take h)
    · exact Or.inl rfl
    · exact Or.inr (List.mem_of_mem_drop h)
  · rintro (rfl | h)
    · exact Or.inr (Or.inl rfl)
    · rw [← List.take_append_drop (posL l p) l, List.mem_append] at h
      rcases h with h | h
      · exact Or.inl h
      · exact Or.inr (Or.inr h)
theorem insM_sorted (l : List Int) (p : Int) (hs : l.Pairwise (· < ·)) (hn : ¬ p ∈ l) : (insM l p).Pairwise (· < ·) := by
  unfold insM insL
  refine List.pairwise_append.mpr ⟨hs.sublist (List.take_sublist _ _), List.pairwise_cons.mpr ⟨fun q hq => ?_, hs.sublist (List.drop_sublist _ _)⟩, fun a ha b hb => ?_⟩
  · obtain ⟨i, hi, rfl⟩ := List.getElem_of_mem hq
    rw [List.getElem_drop]
    have h1 := posL_ge l hs p (posL l p + i) (by rw [List.length_drop] at hi; omega) (by omega)
    have h2 : l[posL l p + i]'(by rw [List.length_drop] at hi; omega) ≠ p := fun e => hn (e ▸ List.getElem_mem _)
    omega
  · obtain ⟨i, hi, rfl⟩ := List.getElem_of_mem ha
    rw [List.length_take] at hi
    rw [List.getElem_take]
    have h1 := posL_lt l p i (by omega) (by omega)
    rcases List.mem_cons.mp hb with rfl | hb
    · exact h1
    · obtain ⟨j, hj, rfl⟩ := List.getElem_of_mem hb
      rw [List.length_drop] at hj
      rw [List.getElem_drop]
      exact List.pairwise_iff_getElem.mp hs i (posL l p + j) (by omega) (by omega) (by omega)
theorem binary_loop (l : List Int) (p : Int) (hs : l.Pairwise (· < ·)) (hb : l.length < 1000000) (d : Nat) : ∀ (k i j : Nat), i ≤ posL l p → posL l p ≤ j → j ≤ l.length → j - i ≤ d → d < k →
    slices_BinarySearch_int_int.l0 k l p (l.length : Int) (i : Int) (j : Int) = some ((posL l p : Int), decide (p ∈ l)) := by
  induction d with
  | zero =>
    intro k i j h1 h2 h3 hd hk
    obtain ⟨k, rfl⟩ : ∃ m, k = m + 1 := ⟨k - 1, by omega⟩
    obtain rfl : i = posL l p := by omega
    simp only [slices_BinarySearch_int_int.l0]
    rw [if_neg (by omega)]
    by_cases c : posL l p < l.length
    · rw [if_pos (by omega), if_pos (by omega), if_pos (by omega), rd_nat l _ c]
      by_cases e : l[posL l p] = p
      · rw [if_pos e, decide_eq_true ((posL_mem l hs p).mpr ⟨c, e⟩)]
      · rw [if_neg e]
        unfold slices_isNaN_int.f
        simp only [bne_self_eq_false, Option.bind_some, Bool.false_eq_true, if_false]
        rw [decide_eq_false (fun h => e ((posL_mem l hs p).mp h).2)]
    · rw [if_neg (by omega), decide_eq_false (fun h => c ((posL_mem l hs p).mp h).1)]
  | succ d ih =>
    intro k i j h1 h2 h3 hd hk
    obtain ⟨k, rfl⟩ : ∃ m, k = m + 1 := ⟨k - 1, by omega⟩
    by_cases c : i < j
    · have hm : wrap64 (IntKind.u64.wrap (wrap64 ((i : Int) + (j : Int))) / 2) = (((i + j) / 2 : Nat) : Int) := by
        rw [w64 (x := (i : Int) + j) (by omega) (by omega)]
        have e : IntKind.u64.wrap ((i : Int) + (j : Int)) = (i : Int) + j := by
          rw [IntKind.wrap_u64]; omega
        rw [e, w64 (by omega) (by omega)]; omega
      have hlt : (i + j) / 2 < l.length := by omega
      simp only [slices_BinarySearch_int_int.l0]
      rw [if_pos (by omega), hm, if_pos (by omega), if_pos (by omega), rd_nat l _ hlt]
      unfold cmp_Less_int.f cmp_isNaN_int.f
      simp only [bne_self_eq_false, Option.bind_some, Bool.false_eq_true, if_false, decide_eq_true_eq]
      by_cases e : l[(i + j) / 2] < p
      · have hp : (i + j) / 2 < posL l p := by
          refine Classical.byContradiction fun h => ?_
          have := posL_ge l hs p ((i + j) / 2) hlt (by omega)
          omega
        rw [if_pos e, w64 (by omega) (by omega), succ_cast]
        exact ih k _ j (by omega) h2 h3 (by omega) (by omega)
      · have hp : posL l p ≤ (i + j) / 2 := by
          refine Classical.byContradiction fun h => ?_
          have := posL_lt l p ((i + j) / 2) hlt (by omega)
          omega
        rw [if_neg e]
        exact ih k i _ h1 hp (by omega) (by omega) (by omega)
    · refine at_rounds (g := fun k => slices_BinarySearch_int_int.l0 k l p (l.length : Int) (i : Int) (j : Int)) (fun k => slices_BinarySearch_int_int.mono_l k _ _ _ _ _) (show k ≤ k + 1 by omega) ?_
      exact ih k i j h1 h2 h3 (by omega) (by omega)
theorem binary_f (l : List Int) (p : Int) (hs : l.Pairwise (· < ·)) (hb : l.length < 1000000) (k : Nat) (hk : l.length < k) : slices_BinarySearch_int_int.f k l p = some ((posL l p : Int), decide (p ∈ l)) :=
  binary_loop l p hs hb l.length k 0 l.length (Nat.zero_le _) (posL_le l p) (Nat.le_refl _) (by omega) hk
theorem erase_sorted (l : List Int) (n : Nat) (hs : l.Pairwise (· < ·)) : (l.eraseIdx n).Pairwise (· < ·) := hs.sublist (List.eraseIdx_sublist _ _)

/-! References played by a rule -/
def playM {σ : Type} (goes : σ → Nat → List Int → Nat × σ) (sz : Nat) : List Int → Nat → List Int → Nat → σ → List Int × Nat
  | [], _, pages, hits, _ => (pages, hits)
  | p :: ps, i, pages, hits, s =>
    if p ∈ pages then playM goes sz ps (i + 1) pages (hits + 1) s
    else if sz = 0 then playM goes sz ps (i + 1) pages hits s
    else if pages.length = sz then playM goes sz ps (i + 1) (insM (pages.eraseIdx (goes s (i + 1) pages).1) p) hits (goes s (i + 1) pages).2
    else playM goes sz ps (i + 1) (insM pages p) hits s
theorem playM_cons {σ : Type} (goes : σ → Nat → List Int → Nat × σ) (sz : Nat) (p : Int) (ps : List Int) (i : Nat) (pages : List Int) (hits : Nat) (s : σ) : playM goes sz (p :: ps) i pages hits s =
    if p ∈ pages then playM goes sz ps (i + 1) pages (hits + 1) s
    else if sz = 0 then playM goes sz ps (i + 1) pages hits s
    else if pages.length = sz then playM goes sz ps (i + 1) (insM (pages.eraseIdx (goes s (i + 1) pages).1) p) hits (goes s (i + 1) pages).2
    else playM goes sz ps (i + 1) (insM pages p) hits s := rfl
theorem erase_length (l : List Int) (n : Nat) (h : n < l.length) : (l.eraseIdx n).length = l.length - 1 := List.length_eraseIdx_of_lt h
theorem erase_not_mem (l : List Int) (n : Nat) (p : Int) (hn : ¬ p ∈ l) : ¬ p ∈ l.eraseIdx n := fun h => hn (List.mem_of_mem_eraseIdx h)
/-- what a rule must do: it names a place; and what it remembers stays well -/
def Rules {σ : Type} (goesM : σ → Nat → List Int → Nat × σ) (sz N : Nat) (P : σ → Prop) : Prop :=
  ∀ (s : σ) (n : Nat) (pages : List Int), P s → n ≤ N → pages.length = sz → 0 < sz → (goesM s n pages).1 < sz ∧ P (goesM s n pages).2
theorem playM_facts {σ : Type} (goesM : σ → Nat → List Int → Nat × σ) (sz N : Nat) (P : σ → Prop) (hg : Rules goesM sz N P) (l : List Int) : ∀ (i : Nat) (pages : List Int) (hits : Nat) (s : σ), P s → pages.Pairwise (· < ·) → pages.length ≤ sz → i + l.length ≤ N →
    (playM goesM sz l i pages hits s).1.length ≤ sz ∧ hits ≤ (playM goesM sz l i pages hits s).2 ∧ (playM goesM sz l i pages hits s).2 ≤ hits + l.length ∧ (playM goesM sz l i pages hits s).1.Pairwise (· < ·) := by
  induction l with
  | nil => intro i pages hits s hp hs hl hn; exact ⟨hl, Nat.le_refl _, by simp [playM], hs⟩
  | cons p ps ih =>
    intro i pages hits s hp hs hl hn
    simp only [List.length_cons] at hn ⊢
    rw [playM_cons]
    by_cases hm : p ∈ pages
    · rw [if_pos hm]
      obtain ⟨a, b, c, d⟩ := ih (i + 1) pages (hits + 1) s hp hs hl (by omega)
      exact ⟨a, by omega, by omega, d⟩
    · rw [if_neg hm]
      by_cases h0 : sz = 0
      · rw [if_pos h0]
        obtain ⟨a, b, c, d⟩ := ih (i + 1) pages hits s hp hs hl (by omega)
        exact ⟨a, by omega, by omega, d⟩
      · rw [if_neg h0]
        by_cases hq : pages.length = sz
        · rw [if_pos hq]
          obtain ⟨g1, g2⟩ := hg s (i + 1) pages hp (by omega) hq (by omega)
          obtain ⟨a, b, c, d⟩ := ih (i + 1) (insM (pages.eraseIdx (goesM s (i + 1) pages).1) p) hits (goesM s (i + 1) pages).2 g2 (insM_sorted _ _ (erase_sorted _ _ hs) (erase_not_mem _ _ _ hm)) (by rw [insM_length, erase_length _ _ (by omega)]; omega) (by omega)
          exact ⟨a, by omega, by omega, d⟩
        · rw [if_neg hq]
          obtain ⟨a, b, c, d⟩ := ih (i + 1) (insM pages p) hits s hp (insM_sorted _ _ hs hm) (by rw [insM_length]; omega) (by omega)
          exact ⟨a, by omega, by omega, d⟩
theorem playO_f {σ : Type} (k : Nat) (goes : σ → Int → List Int → Option (Int × σ)) (goesM : σ → Nat → List Int → Nat × σ) (sz N : Nat) (hsz : sz ≤ 1000) (hN : N < 1000000) (hk : 1000 < k) (P : σ → Prop) (hg : Rules goesM sz N P)
    (hgo : ∀ (s : σ) (n : Nat) (pages : List Int), P s → n ≤ N → pages.length = sz → 0 < sz → goes s (n : Int) pages = some (((goesM s n pages).1 : Int), (goesM s n pages).2)) (l : List Int) :
    ∀ (i : Nat) (pages : List Int) (hits : Nat) (s : σ), P s → pages.Pairwise (· < ·) → pages.length ≤ sz → i + l.length ≤ N → hits ≤ i →
    playO k goes (sz : Int) l (i : Int) pages (hits : Int) s = some ((playM goesM sz l i pages hits s).1, ((playM goesM sz l i pages hits s).2 : Int)) := by
  induction l with
  | nil => intro i pages hits s hp hs hl hn hh; rfl
  | cons p ps ih =>
    intro i pages hits s hp hs hl hn hh
    simp only [List.length_cons] at hn
    rw [playM_cons]
    unfold playO
    rw [binary_f pages p hs (by omega) k (by omega), Option.bind_some]
    by_cases hm : p ∈ pages
    · rw [if_pos hm]
      simp only [decide_eq_true hm, if_true]
      rw [w64 (by omega) (by omega), succ_cast, succ_cast]
      exact ih (i + 1) pages (hits + 1) s hp hs hl (by omega) (by omega)
    · rw [if_neg hm]
      simp only [decide_eq_false hm, Bool.false_eq_true, if_false]
      by_cases h0 : sz = 0
      · rw [if_pos h0, if_pos (by omega), succ_cast]
        exact ih (i + 1) pages hits s hp hs hl (by omega) (by omega)
      · rw [if_neg h0, if_neg (by omega)]
        by_cases hq : pages.length = sz
        · obtain ⟨g1, g2⟩ := hg s (i + 1) pages hp (by omega) hq (by omega)
          have g3 := hgo s (i + 1) pages hp (by omega) hq (by omega)
          have hel : (pages.eraseIdx (goesM s (i + 1) pages).1).length = pages.length - 1 := erase_length _ _ (by omega)
          have hes := erase_sorted pages (goesM s (i + 1) pages).1 hs
          have hle := posL_le (pages.eraseIdx (goesM s (i + 1) pages).1) p
          rw [if_pos hq, if_pos (by omega), w64 (by omega) (by omega), succ_cast, g3, Option.bind_some]
          simp only [Int.toNat_natCast]
          rw [if_pos (by omega), binary_f _ p hes (by omega) k (by omega), Option.bind_some]
          simp only [Int.toNat_natCast]
          rw [if_pos (by omega)]
          exact ih (i + 1) (insM (pages.eraseIdx (goesM s (i + 1) pages).1) p) hits _ g2 (insM_sorted _ _ hes (erase_not_mem _ _ _ hm)) (by rw [insM_length]; omega) (by omega) (by omega)
        · have hle := posL_le pages p
          rw [if_neg hq, if_neg (by omega), succ_cast]
          simp only [Int.toNat_natCast]
          rw [if_pos (by omega)]
          exact ih (i + 1) (insM pages p) hits s hp (insM_sorted _ _ hs hm) (by rw [insM_length]; omega) (by omega) (by omega)

/-! The page that is wanted last -/
def worstG (f : Int → Nat) (pages : List Int) : List Int → Nat → Nat → Nat
  | [], _, b => b
  | p :: ps, j, b => worstG f pages ps (j + 1) (if f p > f (pages.getD b 0) then j else b)
theorem worstG_lt (f : Int → Nat) (pages : List Int) (ps : List Int) : ∀ (j b n : Nat), j + ps.length ≤ n → b < n → worstG f pages ps j b < n := by
  induction ps with
  | nil => intro j b n h hb; exact hb
  | cons p ps ih =>
    intro j b n h hb
    simp only [List.length_cons] at h
    unfold worstG
    exact ih (j + 1) _ n (by omega) (by split <;> omega)
/-- where a page is wanted next, from one place on -/
def nextN (l : List Int) (n : Nat) (q : Int) : Nat := n + placeN (l.drop n) q
def optM (l : List Int) (_ : Unit) (n : Nat) (pages : List Int) : Nat × Unit := (worstG (nextN l n) pages pages 0 0, ())
theorem rd_getD (l : List Int) (n : Nat) : rd l (n : Int) = l.getD n 0 := by unfold rd; rw [Int.toNat_natCast]
theorem optO_f (k : Nat) (l pages : List Int) (n : Nat) (hn : n ≤ l.length) (hb : l.length < 1000000) (hk : l.length < k) (ps : List Int) : ∀ (j b : Nat), j + ps.length ≤ pages.length → b < pages.length →
    optO k l pages (n : Int) ps (j : Int) (b : Int) = some ((worstG (nextN l n) pages ps j b : Nat) : Int) := by
  induction ps with
  | nil => intro j b h hb2; rfl
  | cons p ps ih =>
    intro j b h hb2
    simp only [List.length_cons] at h
    unfold optO worstG
    rw [nextUse_f l n p hn (by omega) k hk, Option.bind_some, if_pos (by omega), rd_getD, nextUse_f l n _ hn (by omega) k hk, Option.bind_some, succ_cast]
    by_cases c : nextN l n p > nextN l n (pages.getD b 0)
    · rw [if_pos c, if_pos (by unfold nextN at c; omega)]
      exact ih (j + 1) j (by omega) (by omega)
    · rw [if_neg c, if_neg (by unfold nextN at c; omega)]
      exact ih (j + 1) b (by omega) hb2
theorem opt_rules (l : List Int) (sz : Nat) : Rules (optM l) sz l.length (fun _ => True) := by
  intro s n pages _ hn hl h0
  exact ⟨worstG_lt _ _ _ 0 0 sz (by omega) h0, trivial⟩
theorem optG_f (k : Nat) (l : List Int) (sz : Nat) (hsz : sz ≤ 1000) (hb : l.length < 1000000) (hk : l.length < k) (s : Unit) (n : Nat) (pages : List Int) (hn : n ≤ l.length) (hl : pages.length = sz) (h0 : 0 < sz) :
    optG k l s (n : Int) pages = some (((optM l s n pages).1 : Int), (optM l s n pages).2) := by
  unfold optG
  rw [if_pos (by omega)]
  have h := optO_f k l pages n hn hb hk pages 0 0 (by omega) (by omega)
  rw [show ((0 : Nat) : Int) = 0 from rfl] at h
  rw [h]; rfl

set_option maxRecDepth 100000 in
theorem implPlayOpt_f (l : List Int) (sz : Nat) (hsz : sz ≤ 40) (hg : goodB l = true) (k : Nat) (hk : 2000 < k) : impl_PlayOpt.f k l (sz : Int) = some ((playM (optM l) sz l 0 [] 0 ()).1, ((playM (optM l) sz l 0 [] 0 ()).2 : Int), true) := by
  have hl := goodB_len l hg
  obtain ⟨a, b, c, d⟩ := playM_facts (optM l) sz l.length _ (opt_rules l sz) l 0 [] 0 () trivial List.Pairwise.nil (Nat.zero_le _) (by omega)
  unfold impl_PlayOpt.f
  rw [goodRefs_impl l (by omega), Option.bind_some, hg, if_pos rfl, isSize_f, Option.bind_some, decide_eq_true (p := (0 : Int) ≤ (sz : Int)) (by omega), decide_eq_true (p := (sz : Int) ≤ 40) (by omega), Bool.true_and, if_pos rfl]
  have h := playO_f k (optG k l) (optM l) sz l.length (by omega) (by omega) (by omega) (fun _ => True) (opt_rules l sz) (fun s n pages _ hn hq h0 => optG_f k l sz (by omega) (by omega) (by omega) s n pages hn hq h0) l 0 [] 0 () trivial List.Pairwise.nil (Nat.zero_le _) (by omega) (Nat.zero_le _)
  rw [show ((0 : Nat) : Int) = 0 from rfl] at h
  rw [h, Option.bind_some, if_pos ⟨Nat.lt_of_le_of_lt a (by omega), by omega⟩]

/-! Caches, whatever throws away: what a run is -/
theorem len_le_of_sub : ∀ (A B : List Int), A.Nodup → (∀ x ∈ A, x ∈ B) → A.length ≤ B.length
  | [], _, _, _ => Nat.zero_le _
  | a :: xs, B, hn, hs => by
    obtain ⟨h1, h2⟩ := List.nodup_cons.mp hn
    have ha := hs a List.mem_cons_self
    have hl : (B.erase a).length = B.length - 1 := List.length_erase_of_mem ha
    have hp := List.length_pos_of_mem ha
    have ih := len_le_of_sub xs (B.erase a) h2 (fun x hx => (List.mem_erase_of_ne (fun e => h1 (by rw [← e]; exact hx))).mpr (hs x (List.mem_cons_of_mem _ hx)))
    simp only [List.length_cons]; omega
theorem countP_split (P : Int → Bool) (p : Int) : ∀ (X : List Int), X.Nodup → X.countP P = X.countP (fun q => decide (q ≠ p) && P q) + (if p ∈ X ∧ P p = true then 1 else 0)
  | [], _ => by simp
  | x :: xs, hn => by
    obtain ⟨h1, h2⟩ := List.nodup_cons.mp hn
    have ih := countP_split P p xs h2
    rw [List.countP_cons, List.countP_cons, ih]
    by_cases e : x = p
    · subst e
      rw [if_neg (show ¬ (x ∈ xs ∧ P x = true) from fun h => h1 h.1)]
      cases P x <;> simp
    · have e2 : (p ∈ x :: xs ∧ P p = true) ↔ (p ∈ xs ∧ P p = true) := by
        rw [List.mem_cons]
        exact ⟨fun ⟨h, h'⟩ => ⟨h.resolve_left (fun e' => e e'.symm), h'⟩, fun ⟨h, h'⟩ => ⟨Or.inr h, h'⟩⟩
      simp only [e2, decide_eq_true (show x ≠ p from e), Bool.true_and]
      omega
theorem countP_sub (P : Int → Bool) (A B : List Int) (hn : A.Nodup) (hs : ∀ x ∈ A, P x = true → x ∈ B) : A.countP P ≤ B.countP P := by
  rw [List.countP_eq_length_filter, List.countP_eq_length_filter]
  refine len_le_of_sub _ _ (hn.sublist List.filter_sublist) (fun x hx => ?_)
  obtain ⟨h1, h2⟩ := List.mem_filter.mp hx
  exact List.mem_filter.mpr ⟨hs x h1 h2, h2⟩
/-- what is there behind each reference: the page; of the others, such as were there; and so many hits -/
def Run (s : Nat) : List Int → List Int → Nat → Prop
  | [], _, h => h = 0
  | p :: ps, C, h => ∃ C' h', Run s ps C' h' ∧ C'.Nodup ∧ C'.length ≤ s ∧ p ∈ C' ∧ (∀ q ∈ C', q = p ∨ q ∈ C) ∧ h = h' + (if p ∈ C then 1 else 0)
theorem sorted_nodup (l : List Int) (h : l.Pairwise (· < ·)) : l.Nodup := h.imp (fun hab => by omega)
theorem playM_run {σ : Type} (goesM : σ → Nat → List Int → Nat × σ) (sz N : Nat) (h0 : 0 < sz) (P : σ → Prop) (hg : Rules goesM sz N P) (l : List Int) : ∀ (i : Nat) (pages : List Int) (hits : Nat) (s : σ), P s → pages.Pairwise (· < ·) → pages.length ≤ sz → i + l.length ≤ N →
    ∃ h, Run sz l pages h ∧ (playM goesM sz l i pages hits s).2 = hits + h := by
  induction l with
  | nil => intro i pages hits s hp hs hl hn; exact ⟨0, rfl, rfl⟩
  | cons p ps ih =>
    intro i pages hits s hp hs hl hn
    simp only [List.length_cons] at hn
    rw [playM_cons]
    by_cases hm : p ∈ pages
    · obtain ⟨h, h1, h2⟩ := ih (i + 1) pages (hits + 1) s hp hs hl (by omega)
      rw [if_pos hm]
      exact ⟨h + 1, ⟨pages, h, h1, sorted_nodup _ hs, hl, hm, fun q hq => Or.inr hq, by rw [if_pos hm]⟩, by omega⟩
    · rw [if_neg hm, if_neg (by omega)]
      by_cases hq : pages.length = sz
      · obtain ⟨g1, g2⟩ := hg s (i + 1) pages hp (by omega) hq (by omega)
        have hes := insM_sorted _ p (erase_sorted pages (goesM s (i + 1) pages).1 hs) (erase_not_mem _ _ _ hm)
        have hel : (insM (pages.eraseIdx (goesM s (i + 1) pages).1) p).length ≤ sz := by rw [insM_length, erase_length _ _ (by omega)]; omega
        obtain ⟨h, h1, h2⟩ := ih (i + 1) (insM (pages.eraseIdx (goesM s (i + 1) pages).1) p) hits _ g2 hes hel (by omega)
        rw [if_pos hq]
        exact ⟨h, ⟨_, h, h1, sorted_nodup _ hes, hel, (insM_mem _ _ _).mpr (Or.inl rfl), fun q hq2 => ((insM_mem _ _ _).mp hq2).imp id List.mem_of_mem_eraseIdx, by rw [if_neg hm, Nat.add_zero]⟩, h2⟩
      · have hes := insM_sorted _ p hs hm
        have hel : (insM pages p).length ≤ sz := by rw [insM_length]; omega
        obtain ⟨h, h1, h2⟩ := ih (i + 1) (insM pages p) hits s hp hes hel (by omega)
        rw [if_neg hq]
        exact ⟨h, ⟨_, h, h1, sorted_nodup _ hes, hel, (insM_mem _ _ _).mpr (Or.inl rfl), fun q hq2 => (insM_mem _ _ _).mp hq2, by rw [if_neg hm, Nat.add_zero]⟩, h2⟩
theorem playM_zero {σ : Type} (goesM : σ → Nat → List Int → Nat × σ) (l : List Int) : ∀ (i hits : Nat) (s : σ), (playM goesM 0 l i [] hits s).2 = hits := by
  induction l with
  | nil => intro i hits s; rfl
  | cons p ps ih => intro i hits s; rw [playM_cons, if_neg (by simp), if_pos rfl]; exact ih _ _ _
/-- the stack that is played, likewise -/
theorem playL_run (still : Bool) (s : Nat) (h0 : 0 < s) (l : List Int) : ∀ (st : List Int) (a : Int), st.Nodup → st.length ≤ s → ∃ h : Nat, Run s l st h ∧ (playL still s l st a).2 = a + h := by
  induction l with
  | nil => intro st a hn hl; exact ⟨0, rfl, by simp [playL]⟩
  | cons p ps ih =>
    intro st a hn hl
    have ht1 := touchL_nodup st p s hn
    have ht2 := touchL_length st p s
    have ht3 : p ∈ touchL st p s := by
      unfold touchL
      obtain ⟨n, rfl⟩ : ∃ n, s = n + 1 := ⟨s - 1, by omega⟩
      rw [List.take_succ_cons]; exact List.mem_cons_self
    have ht4 : ∀ q ∈ touchL st p s, q = p ∨ q ∈ st := fun q hq => by
      rcases List.mem_cons.mp (List.mem_of_mem_take hq) with h | h
      · exact Or.inl h
      · exact Or.inr (List.mem_of_mem_erase h)
    unfold playL
    cases hc : st.contains p with
    | true =>
      have hm : p ∈ st := List.contains_iff_mem.mp hc
      rw [if_pos rfl]
      cases still with
      | true =>
        rw [if_pos rfl]
        obtain ⟨h, h1, h2⟩ := ih st (a + 1) hn hl
        exact ⟨h + 1, ⟨st, h, h1, hn, hl, hm, fun q hq => Or.inr hq, by rw [if_pos hm]⟩, by omega⟩
      | false =>
        rw [if_neg (by decide)]
        obtain ⟨h, h1, h2⟩ := ih _ (a + 1) ht1 ht2
        exact ⟨h + 1, ⟨_, h, h1, ht1, ht2, ht3, ht4, by rw [if_pos hm]⟩, by omega⟩
    | false =>
      have hm : ¬ p ∈ st := fun h => by rw [List.contains_iff_mem.mpr h] at hc; cases hc
      rw [if_neg (by decide)]
      obtain ⟨h, h1, h2⟩ := ih _ a ht1 ht2
      exact ⟨h, ⟨_, h, h1, ht1, ht2, ht3, ht4, by rw [if_neg hm, Nat.add_zero]⟩, h2⟩
theorem playL_zero (still : Bool) (l : List Int) : ∀ a : Int, (playL still 0 l [] a).2 = a := by
  induction l with
  | nil => intro a; rfl
  | cons p ps ih =>
    intro a
    have ht : touchL [] p 0 = [] := rfl
    unfold playL
    rw [ht]
    simpa using ih a
theorem run_le (s : Nat) (l : List Int) : ∀ (C : List Int) (h : Nat), Run s l C h → h ≤ l.length := by
  induction l with
  | nil => intro C h hr; exact Nat.le_of_eq hr
  | cons p ps ih =>
    intro C h hr
    obtain ⟨C', h', h1, _, _, _, _, h2⟩ := hr
    have := ih C' h' h1
    simp only [List.length_cons]
    split at h2 <;> omega

/-! Sleator and Tarjan: what was used least lately, with more room, against any run with less -/
theorem take_erase_mem (L : List Int) : ∀ (m : Nat) (x q : Int), x ∈ L.take m → x ≠ q → x ∈ (L.erase q).take m := by
  induction L with
  | nil => intro m x q h _; simp at h
  | cons y ys ih =>
    intro m x q h hne
    cases m with
    | zero => simp at h
    | succ m =>
      rw [List.take_succ_cons] at h
      by_cases e : y = q
      · subst e
        rw [List.erase_cons_head]
        rcases List.mem_cons.mp h with h | h
        · exact absurd h hne
        · exact (List.take_prefix_take_left (Nat.le_succ m)).subset h
      · rw [List.erase_cons_tail (by simpa using e), List.take_succ_cons]
        rcases List.mem_cons.mp h with rfl | h
        · exact List.mem_cons_self
        · exact List.mem_cons_of_mem _ (ih m x q h hne)
theorem take_erase_in (L : List Int) : ∀ (m : Nat) (x q : Int), x ∈ L.take m → x ≠ q → q ∈ L.take m → x ∈ (L.erase q).take (m - 1) := by
  induction L with
  | nil => intro m x q h _ _; simp at h
  | cons y ys ih =>
    intro m x q h hne hq
    cases m with
    | zero => simp at h
    | succ m =>
      rw [List.take_succ_cons] at h hq
      by_cases e : y = q
      · subst e
        rw [List.erase_cons_head]
        rcases List.mem_cons.mp h with h | h
        · exact absurd h hne
        · exact h
      · rw [List.erase_cons_tail (by simpa using e)]
        have hq2 : q ∈ ys.take m := (List.mem_cons.mp hq).resolve_left (fun h => e h.symm)
        obtain ⟨m, rfl⟩ : ∃ n, m = n + 1 := ⟨m - 1, by have := List.length_pos_of_mem hq2; rw [List.length_take] at this; omega⟩
        rw [show m + 1 + 1 - 1 = m + 1 by omega, List.take_succ_cons]
        rcases List.mem_cons.mp h with rfl | h
        · exact List.mem_cons_self
        · have z := ih (m + 1) x q h hne hq2
          exact List.mem_cons_of_mem _ z
/-- what holds within a phase: f misses of the stack's, g of the run's; D: the pages of the phase, P: the last one ahead of it (or none); O0: what the run held then -/
structure Phase (k h : Nat) (L O D P O0 : List Int) (f g : Nat) : Prop where
  nd : (P ++ D).Nodup
  fd : f ≤ D.length
  pl : P.length ≤ 1
  st : (P ++ D).length ≤ k → ∀ x ∈ P ++ D, x ∈ L.take (P ++ D).length
  og : D.countP (fun x => decide (¬ x ∈ O0)) ≤ g
  os : ∀ q ∈ O, q ∈ O0 ∨ q ∈ P ++ D
  o0 : O0.Nodup ∧ O0.length ≤ h
  p0 : ∀ x ∈ P, x ∈ O0
  pe : P = [] → O0 = []
theorem Phase.much {k h : Nat} {L O D P O0 : List Int} {f g : Nat} (hh : 1 ≤ h) (I : Phase k h L O D P O0 f g) : D.length + 1 ≤ g + h := by
  have hsum : D.length = D.countP (fun x => decide (x ∈ O0)) + D.countP (fun x => decide (¬ x ∈ O0)) := by
    have z := List.length_eq_countP_add_countP (fun x => decide (x ∈ O0)) (l := D)
    simpa using z
  cases hP : P with
  | nil =>
    have h0 := I.pe hP
    have hz : D.countP (fun x => decide (x ∈ O0)) = 0 := by rw [h0]; simp
    have := I.og
    omega
  | cons p ps =>
    have hps : ps = [] := by have := I.pl; rw [hP] at this; simp only [List.length_cons] at this; exact List.eq_nil_of_length_eq_zero (by omega)
    subst hps
    have hnd := I.nd
    rw [hP] at hnd
    obtain ⟨h1, h2⟩ := List.nodup_cons.mp hnd
    have h3 : (p :: D.filter (fun x => decide (x ∈ O0))).length ≤ O0.length := by
      refine len_le_of_sub _ _ (List.nodup_cons.mpr ⟨fun hm => h1 (List.mem_filter.mp hm).1, h2.sublist List.filter_sublist⟩) (fun x hx => ?_)
      rcases List.mem_cons.mp hx with rfl | hx
      · exact I.p0 x (by rw [hP]; exact List.mem_cons_self)
      · exact of_decide_eq_true (List.mem_filter.mp hx).2
    have h4 := I.o0.2
    have h5 := I.og
    rw [List.length_cons, ← List.countP_eq_length_filter] at h3
    omega
/-- a step within a phase -/
theorem Phase.step {k h : Nat} {L O D P O0 : List Int} {f g : Nat} (hf : f < k) (I : Phase k h L O D P O0 f g) (q : Int) (O' : List Int) (hO : ∀ x ∈ O', x = q ∨ x ∈ O) :
    ∃ D', Phase k h (touchL L q k) O' D' P O0 (f + (if q ∈ L then 0 else 1)) (g + (if q ∈ O then 0 else 1)) := by
  by_cases hq : q ∈ P ++ D
  · refine ⟨D, I.nd, ?_, I.pl, fun hl x hx => ?_, Nat.le_trans I.og (Nat.le_add_right _ _), fun x hx => ?_, I.o0, I.p0, I.pe⟩
    · by_cases hl : (P ++ D).length ≤ k
      · rw [if_pos (List.mem_of_mem_take (I.st hl q hq))]; exact I.fd
      · have h1 := I.pl
        rw [List.length_append] at hl
        split <;> omega
    · have hqL := I.st hl q hq
      have hpos := List.length_pos_of_mem hq
      have hxL := I.st hl x hx
      unfold touchL
      rw [List.take_take, Nat.min_eq_left hl]
      obtain ⟨m, hm⟩ : ∃ m, (P ++ D).length = m + 1 := ⟨(P ++ D).length - 1, by omega⟩
      rw [hm, List.take_succ_cons]
      by_cases e : x = q
      · subst e; exact List.mem_cons_self
      · rw [hm] at hxL hqL
        exact List.mem_cons_of_mem _ (take_erase_in L (m + 1) x q hxL e hqL)
    · rcases hO x hx with rfl | h
      · exact Or.inr hq
      · exact I.os x h
  · have hqP : ¬ q ∈ P := fun hm => hq (List.mem_append.mpr (Or.inl hm))
    have hqD : ¬ q ∈ D := fun hm => hq (List.mem_append.mpr (Or.inr hm))
    have hlen : (P ++ (q :: D)).length = (P ++ D).length + 1 := by simp; omega
    have hmem : ∀ x, x ∈ P ++ (q :: D) ↔ x = q ∨ x ∈ P ++ D := fun x => by
      rw [List.mem_append, List.mem_cons, List.mem_append]
      exact ⟨fun h => h.elim (fun h => Or.inr (Or.inl h)) (fun h => h.elim Or.inl (fun h => Or.inr (Or.inr h))), fun h => h.elim (fun h => Or.inr (Or.inl h)) (fun h => h.elim Or.inl (fun h => Or.inr (Or.inr h)))⟩
    refine ⟨q :: D, ?_, ?_, I.pl, fun hl x hx => ?_, ?_, fun x hx => ?_, I.o0, I.p0, I.pe⟩
    · have h1 := List.nodup_append.mp I.nd
      refine List.nodup_append.mpr ⟨h1.1, List.nodup_cons.mpr ⟨hqD, h1.2.1⟩, fun a ha b hb => ?_⟩
      rcases List.mem_cons.mp hb with rfl | hb
      · exact fun e => hqP (e ▸ ha)
      · exact h1.2.2 a ha b hb
    · have := I.fd
      simp only [List.length_cons]
      split <;> omega
    · rw [hlen] at hl ⊢
      unfold touchL
      rw [List.take_take, Nat.min_eq_left hl, List.take_succ_cons]
      rcases (hmem x).mp hx with rfl | hx
      · exact List.mem_cons_self
      · exact List.mem_cons_of_mem _ (take_erase_mem L _ x q (I.st (by omega) x hx) (fun e => hq (e ▸ hx)))
    · rw [List.countP_cons]
      have h1 := I.og
      by_cases e : q ∈ O0
      · simp only [e, not_true_eq_false, decide_false, Bool.false_eq_true, if_false]
        split <;> omega
      · have h2 : ¬ q ∈ O := fun hm => (I.os q hm).elim e hq
        rw [if_neg h2]
        simp only [e, not_false_eq_true, decide_true, if_true]
        omega
    · rcases hO x hx with rfl | h
      · exact Or.inr ((hmem _).mpr (Or.inl rfl))
      · exact (I.os x h).imp id (fun h => (hmem x).mpr (Or.inr h))
theorem Phase.fresh (k h : Nat) (hk : 1 ≤ k) (L O : List Int) (p : Int) (hp : p ∈ L.take 1) (hO : O.Nodup) (hl : O.length ≤ h) (hpO : p ∈ O) : Phase k h L O [] [p] O 0 0 where
  nd := by simp
  fd := Nat.le_refl _
  pl := Nat.le_refl _
  st := fun _ x hx => by simp at hx; subst hx; exact hp
  og := Nat.le_refl _
  os := fun q hq => Or.inl hq
  o0 := ⟨hO, hl⟩
  p0 := fun x hx => by simp at hx; subst hx; exact hpO
  pe := fun h => by cases h
/-- the misses of the stack's, played -/
def lruMiss (k : Nat) : List Int → List Int → Nat
  | [], _ => 0
  | p :: ps, L => (if p ∈ L then 0 else 1) + lruMiss k ps (touchL L p k)
theorem mul_split (a b c : Nat) : a * (b + c) = a * b + a * c := Nat.mul_add a b c
theorem sleator (k h e : Nat) (hh : 1 ≤ h) (hk : k + 1 = h + e) (he : 1 ≤ e) (l : List Int) : ∀ (L O D P O0 : List Int) (f g hO : Nat), f < k → Phase k h L O D P O0 f g → Run h l O hO →
    e * (f + lruMiss k l L) ≤ k * (g + (l.length - hO)) + h * e := by
  induction l with
  | nil =>
    intro L O D P O0 f g hO hf I hr
    obtain rfl : hO = 0 := hr
    have h1 := I.much hh
    have h2 := I.fd
    show e * (f + 0) ≤ k * (g + (0 - 0)) + h * e
    rw [Nat.add_zero, Nat.sub_zero, Nat.add_zero]
    by_cases c : f ≤ h
    · have z : e * f ≤ e * h := Nat.mul_le_mul_left e c
      rw [Nat.mul_comm h e]; omega
    · obtain ⟨x, hx⟩ : ∃ x, f = h + x := ⟨f - h, by omega⟩
      have hg : x + 1 ≤ g := by omega
      have z1 : e * f = e * h + e * x := by rw [hx, Nat.mul_add]
      have z2 : k * (x + 1) ≤ k * g := Nat.mul_le_mul_left k hg
      have z3 : e * x ≤ k * (x + 1) := Nat.mul_le_mul (by omega) (by omega)
      rw [Nat.mul_comm h e]; omega
  | cons q qs ih =>
    intro L O D P O0 f g hO hf I hr
    obtain ⟨O', hO', hr', hnd, hlen, hqO, hsub, heq⟩ := hr
    obtain ⟨D', I'⟩ := I.step hf q O' hsub
    have hle := run_le h qs O' hO' hr'
    obtain ⟨f', hf'⟩ : ∃ f', f' = f + (if q ∈ L then 0 else 1) := ⟨_, rfl⟩
    obtain ⟨g', hg'⟩ : ∃ g', g' = g + (if q ∈ O then 0 else 1) := ⟨_, rfl⟩
    rw [← hf', ← hg'] at I'
    have e0 : lruMiss k (q :: qs) L = (if q ∈ L then 0 else 1) + lruMiss k qs (touchL L q k) := rfl
    have e1 : f + lruMiss k (q :: qs) L = f' + lruMiss k qs (touchL L q k) := by rw [e0]; omega
    have e2 : g + ((q :: qs).length - hO) = g' + (qs.length - hO') := by
      simp only [List.length_cons]
      by_cases c : q ∈ O
      · rw [if_pos c] at heq hg'; omega
      · rw [if_neg c] at heq hg'; omega
    rw [e1, e2]
    have hf2 : f' ≤ f + 1 := by split at hf' <;> omega
    by_cases c : f' < k
    · exact ih _ _ _ _ _ _ _ _ c I' hr'
    · have hfk : f' = k := by omega
      have h1 := I'.much hh
      have h2 := I'.fd
      have hge : e ≤ g' := by omega
      have hq1 : q ∈ (touchL L q k).take 1 := by
        unfold touchL
        obtain ⟨n, rfl⟩ : ∃ n, k = n + 1 := ⟨k - 1, by omega⟩
        rw [List.take_succ_cons, List.take_succ_cons]; exact List.mem_cons_self
      have z := ih (touchL L q k) O' [] [q] O' 0 0 hO' (by omega) (Phase.fresh k h (by omega) _ O' q hq1 hnd hlen hqO) hr'
      rw [Nat.zero_add, Nat.zero_add] at z
      rw [hfk, mul_split, mul_split]
      have z2 : e * k ≤ k * g' := by rw [Nat.mul_comm e k]; exact Nat.mul_le_mul_left k hge
      omega
theorem lru_hits (k : Nat) (l : List Int) : ∀ (L : List Int) (a : Int), (playL false k l L a).2 = a + ((l.length : Int) - (lruMiss k l L : Int)) := by
  induction l with
  | nil => intro L a; simp [playL, lruMiss]
  | cons p ps ih =>
    intro L a
    unfold playL lruMiss
    cases hc : L.contains p with
    | true =>
      have hm : p ∈ L := List.contains_iff_mem.mp hc
      rw [if_pos rfl, if_neg (by decide), ih, if_pos hm, List.length_cons]; omega
    | false =>
      have hm : ¬ p ∈ L := fun h => by rw [List.contains_iff_mem.mpr h] at hc; cases hc
      rw [if_neg (by decide), ih, if_neg hm, List.length_cons]; omega
theorem competitive (l : List Int) (k h hO : Nat) (hh : 1 ≤ h) (hhk : h ≤ k) (hr : Run h l [] hO) : (k - h + 1) * lruMiss k l [] ≤ k * (l.length - hO) + h * (k - h + 1) := by
  have I : Phase k h [] [] [] [] [] 0 0 := ⟨List.nodup_nil, Nat.le_refl _, by simp, fun _ x hx => by simp at hx, Nat.le_refl _, fun q hq => by simp at hq, ⟨List.nodup_nil, Nat.zero_le _⟩, fun x hx => by simp at hx, fun _ => rfl⟩
  have z := sleator k h (k - h + 1) hh (by omega) (by omega) l [] [] [] [] [] 0 0 hO (by omega) I hr
  rw [Nat.zero_add, Nat.zero_add] at z
  exact z

theorem numberOf_loop (c : List Int) (hc : ∀ x ∈ c, 0 ≤ x ∧ x ≤ 255) (hb : c.length < 4611686018427387904) (d : Nat) : ∀ (k n : Nat) (v : Int), n + d = c.length → d < k → 0 ≤ v → v < 1000003 →
    ∃ r, laws_numberOf.l0 k v c (c.length : Int) (n : Int) = some r ∧ 0 ≤ r ∧ r < 1000003 := by
  induction d with
  | zero =>
    intro k n v hn hk h0 h1
    obtain ⟨k, rfl⟩ : ∃ m, k = m + 1 := ⟨k - 1, by omega⟩
    exact ⟨v, by simp only [laws_numberOf.l0]; rw [if_neg (by omega)], h0, h1⟩
  | succ d ih =>
    intro k n v hn hk h0 h1
    obtain ⟨k, rfl⟩ : ∃ m, k = m + 1 := ⟨k - 1, by omega⟩
    have hr := rd_byte c hc (n : Int) (by omega) (by omega)
    have hw : wrap64 (wrap64 (31 * v) + wrap64 (rd c (n : Int))) = 31 * v + rd c (n : Int) := by
      rw [w64 (x := 31 * v) (by omega) (by omega), w64 (x := rd c (n : Int)) (by omega) (by omega), w64 (by omega) (by omega)]
    have ht := tmod_range (31 * v + rd c (n : Int)) 1000003 (by omega) (by omega)
    simp only [laws_numberOf.l0]
    rw [if_pos (by omega), if_pos (by omega), if_pos (by omega), hw, w64 (x := (n : Int) + 1) (by omega) (by omega), succ_cast]
    exact ih k (n + 1) _ (by omega) (by omega) ht.1 ht.2
theorem lruMiss_le (k : Nat) (l : List Int) : ∀ L, lruMiss k l L ≤ l.length := by
  induction l with
  | nil => intro L; exact Nat.le_refl _
  | cons p ps ih =>
    intro L
    have := ih (touchL L p k)
    unfold lruMiss
    simp only [List.length_cons]
    split <;> omega
set_option maxRecDepth 100000 in
theorem FnCompetitive : laws_FnCompetitive.Pure := by
  intro code more hm hs hw hm2 hs2 hw2
  have hc := bytes_of code hw
  have hc2 := bytes_of more hw2
  have hb : code.length < 4611686018427387904 := by omega
  have hb2 : more.length < 4611686018427387904 := by omega
  by_cases big : wrap64 ((code.length : Int) + (more.length : Int)) > 1048576
  · exact ⟨0, by unfold laws_FnCompetitive.f; rw [if_pos big]⟩
  obtain ⟨l, a1, s1, hl, ha0, ha1, hd⟩ := refs_ok code hc hb 0 0 (by omega) (by omega)
  obtain ⟨size, a2, s2, hsz, hz0, hz1, _⟩ := size_ok code hc hb a1 s1 ha0 (by omega)
  obtain ⟨m, hk⟩ : ∃ m, m = 100000 + more.length := ⟨_, rfl⟩
  have e0 : ∀ j, spec_DrawPlayLru.f (m + j) code = some (l, size) := fun j => by
    unfold spec_DrawPlayLru.f; rw [hd (m + j) (by omega), Option.bind_some, hsz, Option.bind_some]
  have e1 : ∀ j, impl_PlayLru.f (m + j) l size = some (lruV l size) := fun j => lru_impl l size (by omega) (m + j) (by omega)
  have e2 : ∀ j, spec_PlayLru.f (m + j) l size = some (lruV l size) := fun j => lru_spec l size (by omega) (m + j) (by omega)
  refine ⟨m + 5, ?_⟩
  unfold laws_FnCompetitive.f
  rw [if_neg big]
  simp only [e0, e1, e2, Option.bind_some, bne_self_eq_false, Bool.false_eq_true, if_false, laws_FnCompetitive.j0]
  by_cases g : goodB l = true ∧ 0 ≤ size ∧ size ≤ 40
  · have hl2 := goodB_len l g.1
    have v := lru_some l size g.1 g.2.1 g.2.2
    obtain ⟨sz, rfl⟩ := Int.eq_ofNat_of_zero_le g.2.1
    rw [Int.toNat_natCast] at v
    rw [v]
    simp only [if_true, laws_FnCompetitive.j1]
    by_cases h0 : sz = 0
    · subst h0; rfl
    · rw [if_neg (by simp; omega)]
      obtain ⟨num, hn1, hn2, hn3⟩ := numberOf_loop more hc2 hb2 more.length (m + 3) 0 0 (by omega) (by omega) (by omega) (by omega)
      have hn : laws_numberOf.f (m + 3) more = some num := hn1
      have ht := tmod_range num (sz : Int) hn2 (by omega)
      obtain ⟨x, hx⟩ := Int.eq_ofNat_of_zero_le ht.1
      rw [hn, Option.bind_some, if_neg (by omega), hx, w64 (x := 1 + (x : Int)) (by omega) (by omega), show (1 : Int) + (x : Int) = ((x + 1 : Nat) : Int) by omega, implPlayOpt_f l (x + 1) (by omega) g.1 (m + 3) (by omega), Option.bind_some]
      simp only [if_true]
      obtain ⟨hO, hr, hO2⟩ := playM_run (optM l) (x + 1) l.length (by omega) _ (opt_rules l (x + 1)) l 0 [] 0 () trivial List.Pairwise.nil (Nat.zero_le _) (by omega)
      rw [Nat.zero_add] at hO2
      have hle := run_le _ _ _ _ hr
      have hmiss := lruMiss_le sz l []
      have z := competitive l sz (x + 1) hO (by omega) (by omega) hr
      have z1 : (sz - (x + 1) + 1) * lruMiss sz l [] ≤ 40 * 200 := Nat.mul_le_mul (by omega) (by omega)
      have z2 : sz * (l.length - hO) ≤ 40 * 200 := Nat.mul_le_mul (by omega) (by omega)
      have z3 : (x + 1) * (sz - (x + 1) + 1) ≤ 40 * 40 := Nat.mul_le_mul (by omega) (by omega)
      have q1 : wrap64 (wrap64 ((sz : Int) - ((x + 1 : Nat) : Int)) + 1) = ((sz - (x + 1) + 1 : Nat) : Int) := by
        rw [w64 (x := (sz : Int) - ((x + 1 : Nat) : Int)) (by omega) (by omega), w64 (by omega) (by omega)]; omega
      have q2 : wrap64 ((l.length : Int) - (playL false sz l [] 0).2) = ((lruMiss sz l [] : Nat) : Int) := by
        rw [lru_hits, w64 (by omega) (by omega)]; omega
      have q3 : wrap64 ((l.length : Int) - ((playM (optM l) (x + 1) l 0 [] 0 ()).2 : Int)) = ((l.length - hO : Nat) : Int) := by
        rw [hO2, w64 (by omega) (by omega)]; omega
      rw [q1, q2, q3, ← Int.natCast_mul, ← Int.natCast_mul, ← Int.natCast_mul]
      generalize (sz - (x + 1) + 1) * lruMiss sz l [] = A at *
      generalize sz * (l.length - hO) = B at *
      generalize (x + 1) * (sz - (x + 1) + 1) = C at *
      rw [w64 (x := (A : Int)) (by omega) (by omega), w64 (x := (B : Int)) (by omega) (by omega), w64 (x := (C : Int)) (by omega) (by omega), w64 (x := (B : Int) + (C : Int)) (by omega) (by omega)]
      exact congrArg some (decide_eq_true (by omega))
  · have v : lruV l size = ([], 0, false) := by
      unfold lruV
      rw [if_neg (fun h => g (by simpa using h))]
    rw [v]
    simp only [Bool.false_eq_true, if_false, laws_FnCompetitive.j1, if_true]

end Go.Proofs.Ytgpimekdfnpffaa.Pure
