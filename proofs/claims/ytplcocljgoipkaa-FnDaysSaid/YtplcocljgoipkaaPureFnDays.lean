/- FnDays: the law of days returns true at every two codes: a date comes back from its seconds, the next day is a day more, the days of the week follow one another. Conditions: none beyond the sizes that a Go value has. -/
import Derived.Test.YtplcocljgoipkaaPFnDaysx7
import Derived.Test.YtplcocljgoipkaaPFnDaysx8
import Derived.Test.YtplcocljgoipkaaPFnDaysx9
import Derived.Lib.VarintBits
set_option linter.unusedVariables false
set_option linter.unusedSimpArgs false
namespace Go.Proofs.Ytplcocljgoipkaa.Pure
open Go.RowKit Go.Proofs.Ytplcocljgoipkaa.PFnDays Go.Proofs.YtplcocljgoipkaaW.PrintWords Go.Proofs.YtplcocljgoipkaaW.PrintLast

theorem bytes_of (l : List Int) (h : ∀ x ∈ l, (Lit.int .u8 x).wf = true) : ∀ x ∈ l, 0 ≤ x ∧ x ≤ 255 := by
  intro x hx
  have := h x hx
  simp [Lit.wf, IntKind.min, IntKind.max, IntKind.bits, IntKind.signed] at this
  omega

/-! Whole numbers and rows of them -/
theorem w64 {x : Int} (h : -9223372036854775808 ≤ x) (h2 : x < 9223372036854775808) : wrap64 x = x := by unfold wrap64; omega
theorem rd_nat (l : List Int) (n : Nat) (h : n < l.length) : rd l (n : Int) = l[n] := by
  unfold rd; simp [List.getD_eq_getElem?_getD, h]
theorem succ_cast (n : Nat) : ((n : Int) + 1) = ((n + 1 : Nat) : Int) := by omega

/-! The calendar, in plain whole numbers -/
def leapB (y : Int) : Bool := decide (y % 4 = 0) && (!decide (y % 100 = 0) || decide (y % 400 = 0))
def ahead (y : Int) : Int := 365 * (y - 1) + (y - 1) / 4 - (y - 1) / 100 + (y - 1) / 400 - 719162
def leapN (y : Int) : Int := if leapB y = true then 1 else 0
theorem leapB_iff (y : Int) : leapB y = true ↔ (y % 4 = 0 ∧ (¬ y % 100 = 0 ∨ y % 400 = 0)) := by unfold leapB; simp
theorem leapN_range (y : Int) : 0 ≤ leapN y ∧ leapN y ≤ 1 := by unfold leapN; split <;> omega
theorem ahead_step (y : Int) (h : 1 ≤ y) : ahead (y + 1) = ahead y + 365 + leapN y := by
  unfold ahead leapN
  by_cases c : leapB y = true
  · rw [if_pos c]
    rw [leapB_iff] at c
    omega
  · rw [if_neg c]
    rw [leapB_iff] at c
    omega
theorem ahead_mono (n : Nat) : ∀ y : Int, 1 ≤ y → ahead y + 365 * n ≤ ahead (y + n) ∧ ahead (y + n) ≤ ahead y + 366 * n := by
  induction n with
  | zero => intro y _; simp
  | succ n ih =>
    intro y hy
    have h1 := ih y hy
    have h2 := ahead_step (y + n) (by omega)
    have h3 := leapN_range (y + n)
    rw [show y + ((n + 1 : Nat) : Int) = y + n + 1 by omega]
    omega
theorem ahead_1970 : ahead 1970 = 0 := by decide
theorem ahead_10000 : ahead 10000 = 2932897 := by decide
theorem year_exists (D : Int) (h0 : 0 ≤ D) (n : Nat) : D < ahead (1970 + n) → ∃ Y : Int, 1970 ≤ Y ∧ Y < 1970 + n ∧ ahead Y ≤ D ∧ D < ahead (Y + 1) := by
  induction n with
  | zero => intro h; have := ahead_1970; simp at h; omega
  | succ n ih =>
    intro h
    by_cases c : D < ahead (1970 + n)
    · obtain ⟨Y, h1, h2, h3⟩ := ih c
      exact ⟨Y, h1, by omega, h3⟩
    · exact ⟨1970 + n, by omega, by omega, by omega, by rw [show (1970 : Int) + n + 1 = 1970 + ((n + 1 : Nat) : Int) by omega]; exact h⟩
def mlong (y m : Int) : Int := if m = 2 then 28 + leapN y else if m = 4 ∨ m = 6 ∨ m = 9 ∨ m = 11 then 30 else 31
theorem mlong_range (y m : Int) : 28 ≤ mlong y m ∧ mlong y m ≤ 31 := by
  have := leapN_range y
  unfold mlong
  split
  · omega
  · split <;> omega
def mpre (y : Int) : Nat → Int
  | 0 => 0
  | n + 1 => mpre y n + mlong y ((n + 1 : Nat) : Int)
theorem mpre_mono (y : Int) (d : Nat) : ∀ n : Nat, mpre y n ≤ mpre y (n + d) := by
  induction d with
  | zero => intro n; exact Int.le_refl _
  | succ d ih =>
    intro n
    have h1 := ih n
    have h2 := mlong_range y ((n + d + 1 : Nat) : Int)
    rw [← Nat.add_assoc]
    simp only [mpre]
    omega
theorem mpre_nonneg (y : Int) (n : Nat) : 0 ≤ mpre y n := by
  have := mpre_mono y n 0
  simpa [mpre] using this
theorem mpre_12 (y : Int) : mpre y 12 = 365 + leapN y := by
  simp only [mpre]
  have e : mlong y ((1 : Nat) : Int) = 31 ∧ mlong y ((2 : Nat) : Int) = 28 + leapN y ∧ mlong y ((3 : Nat) : Int) = 31 ∧ mlong y ((4 : Nat) : Int) = 30 ∧ mlong y ((5 : Nat) : Int) = 31 ∧ mlong y ((6 : Nat) : Int) = 30 ∧ mlong y ((7 : Nat) : Int) = 31 ∧ mlong y ((8 : Nat) : Int) = 31 ∧ mlong y ((9 : Nat) : Int) = 30 ∧ mlong y ((10 : Nat) : Int) = 31 ∧ mlong y ((11 : Nat) : Int) = 30 ∧ mlong y ((12 : Nat) : Int) = 31 := ⟨rfl, rfl, rfl, rfl, rfl, rfl, rfl, rfl, rfl, rfl, rfl, rfl⟩
  obtain ⟨e1, e2, e3, e4, e5, e6, e7, e8, e9, e10, e11, e12⟩ := e
  simp only [Nat.zero_add, Nat.reduceAdd] at *
  omega
theorem month_exists (y L : Int) (h0 : 0 ≤ L) (n : Nat) : L < mpre y n → ∃ M : Nat, M < n ∧ mpre y M ≤ L ∧ L < mpre y (M + 1) := by
  induction n with
  | zero => intro h; simp [mpre] at h; omega
  | succ n ih =>
    intro h
    by_cases c : L < mpre y n
    · obtain ⟨M, h1, h2⟩ := ih c
      exact ⟨M, by omega, h2⟩
    · exact ⟨n, by omega, by omega, h⟩
/-- the days of a date, and the date that lies so many days ahead -/
structure AtDay (D : Int) (Y : Int) (M : Nat) (dd : Int) : Prop where
  year : 1970 ≤ Y ∧ Y ≤ 9999
  ydays : ahead Y ≤ D ∧ D < ahead (Y + 1)
  month : M < 12
  mdays : mpre Y M ≤ D - ahead Y ∧ D - ahead Y < mpre Y (M + 1)
  day : dd = D - ahead Y - mpre Y M + 1
theorem atDay_exists (D : Int) (h0 : 0 ≤ D) (h1 : D ≤ 2932896) : ∃ Y M dd, AtDay D Y M dd := by
  obtain ⟨Y, y1, y2, y3, y4⟩ := year_exists D h0 8030 (by have := ahead_10000; simp; omega)
  have hs := ahead_step Y (by omega)
  have hm := mpre_12 Y
  obtain ⟨M, m1, m2, m3⟩ := month_exists Y (D - ahead Y) (by omega) 12 (by omega)
  exact ⟨Y, M, _, ⟨by omega, by omega⟩, ⟨y3, y4⟩, m1, ⟨m2, m3⟩, rfl⟩
theorem atDay_of (Y : Int) (M : Nat) (dd : Int) (hY : 1970 ≤ Y ∧ Y ≤ 9999) (hM : M < 12) (hd : 1 ≤ dd ∧ dd ≤ mlong Y ((M + 1 : Nat) : Int)) : AtDay (ahead Y + mpre Y M + dd - 1) Y M dd := by
  have h0 := mpre_nonneg Y M
  have e : mpre Y (M + 1) = mpre Y M + mlong Y ((M + 1 : Nat) : Int) := rfl
  have h1 := mpre_mono Y (12 - (M + 1)) (M + 1)
  rw [show M + 1 + (12 - (M + 1)) = 12 by omega, mpre_12] at h1
  have hs := ahead_step Y (by omega)
  exact ⟨hY, ⟨by omega, by omega⟩, hM, ⟨by omega, by omega⟩, by omega⟩
theorem atDay_start (D : Int) (Y : Int) (M : Nat) (dd : Int) (h : AtDay D Y M dd) : 0 ≤ D ∧ D ≤ 2932896 ∧ 1970 + D / 366 ≤ Y ∧ Y ≤ 1970 + D / 366 + 40 ∧ 0 ≤ D / 366 := by
  obtain ⟨n, hn⟩ : ∃ n : Nat, Y = 1970 + n := ⟨(Y - 1970).toNat, by have := h.year; omega⟩
  have h1 := ahead_mono n 1970 (by omega)
  have h2 := ahead_mono (n + 1) 1970 (by omega)
  obtain ⟨q, hq⟩ : ∃ q : Nat, 10000 = Y + 1 + q := ⟨(9999 - Y).toNat, by have := h.year; omega⟩
  have h3 := ahead_mono q (Y + 1) (by have := h.year; omega)
  rw [← hq, ahead_10000] at h3
  have h4 := ahead_1970
  have h5 := h.ydays
  have h6 := h.year
  rw [show (1970 : Int) + ((n + 1 : Nat) : Int) = Y + 1 by omega] at h2
  rw [← hn] at h1
  have h7 : 365 * (n : Int) ≤ D := by omega
  have h8 : D < 366 * ((n : Int) + 1) := by omega
  refine ⟨by omega, by omega, by omega, ?_, by omega⟩
  have h9 : D / 366 * 366 + 366 > D := by omega
  have h10 : (n : Int) ≤ 8029 := by omega
  omega

/-! Dates, in the program and in the reference -/
theorem tmod_nn (x n : Int) (h : 0 ≤ x) : Int.tmod x n = x % n := Int.tmod_eq_emod_of_nonneg h
theorem tdiv_nn (x n : Int) (h : 0 ≤ x) : Int.tdiv x n = x / n := Int.tdiv_eq_ediv_of_nonneg h
theorem within_f (x a b : Int) : impl_within.f x a b = some (decide (a ≤ x ∧ x ≤ b)) := by
  unfold impl_within.f
  by_cases c : a ≤ x
  · rw [if_pos c]; simp [c]
  · rw [if_neg c]; simp [c]
theorem l1In_f (x a b : Int) : spec_l1In.f x a b = some (decide (a ≤ x ∧ x ≤ b)) := by
  unfold spec_l1In.f
  by_cases c : x ≥ a
  · rw [if_pos c]; simp [show a ≤ x from c]
  · rw [if_neg c]; simp [show ¬ a ≤ x from c]
theorem isLeap_f (y : Int) (h : 0 ≤ y) : impl_isLeap.f y = some (leapB y) := by
  unfold impl_isLeap.f leapB
  rw [tmod_nn _ _ h, tmod_nn _ _ h, tmod_nn _ _ h]
  by_cases c : y % 4 = 0
  · rw [if_pos c]
    by_cases c2 : y % 100 = 0
    · rw [if_pos c2]; simp [c, c2]
      by_cases c3 : y % 400 = 0 <;> simp [c3]
    · rw [if_neg c2]; simp [c, c2]
  · rw [if_neg c]; simp [c]
theorem l2Leap_f (y : Int) (h : 0 ≤ y) : spec_l2Leap.f y = some (leapB y) := isLeap_f y h
theorem monthDays_f (y m : Int) (h : 0 ≤ y) : impl_monthDays.f y m = some (mlong y m) := by
  unfold impl_monthDays.f mlong
  by_cases c2 : m = 2
  · rw [if_pos c2, if_pos c2, isLeap_f y h, Option.bind_some]
    unfold leapN
    by_cases c : leapB y = true
    · rw [if_pos c, if_pos c]; rfl
    · rw [if_neg c, if_neg c]; rfl
  · rw [if_neg c2, if_neg c2]
    by_cases c4 : m = 4
    · rw [if_pos c4, if_pos (by omega)]
    · rw [if_neg c4]
      by_cases c6 : m = 6
      · rw [if_pos c6, if_pos (by omega)]
      · rw [if_neg c6]
        by_cases c9 : m = 9
        · rw [if_pos c9, if_pos (by omega)]
        · rw [if_neg c9]
          by_cases c11 : m = 11
          · rw [if_pos c11, if_pos (by omega)]
          · rw [if_neg c11, if_neg (by omega)]
theorem l2Long_f (y m : Int) (h : 0 ≤ y) : spec_l2Long.f y m = some (mlong y m) := monthDays_f y m h
theorem yearDays_f (y : Int) (h : 1970 ≤ y) (h2 : y ≤ 10000) : impl_yearDays.f y = some (ahead y) := by
  unfold impl_yearDays.f impl_yearDays_1.f
  rw [w64 (x := y - 1) (by omega) (by omega), Option.bind_some, Option.bind_some]
  congr 1
  rw [tdiv_nn _ _ (by omega), tdiv_nn _ _ (by omega), tdiv_nn _ _ (by omega)]
  unfold ahead
  rw [show wrap64 (wrap64 (wrap64 (Int.tdiv 1969 4) - wrap64 (Int.tdiv 1969 100)) + wrap64 (Int.tdiv 1969 400)) = 477 by decide +kernel]
  rw [w64 (x := (y - 1) / 4) (by omega) (by omega), w64 (x := (y - 1) / 100) (by omega) (by omega), w64 (x := (y - 1) / 400) (by omega) (by omega), w64 (x := (y - 1) / 4 - (y - 1) / 100) (by omega) (by omega), w64 (x := (y - 1) / 4 - (y - 1) / 100 + (y - 1) / 400) (by omega) (by omega), w64 (x := y - 1970) (by omega) (by omega), w64 (x := 365 * (y - 1970)) (by omega) (by omega), w64 (x := 365 * (y - 1970) + ((y - 1) / 4 - (y - 1) / 100 + (y - 1) / 400)) (by omega) (by omega), w64 (by omega) (by omega)]
  omega
theorem l2Ahead_f (y : Int) (h : 1970 ≤ y) (h2 : y ≤ 10000) : spec_l2Ahead.f y = some (ahead y) := by
  unfold spec_l2Ahead.f
  congr 1
  rw [w64 (x := y - 1) (by omega) (by omega), tdiv_nn _ _ (by omega), tdiv_nn _ _ (by omega), tdiv_nn _ _ (by omega)]
  unfold ahead
  rw [w64 (x := 365 * (y - 1)) (by omega) (by omega), w64 (x := (y - 1) / 4) (by omega) (by omega), w64 (x := (y - 1) / 100) (by omega) (by omega), w64 (x := (y - 1) / 400) (by omega) (by omega), w64 (x := 365 * (y - 1) + (y - 1) / 4) (by omega) (by omega), w64 (x := 365 * (y - 1) + (y - 1) / 4 - (y - 1) / 100) (by omega) (by omega), w64 (x := 365 * (y - 1) + (y - 1) / 4 - (y - 1) / 100 + (y - 1) / 400) (by omega) (by omega), w64 (by omega) (by omega)]
theorem ahead_range (y : Int) (h : 1970 ≤ y) (h2 : y ≤ 10000) : 0 ≤ ahead y ∧ ahead y ≤ 2932897 := by
  obtain ⟨n, hn⟩ : ∃ n : Nat, y = 1970 + n := ⟨(y - 1970).toNat, by omega⟩
  obtain ⟨q, hq⟩ : ∃ q : Nat, 10000 = y + q := ⟨(10000 - y).toNat, by omega⟩
  have h1 := ahead_mono n 1970 (by omega)
  have h3 := ahead_mono q y (by omega)
  rw [← hq, ahead_10000] at h3
  rw [← hn, ahead_1970] at h1
  omega
theorem mpre_range (y : Int) (n : Nat) (hn : n ≤ 12) : 0 ≤ mpre y n ∧ mpre y n ≤ 366 := by
  have h0 := mpre_nonneg y n
  have h1 := mpre_mono y (12 - n) n
  rw [show n + (12 - n) = 12 by omega, mpre_12] at h1
  have := leapN_range y
  omega
theorem daysOf_loop (y : Int) (hy : 0 ≤ y) (M : Nat) (hM : M < 12) (d : Nat) : ∀ (k n : Nat) (s : Int), n + d = M → -1000000000 ≤ s → s + (mpre y M - mpre y n) ≤ 1000000000 → d < k → impl_daysOf.l0 k y ((M + 1 : Nat) : Int) s ((n + 1 : Nat) : Int) = some (s + (mpre y M - mpre y n)) := by
  induction d with
  | zero =>
    intro k n s hn hs hs2 hk
    obtain ⟨k, rfl⟩ : ∃ m, k = m + 1 := ⟨k - 1, by omega⟩
    simp only [impl_daysOf.l0]
    rw [if_neg (by omega), show n = M by omega]; congr 1; omega
  | succ d ih =>
    intro k n s hn hs hs2 hk
    obtain ⟨k, rfl⟩ : ∃ m, k = m + 1 := ⟨k - 1, by omega⟩
    have e : mpre y (n + 1) = mpre y n + mlong y ((n + 1 : Nat) : Int) := rfl
    have hr := mlong_range y ((n + 1 : Nat) : Int)
    have r1 := mpre_range y M (by omega)
    have r2 := mpre_range y n (by omega)
    simp only [impl_daysOf.l0]
    rw [if_pos (by omega), monthDays_f y _ hy, Option.bind_some, w64 (x := s + mlong y ((n + 1 : Nat) : Int)) (by omega) (by omega), w64 (x := ((n + 1 : Nat) : Int) + 1) (by omega) (by omega), show ((n + 1 : Nat) : Int) + 1 = ((n + 1 + 1 : Nat) : Int) by omega, ih k (n + 1) _ (by omega) (by omega) (by omega) (by omega)]
    congr 1; omega
theorem l2Days_loop (y : Int) (hy : 0 ≤ y) (M : Nat) (hM : M < 12) (dd : Int) (hd : 1 ≤ dd ∧ dd ≤ 31) (d : Nat) : ∀ (k n : Nat) (s : Int), n + d = M → -1000000000 ≤ s → s + (mpre y M - mpre y n) ≤ 1000000000 → d < k → spec_l2Days.l0 k y ((M + 1 : Nat) : Int) dd s ((n + 1 : Nat) : Int) = some (s + (mpre y M - mpre y n) + dd - 1) := by
  induction d with
  | zero =>
    intro k n s hn hs hs2 hk
    obtain ⟨k, rfl⟩ : ∃ m, k = m + 1 := ⟨k - 1, by omega⟩
    simp only [spec_l2Days.l0]
    rw [if_neg (by omega), show n = M by omega] at *
    rw [w64 (x := s + dd) (by omega) (by omega), w64 (x := s + dd - 1) (by omega) (by omega)]; congr 1; omega
  | succ d ih =>
    intro k n s hn hs hs2 hk
    obtain ⟨k, rfl⟩ : ∃ m, k = m + 1 := ⟨k - 1, by omega⟩
    have e : mpre y (n + 1) = mpre y n + mlong y ((n + 1 : Nat) : Int) := rfl
    have hr := mlong_range y ((n + 1 : Nat) : Int)
    have r1 := mpre_range y M (by omega)
    have r2 := mpre_range y n (by omega)
    simp only [spec_l2Days.l0]
    rw [if_pos (by omega), l2Long_f y _ hy, Option.bind_some, w64 (x := s + mlong y ((n + 1 : Nat) : Int)) (by omega) (by omega), w64 (x := ((n + 1 : Nat) : Int) + 1) (by omega) (by omega), show ((n + 1 : Nat) : Int) + 1 = ((n + 1 + 1 : Nat) : Int) by omega, ih k (n + 1) _ (by omega) (by omega) (by omega) (by omega)]
    congr 1; omega
def gdB (y m d h mi s : Int) : Bool := decide (1970 ≤ y ∧ y ≤ 9999) && (decide (1 ≤ m ∧ m ≤ 12) && (decide (1 ≤ d ∧ d ≤ mlong y m) && (decide (0 ≤ h ∧ h ≤ 23) && (decide (0 ≤ mi ∧ mi ≤ 59) && decide (0 ≤ s ∧ s ≤ 59)))))
theorem goodDate_f (y m d h mi s : Int) : impl_GoodDate.f y m d h mi s = some (gdB y m d h mi s) := by
  unfold impl_GoodDate.f impl_isYear.f gdB
  simp only [within_f, Option.bind_some]
  by_cases c1 : 1970 ≤ y ∧ y ≤ 9999
  · rw [decide_eq_true c1, if_pos rfl, Bool.true_and, monthDays_f y m (by omega)]
    simp only [within_f, Option.bind_some]
    cases decide (1 ≤ m ∧ m ≤ 12) <;> cases decide (1 ≤ d ∧ d ≤ mlong y m) <;> cases decide (0 ≤ h ∧ h ≤ 23) <;> cases decide (0 ≤ mi ∧ mi ≤ 59) <;> simp
  · rw [decide_eq_false c1, if_neg (by decide), Bool.false_and]
theorem specGoodDate_f (y m d h mi s : Int) : spec_GoodDate.f y m d h mi s = some (gdB y m d h mi s) := by
  unfold spec_GoodDate.f spec_l2Year.f gdB
  simp only [l1In_f, Option.bind_some]
  by_cases c1 : 1970 ≤ y ∧ y ≤ 9999
  · rw [decide_eq_true c1, if_pos rfl, Bool.true_and, l2Long_f y m (by omega)]
    simp only [l1In_f, Option.bind_some]
    cases decide (1 ≤ m ∧ m ≤ 12) <;> cases decide (1 ≤ d ∧ d ≤ mlong y m) <;> cases decide (0 ≤ h ∧ h ≤ 23) <;> cases decide (0 ≤ mi ∧ mi ≤ 59) <;> simp
  · rw [decide_eq_false c1, if_neg (by decide), Bool.false_and]
theorem daysOf_f (y : Int) (M : Nat) (dd : Int) (hy : 1970 ≤ y ∧ y ≤ 9999) (hM : M < 12) (hd : 1 ≤ dd ∧ dd ≤ 31) (k : Nat) (hk : 20 < k) : impl_daysOf.f k y ((M + 1 : Nat) : Int) dd = some (ahead y + mpre y M + dd - 1) := by
  have ha := ahead_range y hy.1 (by omega)
  have hm := mpre_range y M (by omega)
  unfold impl_daysOf.f
  rw [yearDays_f y hy.1 (by omega), Option.bind_some, w64 (x := ahead y + dd) (by omega) (by omega), w64 (x := ahead y + dd - 1) (by omega) (by omega)]
  have h := daysOf_loop y (by omega) M hM M k 0 (ahead y + dd - 1) (by omega) (by omega) (by simp only [mpre]; omega) (by omega)
  refine h.trans ?_
  congr 1
  simp only [mpre]; omega
theorem l2Days_f (y : Int) (M : Nat) (dd : Int) (hy : 1970 ≤ y ∧ y ≤ 9999) (hM : M < 12) (hd : 1 ≤ dd ∧ dd ≤ 31) (k : Nat) (hk : 20 < k) : spec_l2Days.f k y ((M + 1 : Nat) : Int) dd = some (ahead y + mpre y M + dd - 1) := by
  have ha := ahead_range y hy.1 (by omega)
  have hm := mpre_range y M (by omega)
  unfold spec_l2Days.f
  rw [l2Ahead_f y hy.1 (by omega), Option.bind_some]
  have h := l2Days_loop y (by omega) M hM dd hd M k 0 (ahead y) (by omega) (by omega) (by simp only [mpre]; omega) (by omega)
  refine h.trans ?_
  congr 1
  simp only [mpre]; omega

/-! Seconds, and the date at them -/
theorem mlong_le (y m : Int) : mlong y m ≤ 31 := (mlong_range y m).2
def secR (y m d h mi s : Int) : Int × Bool := if gdB y m d h mi s = true then (86400 * (ahead y + mpre y (m - 1).toNat + d - 1) + 3600 * h + 60 * mi + s, true) else (0, false)
structure Gd (y m d h mi s : Int) : Prop where
  yy : 1970 ≤ y ∧ y ≤ 9999
  mm : 1 ≤ m ∧ m ≤ 12
  dd : 1 ≤ d ∧ d ≤ mlong y m
  hh : 0 ≤ h ∧ h ≤ 23
  mn : 0 ≤ mi ∧ mi ≤ 59
  ss : 0 ≤ s ∧ s ≤ 59
theorem gd_of (y m d h mi s : Int) (g : gdB y m d h mi s = true) : Gd y m d h mi s := by
  unfold gdB at g
  simp only [Bool.and_eq_true, decide_eq_true_eq] at g
  exact ⟨g.1, g.2.1, g.2.2.1, g.2.2.2.1, g.2.2.2.2.1, g.2.2.2.2.2⟩
theorem gd_mk (y m d h mi s : Int) (g : Gd y m d h mi s) : gdB y m d h mi s = true := by
  unfold gdB
  simp only [Bool.and_eq_true, decide_eq_true_eq]
  exact ⟨g.yy, g.mm, g.dd, g.hh, g.mn, g.ss⟩
theorem gd_days (y m d h mi s : Int) (g : Gd y m d h mi s) : ∃ M : Nat, M < 12 ∧ m = ((M + 1 : Nat) : Int) ∧ (m - 1).toNat = M ∧ 1 ≤ d ∧ d ≤ 31 ∧ 0 ≤ ahead y + mpre y M + d - 1 ∧ ahead y + mpre y M + d - 1 ≤ 2933400 := by
  have h1 := g.mm
  have h2 := g.dd
  have h3 := mlong_le y m
  refine ⟨(m - 1).toNat, by omega, by omega, rfl, by omega, by omega, ?_, ?_⟩
  · have := (ahead_range y g.yy.1 (by have := g.yy; omega)).1
    have := (mpre_range y (m - 1).toNat (by omega)).1
    omega
  · have := (ahead_range y g.yy.1 (by have := g.yy; omega)).2
    have := (mpre_range y (m - 1).toNat (by omega)).2
    omega
theorem secondsOf_f (y m d h mi s : Int) (k : Nat) (hk : 20 < k) : impl_SecondsOf.f k y m d h mi s = some (secR y m d h mi s) := by
  unfold impl_SecondsOf.f secR
  rw [goodDate_f, Option.bind_some]
  by_cases c : gdB y m d h mi s = true
  · have g := gd_of y m d h mi s c
    obtain ⟨M, hM, e1, e2, hd1, hd2, hD0, hD1⟩ := gd_days y m d h mi s g
    have hh := g.hh
    have hmn := g.mn
    have hss := g.ss
    rw [if_pos c, if_pos c, e2, e1, daysOf_f y M d g.yy hM ⟨hd1, hd2⟩ k hk, Option.bind_some]
    generalize ahead y + mpre y M + d - 1 = D at hD0 hD1
    rw [w64 (x := 86400 * D) (by omega) (by omega), w64 (x := 3600 * h) (by omega) (by omega), w64 (x := 86400 * D + 3600 * h) (by omega) (by omega), w64 (x := 60 * mi) (by omega) (by omega), w64 (x := 86400 * D + 3600 * h + 60 * mi) (by omega) (by omega), w64 (by omega) (by omega)]
  · rw [if_neg c, if_neg c]
theorem specSecondsOf_f (y m d h mi s : Int) (k : Nat) (hk : 20 < k) : spec_SecondsOf.f k y m d h mi s = some (secR y m d h mi s) := by
  unfold spec_SecondsOf.f spec_l2Seconds.f secR
  rw [specGoodDate_f, Option.bind_some]
  by_cases c : gdB y m d h mi s = true
  · have g := gd_of y m d h mi s c
    obtain ⟨M, hM, e1, e2, hd1, hd2, hD0, hD1⟩ := gd_days y m d h mi s g
    have hh := g.hh
    have hmn := g.mn
    have hss := g.ss
    rw [if_pos c, if_pos c, e2, e1, l2Days_f y M d g.yy hM ⟨hd1, hd2⟩ k hk, Option.bind_some, Option.bind_some]
    generalize ahead y + mpre y M + d - 1 = D at hD0 hD1
    rw [w64 (x := 86400 * D) (by omega) (by omega), w64 (x := 3600 * h) (by omega) (by omega), w64 (x := 86400 * D + 3600 * h) (by omega) (by omega), w64 (x := 60 * mi) (by omega) (by omega), w64 (x := 86400 * D + 3600 * h + 60 * mi) (by omega) (by omega), w64 (by omega) (by omega)]
  · rw [if_neg c, if_neg c]
abbrev Seven := Int × Int × Int × Int × Int × Int × Bool
theorem dateAt_months (D : Int) (Y : Int) (M : Nat) (dd : Int) (A : AtDay D Y M dd) (rest : Int) (hr : 0 ≤ rest ∧ rest < 86400) (d : Nat) : ∀ (k n : Nat), n + d = M → d < k →
    impl_DateAt.l1 k (D - ahead Y - mpre Y n) rest Y ((n + 1 : Nat) : Int) = some (Y, ((M + 1 : Nat) : Int), dd, rest / 3600, rest / 60 % 60, rest % 60, true) := by
  have hb := (atDay_start D Y M dd A)
  have hY := A.year
  have ha := ahead_range Y hY.1 (by omega)
  induction d with
  | zero =>
    intro k n hn hk
    obtain ⟨k, rfl⟩ : ∃ m, k = m + 1 := ⟨k - 1, by omega⟩
    obtain rfl : n = M := by omega
    have e : mpre Y (n + 1) = mpre Y n + mlong Y ((n + 1 : Nat) : Int) := rfl
    have h2 := A.mdays
    have hd := A.day
    have hm := mpre_range Y n (by have := A.month; omega)
    simp only [impl_DateAt.l1]
    rw [monthDays_f Y _ (by omega), Option.bind_some, if_neg (by omega), w64 (x := D - ahead Y - mpre Y n + 1) (by omega) (by omega), tdiv_nn _ _ hr.1, tdiv_nn _ _ hr.1, w64 (x := rest / 3600) (by omega) (by omega), w64 (x := rest / 60) (by omega) (by omega), tmod_nn _ _ (by omega), tmod_nn _ _ hr.1, hd]
  | succ d ih =>
    intro k n hn hk
    obtain ⟨k, rfl⟩ : ∃ m, k = m + 1 := ⟨k - 1, by omega⟩
    have e : mpre Y (n + 1) = mpre Y n + mlong Y ((n + 1 : Nat) : Int) := rfl
    have h2 := A.mdays
    have h3 := mpre_mono Y d (n + 1)
    have hM := A.month
    rw [show n + 1 + d = M by omega] at h3
    have hm := mpre_range Y n (by have := A.month; omega)
    have hm2 := mpre_range Y (n + 1) (by have := A.month; omega)
    simp only [impl_DateAt.l1]
    rw [monthDays_f Y _ (by omega), Option.bind_some, if_pos (by omega), Option.bind_some, w64 (by omega) (by omega), w64 (x := ((n + 1 : Nat) : Int) + 1) (by omega) (by omega), show ((n + 1 : Nat) : Int) + 1 = ((n + 1 + 1 : Nat) : Int) by omega, show D - ahead Y - mpre Y n - mlong Y ((n + 1 : Nat) : Int) = D - ahead Y - mpre Y (n + 1) by omega]
    exact ih k (n + 1) (by omega) (by omega)
theorem dateAt_years (D : Int) (Y : Int) (M : Nat) (dd : Int) (A : AtDay D Y M dd) (rest : Int) (hr : 0 ≤ rest ∧ rest < 86400) (d : Nat) : ∀ (k : Nat) (y : Int), 1970 ≤ y → y + d = Y → d + 30 < k →
    impl_DateAt.l0 k D rest y = some (Y, ((M + 1 : Nat) : Int), dd, rest / 3600, rest / 60 % 60, rest % 60, true) := by
  have hY := A.year
  have hb := (atDay_start D Y M dd A)
  induction d with
  | zero =>
    intro k y h1 hy hk
    obtain ⟨k, rfl⟩ : ∃ m, k = m + 1 := ⟨k - 1, by omega⟩
    obtain rfl : y = Y := by omega
    have h2 := A.ydays
    have ha := ahead_range y hY.1 (by omega)
    simp only [impl_DateAt.l0]
    rw [w64 (x := y + 1) (by omega) (by omega), yearDays_f (y + 1) (by omega) (by omega), Option.bind_some, if_neg (by omega), yearDays_f y (by omega) (by omega), Option.bind_some, w64 (by omega) (by omega)]
    have h := dateAt_months D y M dd A rest hr M k 0 (by omega) (by have := A.month; omega)
    simp only [mpre, Int.sub_zero] at h
    exact h
  | succ d ih =>
    intro k y h1 hy hk
    obtain ⟨k, rfl⟩ : ∃ m, k = m + 1 := ⟨k - 1, by omega⟩
    have h2 := A.ydays
    have h3 := ahead_mono d (y + 1) (by omega)
    rw [show y + 1 + (d : Int) = Y by omega] at h3
    simp only [impl_DateAt.l0]
    rw [w64 (x := y + 1) (by omega) (by omega), yearDays_f (y + 1) (by omega) (by omega), Option.bind_some, if_pos (by omega)]
    exact ih k (y + 1) (by omega) (by omega) (by omega)
theorem dateAt_f (n : Int) (h0 : 0 ≤ n) (h1 : n ≤ 253402300799) (Y : Int) (M : Nat) (dd : Int) (A : AtDay (n / 86400) Y M dd) (k : Nat) (hk : 200 < k) :
    impl_DateAt.f k n = some (Y, ((M + 1 : Nat) : Int), dd, n % 86400 / 3600, n % 86400 / 60 % 60, n % 60, true) := by
  have hb := (atDay_start _ Y M dd A)
  unfold impl_DateAt.f
  rw [within_f, Option.bind_some, decide_eq_true ⟨h0, h1⟩, if_pos rfl, tdiv_nn _ _ h0, tmod_nn _ _ h0, w64 (x := n / 86400) (by omega) (by omega), tdiv_nn _ _ (by omega), w64 (x := n / 86400 / 366) (by omega) (by omega), w64 (x := 1970 + n / 86400 / 366) (by omega) (by omega)]
  obtain ⟨d, hd⟩ : ∃ d : Nat, 1970 + n / 86400 / 366 + d = Y := ⟨(Y - (1970 + n / 86400 / 366)).toNat, by omega⟩
  have h := dateAt_years (n / 86400) Y M dd A (n % 86400) (by omega) d k (1970 + n / 86400 / 366) (by omega) hd (by omega)
  rw [h, show n % 86400 % 60 = n % 60 by omega]
theorem l2At_months (n : Int) (h0 : 0 ≤ n) (h1 : n ≤ 253402300799) (Y : Int) (M : Nat) (dd : Int) (A : AtDay (n / 86400) Y M dd) (d : Nat) : ∀ (k q : Nat), q + d = M → d < k →
    spec_l2At.l1 k n Y (n / 86400 - ahead Y - mpre Y q) ((q + 1 : Nat) : Int) = some (Y, ((M + 1 : Nat) : Int), dd, n % 86400 / 3600, n % 86400 / 60 % 60, n % 60) := by
  have hb := (atDay_start _ Y M dd A)
  have hY := A.year
  have ha := ahead_range Y hY.1 (by omega)
  induction d with
  | zero =>
    intro k q hn hk
    obtain ⟨k, rfl⟩ : ∃ m, k = m + 1 := ⟨k - 1, by omega⟩
    obtain rfl : q = M := by omega
    have e : mpre Y (q + 1) = mpre Y q + mlong Y ((q + 1 : Nat) : Int) := rfl
    have h2 := A.mdays
    have hd := A.day
    have hm := mpre_range Y q (by have := A.month; omega)
    simp only [spec_l2At.l1]
    rw [l2Long_f Y _ (by omega), Option.bind_some, if_neg (by omega), w64 (x := n / 86400 - ahead Y - mpre Y q + 1) (by omega) (by omega), tmod_nn n 86400 h0, tdiv_nn _ _ (by omega), tdiv_nn _ _ (by omega), w64 (x := n % 86400 / 3600) (by omega) (by omega), w64 (x := n % 86400 / 60) (by omega) (by omega), tmod_nn (n % 86400 / 60) _ (by omega), tmod_nn n 60 h0, hd]
  | succ d ih =>
    intro k q hn hk
    obtain ⟨k, rfl⟩ : ∃ m, k = m + 1 := ⟨k - 1, by omega⟩
    have e : mpre Y (q + 1) = mpre Y q + mlong Y ((q + 1 : Nat) : Int) := rfl
    have h2 := A.mdays
    have h3 := mpre_mono Y d (q + 1)
    have hM := A.month
    rw [show q + 1 + d = M by omega] at h3
    have hm := mpre_range Y q (by have := A.month; omega)
    have hm2 := mpre_range Y (q + 1) (by have := A.month; omega)
    simp only [spec_l2At.l1]
    rw [l2Long_f Y _ (by omega), Option.bind_some, if_pos (by omega), Option.bind_some, w64 (by omega) (by omega), w64 (x := ((q + 1 : Nat) : Int) + 1) (by omega) (by omega), show ((q + 1 : Nat) : Int) + 1 = ((q + 1 + 1 : Nat) : Int) by omega, show n / 86400 - ahead Y - mpre Y q - mlong Y ((q + 1 : Nat) : Int) = n / 86400 - ahead Y - mpre Y (q + 1) by omega]
    exact ih k (q + 1) (by omega) (by omega)
theorem l2At_years (n : Int) (h0 : 0 ≤ n) (h1 : n ≤ 253402300799) (Y : Int) (M : Nat) (dd : Int) (A : AtDay (n / 86400) Y M dd) (d : Nat) : ∀ (k : Nat) (y : Int), 1970 ≤ y → y + d = Y → d + 30 < k →
    spec_l2At.l0 k n (n / 86400) y = some (Y, ((M + 1 : Nat) : Int), dd, n % 86400 / 3600, n % 86400 / 60 % 60, n % 60) := by
  have hY := A.year
  have hb := (atDay_start _ Y M dd A)
  induction d with
  | zero =>
    intro k y hy1 hy hk
    obtain ⟨k, rfl⟩ : ∃ m, k = m + 1 := ⟨k - 1, by omega⟩
    obtain rfl : y = Y := by omega
    have h2 := A.ydays
    have ha := ahead_range y hY.1 (by omega)
    simp only [spec_l2At.l0]
    rw [w64 (x := y + 1) (by omega) (by omega), l2Ahead_f (y + 1) (by omega) (by omega), Option.bind_some, if_neg (by omega), l2Ahead_f y (by omega) (by omega), Option.bind_some, w64 (by omega) (by omega)]
    have h := l2At_months n h0 h1 y M dd A M k 0 (by omega) (by have := A.month; omega)
    simp only [mpre, Int.sub_zero] at h
    exact h
  | succ d ih =>
    intro k y hy1 hy hk
    obtain ⟨k, rfl⟩ : ∃ m, k = m + 1 := ⟨k - 1, by omega⟩
    have h2 := A.ydays
    have h3 := ahead_mono d (y + 1) (by omega)
    rw [show y + 1 + (d : Int) = Y by omega] at h3
    simp only [spec_l2At.l0]
    rw [w64 (x := y + 1) (by omega) (by omega), l2Ahead_f (y + 1) (by omega) (by omega), Option.bind_some, if_pos (by omega)]
    exact ih k (y + 1) (by omega) (by omega) (by omega)
theorem specDateAt_f (n : Int) (h0 : 0 ≤ n) (h1 : n ≤ 253402300799) (Y : Int) (M : Nat) (dd : Int) (A : AtDay (n / 86400) Y M dd) (k : Nat) (hk : 200 < k) :
    spec_DateAt.f k n = some (Y, ((M + 1 : Nat) : Int), dd, n % 86400 / 3600, n % 86400 / 60 % 60, n % 60, true) := by
  have hb := (atDay_start _ Y M dd A)
  unfold spec_DateAt.f spec_l2At.f
  rw [l1In_f, Option.bind_some, decide_eq_true ⟨h0, h1⟩, if_pos rfl, tdiv_nn _ _ h0, w64 (x := n / 86400) (by omega) (by omega), tdiv_nn _ _ (by omega), w64 (x := n / 86400 / 366) (by omega) (by omega), w64 (x := 1970 + n / 86400 / 366) (by omega) (by omega)]
  obtain ⟨d, hd⟩ : ∃ d : Nat, 1970 + n / 86400 / 366 + d = Y := ⟨(Y - (1970 + n / 86400 / 366)).toNat, by omega⟩
  have h := l2At_years n h0 h1 Y M dd A d k (1970 + n / 86400 / 366) (by omega) hd (by omega)
  rw [h, Option.bind_some]
theorem dateAt_no (n : Int) (h : ¬ (0 ≤ n ∧ n ≤ 253402300799)) (k : Nat) : impl_DateAt.f k n = some (0, 0, 0, 0, 0, 0, false) ∧ spec_DateAt.f k n = some (0, 0, 0, 0, 0, 0, false) := by
  constructor
  · unfold impl_DateAt.f; rw [within_f, Option.bind_some, decide_eq_false h, if_neg (by decide)]
  · unfold spec_DateAt.f; rw [l1In_f, Option.bind_some, decide_eq_false h, if_neg (by decide)]

/-! The cursor that draws an argument out of bytes -/
theorem and255 (y : Int) (h0 : 0 ≤ y) (h1 : y < 18446744073709551616) : bits .and .u64 y 255 = y % 256 := bits_mask .u64 64 (by decide) wraps_u64 8 (by decide) y h0 h1
theorem and255_range (s : Int) : 0 ≤ bits .and .u64 ((IntKind.u64.wrap s) / 1099511627776) 255 ∧ bits .and .u64 ((IntKind.u64.wrap s) / 1099511627776) 255 ≤ 255 := by
  have h : IntKind.u64.wrap s = s % 18446744073709551616 := IntKind.wrap_u64 s
  rw [h, and255 _ (by omega) (by omega)]
  omega
theorem rd_byte (l : List Int) (hc : ∀ x ∈ l, 0 ≤ x ∧ x ≤ 255) (i : Int) (h0 : 0 ≤ i) (h1 : i < l.length) : 0 ≤ rd l i ∧ rd l i ≤ 255 := by
  obtain ⟨n, rfl⟩ : ∃ n : Nat, i = (n : Int) := ⟨i.toNat, by omega⟩
  rw [rd_nat l n (by omega)]
  exact hc _ (List.getElem_mem _)
theorem next_ok (code : List Int) (hc : ∀ x ∈ code, 0 ≤ x ∧ x ≤ 255) (hb : code.length < 4611686018427387904) (a s : Int) (h0 : 0 ≤ a) (h1 : a < 4611686018427387904) :
    ∃ b s', spec_l1Cur_next.f code a s = some (b, a + 1, s') ∧ 0 ≤ b ∧ b ≤ 255 := by
  have hw : wrap64 (a + 1) = a + 1 := w64 (by omega) (by omega)
  unfold spec_l1Cur_next.f
  rw [hw]
  by_cases c : a < (code.length : Int)
  · have hr := rd_byte code hc a h0 c
    rw [if_pos c, if_pos h0, if_pos (by omega)]
    exact ⟨_, _, rfl, by rw [w64 (by omega) (by omega)]; exact hr⟩
  · rw [if_neg c, if_neg (by omega)]
    refine ⟨_, _, rfl, ?_⟩
    have hr := and255_range ((IntKind.u64.wrap (IntKind.u64.wrap (s * 6364136223846793005))) + 1442695040888963407)
    rw [w64 (by omega) (by omega)]
    exact hr
theorem tmod_range (x n : Int) (h : 0 ≤ x) (hn : 0 < n) : 0 ≤ Int.tmod x n ∧ Int.tmod x n < n := ⟨Int.tmod_nonneg n h, Int.tmod_lt_of_pos x hn⟩
theorem pick_ok (code : List Int) (hc : ∀ x ∈ code, 0 ≤ x ∧ x ≤ 255) (hb : code.length < 4611686018427387904) (a s n : Int) (h0 : 0 ≤ a) (h1 : a < 4611686018427380000) :
    ∃ v a' s', spec_l1Cur_pick.f code a s n = some (v, a', s') ∧ 0 ≤ v ∧ (v < n ∨ v = 0) ∧ a ≤ a' ∧ a' ≤ a + 2 := by
  unfold spec_l1Cur_pick.f
  by_cases c : n ≤ 1
  · rw [if_pos c]
    exact ⟨0, a, s, rfl, by omega, by omega, by omega, by omega⟩
  · rw [if_neg c]
    obtain ⟨b, s1, e1, hb0, hb1⟩ := next_ok code hc hb a s h0 (by omega)
    rw [e1, Option.bind_some]
    by_cases c2 : n > 200
    · rw [if_pos c2]
      obtain ⟨b2, s2, e2, hb2, hb3⟩ := next_ok code hc hb (a + 1) s1 (by omega) (by omega)
      try dsimp only
      rw [e2, Option.bind_some, if_neg (by omega)]
      have hw1 : wrap64 (b * 256) = b * 256 := w64 (by omega) (by omega)
      have hw2 : wrap64 (b * 256 + b2) = b * 256 + b2 := w64 (by omega) (by omega)
      have hr := tmod_range (b * 256 + b2) n (by omega) (by omega)
      refine ⟨_, _, _, rfl, ?_⟩
      simp only [hw1, hw2]
      exact ⟨hr.1, Or.inl hr.2, by omega, by omega⟩
    · rw [if_neg c2, if_neg (by omega)]
      have hr := tmod_range b n (by omega) (by omega)
      refine ⟨_, _, _, rfl, hr.1, Or.inl hr.2, ?_, ?_⟩ <;> dsimp only <;> omega
theorem one_ok (code : List Int) (hc : ∀ x ∈ code, 0 ≤ x ∧ x ≤ 255) (hb : code.length < 4611686018427387904) (a s n : Int) (h0 : 0 ≤ a) (h1 : a < 4611686018427380000) :
    ∃ v a' s', spec_l1Cur_one.f code a s n = some (v, a', s') ∧ a ≤ a' ∧ a' ≤ a + 2 := by
  unfold spec_l1Cur_one.f
  obtain ⟨v, a', s', e, h⟩ := pick_ok code hc hb a s n h0 h1
  rw [e, Option.bind_some]
  exact ⟨_, _, _, rfl, h.2.2⟩
theorem among_ok (code : List Int) (hc : ∀ x ∈ code, 0 ≤ x ∧ x ≤ 255) (hb : code.length < 4611686018427387904) (l : List Int) (hl : 0 < l.length) (a s : Int) (h0 : 0 ≤ a) (h1 : a < 4611686018427380000) :
    ∃ v a' s', spec_l1Cur_among.f code a s l = some (v, a', s') ∧ v ∈ l ∧ a ≤ a' ∧ a' ≤ a + 2 := by
  unfold spec_l1Cur_among.f
  obtain ⟨v, a', s', e, h⟩ := pick_ok code hc hb a s (l.length : Int) h0 h1
  rw [e, Option.bind_some, if_pos h.1]
  have c : v < (l.length : Int) := by omega
  try dsimp only
  rw [if_pos c]
  refine ⟨_, _, _, rfl, ?_, h.2.2⟩
  obtain ⟨n, rfl⟩ : ∃ n : Nat, v = (n : Int) := ⟨v.toNat, by omega⟩
  try dsimp only
  rw [rd_nat l n (by omega)]
  exact List.getElem_mem _

/-! What is drawn -/
theorem date_ok (code : List Int) (hc : ∀ x ∈ code, 0 ≤ x ∧ x ≤ 255) (hb : code.length < 4611686018427387904) : ∃ y m d h mi s, spec_DrawSecondsOf.f code = some (y, m, d, h, mi, s) := by
  unfold spec_DrawSecondsOf.f spec_DrawGoodDate.f spec_l1Cur_date.f
  obtain ⟨v1, a1, s1, e1, x1, x2, x3, x4⟩ := pick_ok code hc hb 0 0 130 (by omega) (by omega)
  obtain ⟨v2, a2, s2, e2, y1, y2, y3, y4⟩ := pick_ok code hc hb a1 s1 12 (by omega) (by omega)
  obtain ⟨v3, a3, s3, e3, z1, z2, z3, z4⟩ := pick_ok code hc hb a2 s2 28 (by omega) (by omega)
  obtain ⟨v4, a4, s4, e4, u1, u2, u3, u4⟩ := pick_ok code hc hb a3 s3 24 (by omega) (by omega)
  obtain ⟨v5, a5, s5, e5, t1, t2, t3, t4⟩ := pick_ok code hc hb a4 s4 60 (by omega) (by omega)
  obtain ⟨v6, a6, s6, e6, r1, r2, r3, r4⟩ := pick_ok code hc hb a5 s5 60 (by omega) (by omega)
  obtain ⟨v7, a7, s7, e7, q1, q2, q3, q4⟩ := pick_ok code hc hb a6 s6 12 (by omega) (by omega)
  simp only [e1, e2, e3, e4, e5, e6, e7, Option.bind_some]
  by_cases c0 : v7 = 0
  · obtain ⟨w1, b1, g1, f1, p1, p2, p3, p4⟩ := pick_ok code hc hb a7 s7 3 (by omega) (by omega)
    obtain ⟨w2, b2, g2, f2, p5, p6, p7⟩ := among_ok code hc hb [2000, 2024, 2100, 1999] (by simp) b1 g1 (by omega) (by omega)
    simp only [c0, if_true, f1, f2, Option.bind_some]
    exact ⟨_, _, _, _, _, _, rfl⟩
  by_cases c1 : v7 = 1
  · obtain ⟨w1, b1, g1, f1, p1, p2, p3⟩ := among_ok code hc hb [1969, 1970, 9999, 10000, 2000, 2400] (by simp) a7 s7 (by omega) (by omega)
    rw [if_neg c0, if_pos c1, f1]
    exact ⟨_, _, _, _, _, _, rfl⟩
  by_cases c2 : v7 = 2
  · obtain ⟨w1, b1, g1, f1, p1, p2, p3, p4⟩ := pick_ok code hc hb a7 s7 4 (by omega) (by omega)
    rw [if_neg c0, if_neg c1, if_pos c2, f1]
    exact ⟨_, _, _, _, _, _, rfl⟩
  by_cases c3 : v7 = 3
  · obtain ⟨w1, b1, g1, f1, p1, p2, p3⟩ := among_ok code hc hb [0, 13, 12] (by simp) a7 s7 (by omega) (by omega)
    obtain ⟨w2, b2, g2, f2, p5, p6, p7⟩ := among_ok code hc hb [24, 23] (by simp) b1 g1 (by omega) (by omega)
    rw [if_neg c0, if_neg c1, if_neg c2, if_pos c3, f1]
    simp only [Option.bind_some, f2]
    exact ⟨_, _, _, _, _, _, rfl⟩
  · rw [if_neg c0, if_neg c1, if_neg c2, if_neg c3]
    exact ⟨_, _, _, _, _, _, rfl⟩
theorem now_ok (code : List Int) (hc : ∀ x ∈ code, 0 ≤ x ∧ x ≤ 255) (hb : code.length < 4611686018427387904) : ∃ n, spec_DrawDateAt.f code = some n := by
  unfold spec_DrawDateAt.f spec_l1Cur_now.f
  obtain ⟨v1, a1, s1, e1, x3, x4⟩ := one_ok code hc hb 0 0 20 (by omega) (by omega)
  rw [e1, Option.bind_some]
  try dsimp only
  by_cases c : v1 = true
  · obtain ⟨w1, b1, g1, f1, p1, p2, p3⟩ := among_ok code hc hb [(-1), 0, 253402300799, 253402300800] (by simp) a1 s1 (by omega) (by omega)
    rw [if_pos c, f1]
    exact ⟨_, rfl⟩
  · obtain ⟨v2, a2, s2, e2, y1, y2, y3, y4⟩ := pick_ok code hc hb a1 s1 200 (by omega) (by omega)
    rw [if_neg c, e2, Option.bind_some]
    try dsimp only
    obtain ⟨v3, a3, s3, e3, z1, z2, z3, z4⟩ := pick_ok code hc hb a2 s2 86400 (by omega) (by omega)
    rw [e3]
    exact ⟨_, rfl⟩
theorem weekday_f (x : Int) : impl_WeekdayOf.f x = some (if 0 ≤ x ∧ x ≤ 2932896 then ((x + 4) % 7, true) else (0, false)) := by
  unfold impl_WeekdayOf.f impl_weekday.f
  rw [within_f, Option.bind_some]
  by_cases c : 0 ≤ x ∧ x ≤ 2932896
  · rw [decide_eq_true c, if_pos rfl, if_pos c, Option.bind_some, w64 (x := x + 4) (by omega) (by omega), tmod_nn _ _ (by omega)]
  · rw [decide_eq_false c, if_neg (by decide), if_neg c]
theorem third (code : List Int) (hc : ∀ x ∈ code, 0 ≤ x ∧ x ≤ 255) (hb : code.length < 4611686018427387904) (k : Nat) (hk : 400 < k) : laws_FnDays.j3 k code = some true := by
  obtain ⟨k, rfl⟩ : ∃ m, k = m + 2 := ⟨k - 2, by omega⟩
  obtain ⟨n, e⟩ := now_ok code hc hb
  simp only [laws_FnDays.j3]
  rw [e, Option.bind_some]
  by_cases c : 0 ≤ n ∧ n ≤ 253402300799
  · obtain ⟨Y, M, dd, A⟩ := atDay_exists (n / 86400) (by omega) (by omega)
    rw [dateAt_f n c.1 c.2 Y M dd A (k + 1) (by omega), specDateAt_f n c.1 c.2 Y M dd A (k + 1) (by omega), Option.bind_some, Option.bind_some]
    have hM := A.month
    have hY := A.year
    have hm := A.mdays
    have hd := A.day
    have e2 : mpre Y (M + 1) = mpre Y M + mlong Y ((M + 1 : Nat) : Int) := rfl
    have g : Gd Y ((M + 1 : Nat) : Int) dd (n % 86400 / 3600) (n % 86400 / 60 % 60) (n % 60) := ⟨hY, by omega, by omega, by omega, by omega, by omega⟩
    have hs : secR Y ((M + 1 : Nat) : Int) dd (n % 86400 / 3600) (n % 86400 / 60 % 60) (n % 60) = (n, true) := by
      unfold secR
      rw [if_pos (gd_mk _ _ _ _ _ _ g), show (((M + 1 : Nat) : Int) - 1).toNat = M by omega, hd]
      congr 1
      omega
    simp only [bne_self_eq_false, Bool.false_eq_true, if_false, beq_self_eq_true, Bool.not_true, Bool.false_or, Bool.or_false]
    simp only [laws_FnDays.j4]
    rw [if_neg (by decide), if_pos trivial, secondsOf_f _ _ _ _ _ _ k (by omega), hs, Option.bind_some]
    simp
  · obtain ⟨n1, n2⟩ := dateAt_no n c (k + 1)
    rw [n1, n2, Option.bind_some, Option.bind_some]
    simp only [bne_self_eq_false, Bool.false_eq_true, if_false, beq_self_eq_true, Bool.not_true, Bool.false_or, Bool.or_false]
    simp only [laws_FnDays.j4]
    simp
theorem FnDays : laws_FnDays.Pure := by
  intro l0 l1 _ hb0 hw0 _ hb1 hw1
  have hc0 := bytes_of l0 hw0
  have hc1 := bytes_of l1 hw1
  obtain ⟨k, hk⟩ : ∃ k, k = 5000 := ⟨_, rfl⟩
  obtain ⟨k2, hk2⟩ : ∃ k2, k = k2 + 1 := ⟨4999, by omega⟩
  obtain ⟨k3, hk3⟩ : ∃ k3, k2 = k3 + 1 := ⟨4998, by omega⟩
  obtain ⟨k4, hk4⟩ : ∃ k4, k3 = k4 + 1 := ⟨4997, by omega⟩
  refine ⟨k, ?_⟩
  unfold laws_FnDays.f
  by_cases c0 : wrap64 ((l0.length : Int) + (l1.length : Int)) > 1048576
  · rw [if_pos c0]
  rw [if_neg c0]
  obtain ⟨y, m, d, h, mi, s, e⟩ := date_ok l0 hc0 (by omega)
  rw [e, Option.bind_some]
  try dsimp only
  have hr : (secR y m d h mi s).2 = gdB y m d h mi s := by
    unfold secR
    by_cases c : gdB y m d h mi s = true
    · rw [if_pos c, c]
    · rw [if_neg c, Bool.eq_false_iff.mpr c]
  have hthird := fun k hk => third l1 hc1 (by omega) k hk
  rw [secondsOf_f y m d h mi s k (by omega), specSecondsOf_f y m d h mi s k (by omega), Option.bind_some, Option.bind_some, bne_self_eq_false, if_neg (by decide), if_pos rfl, goodDate_f, Option.bind_some, hr, bne_self_eq_false, hk2]
  simp only [laws_FnDays.j0]
  rw [if_neg (by decide)]
  by_cases c : gdB y m d h mi s = true
  · rw [if_pos c]
    have g := gd_of y m d h mi s c
    obtain ⟨M, hM, e1, e2, hd1, hd2, hD0, hD1⟩ := gd_days y m d h mi s g
    have hY := g.yy
    have hh := g.hh
    have hmn := g.mn
    have hss := g.ss
    have hdd := g.dd
    rw [e1] at hdd
    have A := atDay_of y M d hY hM hdd
    obtain ⟨D, hDe⟩ : ∃ D, D = ahead y + mpre y M + d - 1 := ⟨_, rfl⟩
    rw [← hDe] at A hD0 hD1
    have hb := atDay_start D y M d A
    obtain ⟨n, hn⟩ : ∃ n, n = 86400 * D + 3600 * h + 60 * mi + s := ⟨_, rfl⟩
    have hs1 : (secR y m d h mi s).1 = n := by
      unfold secR
      rw [if_pos c, e2, ← hDe, hn]
    have hq : n / 86400 = D := by omega
    have hq2 : n % 86400 / 3600 = h := by omega
    have hq3 : n % 86400 / 60 % 60 = mi := by omega
    have hq4 : n % 60 = s := by omega
    have da := dateAt_f n (by omega) (by omega) y M d (by rw [hq]; exact A) k2 (by omega)
    have dy : impl_DaysOf.f k2 y m d = some (D, true) := by
      unfold impl_DaysOf.f
      rw [goodDate_f, Option.bind_some, if_pos (gd_mk y m d 0 0 0 ⟨hY, g.mm, g.dd, by omega, by omega, by omega⟩), e1, daysOf_f y M d hY hM ⟨hd1, hd2⟩ k2 (by omega), Option.bind_some, hDe]
    have d1 : impl_DaysOf.f k4 y 1 1 = some (ahead y, true) := by
      unfold impl_DaysOf.f
      have hl := mlong_range y 1
      rw [goodDate_f, Option.bind_some, if_pos (gd_mk y 1 1 0 0 0 ⟨hY, by omega, by omega, by omega, by omega, by omega⟩)]
      have h := daysOf_f y 0 1 hY (by omega) (by omega) k4 (by omega)
      rw [show ((0 + 1 : Nat) : Int) = 1 by rfl] at h
      rw [h, Option.bind_some]
      simp only [mpre]
      congr 2; omega
    have d2 : impl_DaysOf.f k4 y 12 31 = some (ahead y + mpre y 11 + 31 - 1, true) := by
      unfold impl_DaysOf.f
      have hl : mlong y 12 = 31 := rfl
      rw [goodDate_f, Option.bind_some, if_pos (gd_mk y 12 31 0 0 0 ⟨hY, by omega, by omega, by omega, by omega, by omega⟩)]
      have h := daysOf_f y 11 31 hY (by omega) (by omega) k4 (by omega)
      rw [show ((11 + 1 : Nat) : Int) = 12 by rfl] at h
      rw [h, Option.bind_some]
    have hlen : mpre y 11 + 31 = 365 + leapN y := by
      have h12 := mpre_12 y
      have e12 : mpre y 12 = mpre y 11 + mlong y ((12 : Nat) : Int) := rfl
      have hl : mlong y ((12 : Nat) : Int) = 31 := rfl
      omega
    have hlr := leapN_range y
    have har := ahead_range y hY.1 (by omega)
    have lp : impl_IsLeap.f y = some (leapB y, true) := by
      unfold impl_IsLeap.f impl_isYear.f
      rw [within_f, Option.bind_some, Option.bind_some, decide_eq_true hY, if_pos rfl, isLeap_f y (by omega), Option.bind_some]
    have hj2 : laws_FnDays.j2 k3 l1 false y m d h mi s = some true := by
      rw [hk4]
      simp only [laws_FnDays.j2]
      rw [if_neg (by decide), lp, d1, d2, Option.bind_some, Option.bind_some, Option.bind_some]
      try dsimp only
      rw [if_pos rfl, if_pos rfl, if_pos rfl, w64 (x := ahead y + mpre y 11 + 31 - 1 - ahead y) (by omega) (by omega), w64 (by omega) (by omega), show ahead y + mpre y 11 + 31 - 1 - ahead y + 1 = 365 + leapN y by omega]
      unfold leapN
      by_cases c5 : leapB y = true
      · rw [if_pos c5, c5]
        simp only [Int.reduceAdd, beq_self_eq_true, bne_self_eq_false, Bool.false_eq_true, if_false, if_true]
        exact hthird k4 (by omega)
      · rw [if_neg c5, Bool.eq_false_iff.mpr c5]
        simp only [Int.add_zero, Int.reduceBEq, bne_self_eq_false, Bool.false_eq_true, if_false, if_true]
        exact hthird k4 (by omega)
    have hj1 : laws_FnDays.j1 k2 l1 D false y m d h mi s = some true := by
      rw [hk3]
      simp only [laws_FnDays.j1]
      rw [if_neg (by decide), weekday_f, weekday_f, w64 (x := D + 1) (by omega) (by omega), if_pos (by omega), Option.bind_some, Option.bind_some]
      try dsimp only
      rw [if_pos rfl]
      by_cases c6 : 0 ≤ D + 1 ∧ D + 1 ≤ 2932896
      · rw [if_pos c6]
        try dsimp only
        rw [if_pos rfl, w64 (x := (D + 4) % 7 + 1) (by omega) (by omega), tmod_nn _ _ (by omega), show (D + 1 + 4) % 7 = ((D + 4) % 7 + 1) % 7 by omega, bne_self_eq_false]
        exact hj2
      · rw [if_neg c6]
        try dsimp only
        rw [if_neg (by decide)]
        exact hj2
    rw [hs1, da, dy, Option.bind_some, Option.bind_some, hq2, hq3, hq4, ← e1]
    simp only [beq_self_eq_true, Bool.not_true, Bool.false_or, Bool.or_false, Bool.false_eq_true, if_false, if_true]
    rw [tdiv_nn _ _ (by omega), w64 (x := n / 86400) (by omega) (by omega), hq, bne_self_eq_false]
    exact hj1
  · rw [if_neg c]
    exact hthird k2 (by omega)

end Go.Proofs.Ytplcocljgoipkaa.Pure
