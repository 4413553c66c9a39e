/- FnExactJoinSketches: the exact law returns true at every argument. Conditions: none beyond the sizes that a Go value has. -/
import Derived.Test.YtbimpkfffcnlhaaPFnExactJoinSketchesx6
set_option linter.unusedVariables false
set_option linter.unusedSimpArgs false
namespace Go.Proofs.Ytbimpkfffcnlhaa.Pure
open Go.RowKit Go.Proofs.Ytbimpkfffcnlhaa.PFnExactJoinSketches Go.Proofs.YtbimpkfffcnlhaaW.PrintWords Go.Proofs.YtbimpkfffcnlhaaW.PrintLast

/-! Whole numbers and rows of them -/
theorem w64 {x : Int} (h : -9223372036854775808 ≤ x) (h2 : x < 9223372036854775808) : wrap64 x = x := by unfold wrap64; omega
theorem rd_nat (l : List Int) (n : Nat) (h : n < l.length) : rd l (n : Int) = l[n] := by
  unfold rd; simp [List.getD_eq_getElem?_getD, h]
theorem succ_cast (n : Nat) : ((n : Int) + 1) = ((n + 1 : Nat) : Int) := by omega

/-! The laws' eqIntS -/
theorem eqInts_loop (xs ys : List Int) (hl : xs.length = ys.length) (hb : xs.length < 4611686018427387904) (d : Nat) : ∀ (k n : Nat), n + d = xs.length → d < k →
    laws_eqIntS.l0 k xs ys (n : Int) = some (decide (xs.drop n = ys.drop n)) := by
  induction d with
  | zero =>
    intro k n hn hk
    obtain ⟨k, rfl⟩ : ∃ m, k = m + 1 := ⟨k - 1, by omega⟩
    have c : ¬ (n : Int) < (xs.length : Int) := by omega
    simp only [laws_eqIntS.l0]; rw [if_neg c, List.drop_of_length_le (by omega), List.drop_of_length_le (by omega), decide_eq_true rfl]
  | succ d ih =>
    intro k n hn hk
    obtain ⟨k, rfl⟩ : ∃ m, k = m + 1 := ⟨k - 1, by omega⟩
    have h1 : n < xs.length := by omega
    have h2 : n < ys.length := by omega
    have c1 : (n : Int) < (xs.length : Int) := by omega
    have c2 : (n : Int) < (ys.length : Int) := by omega
    have c0 : (0 : Int) ≤ (n : Int) := by omega
    simp only [laws_eqIntS.l0]
    rw [if_pos c1, if_pos c0, if_pos c2, rd_nat xs n h1, rd_nat ys n h2, List.drop_eq_getElem_cons h1, List.drop_eq_getElem_cons h2, w64 (by omega) (by omega), succ_cast, ih k (n + 1) (by omega) (by omega)]
    by_cases e : xs[n] = ys[n]
    · rw [if_pos e]
      exact congrArg some (decide_eq_decide.mpr (by rw [List.cons.injEq]; exact ⟨fun h => ⟨e, h⟩, fun h => h.2⟩))
    · rw [if_neg e]
      exact congrArg some (decide_eq_false (by rw [List.cons.injEq]; exact fun h => e h.1)).symm
theorem eqInts_f (xs ys : List Int) (hb : xs.length < 4611686018427387904) (k : Nat) (hk : xs.length < k) : laws_eqIntS.f k xs ys = some (decide (xs = ys)) := by
  unfold laws_eqIntS.f
  by_cases e : xs.length = ys.length
  · have c : (xs.length : Int) = (ys.length : Int) := by omega
    rw [if_pos c]
    have h := eqInts_loop xs ys e hb xs.length k 0 (by omega) hk
    simpa using h
  · have c : ¬ (xs.length : Int) = (ys.length : Int) := by omega
    have e2 : ¬ xs = ys := fun h => e (by rw [h])
    rw [if_neg c, decide_eq_false e2]

/-! The laws' toIntS: a copy -/
theorem toInts_loop (xs : List Int) (hb : xs.length < 4611686018427387904) (d : Nat) : ∀ (k n : Nat) (ys : List Int), ys.length = xs.length → n + d = xs.length → d < k →
    laws_toIntS.l0 k xs ys (n : Int) = some (ys.take n ++ xs.drop n) := by
  induction d with
  | zero =>
    intro k n ys hl hn hk
    obtain ⟨k, rfl⟩ : ∃ m, k = m + 1 := ⟨k - 1, by omega⟩
    have c : ¬ (n : Int) < (xs.length : Int) := by omega
    simp only [laws_toIntS.l0]; rw [if_neg c, List.take_of_length_le (by omega), List.drop_of_length_le (by omega), List.append_nil]
  | succ d ih =>
    intro k n ys hl hn hk
    obtain ⟨k, rfl⟩ : ∃ m, k = m + 1 := ⟨k - 1, by omega⟩
    have h1 : n < xs.length := by omega
    have h2 : n < ys.length := by omega
    have c1 : (n : Int) < (xs.length : Int) := by omega
    have c2 : (n : Int) < (ys.length : Int) := by omega
    have c0 : (0 : Int) ≤ (n : Int) := by omega
    simp only [laws_toIntS.l0]
    rw [if_pos c1, if_pos c0, if_pos c2, rd_nat xs n h1, w64 (by omega) (by omega), succ_cast, Int.toNat_natCast, ih k (n + 1) _ (by simp [hl]) (by omega) (by omega), List.drop_eq_getElem_cons h1]
    congr 1
    rw [List.take_add_one, List.take_set_of_le (by omega)]
    simp [h2]
theorem toInts_f (xs : List Int) (hb : xs.length * 8 ≤ 140737488351232) (k : Nat) (hk : xs.length < k) : laws_toIntS.f k xs = some xs := by
  unfold laws_toIntS.f
  rw [if_pos (by omega), if_pos (by omega)]
  have h := toInts_loop xs (by omega) xs.length k 0 (List.replicate ((xs.length : Int) : Int).toNat 0) (by simp) (by omega) hk
  simpa using h

/-! The laws' markIntS and heldIntS: numbers one after the other -/
def markL (a : Int) : Nat → List Int
  | 0 => []
  | n + 1 => a :: markL (a + 1) n
theorem markL_length (n : Nat) : ∀ a : Int, (markL a n).length = n := by
  induction n with
  | zero => intro a; rfl
  | succ n ih => intro a; simp [markL, ih]
theorem markL_get (n : Nat) : ∀ (a : Int) (i : Nat) (h : i < (markL a n).length), (markL a n)[i] = a + i := by
  induction n with
  | zero => intro a i h; simp [markL] at h
  | succ n ih =>
    intro a i h
    cases i with
    | zero => simp [markL]
    | succ i =>
      simp only [markL, List.getElem_cons_succ]
      rw [ih]; omega
theorem markInts_loop (m : Nat) (a : Int) (ha : 0 ≤ a) (hb : a + m < 4611686018427387904) (d : Nat) : ∀ (k n : Nat) (l : List Int), l.length = m → n + d = m → d < k →
    laws_markIntS.l0 k l (a + n) (n : Int) = some (a + m, l.take n ++ markL (a + n) d) := by
  induction d with
  | zero =>
    intro k n l hl hn hk
    obtain ⟨k, rfl⟩ : ∃ m, k = m + 1 := ⟨k - 1, by omega⟩
    have c : ¬ (n : Int) < (l.length : Int) := by omega
    simp only [laws_markIntS.l0]; rw [if_neg c, List.take_of_length_le (by omega)]; simp [markL]; omega
  | succ d ih =>
    intro k n l hl hn hk
    obtain ⟨k, rfl⟩ : ∃ m, k = m + 1 := ⟨k - 1, by omega⟩
    have c1 : (n : Int) < (l.length : Int) := by omega
    have c0 : (0 : Int) ≤ (n : Int) := by omega
    have h1 : n < l.length := by omega
    simp only [laws_markIntS.l0]
    rw [if_pos c1, if_pos c0, w64 (x := a + n + 1) (by omega) (by omega), w64 (x := (n : Int) + 1) (by omega) (by omega), succ_cast, show a + (n : Int) + 1 = a + ((n + 1 : Nat) : Int) by omega, Int.toNat_natCast,
      ih k (n + 1) (l.set n (a + n)) (by rw [List.length_set]; exact hl) (by omega) (by omega)]
    congr 2
    rw [List.take_add_one, List.take_set_of_le (by omega)]
    simp [markL, h1]
    congr 1; omega
theorem markInts_f (l : List Int) (a : Int) (ha : 0 ≤ a) (hb : a + l.length < 4611686018427387904) (k : Nat) (hk : l.length < k) : laws_markIntS.f k l a = some (a + l.length, markL a l.length) := by
  unfold laws_markIntS.f
  have h := markInts_loop l.length a ha hb l.length k 0 l rfl (by omega) hk
  simpa using h
theorem heldInts_loop (m : Nat) (a : Int) (ha : 0 ≤ a) (hb : a + m < 4611686018427387904) (d : Nat) : ∀ (k n : Nat), n + d = m → d < k →
    laws_heldIntS.l0 k (markL a m) (a + n) (n : Int) = some (a + m) := by
  induction d with
  | zero =>
    intro k n hn hk
    obtain ⟨k, rfl⟩ : ∃ m, k = m + 1 := ⟨k - 1, by omega⟩
    have hl := markL_length m a
    have c : ¬ (n : Int) < ((markL a m).length : Int) := by omega
    simp only [laws_heldIntS.l0]; rw [if_neg c]; congr 1; omega
  | succ d ih =>
    intro k n hn hk
    obtain ⟨k, rfl⟩ : ∃ m, k = m + 1 := ⟨k - 1, by omega⟩
    have hl := markL_length m a
    have c1 : (n : Int) < ((markL a m).length : Int) := by omega
    have c0 : (0 : Int) ≤ (n : Int) := by omega
    have h1 : n < (markL a m).length := by omega
    simp only [laws_heldIntS.l0]
    rw [if_pos c1, if_pos c0, rd_nat _ n h1, markL_get, if_pos rfl, w64 (x := a + n + 1) (by omega) (by omega), w64 (x := (n : Int) + 1) (by omega) (by omega), succ_cast, show a + (n : Int) + 1 = a + ((n + 1 : Nat) : Int) by omega]
    exact ih k (n + 1) (by omega) (by omega)
theorem heldInts_f (m : Nat) (a : Int) (ha : 0 ≤ a) (hb : a + m < 4611686018427387904) (k : Nat) (hk : m < k) : laws_heldIntS.f k (markL a m) a = some (a + m) := by
  unfold laws_heldIntS.f
  have h := heldInts_loop m a ha hb m k 0 (by omega) hk
  simpa using h

/-! The first place at which a predicate holds -/
theorem idxO_ge {α : Type} (p : α → Option Bool) (l : List α) : ∀ (n i : Int), 0 ≤ n → idxO p l n = some i → i = -1 ∨ n ≤ i := by
  induction l with
  | nil => intro n i hn h; left; exact (Option.some.inj h).symm
  | cons x xs ih =>
    intro n i hn h
    obtain ⟨b, hb, h2⟩ := Option.bind_eq_some_iff.mp h
    cases b with
    | true => right; have := Option.some.inj h2; omega
    | false => have := ih (n + 1) i (by omega) h2; omega
theorem idxO_all {α : Type} (p : α → Option Bool) (q : α → Bool) (h : ∀ x, p x = some (!q x)) (l : List α) : ∀ (n : Int), 0 ≤ n → ∃ i, idxO p l n = some i ∧ (!decide (i ≥ 0)) = l.all q := by
  induction l with
  | nil => intro n hn; exact ⟨-1, rfl, rfl⟩
  | cons x xs ih =>
    intro n hn
    unfold idxO
    rw [h x, Option.bind_some]
    cases hq : q x with
    | true =>
      obtain ⟨i, h1, h2⟩ := ih (n + 1) (by omega)
      exact ⟨i, h1, by rw [h2, List.all_cons, hq, Bool.true_and]⟩
    | false => exact ⟨n, rfl, by rw [List.all_cons, hq, Bool.false_and, decide_eq_true (show n ≥ 0 from hn)]; rfl⟩

/-! A good sketch, in the program and in the reference -/
def inR (x : Int) : Bool := decide (0 ≤ x ∧ x ≤ 1000000)
def goodSk (l : List Int) (t : Int) : Bool := decide (l.length = 128) && (inR t && (l.all inR && xgoodsums l t [0, 1, 2, 3]))
theorem within_f (x a b : Int) : impl_within.f x a b = some (decide (a ≤ x ∧ x ≤ b)) := by
  unfold impl_within.f
  by_cases c : a ≤ x
  · rw [if_pos c]; simp [c]
  · rw [if_neg c]; simp [c]
theorem l1In_f (x a b : Int) : spec_l1In.f x a b = some (decide (a ≤ x ∧ x ≤ b)) := by
  unfold spec_l1In.f
  by_cases c : x ≥ a
  · rw [if_pos c]; simp [show a ≤ x from c]
  · rw [if_neg c]; simp [show ¬ a ≤ x from c]
theorem isCount_f (x : Int) : impl_isCount.f x = some (inR x) := by
  unfold impl_isCount.f; rw [within_f]; rfl
theorem allCount_f (l : List Int) (hl : l.length < 9223372036854775807) : xAll_i64_impl_isCount.f l = some (l.all inR) := by
  obtain ⟨i, h1, h2⟩ := idxO_all xAll_i64_impl_isCount.z inR (fun x => by unfold xAll_i64_impl_isCount.z; rw [isCount_f]; rfl) l 0 (by omega)
  unfold xAll_i64_impl_isCount.f
  rw [if_pos hl, h1, Option.bind_some, h2]
theorem goodSketch_f (l : List Int) (t : Int) : impl_GoodSketch.f l t = some (goodSk l t) := by
  unfold impl_GoodSketch.f goodSk
  by_cases c : l.length = 128
  · rw [if_pos c, decide_eq_true c, Bool.true_and, isCount_f, Option.bind_some]
    cases h1 : inR t with
    | false => rw [if_neg (by decide), Bool.false_and]
    | true =>
      rw [if_pos rfl, allCount_f l (by omega), Option.bind_some, Bool.true_and]
      cases h2 : l.all inR with
      | false => rw [if_neg (by decide), Bool.false_and]
      | true => rw [if_pos rfl, Bool.true_and]; rfl
  · rw [if_neg c, decide_eq_false c, Bool.false_and]
def rowsFrom (l : List Int) (t : Int) (r : Nat) : Bool := (List.range' r (4 - r)).all fun x => (xpart l x).all inR && (xsumL (xpart l x) == t)
theorem xpart_len (l : List Int) (hl : l.length = 128) (r : Nat) (hr : r < 4) : (xpart l r).length = 32 := by
  unfold xpart; rw [List.length_take, List.length_drop]; omega
theorem xpart_get (l : List Int) (hl : l.length = 128) (r c : Nat) (hr : r < 4) (hc : c < 32) : ∀ h, (xpart l r)[c]'h = l[32 * r + c]'(by omega) := by
  intro h
  have e : xpart l r = (l.drop (32 * r)).take 32 := rfl
  simp only [e, List.getElem_take, List.getElem_drop]
theorem goodRow (l : List Int) (t : Int) (hl : l.length = 128) (r : Nat) (hr : r < 4) (B : Bool) (K : Nat) (hB : ∀ k, K ≤ k → spec_GoodSketch.l0 k ((r + 1 : Nat) : Int) l t = some B) (d : Nat) :
    ∀ (k c : Nat) (s : Int), c + d = 32 → K + d < k → spec_GoodSketch.l1 k (r : Int) s (c : Int) l t = some (((xpart l r).drop c).all inR && ((((xpart l r).drop c).foldl (fun s v => wrap64 (s + v)) s == t) && B)) := by
  induction d with
  | zero =>
    intro k c s hc hk
    obtain ⟨k, rfl⟩ : ∃ m, k = m + 1 := ⟨k - 1, by omega⟩
    have hp := xpart_len l hl r hr
    simp only [spec_GoodSketch.l1]
    rw [if_neg (by omega), List.drop_of_length_le (by omega), List.all_nil, List.foldl_nil, Bool.true_and]
    by_cases e : s = t
    · rw [if_pos e, w64 (by omega) (by omega), succ_cast, hB k (by omega), beq_iff_eq.mpr e, Bool.true_and]
    · rw [if_neg e, beq_eq_false_iff_ne.mpr e, Bool.false_and]
  | succ d ih =>
    intro k c s hc hk
    obtain ⟨k, rfl⟩ : ∃ m, k = m + 1 := ⟨k - 1, by omega⟩
    have hp := xpart_len l hl r hr
    have e1 : wrap64 ((wrap64 ((r : Int) * 32)) + (c : Int)) = ((32 * r + c : Nat) : Int) := by rw [w64 (x := (r : Int) * 32) (by omega) (by omega), w64 (by omega) (by omega)]; omega
    have hlt : 32 * r + c < l.length := by omega
    simp only [spec_GoodSketch.l1]
    rw [if_pos (by omega), e1, if_pos (by omega), if_pos (by omega), l1In_f, Option.bind_some, rd_nat l _ hlt, List.drop_eq_getElem_cons (l := xpart l r) (i := c) (by omega), List.all_cons, List.foldl_cons, xpart_get l hl r c hr (by omega)]
    cases hi : inR (l[32 * r + c]'hlt) with
    | true =>
      unfold inR at hi
      rw [if_pos hi, w64 (x := (c : Int) + 1) (by omega) (by omega), succ_cast, ih k (c + 1) _ (by omega) (by omega), Bool.true_and]
    | false =>
      unfold inR at hi
      rw [hi, if_neg (by decide), Bool.false_and, Bool.false_and]
theorem goodRows (l : List Int) (t : Int) (hl : l.length = 128) (d : Nat) : ∀ (k r : Nat), r + d = 4 → 40 * d < k → spec_GoodSketch.l0 k (r : Int) l t = some (rowsFrom l t r) := by
  induction d with
  | zero =>
    intro k r hr hk
    obtain ⟨k, rfl⟩ : ∃ m, k = m + 1 := ⟨k - 1, by omega⟩
    simp only [spec_GoodSketch.l0]
    rw [if_neg (by omega), show r = 4 by omega]; rfl
  | succ d ih =>
    intro k r hr hk
    obtain ⟨k, rfl⟩ : ∃ m, k = m + 1 := ⟨k - 1, by omega⟩
    simp only [spec_GoodSketch.l0]
    have h := goodRow l t hl r (by omega) (rowsFrom l t (r + 1)) (40 * d + 1) (fun k hk => ih k (r + 1) (by omega) (by omega)) 32 k 0 0 (by omega) (by omega)
    rw [if_pos (by omega)]
    refine h.trans ?_
    rw [List.drop_zero]
    unfold rowsFrom
    rw [show 4 - r = (4 - (r + 1)) + 1 by omega, List.range'_succ, List.all_cons, Bool.and_assoc]
    rfl
theorem all_parts (l : List Int) (hl : l.length = 128) (p : Int → Bool) : l.all p = ((xpart l 0).all p && ((xpart l 1).all p && ((xpart l 2).all p && (xpart l 3).all p))) := by
  have e : l = xpart l 0 ++ (xpart l 1 ++ (xpart l 2 ++ xpart l 3)) := by
    unfold xpart
    have h3 : (l.drop (32 * 3)).take 32 = l.drop 96 := List.take_of_length_le (by rw [List.length_drop]; omega)
    rw [h3]
    have h2 : (l.drop (32 * 2)).take 32 ++ l.drop 96 = l.drop 64 := by
      have h := List.take_append_drop 32 (l.drop 64)
      rw [List.drop_drop] at h; exact h
    rw [h2]
    have h1 : (l.drop (32 * 1)).take 32 ++ l.drop 64 = l.drop 32 := by
      have h := List.take_append_drop 32 (l.drop 32)
      rw [List.drop_drop] at h; exact h
    rw [h1]
    exact (List.take_append_drop 32 l).symm
  conv => lhs; rw [e]
  rw [List.all_append, List.all_append, List.all_append]
theorem rowsFrom_all (l : List Int) (t : Int) (hl : l.length = 128) : rowsFrom l t 0 = (l.all inR && xgoodsums l t [0, 1, 2, 3]) := by
  rw [all_parts l hl]
  unfold rowsFrom xgoodsums
  simp only [List.range', List.all_cons, List.all_nil]
  cases (xpart l 0).all inR <;> cases (xpart l 1).all inR <;> cases (xpart l 2).all inR <;> cases (xpart l 3).all inR <;> simp
theorem specGoodSketch_f (l : List Int) (t : Int) (k : Nat) (hk : 170 < k) : spec_GoodSketch.f k l t = some (goodSk l t) := by
  obtain ⟨k, rfl⟩ : ∃ m, k = m + 1 := ⟨k - 1, by omega⟩
  unfold spec_GoodSketch.f goodSk
  by_cases c : l.length = 128
  · rw [if_pos (by omega), l1In_f, Option.bind_some, decide_eq_true c, Bool.true_and]
    simp only [spec_GoodSketch.j0]
    by_cases h1 : 0 ≤ t ∧ t ≤ 1000000
    · rw [decide_eq_true h1, show inR t = true from decide_eq_true h1, if_neg (by decide), Bool.true_and]
      have h := goodRows l t c 4 k 0 rfl (by omega)
      rw [rowsFrom_all l t c] at h
      exact h
    · rw [decide_eq_false h1, show inR t = false from decide_eq_false h1, if_pos (by decide), Bool.false_and]
  · rw [if_neg (by omega), decide_eq_false c, Bool.false_and]
    simp only [spec_GoodSketch.j0]
    rw [if_pos trivial]

theorem goodSk_len (l : List Int) (t : Int) (h : goodSk l t = true) : l.length = 128 := by
  unfold goodSk at h
  simp only [Bool.and_eq_true, decide_eq_true_eq] at h
  exact h.1
theorem goodSk_cells (l : List Int) (t : Int) (h : goodSk l t = true) : ∀ x ∈ l, 0 ≤ x ∧ x ≤ 1000000 := by
  unfold goodSk at h
  simp only [Bool.and_eq_true, List.all_eq_true] at h
  intro x hx
  exact of_decide_eq_true (h.2.2.1 x hx)

def goodOr (l : List Int) (t : Int) : List Int × Int × Bool := if goodSk l t = true then (l, t, true) else ([], 0, false)
theorem goodOr_len (l : List Int) (t : Int) (h : l.length ≤ 1048576) : (goodOr l t).1.length ≤ 1048576 := by
  unfold goodOr; split
  · exact h
  · simp

/-! Two sketches together -/
def plus (x y : Int) : Int := wrap64 (x + y)
theorem specJoin_loop (b : List Int) (hb : b.length = 128) (t : Int) (d : Nat) : ∀ (k n : Nat) (x : List Int), x.length = 128 → n + d = 128 → d + 200 < k →
    spec_JoinSketches.l0 k b (b.length : Int) (n : Int) x t = some (goodOr (x.take n ++ List.zipWith plus (x.drop n) (b.drop n)) t) := by
  induction d with
  | zero =>
    intro k n x hx hn hk
    obtain ⟨k, rfl⟩ : ∃ m, k = m + 1 := ⟨k - 1, by omega⟩
    simp only [spec_JoinSketches.l0]
    rw [if_neg (by omega), specGoodSketch_f x t k (by omega), Option.bind_some, List.drop_of_length_le (l := x) (by omega), List.zipWith_nil_left, List.append_nil, List.take_of_length_le (l := x) (i := n) (by omega)]
    unfold goodOr
    by_cases g : goodSk x t = true
    · rw [if_pos g, if_pos g]
    · rw [if_neg g, if_neg g]
  | succ d ih =>
    intro k n x hx hn hk
    obtain ⟨k, rfl⟩ : ∃ m, k = m + 1 := ⟨k - 1, by omega⟩
    have h1 : n < x.length := by omega
    have h2 : n < b.length := by omega
    simp only [spec_JoinSketches.l0]
    rw [if_pos (by omega), if_pos (by omega), if_pos (by omega), if_pos (by omega), rd_nat x n h1, rd_nat b n h2, w64 (x := (n : Int) + 1) (by omega) (by omega), succ_cast, Int.toNat_natCast, ih k (n + 1) _ (by rw [List.length_set]; exact hx) (by omega) (by omega)]
    have e : (x.set n (wrap64 (x[n] + b[n]))).take (n + 1) ++ List.zipWith plus ((x.set n (wrap64 (x[n] + b[n]))).drop (n + 1)) (b.drop (n + 1)) = x.take n ++ List.zipWith plus (x.drop n) (b.drop n) := by
      rw [List.drop_set_of_lt (by omega), List.drop_eq_getElem_cons h1, List.drop_eq_getElem_cons h2, List.zipWith_cons_cons, List.take_add_one, List.take_set_of_le (by omega)]
      simp [h1, plus]
    rw [e]
theorem implJoin_loop (b : List Int) (hb : b.length = 128) (t : Int) (d : Nat) : ∀ (k n : Nat) (x : List Int), x.length = 128 → n + d = 128 → d + 200 < k →
    impl_JoinSketches.l0 k b (b.length : Int) (n : Int) x t = some (goodOr (x.take n ++ List.zipWith plus (x.drop n) (b.drop n)) t) := by
  induction d with
  | zero =>
    intro k n x hx hn hk
    obtain ⟨k, rfl⟩ : ∃ m, k = m + 1 := ⟨k - 1, by omega⟩
    simp only [impl_JoinSketches.l0]
    rw [if_neg (by omega), goodSketch_f x t, Option.bind_some, List.drop_of_length_le (l := x) (by omega), List.zipWith_nil_left, List.append_nil, List.take_of_length_le (l := x) (i := n) (by omega)]
    unfold goodOr
    by_cases g : goodSk x t = true
    · rw [if_pos g, if_pos g]
    · rw [if_neg g, if_neg g]
  | succ d ih =>
    intro k n x hx hn hk
    obtain ⟨k, rfl⟩ : ∃ m, k = m + 1 := ⟨k - 1, by omega⟩
    have h1 : n < x.length := by omega
    have h2 : n < b.length := by omega
    simp only [impl_JoinSketches.l0]
    rw [if_pos (by omega), if_pos (by omega), if_pos (by omega), if_pos (by omega), rd_nat x n h1, rd_nat b n h2, w64 (x := (n : Int) + 1) (by omega) (by omega), succ_cast, Int.toNat_natCast, ih k (n + 1) _ (by rw [List.length_set]; exact hx) (by omega) (by omega)]
    have e : (x.set n (wrap64 (x[n] + b[n]))).take (n + 1) ++ List.zipWith plus ((x.set n (wrap64 (x[n] + b[n]))).drop (n + 1)) (b.drop (n + 1)) = x.take n ++ List.zipWith plus (x.drop n) (b.drop n) := by
      rw [List.drop_set_of_lt (by omega), List.drop_eq_getElem_cons h1, List.drop_eq_getElem_cons h2, List.zipWith_cons_cons, List.take_add_one, List.take_set_of_le (by omega)]
      simp [h1, plus]
    rw [e]
def joinR (l : List Int) (t : Int) (m : List Int) (u : Int) : List Int × Int × Bool := if (goodSk l t && goodSk m u) = true then goodOr (List.zipWith plus l m) (wrap64 (t + u)) else ([], 0, false)
theorem joinR_len (l : List Int) (t : Int) (m : List Int) (u : Int) (hl : l.length ≤ 1048576) : (joinR l t m u).1.length ≤ 1048576 := by
  unfold joinR; split
  · exact goodOr_len _ _ (by rw [List.length_zipWith]; omega)
  · simp
theorem specJoin_f (l : List Int) (t : Int) (m : List Int) (u : Int) (k : Nat) (hk : 400 < k) : spec_JoinSketches.f k l t m u = some (joinR l t m u) := by
  obtain ⟨k2, rfl⟩ : ∃ m, k = m + 1 := ⟨k - 1, by omega⟩
  unfold spec_JoinSketches.f joinR
  rw [specGoodSketch_f l t (k2 + 1) (by omega), Option.bind_some]
  by_cases g : goodSk l t = true
  · rw [if_pos g, specGoodSketch_f m u (k2 + 1) (by omega), Option.bind_some, g, Bool.true_and]
    have hl := goodSk_len l t g
    simp only [spec_JoinSketches.j0]
    by_cases z : goodSk m u = true
    · have hm := goodSk_len m u z
      rw [z, if_neg (by decide), if_pos rfl, Option.bind_some, if_pos (by simp; omega)]
      have h := specJoin_loop m hm (wrap64 (t + u)) 128 k2 0 ([] ++ l) (by simpa using hl) (by omega) (by omega)
      refine h.trans ?_
      rw [List.take_zero, List.nil_append, List.drop_zero, List.drop_zero]
      try rfl
    · rw [Bool.eq_false_iff.mpr z, if_pos (by decide), if_neg (by decide)]
  · rw [Bool.eq_false_iff.mpr g, if_neg (by decide), Bool.false_and, if_neg (by decide)]
    simp only [spec_JoinSketches.j0, if_true]
theorem implJoin_f (l : List Int) (t : Int) (m : List Int) (u : Int) (k : Nat) (hk : 400 < k) : impl_JoinSketches.f k l t m u = some (joinR l t m u) := by
  obtain ⟨k2, rfl⟩ : ∃ m, k = m + 1 := ⟨k - 1, by omega⟩
  unfold impl_JoinSketches.f joinR
  rw [goodSketch_f l t, Option.bind_some]
  by_cases g : goodSk l t = true
  · rw [if_pos g, goodSketch_f m u, Option.bind_some, g, Bool.true_and]
    have hl := goodSk_len l t g
    simp only [impl_JoinSketches.j0]
    by_cases z : goodSk m u = true
    · have hm := goodSk_len m u z
      unfold slices_Clone_int_int.f
      rw [z, if_neg (by decide), if_pos rfl, if_pos (by omega), Option.bind_some]
      have h := implJoin_loop m hm (wrap64 (t + u)) 128 k2 0 l (by simpa using hl) (by omega) (by omega)
      refine h.trans ?_
      rw [List.take_zero, List.nil_append, List.drop_zero, List.drop_zero]
      try rfl
    · rw [Bool.eq_false_iff.mpr z, if_pos (by decide), if_neg (by decide)]
  · rw [Bool.eq_false_iff.mpr g, if_neg (by decide), Bool.false_and, if_neg (by decide)]
    simp only [impl_JoinSketches.j0, if_true]

/-! The exact laws' words for sketches -/
theorem toSk_f (l : List Int) (t : Int) (hl : l.length ≤ 1048576) (k : Nat) (hk : 1048576 < k) : laws_toSketch.f k l t = some (l, t) := by
  unfold laws_toSketch.f; rw [toInts_f l (by omega) k (by omega), Option.bind_some]
theorem eqSk_f (l : List Int) (t : Int) (hl : l.length ≤ 1048576) (k : Nat) (hk : 1048576 < k) : laws_eqSketch.f k l t l t = some true := by
  unfold laws_eqSketch.f; rw [eqInts_f l l (by omega) k (by omega), decide_eq_true rfl, Option.bind_some, if_pos rfl, if_pos rfl]
theorem szSk_f (l : List Int) (t : Int) (hm : l.length ≤ maxLen) (left : Int) (h0 : 0 ≤ left) (h1 : left ≤ 1048576) : laws_szSketch.f l t left = some (if (l.length : Int) ≤ left then left - l.length else -1) := by
  unfold maxLen at hm
  unfold laws_szSketch.f laws_szIntS.f
  rw [w64 (by omega) (by omega)]
  by_cases c : (l.length : Int) ≤ left
  · rw [if_neg (by omega), Option.bind_some, if_neg (by omega), if_pos c]
  · rw [if_pos (by omega), Option.bind_some, if_pos (by omega), if_neg c]

/-! The exact laws' marks in a sketch -/
theorem markSkA_f (l : List Int) (t : Int) (a : Int) (ha : 0 ≤ a) (ha2 : a ≤ 2000000) (hl : l.length ≤ 1048576) (k : Nat) (hk : 1048576 < k) : laws_markSketch.f k l t a = some (a + (l.length : Int), markL a l.length) := by
  unfold laws_markSketch.f; rw [markInts_f l a (by omega) (by omega) k (by omega), Option.bind_some]
theorem markSk_f (l : List Int) (t : Int) (hl : l.length ≤ 1048576) (k : Nat) (hk : 1048576 < k) : laws_markSketch.f k l t 1 = some (1 + (l.length : Int), markL 1 l.length) := markSkA_f l t 1 (by omega) (by omega) hl k hk
theorem heldSk_f (n : Nat) (t : Int) (hl : n ≤ 1048576) (k : Nat) (hk : 1048576 < k) : laws_heldSketch.f k (markL 1 n) t 1 = some (1 + (n : Int)) := by
  unfold laws_heldSketch.f; rw [heldInts_f n 1 (by omega) (by omega) k (by omega), Option.bind_some, if_neg (by omega)]

theorem FnExactJoinSketches : laws_FnExactJoinSketches.Pure := by
  intro l t m u hm _ _ hm2 _ _
  obtain ⟨k, hk⟩ : ∃ k, k = 1048580 := ⟨_, rfl⟩
  obtain ⟨k2, hk2⟩ : ∃ k2, k = k2 + 1 := ⟨1048579, by omega⟩
  obtain ⟨k3, hk3⟩ : ∃ k3, k2 = k3 + 1 := ⟨1048578, by omega⟩
  obtain ⟨k4, hk4⟩ : ∃ k4, k3 = k4 + 1 := ⟨1048577, by omega⟩
  refine ⟨k, ?_⟩
  unfold laws_FnExactJoinSketches.f
  rw [szSk_f l t hm 1048576 (by omega) (by omega), Option.bind_some]
  by_cases c : (l.length : Int) ≤ 1048576
  · have hl : l.length ≤ 1048576 := by omega
    rw [if_pos c, if_neg (by omega), szSk_f m u hm2 (1048576 - (l.length : Int)) (by omega) (by omega), Option.bind_some]
    by_cases c2 : (m.length : Int) ≤ 1048576 - (l.length : Int)
    · have hl2 : m.length ≤ 1048576 := by omega
      rw [if_pos c2, if_neg (by omega), toSk_f l t hl k (by omega), Option.bind_some]
      have hr := joinR_len l t m u hl
      have e1 := specJoin_f l t m u k (by omega)
      have e2 := implJoin_f l t m u k (by omega)
      have e3 := implJoin_f l t m u k3 (by omega)
      obtain ⟨r, h⟩ : ∃ r, r = joinR l t m u := ⟨_, rfl⟩
      rw [← h] at hr e1 e2 e3
      obtain ⟨g, gt, gb⟩ := r
      have n0 : ¬ (1 + (l.length : Int) + (m.length : Int)) < 0 := by omega
      have n2 : ¬ (1 + (g.length : Int)) < 0 := by omega
      have n3 : g.length ≤ 1048576 := hr
      simp only [toSk_f m u hl2 k (by omega), e1, e2, Option.bind_some, eqSk_f g gt n3 k (by omega), if_true, bne_self_eq_false]
      rw [hk2]
      simp only [laws_FnExactJoinSketches.j0]
      rw [if_neg (by decide)]
      simp only [toSk_f l t hl k2 (by omega), toSk_f m u hl2 k2 (by omega), Option.bind_some, eqSk_f l t hl k2 (by omega), eqSk_f m u hl2 k2 (by omega), eqSk_f g gt n3 k2 (by omega), markSk_f l t hl k2 (by omega), markSkA_f m u (1 + (l.length : Int)) (by omega) (by omega) hl2 k2 (by omega), n0, if_true, if_false, bne_self_eq_false]
      rw [hk3]
      simp only [laws_FnExactJoinSketches.j1]
      rw [if_neg (by decide)]
      simp only [markSk_f g gt n3 k3 (by omega), Option.bind_some, heldSk_f g.length gt n3 k3 (by omega), n2, if_true, if_false, toSk_f l t hl k3 (by omega), toSk_f m u hl2 k3 (by omega), e3, eqSk_f g gt n3 k3 (by omega), bne_self_eq_false]
      rw [hk4]
      simp only [laws_FnExactJoinSketches.j2]
      rw [if_neg (by decide)]
      simp only [Option.bind_some, heldSk_f g.length gt n3 k4 (by omega), n2, if_true, if_false]
    · rw [if_neg c2, if_pos (by omega)]
  · rw [if_neg c, if_pos (by omega)]

end Go.Proofs.Ytbimpkfffcnlhaa.Pure
