/- FnSketch: the law of estimates returns true at every two codes: an estimate is never below what was counted, nor above all that was. Conditions: none beyond the sizes that a Go value has. -/
import Derived.Test.YtemeajidcggniaaPFnSketchx8
import Derived.Test.YtemeajidcggniaaPFnSketchx9
import Derived.Test.YtemeajidcggniaaPFnSketchx10
import Derived.Lib.VarintBits
set_option linter.unusedVariables false
set_option linter.unusedSimpArgs false
namespace Go.Proofs.Ytemeajidcggniaa.Pure
open Go.RowKit Go.Proofs.Ytemeajidcggniaa.PFnSketch Go.Proofs.YtemeajidcggniaaW.PrintWords Go.Proofs.YtemeajidcggniaaW.PrintLast

theorem bytes_of (l : List Int) (h : ∀ x ∈ l, (Lit.int .u8 x).wf = true) : ∀ x ∈ l, 0 ≤ x ∧ x ≤ 255 := by
  intro x hx
  have := h x hx
  simp [Lit.wf, IntKind.min, IntKind.max, IntKind.bits, IntKind.signed] at this
  omega

/-! Whole numbers and rows of them -/
theorem w64 {x : Int} (h : -9223372036854775808 ≤ x) (h2 : x < 9223372036854775808) : wrap64 x = x := by unfold wrap64; omega
theorem rd_nat (l : List Int) (n : Nat) (h : n < l.length) : rd l (n : Int) = l[n] := by
  unfold rd; simp [List.getD_eq_getElem?_getD, h]
theorem succ_cast (n : Nat) : ((n : Int) + 1) = ((n + 1 : Nat) : Int) := by omega

/-! The first place at which a predicate holds -/
theorem idxO_ge {α : Type} (p : α → Option Bool) (l : List α) : ∀ (n i : Int), 0 ≤ n → idxO p l n = some i → i = -1 ∨ n ≤ i := by
  induction l with
  | nil => intro n i hn h; left; exact (Option.some.inj h).symm
  | cons x xs ih =>
    intro n i hn h
    obtain ⟨b, hb, h2⟩ := Option.bind_eq_some_iff.mp h
    cases b with
    | true => right; have := Option.some.inj h2; omega
    | false => have := ih (n + 1) i (by omega) h2; omega
theorem idxO_all {α : Type} (p : α → Option Bool) (q : α → Bool) (h : ∀ x, p x = some (!q x)) (l : List α) : ∀ (n : Int), 0 ≤ n → ∃ i, idxO p l n = some i ∧ (!decide (i ≥ 0)) = l.all q := by
  induction l with
  | nil => intro n hn; exact ⟨-1, rfl, rfl⟩
  | cons x xs ih =>
    intro n hn
    unfold idxO
    rw [h x, Option.bind_some]
    cases hq : q x with
    | true =>
      obtain ⟨i, h1, h2⟩ := ih (n + 1) (by omega)
      exact ⟨i, h1, by rw [h2, List.all_cons, hq, Bool.true_and]⟩
    | false => exact ⟨n, rfl, by rw [List.all_cons, hq, Bool.false_and, decide_eq_true (show n ≥ 0 from hn)]; rfl⟩

/-! The hash: the program's loop -/
def fnv (s : ByteArray) (i : Nat) : Nat → Int → Int
  | 0, h => h
  | d + 1, h => fnv s (i + 1) d (((Go.bits .xor .u32 h ((bt s (i : Int)) % 4294967296)) * 16777619) % 4294967296)
theorem hashed_loop (s : ByteArray) (hs : s.size < 4611686018427387904) (d : Nat) : ∀ (k n : Nat) (h : Int), n + d = s.size → d < k →
    impl_hashed.l0 k h s (s.size : Int) (n : Int) = some (fnv s n d h) := by
  induction d with
  | zero =>
    intro k n h hn hk
    obtain ⟨k, rfl⟩ : ∃ m, k = m + 1 := ⟨k - 1, by omega⟩
    have c : ¬ (n : Int) < (s.size : Int) := by omega
    simp only [impl_hashed.l0]; rw [if_neg c]; rfl
  | succ d ih =>
    intro k n h hn hk
    obtain ⟨k, rfl⟩ : ∃ m, k = m + 1 := ⟨k - 1, by omega⟩
    have c1 : (n : Int) < (s.size : Int) := by omega
    have c0 : (0 : Int) ≤ (n : Int) := by omega
    simp only [impl_hashed.l0]
    rw [if_pos c1, if_pos c0, if_pos c1, w64 (by omega) (by omega), succ_cast]
    exact ih k (n + 1) _ (by omega) (by omega)
theorem hashed_f (s : ByteArray) (h : Int) (hs : s.size < 4611686018427387904) (k : Nat) (hk : s.size < k) : impl_hashed.f k h s = some (fnv s 0 s.size h) :=
  hashed_loop s hs s.size k 0 h (by omega) hk
theorem fnv_range (s : ByteArray) (d : Nat) : ∀ (n : Nat) (h : Int), 0 ≤ h → h < 4294967296 → 0 ≤ fnv s n d h ∧ fnv s n d h < 4294967296 := by
  induction d with
  | zero => intro n h a b; exact ⟨a, b⟩
  | succ d ih => intro n h a b; exact ih _ _ (Int.emod_nonneg _ (by omega)) (Int.emod_lt_of_pos _ (by omega))

/-! The cells of a key, in the program and in the reference -/
def cellAt (s : ByteArray) (r : Nat) : Int := wrap64 (wrap64 (32 * (r : Int)) + wrap64 (fnv s 0 s.size ((2166136261 + ((wrap64 (16777619 * (r : Int))) % 4294967296)) % 4294967296) / 134217728))
def cellsL (s : ByteArray) : List Int := [cellAt s 0, cellAt s 1, cellAt s 2, cellAt s 3]
theorem cellsOf_loop (s : ByteArray) (hs : s.size < 4611686018427387904) (d : Nat) : ∀ (k r : Nat) (l : List Int), r + d = 4 → l.length = r → d + s.size < k →
    impl_cellsOf.l0 k s l (r : Int) = some (l ++ (cellsL s).drop r) := by
  induction d with
  | zero =>
    intro k r l hr hl hk
    obtain ⟨k, rfl⟩ : ∃ m, k = m + 1 := ⟨k - 1, by omega⟩
    have c : ¬ (r : Int) < 4 := by omega
    have h4 : r = 4 := by omega
    simp only [impl_cellsOf.l0]; rw [if_neg c, h4]; simp [cellsL]
  | succ d ih =>
    intro k r l hr hl hk
    obtain ⟨k, rfl⟩ : ∃ m, k = m + 1 := ⟨k - 1, by omega⟩
    have c : (r : Int) < 4 := by omega
    simp only [impl_cellsOf.l0]
    rw [if_pos c, hashed_f s _ hs k (by omega), Option.bind_some, if_pos (by omega), w64 (x := (r : Int) + 1) (by omega) (by omega), succ_cast, ih k (r + 1) _ (by omega) (by simp [hl]) (by omega), List.append_assoc]
    congr 2
    rw [List.drop_eq_getElem_cons (l := cellsL s) (i := r) (by simp [cellsL]; omega)]
    have h : ∀ h, (cellsL s)[r]'h = cellAt s r := by
      intro h
      obtain h | h | h | h : r = 0 ∨ r = 1 ∨ r = 2 ∨ r = 3 := by omega
      all_goals (subst h; rfl)
    rw [h]; rfl
theorem cellsOf_f (s : ByteArray) (hs : s.size < 4611686018427387904) (k : Nat) (hk : 4 + s.size < k) : impl_cellsOf.f k s = some (cellsL s) := by
  have h := cellsOf_loop s hs 4 k 0 [] (by omega) rfl hk
  exact h
theorem l13_inner (s : ByteArray) (l : List Int) (r : Int) (hs : s.size < 4611686018427387904) (d : Nat) : ∀ (k n : Nat) (h : Int), n + d = s.size → d < k →
    spec_l13Cells.l1 k s l r h (n : Int) = spec_l13Cells.l1 (k - d) s l r (fnv s n d h) (s.size : Int) := by
  induction d with
  | zero =>
    intro k n h hn hk
    have e : n = s.size := by omega
    rw [e, Nat.sub_zero]; rfl
  | succ d ih =>
    intro k n h hn hk
    obtain ⟨k, rfl⟩ : ∃ m, k = m + 1 := ⟨k - 1, by omega⟩
    have c1 : (n : Int) < (s.size : Int) := by omega
    have c0 : (0 : Int) ≤ (n : Int) := by omega
    conv => lhs; simp only [spec_l13Cells.l1]
    rw [if_pos c1, if_pos c0, w64 (by omega) (by omega), succ_cast, ih k (n + 1) _ (by omega) (by omega), show k + 1 - (d + 1) = k - d by omega]
    rfl
theorem l13_loop (s : ByteArray) (hs : s.size < 4611686018427387904) (d : Nat) : ∀ (k r : Nat) (l : List Int), r + d = 4 → l.length = r → d * (s.size + 2) < k →
    spec_l13Cells.l0 k s l (r : Int) = some (l ++ (cellsL s).drop r) := by
  induction d with
  | zero =>
    intro k r l hr hl hk
    obtain ⟨k, rfl⟩ : ∃ m, k = m + 1 := ⟨k - 1, by omega⟩
    have c : ¬ (r : Int) < 4 := by omega
    have h4 : r = 4 := by omega
    simp only [spec_l13Cells.l0]; rw [if_neg c, h4]; simp [cellsL]
  | succ d ih =>
    intro k r l hr hl hk
    obtain ⟨k, rfl⟩ : ∃ m, k = m + 1 := ⟨k - 1, by omega⟩
    have hk' : d * (s.size + 2) + (s.size + 2) < k + 1 := by rw [← Nat.succ_mul]; exact hk
    have c : (r : Int) < 4 := by omega
    have hin := l13_inner s l (r : Int) hs s.size k 0 ((2166136261 + ((16777619 * ((r : Int) % 4294967296)) % 4294967296)) % 4294967296) (by omega) (by omega)
    simp only [spec_l13Cells.l0]
    rw [if_pos c]
    rw [show ((0 : Nat) : Int) = 0 from rfl] at hin
    rw [hin]
    obtain ⟨k2, hk2⟩ : ∃ m, k - s.size = m + 1 := ⟨k - s.size - 1, by omega⟩
    rw [hk2]
    have c2 : ¬ (s.size : Int) < (s.size : Int) := by omega
    simp only [spec_l13Cells.l1]
    rw [if_neg c2, if_pos (by omega), w64 (x := (r : Int) + 1) (by omega) (by omega), succ_cast, ih k2 (r + 1) _ (by omega) (by simp [hl]) (by omega), List.append_assoc]
    congr 2
    rw [List.drop_eq_getElem_cons (l := cellsL s) (i := r) (by simp [cellsL]; omega)]
    have h : ∀ h, (cellsL s)[r]'h = cellAt s r := by
      intro h
      obtain h | h | h | h : r = 0 ∨ r = 1 ∨ r = 2 ∨ r = 3 := by omega
      all_goals (subst h; rfl)
    rw [h]
    have e : (16777619 * ((r : Int) % 4294967296)) % 4294967296 = (wrap64 (16777619 * (r : Int))) % 4294967296 := by
      rw [w64 (by omega) (by omega), Int.emod_eq_of_lt (a := (r : Int)) (by omega) (by omega)]
    rw [e]; rfl
theorem l13Cells_f (s : ByteArray) (hs : s.size < 4611686018427387904) (k : Nat) (hk : 4 * (s.size + 2) < k) : spec_l13Cells.f k s = some (cellsL s) := by
  have h := l13_loop s hs 4 k 0 [] (by omega) rfl hk
  exact h

/-! A good sketch, in the program and in the reference -/
def inR (x : Int) : Bool := decide (0 ≤ x ∧ x ≤ 1000000)
def goodSk (l : List Int) (t : Int) : Bool := decide (l.length = 128) && (inR t && (l.all inR && xgoodsums l t [0, 1, 2, 3]))
theorem within_f (x a b : Int) : impl_within.f x a b = some (decide (a ≤ x ∧ x ≤ b)) := by
  unfold impl_within.f
  by_cases c : a ≤ x
  · rw [if_pos c]; simp [c]
  · rw [if_neg c]; simp [c]
theorem l1In_f (x a b : Int) : spec_l1In.f x a b = some (decide (a ≤ x ∧ x ≤ b)) := by
  unfold spec_l1In.f
  by_cases c : x ≥ a
  · rw [if_pos c]; simp [show a ≤ x from c]
  · rw [if_neg c]; simp [show ¬ a ≤ x from c]
theorem isCount_f (x : Int) : impl_isCount.f x = some (inR x) := by
  unfold impl_isCount.f; rw [within_f]; rfl
theorem allCount_f (l : List Int) (hl : l.length < 9223372036854775807) : xAll_i64_impl_isCount.f l = some (l.all inR) := by
  obtain ⟨i, h1, h2⟩ := idxO_all xAll_i64_impl_isCount.z inR (fun x => by unfold xAll_i64_impl_isCount.z; rw [isCount_f]; rfl) l 0 (by omega)
  unfold xAll_i64_impl_isCount.f
  rw [if_pos hl, h1, Option.bind_some, h2]
theorem goodSketch_f (l : List Int) (t : Int) : impl_GoodSketch.f l t = some (goodSk l t) := by
  unfold impl_GoodSketch.f goodSk
  by_cases c : l.length = 128
  · rw [if_pos c, decide_eq_true c, Bool.true_and, isCount_f, Option.bind_some]
    cases h1 : inR t with
    | false => rw [if_neg (by decide), Bool.false_and]
    | true =>
      rw [if_pos rfl, allCount_f l (by omega), Option.bind_some, Bool.true_and]
      cases h2 : l.all inR with
      | false => rw [if_neg (by decide), Bool.false_and]
      | true => rw [if_pos rfl, Bool.true_and]; rfl
  · rw [if_neg c, decide_eq_false c, Bool.false_and]
def rowsFrom (l : List Int) (t : Int) (r : Nat) : Bool := (List.range' r (4 - r)).all fun x => (xpart l x).all inR && (xsumL (xpart l x) == t)
theorem xpart_len (l : List Int) (hl : l.length = 128) (r : Nat) (hr : r < 4) : (xpart l r).length = 32 := by
  unfold xpart; rw [List.length_take, List.length_drop]; omega
theorem xpart_get (l : List Int) (hl : l.length = 128) (r c : Nat) (hr : r < 4) (hc : c < 32) : ∀ h, (xpart l r)[c]'h = l[32 * r + c]'(by omega) := by
  intro h
  have e : xpart l r = (l.drop (32 * r)).take 32 := rfl
  simp only [e, List.getElem_take, List.getElem_drop]
theorem goodRow (l : List Int) (t : Int) (hl : l.length = 128) (r : Nat) (hr : r < 4) (B : Bool) (K : Nat) (hB : ∀ k, K ≤ k → spec_GoodSketch.l0 k ((r + 1 : Nat) : Int) l t = some B) (d : Nat) :
    ∀ (k c : Nat) (s : Int), c + d = 32 → K + d < k → spec_GoodSketch.l1 k (r : Int) s (c : Int) l t = some (((xpart l r).drop c).all inR && ((((xpart l r).drop c).foldl (fun s v => wrap64 (s + v)) s == t) && B)) := by
  induction d with
  | zero =>
    intro k c s hc hk
    obtain ⟨k, rfl⟩ : ∃ m, k = m + 1 := ⟨k - 1, by omega⟩
    have hp := xpart_len l hl r hr
    simp only [spec_GoodSketch.l1]
    rw [if_neg (by omega), List.drop_of_length_le (by omega), List.all_nil, List.foldl_nil, Bool.true_and]
    by_cases e : s = t
    · rw [if_pos e, w64 (by omega) (by omega), succ_cast, hB k (by omega), beq_iff_eq.mpr e, Bool.true_and]
    · rw [if_neg e, beq_eq_false_iff_ne.mpr e, Bool.false_and]
  | succ d ih =>
    intro k c s hc hk
    obtain ⟨k, rfl⟩ : ∃ m, k = m + 1 := ⟨k - 1, by omega⟩
    have hp := xpart_len l hl r hr
    have e1 : wrap64 ((wrap64 ((r : Int) * 32)) + (c : Int)) = ((32 * r + c : Nat) : Int) := by rw [w64 (x := (r : Int) * 32) (by omega) (by omega), w64 (by omega) (by omega)]; omega
    have hlt : 32 * r + c < l.length := by omega
    simp only [spec_GoodSketch.l1]
    rw [if_pos (by omega), e1, if_pos (by omega), if_pos (by omega), l1In_f, Option.bind_some, rd_nat l _ hlt, List.drop_eq_getElem_cons (l := xpart l r) (i := c) (by omega), List.all_cons, List.foldl_cons, xpart_get l hl r c hr (by omega)]
    cases hi : inR (l[32 * r + c]'hlt) with
    | true =>
      unfold inR at hi
      rw [if_pos hi, w64 (x := (c : Int) + 1) (by omega) (by omega), succ_cast, ih k (c + 1) _ (by omega) (by omega), Bool.true_and]
    | false =>
      unfold inR at hi
      rw [hi, if_neg (by decide), Bool.false_and, Bool.false_and]
theorem goodRows (l : List Int) (t : Int) (hl : l.length = 128) (d : Nat) : ∀ (k r : Nat), r + d = 4 → 40 * d < k → spec_GoodSketch.l0 k (r : Int) l t = some (rowsFrom l t r) := by
  induction d with
  | zero =>
    intro k r hr hk
    obtain ⟨k, rfl⟩ : ∃ m, k = m + 1 := ⟨k - 1, by omega⟩
    simp only [spec_GoodSketch.l0]
    rw [if_neg (by omega), show r = 4 by omega]; rfl
  | succ d ih =>
    intro k r hr hk
    obtain ⟨k, rfl⟩ : ∃ m, k = m + 1 := ⟨k - 1, by omega⟩
    simp only [spec_GoodSketch.l0]
    have h := goodRow l t hl r (by omega) (rowsFrom l t (r + 1)) (40 * d + 1) (fun k hk => ih k (r + 1) (by omega) (by omega)) 32 k 0 0 (by omega) (by omega)
    rw [if_pos (by omega)]
    refine h.trans ?_
    rw [List.drop_zero]
    unfold rowsFrom
    rw [show 4 - r = (4 - (r + 1)) + 1 by omega, List.range'_succ, List.all_cons, Bool.and_assoc]
    rfl
theorem all_parts (l : List Int) (hl : l.length = 128) (p : Int → Bool) : l.all p = ((xpart l 0).all p && ((xpart l 1).all p && ((xpart l 2).all p && (xpart l 3).all p))) := by
  have e : l = xpart l 0 ++ (xpart l 1 ++ (xpart l 2 ++ xpart l 3)) := by
    unfold xpart
    have h3 : (l.drop (32 * 3)).take 32 = l.drop 96 := List.take_of_length_le (by rw [List.length_drop]; omega)
    rw [h3]
    have h2 : (l.drop (32 * 2)).take 32 ++ l.drop 96 = l.drop 64 := by
      have h := List.take_append_drop 32 (l.drop 64)
      rw [List.drop_drop] at h; exact h
    rw [h2]
    have h1 : (l.drop (32 * 1)).take 32 ++ l.drop 64 = l.drop 32 := by
      have h := List.take_append_drop 32 (l.drop 32)
      rw [List.drop_drop] at h; exact h
    rw [h1]
    exact (List.take_append_drop 32 l).symm
  conv => lhs; rw [e]
  rw [List.all_append, List.all_append, List.all_append]
theorem rowsFrom_all (l : List Int) (t : Int) (hl : l.length = 128) : rowsFrom l t 0 = (l.all inR && xgoodsums l t [0, 1, 2, 3]) := by
  rw [all_parts l hl]
  unfold rowsFrom xgoodsums
  simp only [List.range', List.all_cons, List.all_nil]
  cases (xpart l 0).all inR <;> cases (xpart l 1).all inR <;> cases (xpart l 2).all inR <;> cases (xpart l 3).all inR <;> simp
theorem specGoodSketch_f (l : List Int) (t : Int) (k : Nat) (hk : 170 < k) : spec_GoodSketch.f k l t = some (goodSk l t) := by
  obtain ⟨k, rfl⟩ : ∃ m, k = m + 1 := ⟨k - 1, by omega⟩
  unfold spec_GoodSketch.f goodSk
  by_cases c : l.length = 128
  · rw [if_pos (by omega), l1In_f, Option.bind_some, decide_eq_true c, Bool.true_and]
    simp only [spec_GoodSketch.j0]
    by_cases h1 : 0 ≤ t ∧ t ≤ 1000000
    · rw [decide_eq_true h1, show inR t = true from decide_eq_true h1, if_neg (by decide), Bool.true_and]
      have h := goodRows l t c 4 k 0 rfl (by omega)
      rw [rowsFrom_all l t c] at h
      exact h
    · rw [decide_eq_false h1, show inR t = false from decide_eq_false h1, if_pos (by decide), Bool.false_and]
  · rw [if_neg (by omega), decide_eq_false c, Bool.false_and]
    simp only [spec_GoodSketch.j0]
    rw [if_pos trivial]

theorem goodSk_len (l : List Int) (t : Int) (h : goodSk l t = true) : l.length = 128 := by
  unfold goodSk at h
  simp only [Bool.and_eq_true, decide_eq_true_eq] at h
  exact h.1
theorem goodSk_cells (l : List Int) (t : Int) (h : goodSk l t = true) : ∀ x ∈ l, 0 ≤ x ∧ x ≤ 1000000 := by
  unfold goodSk at h
  simp only [Bool.and_eq_true, List.all_eq_true] at h
  intro x hx
  exact of_decide_eq_true (h.2.2.1 x hx)

/-! Keys -/
def keyB (s : ByteArray) : Bool := decide ((1 : Int) ≤ (s.size : Int) ∧ (s.size : Int) ≤ 20)
theorem isKey_f (s : ByteArray) : impl_isKey.f s = some (keyB s) := by
  unfold impl_isKey.f; rw [within_f]; rfl
theorem l13Key_f (s : ByteArray) : spec_l13Key.f s = some (keyB s) := by
  unfold spec_l13Key.f; rw [l1In_f]; rfl
theorem keyB_size (s : ByteArray) (h : keyB s = true) : s.size ≤ 20 := by
  unfold keyB at h
  have := of_decide_eq_true h
  omega
theorem cellAt_range (s : ByteArray) (r : Nat) (hr : r < 4) : 0 ≤ cellAt s r ∧ cellAt s r < 128 := by
  unfold cellAt
  obtain ⟨h0, h1⟩ := fnv_range s s.size 0 ((2166136261 + ((wrap64 (16777619 * (r : Int))) % 4294967296)) % 4294967296) (Int.emod_nonneg _ (by decide)) (Int.emod_lt_of_pos _ (by decide))
  generalize fnv s 0 s.size ((2166136261 + ((wrap64 (16777619 * (r : Int))) % 4294967296)) % 4294967296) = f at h0 h1
  have a1 : 0 ≤ f / 134217728 := by omega
  have a2 : f / 134217728 < 32 := by omega
  generalize f / 134217728 = q at a1 a2
  unfold wrap64
  omega
theorem cellsL_range (s : ByteArray) : ∀ c ∈ cellsL s, 0 ≤ c ∧ c < 128 := by
  intro c hc
  unfold cellsL at hc
  simp only [List.mem_cons, List.not_mem_nil, or_false] at hc
  obtain rfl | rfl | rfl | rfl := hc
  · exact cellAt_range s 0 (by decide)
  · exact cellAt_range s 1 (by decide)
  · exact cellAt_range s 2 (by decide)
  · exact cellAt_range s 3 (by decide)

def goodOr (l : List Int) (t : Int) : List Int × Int × Bool := if goodSk l t = true then (l, t, true) else ([], 0, false)
theorem goodOr_len (l : List Int) (t : Int) (h : l.length ≤ 1048576) : (goodOr l t).1.length ≤ 1048576 := by
  unfold goodOr; split
  · exact h
  · simp

/-! A key that is counted -/
def addL (by_ : Int) : List Int → List Int → List Int
  | [], l => l
  | c :: cs, l => addL by_ cs (l.set c.toNat (wrap64 (rd l c + by_)))
theorem addL_len (b : Int) (cs : List Int) : ∀ l : List Int, (addL b cs l).length = l.length := by
  induction cs with
  | nil => intro l; rfl
  | cons c cs ih => intro l; unfold addL; rw [ih, List.length_set]
theorem specCount_loop (cs : List Int) (b t : Int) (hb : cs.length < 1000) (d : Nat) : ∀ (k n : Nat) (l : List Int), (∀ c ∈ cs, 0 ≤ c ∧ c < (l.length : Int)) → n + d = cs.length → d + 200 < k →
    spec_CountIn.l0 k b cs (cs.length : Int) (n : Int) l t = some (goodOr (addL b (cs.drop n) l) t) := by
  induction d with
  | zero =>
    intro k n l hc hn hk
    obtain ⟨k, rfl⟩ : ∃ m, k = m + 1 := ⟨k - 1, by omega⟩
    simp only [spec_CountIn.l0]
    rw [if_neg (by omega), List.drop_of_length_le (by omega), specGoodSketch_f l t k (by omega), Option.bind_some]
    unfold addL goodOr
    by_cases g : goodSk l t = true
    · rw [if_pos g, if_pos g]
    · rw [if_neg g, if_neg g]
  | succ d ih =>
    intro k n l hc hn hk
    obtain ⟨k, rfl⟩ : ∃ m, k = m + 1 := ⟨k - 1, by omega⟩
    have h1 : n < cs.length := by omega
    have h2 := hc cs[n] (List.getElem_mem h1)
    simp only [spec_CountIn.l0]
    rw [if_pos (by omega), if_pos (by omega), if_pos (by omega), rd_nat cs n h1, if_pos h2.1, if_pos h2.2, w64 (x := (n : Int) + 1) (by omega) (by omega), succ_cast, ih k (n + 1) _ (by rw [List.length_set]; exact hc) (by omega) (by omega), List.drop_eq_getElem_cons h1]
    rfl
def countR (l : List Int) (t : Int) (s : ByteArray) (b : Int) : List Int × Int × Bool :=
  if (goodSk l t && (keyB s && decide (0 ≤ b ∧ b ≤ 1000))) = true then goodOr (addL b (cellsL s) l) (wrap64 (t + b)) else ([], 0, false)
theorem countR_len (l : List Int) (t : Int) (s : ByteArray) (b : Int) (hl : l.length ≤ 1048576) : (countR l t s b).1.length ≤ 1048576 := by
  unfold countR; split
  · exact goodOr_len _ _ (by rw [addL_len]; exact hl)
  · simp
theorem specCount_f (l : List Int) (t : Int) (s : ByteArray) (b : Int) (k : Nat) (hk : 400 < k) : spec_CountIn.f k l t s b = some (countR l t s b) := by
  obtain ⟨k2, rfl⟩ : ∃ m, k = m + 1 := ⟨k - 1, by omega⟩
  unfold spec_CountIn.f countR
  rw [specGoodSketch_f l t (k2 + 1) (by omega), Option.bind_some]
  by_cases g : goodSk l t = true
  · rw [if_pos g, l13Key_f, Option.bind_some, g, Bool.true_and]
    have hl := goodSk_len l t g
    by_cases y : keyB s = true
    · rw [if_pos y, l1In_f, Option.bind_some, y, Bool.true_and]
      simp only [spec_CountIn.j0]
      by_cases z : decide (0 ≤ b ∧ b ≤ 1000) = true
      · have hs := keyB_size s y
        have hc := cellsL_range s
        rw [z, if_neg (by decide), if_pos rfl, Option.bind_some, if_pos (by simp; omega), l13Cells_f s (by omega) k2 (by omega), Option.bind_some]
        have h := specCount_loop (cellsL s) b (wrap64 (t + b)) (by simp [cellsL]) 4 k2 0 ([] ++ l) (fun c hx => by have := hc c hx; simp; omega) (by simp [cellsL]) (by omega)
        exact h
      · rw [Bool.eq_false_iff.mpr z, if_pos (by decide), if_neg (by decide)]
    · rw [Bool.eq_false_iff.mpr y, if_neg (by decide), Bool.false_and, if_neg (by decide)]
      simp only [spec_CountIn.j0, if_true]
  · rw [Bool.eq_false_iff.mpr g, if_neg (by decide), Bool.false_and, if_neg (by decide)]
    simp only [spec_CountIn.j0, if_true]

/-! A key that is counted, in the program -/
theorem implCount_loop (cs : List Int) (b t : Int) (hb : cs.length < 1000) (d : Nat) : ∀ (k n : Nat) (l : List Int), (∀ c ∈ cs, 0 ≤ c ∧ c < (l.length : Int)) → n + d = cs.length → d + 200 < k →
    impl_CountIn.l0 k b cs (cs.length : Int) (n : Int) l t = some (goodOr (addL b (cs.drop n) l) t) := by
  induction d with
  | zero =>
    intro k n l hc hn hk
    obtain ⟨k, rfl⟩ : ∃ m, k = m + 1 := ⟨k - 1, by omega⟩
    simp only [impl_CountIn.l0]
    rw [if_neg (by omega), List.drop_of_length_le (by omega), goodSketch_f l t, Option.bind_some]
    unfold addL goodOr
    by_cases g : goodSk l t = true
    · rw [if_pos g, if_pos g]
    · rw [if_neg g, if_neg g]
  | succ d ih =>
    intro k n l hc hn hk
    obtain ⟨k, rfl⟩ : ∃ m, k = m + 1 := ⟨k - 1, by omega⟩
    have h1 : n < cs.length := by omega
    have h2 := hc cs[n] (List.getElem_mem h1)
    simp only [impl_CountIn.l0]
    rw [if_pos (by omega), if_pos (by omega), if_pos (by omega), rd_nat cs n h1, if_pos h2.1, if_pos h2.2, w64 (x := (n : Int) + 1) (by omega) (by omega), succ_cast, ih k (n + 1) _ (by rw [List.length_set]; exact hc) (by omega) (by omega), List.drop_eq_getElem_cons h1]
    rfl
theorem implCount_f (l : List Int) (t : Int) (s : ByteArray) (b : Int) (k : Nat) (hk : 400 < k) : impl_CountIn.f k l t s b = some (countR l t s b) := by
  obtain ⟨k2, rfl⟩ : ∃ m, k = m + 1 := ⟨k - 1, by omega⟩
  unfold impl_CountIn.f countR
  rw [goodSketch_f l t, Option.bind_some]
  by_cases g : goodSk l t = true
  · rw [if_pos g, isKey_f, Option.bind_some, g, Bool.true_and]
    have hl := goodSk_len l t g
    by_cases y : keyB s = true
    · rw [if_pos y, within_f, Option.bind_some, y, Bool.true_and]
      simp only [impl_CountIn.j0]
      by_cases z : decide (0 ≤ b ∧ b ≤ 1000) = true
      · have hs := keyB_size s y
        have hc := cellsL_range s
        unfold slices_Clone_int_int.f
        rw [z, if_neg (by decide), if_pos rfl, if_pos (by omega), Option.bind_some, cellsOf_f s (by omega) k2 (by omega), Option.bind_some]
        have h := implCount_loop (cellsL s) b (wrap64 (t + b)) (by simp [cellsL]) 4 k2 0 l (fun c hx => by have := hc c hx; omega) (by simp [cellsL]) (by omega)
        exact h
      · rw [Bool.eq_false_iff.mpr z, if_pos (by decide), if_neg (by decide)]
    · rw [Bool.eq_false_iff.mpr y, if_neg (by decide), Bool.false_and, if_neg (by decide)]
      simp only [impl_CountIn.j0, if_true]
  · rw [Bool.eq_false_iff.mpr g, if_neg (by decide), Bool.false_and, if_neg (by decide)]
    simp only [impl_CountIn.j0, if_true]

/-! The estimate: the least of the cells of a key -/
def estI (l : List Int) : List Int → Int → Int
  | [], m => m
  | c :: cs, m => estI l cs (mn m (rd l c))
theorem implEst_loop (l : List Int) (t : Int) (cs : List Int) (hc : ∀ c ∈ cs, 0 ≤ c ∧ c < (l.length : Int)) (hb : cs.length < 1000) (d : Nat) : ∀ (k n : Nat) (m : Int), n + d = cs.length → d < k →
    impl_Sketch_estimate.l0 k m cs (cs.length : Int) (n : Int) l t = some (estI l (cs.drop n) m) := by
  induction d with
  | zero =>
    intro k n m hn hk
    obtain ⟨k, rfl⟩ : ∃ m, k = m + 1 := ⟨k - 1, by omega⟩
    simp only [impl_Sketch_estimate.l0]
    rw [if_neg (by omega), List.drop_of_length_le (by omega)]; rfl
  | succ d ih =>
    intro k n m hn hk
    obtain ⟨k, rfl⟩ : ∃ m, k = m + 1 := ⟨k - 1, by omega⟩
    have h1 : n < cs.length := by omega
    have h2 := hc cs[n] (List.getElem_mem h1)
    simp only [impl_Sketch_estimate.l0]
    rw [if_pos (by omega), if_pos (by omega), if_pos (by omega), rd_nat cs n h1, if_pos h2.1, if_pos h2.2, w64 (by omega) (by omega), succ_cast, ih k (n + 1) _ (by omega) (by omega), List.drop_eq_getElem_cons h1]
    rfl
theorem rd_range (l : List Int) (hv : ∀ x ∈ l, 0 ≤ x ∧ x ≤ 1000000) (c : Int) (h0 : 0 ≤ c) (h1 : c < (l.length : Int)) : 0 ≤ rd l c ∧ rd l c ≤ 1000000 := by
  obtain ⟨n, rfl⟩ : ∃ n : Nat, c = n := ⟨c.toNat, by omega⟩
  rw [rd_nat l n (by omega)]
  exact hv _ (List.getElem_mem _)
def estOf (l : List Int) (s : ByteArray) : Int := estI l (cellsL s) 1000000
theorem implEst_f (l : List Int) (t : Int) (s : ByteArray) (hs : s.size ≤ 20) (hl : l.length = 128) (k : Nat) (hk : 200 < k) : impl_Sketch_estimate.f k l t s = some (estOf l s) := by
  unfold impl_Sketch_estimate.f
  have hc := cellsL_range s
  rw [cellsOf_f s (by omega) k (by omega), Option.bind_some]
  have h := implEst_loop l t (cellsL s) (fun c hx => by have := hc c hx; omega) (by simp [cellsL]) 4 k 0 1000000 (by simp [cellsL]) (by omega)
  exact h

/-! Rows of a sketch: what counting changes -/
def sumZ : List Int → Int
  | [] => 0
  | x :: xs => x + sumZ xs
theorem xsum_plain (p : List Int) : ∀ s : Int, (∀ x ∈ p, 0 ≤ x ∧ x ≤ 2000000) → 0 ≤ s → s + 2000000 * p.length < 4611686018427387904 → p.foldl (fun s v => wrap64 (s + v)) s = s + sumZ p := by
  induction p with
  | nil => intro s _ _ _; simp [sumZ]
  | cons x xs ih =>
    intro s h hs hb
    have hx := h x (by simp)
    rw [List.length_cons] at hb
    rw [List.foldl_cons, w64 (by omega) (by omega), ih (s + x) (fun y hy => h y (by simp [hy])) (by omega) (by omega)]
    simp only [sumZ]; omega
theorem xsumL_plain (p : List Int) (h : ∀ x ∈ p, 0 ≤ x ∧ x ≤ 2000000) (hl : p.length ≤ 1000) : xsumL p = sumZ p := by
  unfold xsumL
  rw [xsum_plain p 0 h (by omega) (by omega)]; omega
theorem sumZ_nonneg (p : List Int) (h : ∀ x ∈ p, 0 ≤ x) : 0 ≤ sumZ p := by
  induction p with
  | nil => simp [sumZ]
  | cons x xs ih =>
    have := h x (by simp)
    have := ih (fun y hy => h y (by simp [hy]))
    simp only [sumZ]; omega
theorem sumZ_ge (p : List Int) (h : ∀ x ∈ p, 0 ≤ x) : ∀ x ∈ p, x ≤ sumZ p := by
  induction p with
  | nil => intro x hx; simp at hx
  | cons y ys ih =>
    intro x hx
    have h1 := h y (by simp)
    have h2 := sumZ_nonneg ys (fun z hz => h z (by simp [hz]))
    simp only [sumZ]
    rcases List.mem_cons.mp hx with rfl | hx
    · omega
    · have := ih (fun z hz => h z (by simp [hz])) x hx; omega
theorem sumZ_set (p : List Int) (v : Int) : ∀ (d : Nat) (h : d < p.length), sumZ (p.set d v) = sumZ p - p[d] + v := by
  induction p with
  | nil => intro d h; simp at h
  | cons x xs ih =>
    intro d h
    cases d with
    | zero => simp only [List.set_cons_zero, sumZ, List.getElem_cons_zero]; omega
    | succ d =>
      have := ih d (by simpa using h)
      simp only [List.set_cons_succ, sumZ, List.getElem_cons_succ]; omega
theorem set_part (l : List Int) (hl : l.length = 128) (r d : Nat) (hr : r < 4) (hd : d < 32) (v : Int) : xpart (l.set (32 * r + d) v) r = (xpart l r).set d v := by
  have hp := xpart_len l hl r hr
  have hp2 := xpart_len (l.set (32 * r + d) v) (by rw [List.length_set]; exact hl) r hr
  apply List.ext_getElem (by rw [List.length_set, hp, hp2])
  intro i h1 h2
  rw [xpart_get _ (by rw [List.length_set]; exact hl) r i hr (by omega), List.getElem_set, List.getElem_set]
  by_cases e : d = i
  · rw [if_pos (by omega), if_pos e]
  · rw [if_neg (by omega), if_neg e, xpart_get l hl r i hr (by omega)]
theorem set_part_ne (l : List Int) (hl : l.length = 128) (r r' d : Nat) (hr : r < 4) (hr' : r' < 4) (hne : r' ≠ r) (hd : d < 32) (v : Int) : xpart (l.set (32 * r + d) v) r' = xpart l r' := by
  have hp := xpart_len l hl r' hr'
  have hp2 := xpart_len (l.set (32 * r + d) v) (by rw [List.length_set]; exact hl) r' hr'
  apply List.ext_getElem (by rw [hp, hp2])
  intro i h1 h2
  rw [xpart_get _ (by rw [List.length_set]; exact hl) r' i hr' (by omega), List.getElem_set, if_neg (by omega), xpart_get l hl r' i hr' (by omega)]
theorem xpart_mem (l : List Int) (r : Nat) : ∀ x ∈ xpart l r, x ∈ l := fun x hx => List.mem_of_mem_drop (List.mem_of_mem_take hx)
/-- what a good sketch says, in whole numbers -/
structure GoodP (l : List Int) (t : Int) : Prop where
  len : l.length = 128
  tot : 0 ≤ t ∧ t ≤ 1000000
  cell : ∀ x ∈ l, 0 ≤ x ∧ x ≤ 1000000
  row : ∀ r, r < 4 → sumZ (xpart l r) = t
theorem goodP_of (l : List Int) (t : Int) (h : goodSk l t = true) : GoodP l t := by
  have hl := goodSk_len l t h
  have hc := goodSk_cells l t h
  unfold goodSk xgoodsums inR at h
  simp only [Bool.and_eq_true, List.all_cons, List.all_nil, beq_iff_eq, decide_eq_true_eq] at h
  refine ⟨hl, h.2.1, hc, fun r hr => ?_⟩
  have hs : xsumL (xpart l r) = t := by
    obtain e | e | e | e : r = 0 ∨ r = 1 ∨ r = 2 ∨ r = 3 := by omega
    all_goals subst e
    · exact h.2.2.2.1
    · exact h.2.2.2.2.1
    · exact h.2.2.2.2.2.1
    · exact h.2.2.2.2.2.2.1
  rw [← hs, xsumL_plain _ (fun x hx => by have := hc x (xpart_mem l r x hx); omega) (by rw [xpart_len l hl r hr]; omega)]
theorem goodP_mk (l : List Int) (t : Int) (h : GoodP l t) : goodSk l t = true := by
  have hs : ∀ r, r < 4 → xsumL (xpart l r) = t := fun r hr => by
    rw [xsumL_plain _ (fun x hx => by have := h.cell x (xpart_mem l r x hx); omega) (by rw [xpart_len l h.len r hr]; omega)]
    exact h.row r hr
  unfold goodSk xgoodsums inR
  simp only [Bool.and_eq_true, List.all_cons, List.all_nil, beq_iff_eq, decide_eq_true_eq, List.all_eq_true]
  exact ⟨h.len, h.tot, h.cell, hs 0 (by omega), hs 1 (by omega), hs 2 (by omega), hs 3 (by omega), trivial⟩
theorem cell_total (l : List Int) (t : Int) (h : GoodP l t) (n : Nat) (hn : n < l.length) : l[n] ≤ t := by
  have hr : n / 32 < 4 := by have := h.len; omega
  have hp := xpart_len l h.len (n / 32) hr
  have hg := xpart_get l h.len (n / 32) (n % 32) hr (by omega) (by omega)
  rw [← h.row (n / 32) hr]
  have e : l[n] = (xpart l (n / 32))[n % 32]'(by omega) := by
    rw [hg]; congr 1; omega
  rw [e]
  exact sumZ_ge _ (fun x hx => (h.cell x (xpart_mem l _ x hx)).1) _ (List.getElem_mem _)
/-- one cell of a row more -/
theorem bump_row (l : List Int) (hl : l.length = 128) (r d : Nat) (hr : r < 4) (hd : d < 32) (b : Int) (r' : Nat) (hr' : r' < 4) :
    sumZ (xpart (l.set (32 * r + d) (l[32 * r + d]'(by omega) + b)) r') = sumZ (xpart l r') + if r' = r then b else 0 := by
  by_cases e : r' = r
  · subst e
    have hp := xpart_len l hl r' hr'
    rw [if_pos rfl, set_part l hl r' d hr hd, sumZ_set _ _ d (by omega), xpart_get l hl r' d hr hd]; omega
  · rw [if_neg e, set_part_ne l hl r r' d hr hr' e hd]; omega

/-! Estimates, and what counting does to them -/
theorem estI_props (l : List Int) (cs : List Int) : ∀ m : Int, estI l cs m ≤ m ∧ (∀ c ∈ cs, estI l cs m ≤ rd l c) ∧ (estI l cs m = m ∨ ∃ c ∈ cs, estI l cs m = rd l c) := by
  induction cs with
  | nil => intro m; exact ⟨Int.le_refl _, fun c hc => by simp at hc, .inl rfl⟩
  | cons c cs ih =>
    intro m
    obtain ⟨h1, h2, h3⟩ := ih (mn m (rd l c))
    have e : estI l (c :: cs) m = estI l cs (mn m (rd l c)) := rfl
    rw [e]
    have hm : mn m (rd l c) ≤ m ∧ mn m (rd l c) ≤ rd l c ∧ (mn m (rd l c) = m ∨ mn m (rd l c) = rd l c) := by unfold mn; split <;> omega
    refine ⟨by omega, fun x hx => ?_, ?_⟩
    · rcases List.mem_cons.mp hx with rfl | hx
      · omega
      · exact h2 x hx
    · rcases h3 with h3 | ⟨x, hx, h3⟩
      · rcases hm.2.2 with h4 | h4
        · left; omega
        · right; exact ⟨c, by simp, by omega⟩
      · right; exact ⟨x, by simp [hx], h3⟩
theorem cell_nat (s : ByteArray) (r : Nat) (hr : r < 4) : ∃ d, d < 32 ∧ cellAt s r = ((32 * r + d : Nat) : Int) := by
  unfold cellAt
  obtain ⟨h0, h1⟩ := fnv_range s s.size 0 ((2166136261 + ((wrap64 (16777619 * (r : Int))) % 4294967296)) % 4294967296) (Int.emod_nonneg _ (by decide)) (Int.emod_lt_of_pos _ (by decide))
  generalize fnv s 0 s.size ((2166136261 + ((wrap64 (16777619 * (r : Int))) % 4294967296)) % 4294967296) = f at h0 h1
  have a1 : 0 ≤ f / 134217728 := by omega
  have a2 : f / 134217728 < 32 := by omega
  generalize f / 134217728 = q at a1 a2
  refine ⟨q.toNat, by omega, ?_⟩
  rw [w64 (x := q) (by omega) (by omega), w64 (x := 32 * (r : Int)) (by omega) (by omega), w64 (by omega) (by omega)]
  omega
theorem estOf_props (l : List Int) (t : Int) (h : GoodP l t) (s : ByteArray) : (∀ c ∈ cellsL s, estOf l s ≤ rd l c) ∧ ∃ c ∈ cellsL s, estOf l s = rd l c := by
  obtain ⟨h1, h2, h3⟩ := estI_props l (cellsL s) 1000000
  refine ⟨h2, ?_⟩
  rcases h3 with h3 | h3
  · have hc : cellAt s 0 ∈ cellsL s := by unfold cellsL; simp
    have hr := cellsL_range s _ hc
    have hv := rd_range l h.cell (cellAt s 0) hr.1 (by have := h.len; omega)
    have h4 := h2 _ hc
    exact ⟨_, hc, by unfold estOf; omega⟩
  · exact h3
/-- counting: rows and cells -/
structure Bumped (l l' : List Int) (s : ByteArray) (b : Int) : Prop where
  len : l'.length = 128
  row : ∀ r, r < 4 → sumZ (xpart l' r) = sumZ (xpart l r) + b
  ge : ∀ i : Nat, i < 128 → rd l (i : Int) ≤ rd l' (i : Int) ∧ rd l' (i : Int) ≤ rd l (i : Int) + b
  hit : ∀ c ∈ cellsL s, rd l' c = rd l c + b
theorem rd_set (l : List Int) (i j : Nat) (v : Int) (hi : i < l.length) (hj : j < l.length) : rd (l.set i v) (j : Int) = if i = j then v else rd l (j : Int) := by
  rw [rd_nat _ j (by rw [List.length_set]; exact hj), rd_nat l j hj, List.getElem_set]
theorem addL_bumped (l : List Int) (t : Int) (h : GoodP l t) (s : ByteArray) (b : Int) (hb : 0 ≤ b ∧ b ≤ 1000) : Bumped l (addL b (cellsL s) l) s b := by
  obtain ⟨d0, k0, e0⟩ := cell_nat s 0 (by omega)
  obtain ⟨d1, k1, e1⟩ := cell_nat s 1 (by omega)
  obtain ⟨d2, k2, e2⟩ := cell_nat s 2 (by omega)
  obtain ⟨d3, k3, e3⟩ := cell_nat s 3 (by omega)
  have hl := h.len
  have hv : ∀ i : Nat, i < 128 → 0 ≤ rd l (i : Int) ∧ rd l (i : Int) ≤ 1000000 := fun i hi => rd_range l h.cell (i : Int) (by omega) (by omega)
  obtain ⟨l0, hl0⟩ : ∃ x, x = l.set (32 * 0 + d0) (rd l ((32 * 0 + d0 : Nat) : Int) + b) := ⟨_, rfl⟩
  obtain ⟨l1, hl1⟩ : ∃ x, x = l0.set (32 * 1 + d1) (rd l0 ((32 * 1 + d1 : Nat) : Int) + b) := ⟨_, rfl⟩
  obtain ⟨l2, hl2⟩ : ∃ x, x = l1.set (32 * 2 + d2) (rd l1 ((32 * 2 + d2 : Nat) : Int) + b) := ⟨_, rfl⟩
  obtain ⟨l3, hl3⟩ : ∃ x, x = l2.set (32 * 3 + d3) (rd l2 ((32 * 3 + d3 : Nat) : Int) + b) := ⟨_, rfl⟩
  have n0 : l0.length = 128 := by rw [hl0, List.length_set]; exact hl
  have n1 : l1.length = 128 := by rw [hl1, List.length_set]; exact n0
  have n2 : l2.length = 128 := by rw [hl2, List.length_set]; exact n1
  have n3 : l3.length = 128 := by rw [hl3, List.length_set]; exact n2
  have s0 : ∀ j : Nat, j < 128 → rd l0 (j : Int) = if 32 * 0 + d0 = j then rd l ((32 * 0 + d0 : Nat) : Int) + b else rd l (j : Int) := fun j hj => by rw [hl0]; exact rd_set l _ j _ (by omega) (by omega)
  have s1 : ∀ j : Nat, j < 128 → rd l1 (j : Int) = if 32 * 1 + d1 = j then rd l0 ((32 * 1 + d1 : Nat) : Int) + b else rd l0 (j : Int) := fun j hj => by rw [hl1]; exact rd_set l0 _ j _ (by omega) (by omega)
  have s2 : ∀ j : Nat, j < 128 → rd l2 (j : Int) = if 32 * 2 + d2 = j then rd l1 ((32 * 2 + d2 : Nat) : Int) + b else rd l1 (j : Int) := fun j hj => by rw [hl2]; exact rd_set l1 _ j _ (by omega) (by omega)
  have s3 : ∀ j : Nat, j < 128 → rd l3 (j : Int) = if 32 * 3 + d3 = j then rd l2 ((32 * 3 + d3 : Nat) : Int) + b else rd l2 (j : Int) := fun j hj => by rw [hl3]; exact rd_set l2 _ j _ (by omega) (by omega)
  have all : ∀ j : Nat, j < 128 → rd l3 (j : Int) = rd l (j : Int) + (if j = 32 * 0 + d0 ∨ j = 32 * 1 + d1 ∨ j = 32 * 2 + d2 ∨ j = 32 * 3 + d3 then b else 0) := by
    intro j hj
    have q1 : rd l0 ((32 * 1 + d1 : Nat) : Int) = rd l ((32 * 1 + d1 : Nat) : Int) := by rw [s0 _ (by omega), if_neg (by omega)]
    have q2 : rd l1 ((32 * 2 + d2 : Nat) : Int) = rd l ((32 * 2 + d2 : Nat) : Int) := by rw [s1 _ (by omega), if_neg (by omega), s0 _ (by omega), if_neg (by omega)]
    have q3 : rd l2 ((32 * 3 + d3 : Nat) : Int) = rd l ((32 * 3 + d3 : Nat) : Int) := by rw [s2 _ (by omega), if_neg (by omega), s1 _ (by omega), if_neg (by omega), s0 _ (by omega), if_neg (by omega)]
    rw [s3 j hj]
    by_cases c3 : 32 * 3 + d3 = j
    · subst c3; rw [if_pos rfl, q3, if_pos (by omega)]
    · rw [if_neg c3, s2 j hj]
      by_cases c2 : 32 * 2 + d2 = j
      · subst c2; rw [if_pos rfl, q2, if_pos (by omega)]
      · rw [if_neg c2, s1 j hj]
        by_cases c1 : 32 * 1 + d1 = j
        · subst c1; rw [if_pos rfl, q1, if_pos (by omega)]
        · rw [if_neg c1, s0 j hj]
          by_cases c0 : 32 * 0 + d0 = j
          · subst c0; rw [if_pos rfl, if_pos (by omega)]
          · rw [if_neg c0, if_neg (by omega)]; omega
  have hadd : addL b (cellsL s) l = l3 := by
    unfold cellsL addL addL addL addL addL
    rw [e0, e1, e2, e3]
    simp only [Int.toNat_natCast]
    have v0 := hv (32 * 0 + d0) (by omega)
    have v1 := hv (32 * 1 + d1) (by omega)
    have v2 := hv (32 * 2 + d2) (by omega)
    have v3 := hv (32 * 3 + d3) (by omega)
    rw [w64 (x := rd l ((32 * 0 + d0 : Nat) : Int) + b) (by omega) (by omega), ← hl0]
    have q1 : rd l0 ((32 * 1 + d1 : Nat) : Int) = rd l ((32 * 1 + d1 : Nat) : Int) := by rw [s0 _ (by omega), if_neg (by omega)]
    have q2 : rd l1 ((32 * 2 + d2 : Nat) : Int) = rd l ((32 * 2 + d2 : Nat) : Int) := by rw [s1 _ (by omega), if_neg (by omega), s0 _ (by omega), if_neg (by omega)]
    have q3 : rd l2 ((32 * 3 + d3 : Nat) : Int) = rd l ((32 * 3 + d3 : Nat) : Int) := by rw [s2 _ (by omega), if_neg (by omega), s1 _ (by omega), if_neg (by omega), s0 _ (by omega), if_neg (by omega)]
    rw [w64 (x := rd l0 ((32 * 1 + d1 : Nat) : Int) + b) (by omega) (by omega), ← hl1, w64 (x := rd l1 ((32 * 2 + d2 : Nat) : Int) + b) (by omega) (by omega), ← hl2, w64 (x := rd l2 ((32 * 3 + d3 : Nat) : Int) + b) (by omega) (by omega), ← hl3]
  rw [hadd]
  refine ⟨n3, fun r hr => ?_, fun i hi => ?_, fun c hc => ?_⟩
  · have b0 := bump_row l hl 0 d0 (by omega) k0 b r hr
    have b1 := bump_row l0 n0 1 d1 (by omega) k1 b r hr
    have b2 := bump_row l1 n1 2 d2 (by omega) k2 b r hr
    have b3 := bump_row l2 n2 3 d3 (by omega) k3 b r hr
    rw [← rd_nat l (32 * 0 + d0) (by omega), ← hl0] at b0
    rw [← rd_nat l0 (32 * 1 + d1) (by omega), ← hl1] at b1
    rw [← rd_nat l1 (32 * 2 + d2) (by omega), ← hl2] at b2
    rw [← rd_nat l2 (32 * 3 + d3) (by omega), ← hl3] at b3
    obtain e | e | e | e : r = 0 ∨ r = 1 ∨ r = 2 ∨ r = 3 := by omega
    all_goals (subst e; simp at b0 b1 b2 b3; omega)
  · have := all i hi
    split at this <;> omega
  · unfold cellsL at hc
    simp only [List.mem_cons, List.not_mem_nil, or_false] at hc
    rcases hc with rfl | rfl | rfl | rfl
    · rw [e0, all _ (by omega), if_pos (by omega)]
    · rw [e1, all _ (by omega), if_pos (by omega)]
    · rw [e2, all _ (by omega), if_pos (by omega)]
    · rw [e3, all _ (by omega), if_pos (by omega)]
theorem cellsL_nat (s : ByteArray) : ∀ c ∈ cellsL s, ∃ i : Nat, i < 128 ∧ c = (i : Int) := fun c hc => by
  have := cellsL_range s c hc
  exact ⟨c.toNat, by omega, by omega⟩
theorem bumped_good (l l' : List Int) (t : Int) (h : GoodP l t) (s : ByteArray) (b : Int) (hb : 0 ≤ b ∧ b ≤ 1000) (hB : Bumped l l' s b) (ht : t + b ≤ 1000000) : GoodP l' (t + b) := by
  have hrow : ∀ r, r < 4 → sumZ (xpart l' r) = t + b := fun r hr => by rw [hB.row r hr, h.row r hr]
  have hnn : ∀ x ∈ l', 0 ≤ x := fun x hx => by
    obtain ⟨i, hi, rfl⟩ := List.getElem_of_mem hx
    have hi2 : i < 128 := by have := hB.len; omega
    have h1 := (hB.ge i hi2).1
    rw [rd_nat l' i hi, rd_nat l i (by have := h.len; omega)] at h1
    have h2 := h.cell _ (List.getElem_mem (show i < l.length by have := h.len; omega))
    omega
  refine ⟨hB.len, by have := h.tot; omega, fun x hx => ⟨hnn x hx, ?_⟩, hrow⟩
  obtain ⟨i, hi, rfl⟩ := List.getElem_of_mem hx
  have hr : i / 32 < 4 := by have := hB.len; omega
  have hp := xpart_len l' hB.len (i / 32) hr
  have hg := xpart_get l' hB.len (i / 32) (i % 32) hr (by omega) (by omega)
  have e : l'[i] = (xpart l' (i / 32))[i % 32]'(by omega) := by rw [hg]; congr 1; omega
  have h3 := sumZ_ge _ (fun x hx => hnn x (xpart_mem l' _ x hx)) _ (List.getElem_mem (show i % 32 < (xpart l' (i / 32)).length by omega))
  rw [← e, hrow _ hr] at h3
  omega
theorem est_le_total (l : List Int) (t : Int) (h : GoodP l t) (s : ByteArray) : estOf l s ≤ t := by
  obtain ⟨_, c, hc, e⟩ := estOf_props l t h s
  obtain ⟨i, hi, rfl⟩ := cellsL_nat s c hc
  rw [e, rd_nat l i (by have := h.len; omega)]
  exact cell_total l t h i (by have := h.len; omega)
theorem est_hit (l l' : List Int) (t : Int) (h : GoodP l t) (s : ByteArray) (b : Int) (hB : Bumped l l' s b) (t' : Int) (h' : GoodP l' t') : estOf l' s = estOf l s + b := by
  obtain ⟨p1, c, hc, e⟩ := estOf_props l t h s
  obtain ⟨p2, c', hc', e'⟩ := estOf_props l' t' h' s
  have := p1 c' hc'
  have := p2 c hc
  have := hB.hit c hc
  have := hB.hit c' hc'
  omega
theorem est_other (l l' : List Int) (t : Int) (h : GoodP l t) (s : ByteArray) (b : Int) (hB : Bumped l l' s b) (t' : Int) (h' : GoodP l' t') (u : ByteArray) : estOf l u ≤ estOf l' u ∧ estOf l' u ≤ estOf l u + b := by
  obtain ⟨p1, c, hc, e⟩ := estOf_props l t h u
  obtain ⟨p2, c', hc', e'⟩ := estOf_props l' t' h' u
  have a1 := p1 c' hc'
  have a2 := p2 c hc
  obtain ⟨i, hi, rfl⟩ := cellsL_nat u c hc
  obtain ⟨j, hj, rfl⟩ := cellsL_nat u c' hc'
  have := hB.ge i hi
  have := hB.ge j hj
  omega

/-! The laws' sameInts, of a row with itself -/
theorem sameInts_loop (l : List Int) (hb : l.length < 4611686018427387904) (d : Nat) : ∀ (k n : Nat), n + d = l.length → d < k →
    laws_sameInts.l0 k l l (l.length : Int) (n : Int) = some true := by
  induction d with
  | zero =>
    intro k n hn hk
    obtain ⟨k, rfl⟩ : ∃ m, k = m + 1 := ⟨k - 1, by omega⟩
    simp only [laws_sameInts.l0]; rw [if_neg (by omega)]
  | succ d ih =>
    intro k n hn hk
    obtain ⟨k, rfl⟩ : ∃ m, k = m + 1 := ⟨k - 1, by omega⟩
    simp only [laws_sameInts.l0]
    rw [if_pos (by omega), if_pos (by omega), if_pos (by omega), if_pos (by omega), if_pos trivial, w64 (x := (n : Int) + 1) (by omega) (by omega), succ_cast]
    exact ih k (n + 1) (by omega) (by omega)
theorem sameInts_f (l : List Int) (hb : l.length < 4611686018427387904) (k : Nat) (hk : l.length < k) : laws_sameInts.f k l l = some true := by
  unfold laws_sameInts.f
  rw [if_pos rfl]
  exact sameInts_loop l hb l.length k 0 (by omega) hk

/-! The cursor that draws an argument out of bytes -/
theorem and255 (y : Int) (h0 : 0 ≤ y) (h1 : y < 18446744073709551616) : bits .and .u64 y 255 = y % 256 := bits_mask .u64 64 (by decide) wraps_u64 8 (by decide) y h0 h1
theorem and255_range (s : Int) : 0 ≤ bits .and .u64 ((IntKind.u64.wrap s) / 1099511627776) 255 ∧ bits .and .u64 ((IntKind.u64.wrap s) / 1099511627776) 255 ≤ 255 := by
  have h : IntKind.u64.wrap s = s % 18446744073709551616 := IntKind.wrap_u64 s
  rw [h, and255 _ (by omega) (by omega)]
  omega
theorem rd_byte (l : List Int) (hc : ∀ x ∈ l, 0 ≤ x ∧ x ≤ 255) (i : Int) (h0 : 0 ≤ i) (h1 : i < l.length) : 0 ≤ rd l i ∧ rd l i ≤ 255 := by
  obtain ⟨n, rfl⟩ : ∃ n : Nat, i = (n : Int) := ⟨i.toNat, by omega⟩
  rw [rd_nat l n (by omega)]
  exact hc _ (List.getElem_mem _)
theorem next_ok (code : List Int) (hc : ∀ x ∈ code, 0 ≤ x ∧ x ≤ 255) (hb : code.length < 4611686018427387904) (a s : Int) (h0 : 0 ≤ a) (h1 : a < 4611686018427387904) :
    ∃ b s', spec_l1Cur_next.f code a s = some (b, a + 1, s') ∧ 0 ≤ b ∧ b ≤ 255 := by
  have hw : wrap64 (a + 1) = a + 1 := w64 (by omega) (by omega)
  unfold spec_l1Cur_next.f
  rw [hw]
  by_cases c : a < (code.length : Int)
  · have hr := rd_byte code hc a h0 c
    rw [if_pos c, if_pos h0, if_pos (by omega)]
    exact ⟨_, _, rfl, by rw [w64 (by omega) (by omega)]; exact hr⟩
  · rw [if_neg c, if_neg (by omega)]
    refine ⟨_, _, rfl, ?_⟩
    have hr := and255_range ((IntKind.u64.wrap (IntKind.u64.wrap (s * 6364136223846793005))) + 1442695040888963407)
    rw [w64 (by omega) (by omega)]
    exact hr
theorem tmod_range (x n : Int) (h : 0 ≤ x) (hn : 0 < n) : 0 ≤ Int.tmod x n ∧ Int.tmod x n < n := ⟨Int.tmod_nonneg n h, Int.tmod_lt_of_pos x hn⟩
theorem pick_ok (code : List Int) (hc : ∀ x ∈ code, 0 ≤ x ∧ x ≤ 255) (hb : code.length < 4611686018427387904) (a s n : Int) (h0 : 0 ≤ a) (h1 : a < 4611686018427380000) :
    ∃ v a' s', spec_l1Cur_pick.f code a s n = some (v, a', s') ∧ 0 ≤ v ∧ (v < n ∨ v = 0) ∧ a ≤ a' ∧ a' ≤ a + 2 := by
  unfold spec_l1Cur_pick.f
  by_cases c : n ≤ 1
  · rw [if_pos c]
    exact ⟨0, a, s, rfl, by omega, by omega, by omega, by omega⟩
  · rw [if_neg c]
    obtain ⟨b, s1, e1, hb0, hb1⟩ := next_ok code hc hb a s h0 (by omega)
    rw [e1, Option.bind_some]
    by_cases c2 : n > 200
    · rw [if_pos c2]
      obtain ⟨b2, s2, e2, hb2, hb3⟩ := next_ok code hc hb (a + 1) s1 (by omega) (by omega)
      try dsimp only
      rw [e2, Option.bind_some, if_neg (by omega)]
      have hw1 : wrap64 (b * 256) = b * 256 := w64 (by omega) (by omega)
      have hw2 : wrap64 (b * 256 + b2) = b * 256 + b2 := w64 (by omega) (by omega)
      have hr := tmod_range (b * 256 + b2) n (by omega) (by omega)
      refine ⟨_, _, _, rfl, ?_⟩
      simp only [hw1, hw2]
      exact ⟨hr.1, Or.inl hr.2, by omega, by omega⟩
    · rw [if_neg c2, if_neg (by omega)]
      have hr := tmod_range b n (by omega) (by omega)
      refine ⟨_, _, _, rfl, hr.1, Or.inl hr.2, ?_, ?_⟩ <;> dsimp only <;> omega
theorem one_ok (code : List Int) (hc : ∀ x ∈ code, 0 ≤ x ∧ x ≤ 255) (hb : code.length < 4611686018427387904) (a s n : Int) (h0 : 0 ≤ a) (h1 : a < 4611686018427380000) :
    ∃ v a' s', spec_l1Cur_one.f code a s n = some (v, a', s') ∧ a ≤ a' ∧ a' ≤ a + 2 := by
  unfold spec_l1Cur_one.f
  obtain ⟨v, a', s', e, h⟩ := pick_ok code hc hb a s n h0 h1
  rw [e, Option.bind_some]
  exact ⟨_, _, _, rfl, h.2.2⟩
theorem among_ok (code : List Int) (hc : ∀ x ∈ code, 0 ≤ x ∧ x ≤ 255) (hb : code.length < 4611686018427387904) (l : List Int) (hl : 0 < l.length) (a s : Int) (h0 : 0 ≤ a) (h1 : a < 4611686018427380000) :
    ∃ v a' s', spec_l1Cur_among.f code a s l = some (v, a', s') ∧ v ∈ l ∧ a ≤ a' ∧ a' ≤ a + 2 := by
  unfold spec_l1Cur_among.f
  obtain ⟨v, a', s', e, h⟩ := pick_ok code hc hb a s (l.length : Int) h0 h1
  rw [e, Option.bind_some, if_pos h.1]
  have c : v < (l.length : Int) := by omega
  try dsimp only
  rw [if_pos c]
  refine ⟨_, _, _, rfl, ?_, h.2.2⟩
  obtain ⟨n, rfl⟩ : ∃ n : Nat, v = (n : Int) := ⟨v.toNat, by omega⟩
  try dsimp only
  rw [rd_nat l n (by omega)]
  exact List.getElem_mem _

/-! The cursor draws sketches and keys -/
theorem of_ok (code : List Int) (hc : ∀ x ∈ code, 0 ≤ x ∧ x ≤ 255) (hb : code.length < 4611686018427387904) (l : List ByteArray) (hl : 0 < l.length) (a s : Int) (h0 : 0 ≤ a) (h1 : a < 4611686018427380000) :
    ∃ v a' s', spec_l1Cur_of.f code a s l = some (v, a', s') ∧ a ≤ a' ∧ a' ≤ a + 2 := by
  unfold spec_l1Cur_of.f
  obtain ⟨v, a', s', e, h⟩ := pick_ok code hc hb a s (l.length : Int) h0 h1
  rw [e, Option.bind_some]
  have c : v < (l.length : Int) := by omega
  try dsimp only
  rw [if_pos h.1, if_pos c]
  exact ⟨_, _, _, rfl, h.2.2⟩
theorem sketchKey_ok (code : List Int) (hc : ∀ x ∈ code, 0 ≤ x ∧ x ≤ 255) (hb : code.length < 4611686018427387904) (a s : Int) (h0 : 0 ≤ a) (h1 : a < 1000000) :
    ∃ v a' s', spec_l1Cur_sketchKey.f code a s = some (v, a', s') ∧ a ≤ a' ∧ a' ≤ a + 4 := by
  unfold spec_l1Cur_sketchKey.f
  obtain ⟨v, a1, s1, e, h2, h3⟩ := one_ok code hc hb a s 40 h0 (by omega)
  rw [e, Option.bind_some]
  try dsimp only
  by_cases c : v = true
  · rw [if_pos c]
    obtain ⟨u, a2, s2, e2, h4, h5⟩ := of_ok code hc hb [(⟨#[]⟩ : ByteArray), (⟨#[49, 50, 51, 52, 53, 54, 55, 56, 57, 48, 49, 50, 51, 52, 53, 54, 55, 56, 57, 48, 49]⟩ : ByteArray)] (by simp) a1 s1 (by omega) (by omega)
    rw [e2, Option.bind_some]
    try dsimp only
    exact ⟨_, _, _, rfl, by omega, by omega⟩
  · rw [if_neg c]
    obtain ⟨u, a2, s2, e2, h4, h5⟩ := of_ok code hc hb [(⟨#[97]⟩ : ByteArray), (⟨#[98]⟩ : ByteArray), (⟨#[99]⟩ : ByteArray), (⟨#[97, 98, 99]⟩ : ByteArray), (⟨#[107, 101, 121, 45, 49]⟩ : ByteArray), (⟨#[107, 101, 121, 45, 50]⟩ : ByteArray), (⟨#[122, 122]⟩ : ByteArray)] (by simp) a1 s1 (by omega) (by omega)
    rw [e2, Option.bind_some]
    try dsimp only
    exact ⟨_, _, _, rfl, by omega, by omega⟩
theorem countR_full (l : List Int) (t : Int) (s : ByteArray) (b : Int) (h : (countR l t s b).2.2 = true) : (countR l t s b).1.length = 128 := by
  unfold countR goodOr at h ⊢
  split at h
  · rename_i c1
    rw [if_pos c1]
    split at h
    · rename_i c2
      rw [if_pos c2]
      exact goodSk_len _ _ c2
    · cases h
  · cases h
theorem sketch_end (code : List Int) (hc : ∀ x ∈ code, 0 ≤ x ∧ x ≤ 255) (hb : code.length < 4611686018427387904) (l : List Int) (t : Int) (hl : l.length = 128) (k : Nat) (n a s : Int) (hn : ¬ n > 0) (h0 : 0 ≤ a) (h1 : a < 100000) :
    ∃ l' t' a' s', spec_l1Cur_sketch.l0 (k + 1) n code a s l t = some (l', t', a', s') ∧ l'.length ≤ 128 ∧ a ≤ a' ∧ a' ≤ a + 4 := by
  simp only [spec_l1Cur_sketch.l0]
  rw [if_neg hn]
  obtain ⟨v, a1, s1, e, h2, h3, h4, h5⟩ := pick_ok code hc hb a s 40 h0 (by omega)
  rw [e, Option.bind_some]
  try dsimp only
  by_cases c0 : v = 0
  · rw [if_pos c0]
    obtain ⟨u, a2, s2, e2, g1, g2, g3, g4⟩ := pick_ok code hc hb a1 s1 (l.length : Int) (by omega) (by omega)
    rw [e2, Option.bind_some]
    have c : u < (l.length : Int) := by omega
    try dsimp only
    rw [if_pos g1, if_pos c]
    try dsimp only
    exact ⟨_, _, _, _, rfl, by rw [List.length_set]; omega, by omega, by omega⟩
  · rw [if_neg c0]
    by_cases c1 : v = 1
    · rw [if_pos c1]
      obtain ⟨u, a2, s2, e2, g1, g2, g3⟩ := among_ok code hc hb [(-1), 1000000] (by simp) a1 s1 (by omega) (by omega)
      rw [e2, Option.bind_some]
      try dsimp only
      exact ⟨_, _, _, _, rfl, by omega, by omega, by omega⟩
    · rw [if_neg c1]
      by_cases c2 : v = 2
      · rw [if_pos c2, if_pos (by omega)]
        exact ⟨_, _, _, _, rfl, by rw [List.length_drop]; omega, by omega, by omega⟩
      · rw [if_neg c2]
        exact ⟨_, _, _, _, rfl, by omega, by omega, by omega⟩
theorem sketch_loop (code : List Int) (hc : ∀ x ∈ code, 0 ≤ x ∧ x ≤ 255) (hb : code.length < 4611686018427387904) (d : Nat) : ∀ (k : Nat) (a s : Int) (l : List Int) (t : Int), l.length = 128 → 0 ≤ a → a + 8 * d < 100000 → 2 * d + 500 < k →
    ∃ l' t' a' s', spec_l1Cur_sketch.l0 k (d : Int) code a s l t = some (l', t', a', s') ∧ l'.length ≤ 128 ∧ a ≤ a' ∧ a' ≤ a + 8 * d + 4 := by
  induction d with
  | zero =>
    intro k a s l t hl h0 h1 hk
    obtain ⟨k, rfl⟩ : ∃ m, k = m + 1 := ⟨k - 1, by omega⟩
    obtain ⟨l', t', a', s', e, h2, h3, h4⟩ := sketch_end code hc hb l t hl k ((0 : Nat) : Int) a s (by omega) h0 (by omega)
    exact ⟨l', t', a', s', e, h2, h3, by omega⟩
  | succ d ih =>
    intro k a s l t hl h0 h1 hk
    obtain ⟨k, rfl⟩ : ∃ m, k = m + 2 := ⟨k - 2, by omega⟩
    obtain ⟨v, a1, s1, e1, g1, g2, g3, g4⟩ := pick_ok code hc hb a s 4 h0 (by omega)
    obtain ⟨u, a2, s2, e2, g5, g6⟩ := one_ok code hc hb a1 s1 2 (by omega) (by omega)
    have hj : ∀ by_ : Int, ∃ l' t' a' s', spec_l1Cur_sketch.j1 (k + 1) ((d + 1 : Nat) : Int) by_ code a2 s2 l t = some (l', t', a', s') ∧ l'.length ≤ 128 ∧ a ≤ a' ∧ a' ≤ a + 8 * ((d + 1 : Nat) : Int) + 4 := by
      intro by_
      obtain ⟨key, a3, s3, e3, g7, g8⟩ := sketchKey_ok code hc hb a2 s2 (by omega) (by omega)
      simp only [spec_l1Cur_sketch.j1]
      rw [e3, Option.bind_some]
      try dsimp only
      rw [specCount_f l t key by_ k (by omega), Option.bind_some, w64 (x := ((d + 1 : Nat) : Int) - 1) (by omega) (by omega), show ((d + 1 : Nat) : Int) - 1 = (d : Int) by omega]
      by_cases c : (countR l t key by_).2.2 = true
      · rw [if_pos c]
        obtain ⟨l', t', a', s', e, h2, h3, h4⟩ := ih k a3 s3 (countR l t key by_).1 (countR l t key by_).2.1 (countR_full l t key by_ c) (by omega) (by omega) (by omega)
        exact ⟨l', t', a', s', e, h2, by omega, by omega⟩
      · rw [if_neg c]
        obtain ⟨l', t', a', s', e, h2, h3, h4⟩ := ih k a3 s3 l t hl (by omega) (by omega) (by omega)
        exact ⟨l', t', a', s', e, h2, by omega, by omega⟩
    simp only [spec_l1Cur_sketch.l0]
    rw [if_pos (by omega), e1, Option.bind_some]
    try dsimp only
    rw [e2, Option.bind_some]
    try dsimp only
    by_cases c : u = true
    · rw [if_pos c]; exact hj _
    · rw [if_neg c]; exact hj _
theorem sketch_ok (code : List Int) (hc : ∀ x ∈ code, 0 ≤ x ∧ x ≤ 255) (hb : code.length < 4611686018427387904) (a s : Int) (h0 : 0 ≤ a) (h1 : a < 10000) (k : Nat) (hk : 1000 < k) :
    ∃ l' t' a' s', spec_l1Cur_sketch.f k code a s = some (l', t', a', s') ∧ l'.length ≤ 128 ∧ a ≤ a' ∧ a' ≤ a + 1000 := by
  unfold spec_l1Cur_sketch.f spec_NewSketch.f
  rw [if_pos (by omega), Option.bind_some]
  obtain ⟨v, a1, s1, e1, g1, g2, g3, g4⟩ := pick_ok code hc hb a s 12 h0 (by omega)
  rw [e1, Option.bind_some]
  try dsimp only
  obtain ⟨d, hd⟩ : ∃ d : Nat, v = (d : Int) := ⟨v.toNat, by omega⟩
  rw [hd]
  obtain ⟨l', t', a', s', e, h2, h3, h4⟩ := sketch_loop code hc hb d k a1 s1 (List.replicate 128 0) 0 List.length_replicate (by omega) (by omega) (by omega)
  exact ⟨l', t', a', s', e, h2, by omega, by omega⟩

theorem drawCount_ok (code : List Int) (hc : ∀ x ∈ code, 0 ≤ x ∧ x ≤ 255) (hb : code.length < 4611686018427387904) (k : Nat) (hk : 1000 < k) : ∃ l t key b, spec_DrawCountIn.f k code = some (l, t, key, b) ∧ l.length ≤ 128 := by
  unfold spec_DrawCountIn.f
  obtain ⟨l, t, a, s, e, h1, h2, h3⟩ := sketch_ok code hc hb 0 0 (by omega) (by omega) k hk
  rw [e, Option.bind_some]
  try dsimp only
  obtain ⟨key, a2, s2, e2, h4, h5⟩ := sketchKey_ok code hc hb a s (by omega) (by omega)
  rw [e2, Option.bind_some]
  try dsimp only
  obtain ⟨b, a3, s3, e3, h6, h7, h8⟩ := among_ok code hc hb [0, 1, 2, 1000, 1001, (-1)] (by simp) a2 s2 (by omega) (by omega)
  rw [e3, Option.bind_some]
  try dsimp only
  exact ⟨_, _, _, _, rfl, h1⟩
theorem drawEst_ok (code : List Int) (hc : ∀ x ∈ code, 0 ≤ x ∧ x ≤ 255) (hb : code.length < 4611686018427387904) (k : Nat) (hk : 1000 < k) : ∃ l t key, spec_DrawEstimateOf.f k code = some (l, t, key) := by
  unfold spec_DrawEstimateOf.f
  obtain ⟨l, t, a, s, e, h1, h2, h3⟩ := sketch_ok code hc hb 0 0 (by omega) (by omega) k hk
  rw [e, Option.bind_some]
  try dsimp only
  obtain ⟨key, a2, s2, e2, h4, h5⟩ := sketchKey_ok code hc hb a s (by omega) (by omega)
  rw [e2, Option.bind_some]
  try dsimp only
  exact ⟨_, _, _, rfl⟩
theorem sameSk_f (l : List Int) (t : Int) (hl : l.length ≤ 1000) (k : Nat) (hk : 1000 < k) : laws_sameSketches.f k l t l t = some true := by
  unfold laws_sameSketches.f; rw [if_pos rfl, sameInts_f l (by omega) k (by omega), Option.bind_some]
theorem estimateOf_f (l : List Int) (t : Int) (g : goodSk l t = true) (s : ByteArray) (k : Nat) (hk : 200 < k) : impl_EstimateOf.f k l t s = some (if keyB s = true then (estOf l s, true) else (0, false)) := by
  unfold impl_EstimateOf.f
  rw [goodSketch_f l t, Option.bind_some, if_pos g, isKey_f, Option.bind_some]
  by_cases y : keyB s = true
  · rw [if_pos y, if_pos y, implEst_f l t s (keyB_size s y) (goodSk_len l t g) k (by omega), Option.bind_some]
  · rw [if_neg y, if_neg y]
theorem admitsKey_f (l : List Int) (t : Int) (g : goodSk l t = true) (s u : ByteArray) (hs : keyB s = true) (k : Nat) (hk : 300 < k) : impl_AdmitsKey.f k l t s u = some (if keyB u = true then (decide (estOf l s > estOf l u), true) else (false, false)) := by
  obtain ⟨k2, rfl⟩ : ∃ k2, k = k2 + 1 := ⟨k - 1, by omega⟩
  unfold impl_AdmitsKey.f
  rw [goodSketch_f l t, Option.bind_some, if_pos g, isKey_f, Option.bind_some, if_pos hs, isKey_f, Option.bind_some]
  simp only [impl_AdmitsKey.j0]
  by_cases z : keyB u = true
  · rw [z, if_neg (by decide), if_pos rfl, implEst_f l t s (keyB_size s hs) (goodSk_len l t g) k2 (by omega), Option.bind_some, implEst_f l t u (keyB_size u z) (goodSk_len l t g) k2 (by omega), Option.bind_some]
  · rw [Bool.eq_false_iff.mpr z, if_pos (by decide), if_neg (by decide)]
/-- the four keys -/
def keyN (i : Int) : ByteArray := (⟨#[107, 101, 121, 45]⟩ : ByteArray) ++ strOfNums [(wrap64 (97 + i)) % 256]
theorem keyN_ok (i : Int) : keyB (keyN i) = true := by
  unfold keyB keyN
  rw [ByteArray.size_append, strOfNums_size]
  rfl
/-- what a sketch of the four keys holds -/
structure Held (l : List Int) (cs : List Int) (n : Int) : Prop where
  good : GoodP l n
  four : cs.length = 4
  low : ∀ i : Nat, i < 4 → 0 ≤ rd cs (i : Int) ∧ rd cs (i : Int) ≤ n
  cell : ∀ i : Nat, i < 4 → ∀ c ∈ cellsL (keyN (i : Int)), rd cs (i : Int) ≤ rd l c
theorem sumZ_zero (n : Nat) : sumZ (List.replicate n 0) = 0 := by
  induction n with
  | zero => rfl
  | succ n ih => rw [List.replicate_succ]; simp only [sumZ, ih]; rfl
theorem good_new : GoodP (List.replicate 128 0) 0 := by
  refine ⟨List.length_replicate, by omega, fun x hx => ?_, fun r hr => ?_⟩
  · rw [List.eq_of_mem_replicate hx]; omega
  · unfold xpart; rw [List.drop_replicate, List.take_replicate]; exact sumZ_zero _
theorem held_new : Held (List.replicate 128 0) (List.replicate 4 0) 0 := by
  have hr : ∀ i : Nat, i < 4 → rd (List.replicate 4 (0 : Int)) (i : Int) = 0 := fun i hi => by rw [rd_nat _ i (by rw [List.length_replicate]; exact hi), List.getElem_replicate]
  refine ⟨good_new, List.length_replicate, fun i hi => by rw [hr i hi]; omega, fun i hi c hc => ?_⟩
  obtain ⟨j, hj, rfl⟩ := cellsL_nat _ c hc
  rw [hr i hi, rd_nat _ j (by rw [List.length_replicate]; exact hj), List.getElem_replicate]; omega
theorem held_step (l cs : List Int) (n : Int) (hn : n ≤ 60) (h : Held l cs n) (i : Nat) (hi : i < 4) : Held (addL 1 (cellsL (keyN (i : Int))) l) (cs.set i (wrap64 (rd cs (i : Int) + 1))) (n + 1) := by
  have hB := addL_bumped l n h.good (keyN (i : Int)) 1 (by omega)
  have hlow := h.low i hi
  have h4 := h.four
  have hw : wrap64 (rd cs (i : Int) + 1) = rd cs (i : Int) + 1 := w64 (by omega) (by omega)
  rw [hw]
  refine ⟨bumped_good l _ n h.good (keyN (i : Int)) 1 (by omega) hB (by omega), by rw [List.length_set]; exact h4, fun j hj => ?_, fun j hj c hc => ?_⟩
  · rw [rd_set cs i j _ (by omega) (by omega)]
    have := h.low j hj
    split <;> omega
  · rw [rd_set cs i j _ (by omega) (by omega)]
    have h5 := h.cell j hj c hc
    obtain ⟨m, hm, e⟩ := cellsL_nat _ c hc
    have h6 := hB.ge m hm
    rw [← e] at h6
    by_cases c1 : i = j
    · subst c1
      rw [if_pos rfl, hB.hit c hc]; omega
    · rw [if_neg c1]; omega
theorem told_loop (l cs : List Int) (n : Int) (h : Held l cs n) (d : Nat) : ∀ (k i : Nat), i + d = 4 → d + 300 < k → laws_FnSketch.l1 k cs (cs.length : Int) (i : Int) l n = some true := by
  induction d with
  | zero =>
    intro k i hi hk
    obtain ⟨k, rfl⟩ : ∃ m, k = m + 1 := ⟨k - 1, by omega⟩
    have h4 := h.four
    simp only [laws_FnSketch.l1]
    rw [if_neg (by omega)]
  | succ d ih =>
    intro k i hi hk
    obtain ⟨k, rfl⟩ : ∃ m, k = m + 1 := ⟨k - 1, by omega⟩
    have h4 := h.four
    have e := estimateOf_f l n (goodP_mk l n h.good) (keyN (i : Int)) k (by omega)
    rw [if_pos (keyN_ok _)] at e
    unfold keyN at e
    obtain ⟨c, hc, e2⟩ := (estOf_props l n h.good (keyN (i : Int))).2
    have h5 := h.cell i (by omega) c hc
    have h6 := est_le_total l n h.good (keyN (i : Int))
    unfold keyN at e2 h6
    simp only [laws_FnSketch.l1]
    rw [if_pos (by omega), if_pos (by omega), if_pos (by omega), Option.bind_some, if_pos (by rw [strOfNums_size]; simp), e, Option.bind_some]
    try dsimp only
    rw [if_pos rfl, if_neg (by omega), if_neg (by omega), w64 (x := (i : Int) + 1) (by omega) (by omega), succ_cast]
    exact ih k (i + 1) (by omega) (by omega)
theorem count_loop (more : List Int) (hc : ∀ x ∈ more, 0 ≤ x ∧ x ≤ 255) (hb : more.length < 4611686018427387904) (d : Nat) : ∀ (k n : Nat) (l cs : List Int), n + d = 60 → n ≤ more.length → Held l cs (n : Int) → d + 600 < k →
    laws_FnSketch.l0 k cs more (more.length : Int) (n : Int) l (n : Int) = some true := by
  have stop : ∀ (k n : Nat) (l cs : List Int), Held l cs (n : Int) → 400 < k → laws_FnSketch.j4 k cs l (n : Int) = some true := by
    intro k n l cs h hk
    obtain ⟨k, rfl⟩ : ∃ m, k = m + 1 := ⟨k - 1, by omega⟩
    simp only [laws_FnSketch.j4]
    exact told_loop l cs (n : Int) h 4 k 0 (by omega) (by omega)
  induction d with
  | zero =>
    intro k n l cs hn hm h hk
    obtain ⟨k, rfl⟩ : ∃ m, k = m + 1 := ⟨k - 1, by omega⟩
    simp only [laws_FnSketch.l0]
    by_cases c : n < more.length
    · rw [if_pos (by omega), if_pos (by omega), if_pos (by omega), if_pos (by omega)]
      exact stop k n l cs h (by omega)
    · rw [if_neg (by omega)]
      exact stop k n l cs h (by omega)
  | succ d ih =>
    intro k n l cs hn hm h hk
    obtain ⟨k, rfl⟩ : ∃ m, k = m + 1 := ⟨k - 1, by omega⟩
    simp only [laws_FnSketch.l0]
    by_cases c : n < more.length
    · have hr := hc more[n] (List.getElem_mem c)
      obtain ⟨i, hi, ei⟩ : ∃ i : Nat, i < 4 ∧ Int.tmod (wrap64 more[n]) 4 = (i : Int) := by
        have h2 := tmod_range (wrap64 more[n]) 4 (by rw [w64 (by omega) (by omega)]; omega) (by omega)
        exact ⟨(Int.tmod (wrap64 more[n]) 4).toNat, by omega, by omega⟩
      have hk2 := implCount_f l (n : Int) (keyN (i : Int)) 1 k (by omega)
      have hg := goodP_mk l (n : Int) h.good
      have hst := held_step l cs (n : Int) (by omega) h i hi
      have e : countR l (n : Int) (keyN (i : Int)) 1 = (addL 1 (cellsL (keyN (i : Int))) l, (n : Int) + 1, true) := by
        unfold countR
        rw [hg, keyN_ok]
        rw [if_pos (by decide), w64 (x := (n : Int) + 1) (by omega) (by omega)]
        unfold goodOr
        rw [if_pos (goodP_mk _ _ hst.good)]
      rw [e] at hk2
      unfold keyN at hk2
      have h4 := h.four
      rw [if_pos (by omega), if_pos (by omega), if_pos (by omega), if_neg (by omega), rd_nat more n c, ei, Option.bind_some, if_pos (by rw [strOfNums_size]; simp), hk2, Option.bind_some]
      try dsimp only
      rw [if_pos rfl, if_pos (by omega), if_pos (by omega), Int.toNat_natCast, w64 (x := (n : Int) + 1) (by omega) (by omega), succ_cast]
      rw [succ_cast] at hst
      exact ih k (n + 1) _ _ (by omega) (by omega) hst (by omega)
    · rw [if_neg (by omega)]
      exact stop k n l cs h (by omega)
theorem second_half (more : List Int) (hc : ∀ x ∈ more, 0 ≤ x ∧ x ≤ 255) (hb : more.length < 4611686018427387904) (k : Nat) (hk : 1000 < k) : laws_FnSketch.j2 k more = some true := by
  obtain ⟨k, rfl⟩ : ∃ m, k = m + 1 := ⟨k - 1, by omega⟩
  simp only [laws_FnSketch.j2]
  unfold impl_NewSketch.f
  rw [if_pos (by omega), Option.bind_some, if_pos (by omega)]
  exact count_loop more hc hb 60 k 0 _ _ (by omega) (by omega) held_new (by omega)
theorem FnSketch : laws_FnSketch.Pure := by
  intro l0 l1 _ hb0 hw0 _ hb1 hw1
  have hc0 := bytes_of l0 hw0
  have hc1 := bytes_of l1 hw1
  obtain ⟨k, hk⟩ : ∃ k, k = 5000 := ⟨_, rfl⟩
  obtain ⟨k2, hk2⟩ : ∃ k2, k = k2 + 1 := ⟨4999, by omega⟩
  obtain ⟨k3, hk3⟩ : ∃ k3, k2 = k3 + 1 := ⟨4998, by omega⟩
  refine ⟨k, ?_⟩
  unfold laws_FnSketch.f
  by_cases c0 : wrap64 ((l0.length : Int) + (l1.length : Int)) > 1048576
  · rw [if_pos c0]
  rw [if_neg c0]
  obtain ⟨l, t, key, b, e, hl⟩ := drawCount_ok l0 hc0 (by omega) k (by omega)
  rw [e, Option.bind_some]
  try dsimp only
  rw [implCount_f l t key b k (by omega), specCount_f l t key b k (by omega), Option.bind_some, Option.bind_some, bne_self_eq_false, if_neg (by decide)]
  have hlen : (countR l t key b).1.length ≤ 1000 := by
    unfold countR goodOr
    split
    · split
      · rw [addL_len]; omega
      · simp
    · simp
  rw [sameSk_f _ _ hlen k (by omega), Option.bind_some, if_pos rfl, goodSketch_f, specGoodSketch_f l t k (by omega), Option.bind_some, Option.bind_some, bne_self_eq_false, hk2]
  simp only [laws_FnSketch.j0]
  rw [if_neg (by decide)]
  by_cases ok : (countR l t key b).2.2 = true
  · rw [if_pos ok]
    have hg : goodSk l t = true ∧ keyB key = true ∧ (0 ≤ b ∧ b ≤ 1000) ∧ goodSk (addL b (cellsL key) l) (wrap64 (t + b)) = true := by
      unfold countR goodOr at ok
      split at ok
      · rename_i c1
        simp only [Bool.and_eq_true, decide_eq_true_eq] at c1
        split at ok
        · rename_i c2; exact ⟨c1.1, c1.2.1, c1.2.2, c2⟩
        · cases ok
      · cases ok
    obtain ⟨g1, g2, g3, g4⟩ := hg
    have er : countR l t key b = (addL b (cellsL key) l, wrap64 (t + b), true) := by
      unfold countR goodOr
      rw [if_pos (by simp [g1, g2, g3]), if_pos g4]
    rw [er]
    have P := goodP_of l t g1
    have ht := P.tot
    have hw : wrap64 (t + b) = t + b := w64 (by omega) (by omega)
    rw [hw] at g4 ⊢
    have P' := goodP_of _ _ g4
    have hB := addL_bumped l t P key b g3
    obtain ⟨x, hx⟩ : ∃ x, x = addL b (cellsL key) l := ⟨_, rfl⟩
    rw [← hx] at g4 P' hB ⊢
    obtain ⟨_, _, other, e2⟩ := drawEst_ok l1 hc1 (by omega) k2 (by omega)
    have m1 := estimateOf_f l t g1 key k2 (by omega)
    have m2 := estimateOf_f x (t + b) g4 key k2 (by omega)
    rw [if_pos g2] at m1 m2
    have m3 := estimateOf_f l t g1 other k2 (by omega)
    have m4 := estimateOf_f x (t + b) g4 other k2 (by omega)
    have p1 := est_hit l x t P key b hB (t + b) P'
    have p2 := est_le_total x (t + b) P' key
    have p3 := est_other l x t P key b hB (t + b) P' other
    have q0 : 0 ≤ estOf l key ∧ estOf l key ≤ 1000000 := by
      obtain ⟨c, hc, e5⟩ := (estOf_props l t P key).2
      have := cellsL_range key c hc
      have := rd_range l P.cell c (by omega) (by have := P.len; omega)
      omega
    have q1 : 0 ≤ estOf l other ∧ estOf l other ≤ 1000000 := by
      obtain ⟨c, hc, e5⟩ := (estOf_props l t P other).2
      have := cellsL_range other c hc
      have := rd_range l P.cell c (by omega) (by have := P.len; omega)
      omega
    have hj : ∀ d : Int, laws_FnSketch.j1 k2 l1 key (estOf x key) other (keyB other) (estOf x other) false x (t + b) = some true := by
      intro _
      rw [hk3]
      simp only [laws_FnSketch.j1]
      rw [if_neg (by decide), admitsKey_f x (t + b) g4 key other g2 k3 (by omega), Option.bind_some]
      have h2 := second_half l1 hc1 (by omega) k3 (by omega)
      by_cases z : keyB other = true
      · rw [z]
        simp only [if_true, bne_self_eq_false, Bool.false_eq_true, if_false]
        exact h2
      · rw [Bool.eq_false_iff.mpr z]
        simp only [Bool.false_eq_true, if_false, bne_self_eq_false]
        exact h2
    rw [m1, m2, e2]
    simp only [Option.bind_some, m3, m4, if_true]
    rw [w64 (x := estOf l key + b) (by omega) (by omega), if_pos p1, if_neg (by omega)]
    by_cases z : keyB other = true
    · have hz := hj 0
      rw [z] at hz ⊢
      simp only [if_true, bne_self_eq_false, Bool.false_eq_true, if_false]
      rw [if_neg (by omega), w64 (x := estOf l other + b) (by omega) (by omega), decide_eq_false (by omega)]
      exact hz
    · rw [Bool.eq_false_iff.mpr z]
      simp only [Bool.false_eq_true, if_false, bne_self_eq_false]
      rw [if_neg (by omega), w64 (x := (0 : Int) + b) (by omega) (by omega), decide_eq_false (by omega), hk3]
      simp only [laws_FnSketch.j1]
      rw [if_neg (by decide), admitsKey_f x (t + b) g4 key other g2 k3 (by omega), Option.bind_some, if_neg z]
      simp only [Bool.false_eq_true, if_false, bne_self_eq_false]
      exact second_half l1 hc1 (by omega) k3 (by omega)
  · rw [if_neg ok]
    exact second_half l1 hc1 (by omega) k2 (by omega)

end Go.Proofs.Ytemeajidcggniaa.Pure
