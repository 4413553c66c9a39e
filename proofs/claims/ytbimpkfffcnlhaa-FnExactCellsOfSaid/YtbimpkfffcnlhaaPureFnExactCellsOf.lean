/- The program's CellsOf returns what the reference's returns, in memory of its own. No conditions. -/
import Derived.Test.YtbimpkfffcnlhaaPFnExactCellsOfx2
set_option linter.unusedVariables false
set_option linter.unusedSimpArgs false
namespace Go.Proofs.Ytbimpkfffcnlhaa.Pure
open Go.RowKit Go.Proofs.Ytbimpkfffcnlhaa.PFnExactCellsOf Go.Proofs.YtbimpkfffcnlhaaW.PrintWords Go.Proofs.YtbimpkfffcnlhaaW.PrintLast

/-! Whole numbers and rows of them -/
theorem w64 {x : Int} (h : -9223372036854775808 ≤ x) (h2 : x < 9223372036854775808) : wrap64 x = x := by unfold wrap64; omega
theorem rd_nat (l : List Int) (n : Nat) (h : n < l.length) : rd l (n : Int) = l[n] := by
  unfold rd; simp [List.getD_eq_getElem?_getD, h]
theorem succ_cast (n : Nat) : ((n : Int) + 1) = ((n + 1 : Nat) : Int) := by omega

/-! The laws' eqIntS -/
theorem eqInts_loop (xs ys : List Int) (hl : xs.length = ys.length) (hb : xs.length < 4611686018427387904) (d : Nat) : ∀ (k n : Nat), n + d = xs.length → d < k →
    laws_eqIntS.l0 k xs ys (n : Int) = some (decide (xs.drop n = ys.drop n)) := by
  induction d with
  | zero =>
    intro k n hn hk
    obtain ⟨k, rfl⟩ : ∃ m, k = m + 1 := ⟨k - 1, by omega⟩
    have c : ¬ (n : Int) < (xs.length : Int) := by omega
    simp only [laws_eqIntS.l0]; rw [if_neg c, List.drop_of_length_le (by omega), List.drop_of_length_le (by omega), decide_eq_true rfl]
  | succ d ih =>
    intro k n hn hk
    obtain ⟨k, rfl⟩ : ∃ m, k = m + 1 := ⟨k - 1, by omega⟩
    have h1 : n < xs.length := by omega
    have h2 : n < ys.length := by omega
    have c1 : (n : Int) < (xs.length : Int) := by omega
    have c2 : (n : Int) < (ys.length : Int) := by omega
    have c0 : (0 : Int) ≤ (n : Int) := by omega
    simp only [laws_eqIntS.l0]
    rw [if_pos c1, if_pos c0, if_pos c2, rd_nat xs n h1, rd_nat ys n h2, List.drop_eq_getElem_cons h1, List.drop_eq_getElem_cons h2, w64 (by omega) (by omega), succ_cast, ih k (n + 1) (by omega) (by omega)]
    by_cases e : xs[n] = ys[n]
    · rw [if_pos e]
      exact congrArg some (decide_eq_decide.mpr (by rw [List.cons.injEq]; exact ⟨fun h => ⟨e, h⟩, fun h => h.2⟩))
    · rw [if_neg e]
      exact congrArg some (decide_eq_false (by rw [List.cons.injEq]; exact fun h => e h.1)).symm
theorem eqInts_f (xs ys : List Int) (hb : xs.length < 4611686018427387904) (k : Nat) (hk : xs.length < k) : laws_eqIntS.f k xs ys = some (decide (xs = ys)) := by
  unfold laws_eqIntS.f
  by_cases e : xs.length = ys.length
  · have c : (xs.length : Int) = (ys.length : Int) := by omega
    rw [if_pos c]
    have h := eqInts_loop xs ys e hb xs.length k 0 (by omega) hk
    simpa using h
  · have c : ¬ (xs.length : Int) = (ys.length : Int) := by omega
    have e2 : ¬ xs = ys := fun h => e (by rw [h])
    rw [if_neg c, decide_eq_false e2]

/-! The laws' markIntS and heldIntS: numbers one after the other -/
def markL (a : Int) : Nat → List Int
  | 0 => []
  | n + 1 => a :: markL (a + 1) n
theorem markL_length (n : Nat) : ∀ a : Int, (markL a n).length = n := by
  induction n with
  | zero => intro a; rfl
  | succ n ih => intro a; simp [markL, ih]
theorem markL_get (n : Nat) : ∀ (a : Int) (i : Nat) (h : i < (markL a n).length), (markL a n)[i] = a + i := by
  induction n with
  | zero => intro a i h; simp [markL] at h
  | succ n ih =>
    intro a i h
    cases i with
    | zero => simp [markL]
    | succ i =>
      simp only [markL, List.getElem_cons_succ]
      rw [ih]; omega
theorem markInts_loop (m : Nat) (a : Int) (ha : 0 ≤ a) (hb : a + m < 4611686018427387904) (d : Nat) : ∀ (k n : Nat) (l : List Int), l.length = m → n + d = m → d < k →
    laws_markIntS.l0 k l (a + n) (n : Int) = some (a + m, l.take n ++ markL (a + n) d) := by
  induction d with
  | zero =>
    intro k n l hl hn hk
    obtain ⟨k, rfl⟩ : ∃ m, k = m + 1 := ⟨k - 1, by omega⟩
    have c : ¬ (n : Int) < (l.length : Int) := by omega
    simp only [laws_markIntS.l0]; rw [if_neg c, List.take_of_length_le (by omega)]; simp [markL]; omega
  | succ d ih =>
    intro k n l hl hn hk
    obtain ⟨k, rfl⟩ : ∃ m, k = m + 1 := ⟨k - 1, by omega⟩
    have c1 : (n : Int) < (l.length : Int) := by omega
    have c0 : (0 : Int) ≤ (n : Int) := by omega
    have h1 : n < l.length := by omega
    simp only [laws_markIntS.l0]
    rw [if_pos c1, if_pos c0, w64 (x := a + n + 1) (by omega) (by omega), w64 (x := (n : Int) + 1) (by omega) (by omega), succ_cast, show a + (n : Int) + 1 = a + ((n + 1 : Nat) : Int) by omega, Int.toNat_natCast,
      ih k (n + 1) (l.set n (a + n)) (by rw [List.length_set]; exact hl) (by omega) (by omega)]
    congr 2
    rw [List.take_add_one, List.take_set_of_le (by omega)]
    simp [markL, h1]
    congr 1; omega
theorem markInts_f (l : List Int) (a : Int) (ha : 0 ≤ a) (hb : a + l.length < 4611686018427387904) (k : Nat) (hk : l.length < k) : laws_markIntS.f k l a = some (a + l.length, markL a l.length) := by
  unfold laws_markIntS.f
  have h := markInts_loop l.length a ha hb l.length k 0 l rfl (by omega) hk
  simpa using h
theorem heldInts_loop (m : Nat) (a : Int) (ha : 0 ≤ a) (hb : a + m < 4611686018427387904) (d : Nat) : ∀ (k n : Nat), n + d = m → d < k →
    laws_heldIntS.l0 k (markL a m) (a + n) (n : Int) = some (a + m) := by
  induction d with
  | zero =>
    intro k n hn hk
    obtain ⟨k, rfl⟩ : ∃ m, k = m + 1 := ⟨k - 1, by omega⟩
    have hl := markL_length m a
    have c : ¬ (n : Int) < ((markL a m).length : Int) := by omega
    simp only [laws_heldIntS.l0]; rw [if_neg c]; congr 1; omega
  | succ d ih =>
    intro k n hn hk
    obtain ⟨k, rfl⟩ : ∃ m, k = m + 1 := ⟨k - 1, by omega⟩
    have hl := markL_length m a
    have c1 : (n : Int) < ((markL a m).length : Int) := by omega
    have c0 : (0 : Int) ≤ (n : Int) := by omega
    have h1 : n < (markL a m).length := by omega
    simp only [laws_heldIntS.l0]
    rw [if_pos c1, if_pos c0, rd_nat _ n h1, markL_get, if_pos rfl, w64 (x := a + n + 1) (by omega) (by omega), w64 (x := (n : Int) + 1) (by omega) (by omega), succ_cast, show a + (n : Int) + 1 = a + ((n + 1 : Nat) : Int) by omega]
    exact ih k (n + 1) (by omega) (by omega)
theorem heldInts_f (m : Nat) (a : Int) (ha : 0 ≤ a) (hb : a + m < 4611686018427387904) (k : Nat) (hk : m < k) : laws_heldIntS.f k (markL a m) a = some (a + m) := by
  unfold laws_heldIntS.f
  have h := heldInts_loop m a ha hb m k 0 (by omega) hk
  simpa using h

/-! The hash: the program's loop -/
def fnv (s : ByteArray) (i : Nat) : Nat → Int → Int
  | 0, h => h
  | d + 1, h => fnv s (i + 1) d (((Go.bits .xor .u32 h ((bt s (i : Int)) % 4294967296)) * 16777619) % 4294967296)
theorem hashed_loop (s : ByteArray) (hs : s.size < 4611686018427387904) (d : Nat) : ∀ (k n : Nat) (h : Int), n + d = s.size → d < k →
    impl_hashed.l0 k h s (s.size : Int) (n : Int) = some (fnv s n d h) := by
  induction d with
  | zero =>
    intro k n h hn hk
    obtain ⟨k, rfl⟩ : ∃ m, k = m + 1 := ⟨k - 1, by omega⟩
    have c : ¬ (n : Int) < (s.size : Int) := by omega
    simp only [impl_hashed.l0]; rw [if_neg c]; rfl
  | succ d ih =>
    intro k n h hn hk
    obtain ⟨k, rfl⟩ : ∃ m, k = m + 1 := ⟨k - 1, by omega⟩
    have c1 : (n : Int) < (s.size : Int) := by omega
    have c0 : (0 : Int) ≤ (n : Int) := by omega
    simp only [impl_hashed.l0]
    rw [if_pos c1, if_pos c0, if_pos c1, w64 (by omega) (by omega), succ_cast]
    exact ih k (n + 1) _ (by omega) (by omega)
theorem hashed_f (s : ByteArray) (h : Int) (hs : s.size < 4611686018427387904) (k : Nat) (hk : s.size < k) : impl_hashed.f k h s = some (fnv s 0 s.size h) :=
  hashed_loop s hs s.size k 0 h (by omega) hk
theorem fnv_range (s : ByteArray) (d : Nat) : ∀ (n : Nat) (h : Int), 0 ≤ h → h < 4294967296 → 0 ≤ fnv s n d h ∧ fnv s n d h < 4294967296 := by
  induction d with
  | zero => intro n h a b; exact ⟨a, b⟩
  | succ d ih => intro n h a b; exact ih _ _ (Int.emod_nonneg _ (by omega)) (Int.emod_lt_of_pos _ (by omega))

/-! The cells of a key, in the program and in the reference -/
def cellAt (s : ByteArray) (r : Nat) : Int := wrap64 (wrap64 (32 * (r : Int)) + wrap64 (fnv s 0 s.size ((2166136261 + ((wrap64 (16777619 * (r : Int))) % 4294967296)) % 4294967296) / 134217728))
def cellsL (s : ByteArray) : List Int := [cellAt s 0, cellAt s 1, cellAt s 2, cellAt s 3]
theorem cellsOf_loop (s : ByteArray) (hs : s.size < 4611686018427387904) (d : Nat) : ∀ (k r : Nat) (l : List Int), r + d = 4 → l.length = r → d + s.size < k →
    impl_cellsOf.l0 k s l (r : Int) = some (l ++ (cellsL s).drop r) := by
  induction d with
  | zero =>
    intro k r l hr hl hk
    obtain ⟨k, rfl⟩ : ∃ m, k = m + 1 := ⟨k - 1, by omega⟩
    have c : ¬ (r : Int) < 4 := by omega
    have h4 : r = 4 := by omega
    simp only [impl_cellsOf.l0]; rw [if_neg c, h4]; simp [cellsL]
  | succ d ih =>
    intro k r l hr hl hk
    obtain ⟨k, rfl⟩ : ∃ m, k = m + 1 := ⟨k - 1, by omega⟩
    have c : (r : Int) < 4 := by omega
    simp only [impl_cellsOf.l0]
    rw [if_pos c, hashed_f s _ hs k (by omega), Option.bind_some, if_pos (by omega), w64 (x := (r : Int) + 1) (by omega) (by omega), succ_cast, ih k (r + 1) _ (by omega) (by simp [hl]) (by omega), List.append_assoc]
    congr 2
    rw [List.drop_eq_getElem_cons (l := cellsL s) (i := r) (by simp [cellsL]; omega)]
    have h : ∀ h, (cellsL s)[r]'h = cellAt s r := by
      intro h
      obtain h | h | h | h : r = 0 ∨ r = 1 ∨ r = 2 ∨ r = 3 := by omega
      all_goals (subst h; rfl)
    rw [h]; rfl
theorem cellsOf_f (s : ByteArray) (hs : s.size < 4611686018427387904) (k : Nat) (hk : 4 + s.size < k) : impl_cellsOf.f k s = some (cellsL s) := by
  have h := cellsOf_loop s hs 4 k 0 [] (by omega) rfl hk
  exact h
theorem l13_inner (s : ByteArray) (l : List Int) (r : Int) (hs : s.size < 4611686018427387904) (d : Nat) : ∀ (k n : Nat) (h : Int), n + d = s.size → d < k →
    spec_l13Cells.l1 k s l r h (n : Int) = spec_l13Cells.l1 (k - d) s l r (fnv s n d h) (s.size : Int) := by
  induction d with
  | zero =>
    intro k n h hn hk
    have e : n = s.size := by omega
    rw [e, Nat.sub_zero]; rfl
  | succ d ih =>
    intro k n h hn hk
    obtain ⟨k, rfl⟩ : ∃ m, k = m + 1 := ⟨k - 1, by omega⟩
    have c1 : (n : Int) < (s.size : Int) := by omega
    have c0 : (0 : Int) ≤ (n : Int) := by omega
    conv => lhs; simp only [spec_l13Cells.l1]
    rw [if_pos c1, if_pos c0, w64 (by omega) (by omega), succ_cast, ih k (n + 1) _ (by omega) (by omega), show k + 1 - (d + 1) = k - d by omega]
    rfl
theorem l13_loop (s : ByteArray) (hs : s.size < 4611686018427387904) (d : Nat) : ∀ (k r : Nat) (l : List Int), r + d = 4 → l.length = r → d * (s.size + 2) < k →
    spec_l13Cells.l0 k s l (r : Int) = some (l ++ (cellsL s).drop r) := by
  induction d with
  | zero =>
    intro k r l hr hl hk
    obtain ⟨k, rfl⟩ : ∃ m, k = m + 1 := ⟨k - 1, by omega⟩
    have c : ¬ (r : Int) < 4 := by omega
    have h4 : r = 4 := by omega
    simp only [spec_l13Cells.l0]; rw [if_neg c, h4]; simp [cellsL]
  | succ d ih =>
    intro k r l hr hl hk
    obtain ⟨k, rfl⟩ : ∃ m, k = m + 1 := ⟨k - 1, by omega⟩
    have hk' : d * (s.size + 2) + (s.size + 2) < k + 1 := by rw [← Nat.succ_mul]; exact hk
    have c : (r : Int) < 4 := by omega
    have hin := l13_inner s l (r : Int) hs s.size k 0 ((2166136261 + ((16777619 * ((r : Int) % 4294967296)) % 4294967296)) % 4294967296) (by omega) (by omega)
    simp only [spec_l13Cells.l0]
    rw [if_pos c]
    rw [show ((0 : Nat) : Int) = 0 from rfl] at hin
    rw [hin]
    obtain ⟨k2, hk2⟩ : ∃ m, k - s.size = m + 1 := ⟨k - s.size - 1, by omega⟩
    rw [hk2]
    have c2 : ¬ (s.size : Int) < (s.size : Int) := by omega
    simp only [spec_l13Cells.l1]
    rw [if_neg c2, if_pos (by omega), w64 (x := (r : Int) + 1) (by omega) (by omega), succ_cast, ih k2 (r + 1) _ (by omega) (by simp [hl]) (by omega), List.append_assoc]
    congr 2
    rw [List.drop_eq_getElem_cons (l := cellsL s) (i := r) (by simp [cellsL]; omega)]
    have h : ∀ h, (cellsL s)[r]'h = cellAt s r := by
      intro h
      obtain h | h | h | h : r = 0 ∨ r = 1 ∨ r = 2 ∨ r = 3 := by omega
      all_goals (subst h; rfl)
    rw [h]
    have e : (16777619 * ((r : Int) % 4294967296)) % 4294967296 = (wrap64 (16777619 * (r : Int))) % 4294967296 := by
      rw [w64 (by omega) (by omega), Int.emod_eq_of_lt (a := (r : Int)) (by omega) (by omega)]
    rw [e]; rfl
theorem l13Cells_f (s : ByteArray) (hs : s.size < 4611686018427387904) (k : Nat) (hk : 4 * (s.size + 2) < k) : spec_l13Cells.f k s = some (cellsL s) := by
  have h := l13_loop s hs 4 k 0 [] (by omega) rfl hk
  exact h

theorem FnExactCellsOf : laws_FnExactCellsOf.Pure := by
  intro s hs
  obtain ⟨k, hk⟩ : ∃ k, k = 4 * (s.size + 2) + 100 := ⟨_, rfl⟩
  obtain ⟨b, hb⟩ : ∃ b, b = (decide ((1 : Int) ≤ (s.size : Int) ∧ (s.size : Int) ≤ 20)) := ⟨_, rfl⟩
  have g1 : impl_isKey.f s = some b := by
    unfold impl_isKey.f impl_within.f
    by_cases c : (1 : Int) ≤ (s.size : Int)
    · rw [if_pos c, hb]; simp [c]
    · rw [if_neg c, hb]; simp [c]
  have g2 : spec_l13Key.f s = some b := by
    unfold spec_l13Key.f spec_l1In.f
    by_cases c : (s.size : Int) ≥ 1
    · rw [if_pos c, hb]; simp [show (1 : Int) ≤ s.size from c]
    · rw [if_neg c, hb]; simp [show ¬ (1 : Int) ≤ s.size from c]
  obtain ⟨l, hl⟩ : ∃ l, l = (if b = true then cellsL s else []) := ⟨_, rfl⟩
  have e1 : spec_CellsOf.f k s = some (l, b) := by
    unfold spec_CellsOf.f
    rw [g2, Option.bind_some]
    cases b with
    | true => rw [if_pos rfl, l13Cells_f s (by omega) k (by omega), hl]; rfl
    | false => rw [if_neg (by decide), hl]; rfl
  have e2 : impl_CellsOf.f k s = some (l, b) := by
    unfold impl_CellsOf.f
    rw [g1, Option.bind_some]
    cases b with
    | true => rw [if_pos rfl, cellsOf_f s (by omega) k (by omega), hl]; rfl
    | false => rw [if_neg (by decide), hl]; rfl
  have hn : l.length ≤ 4 := by rw [hl]; split <;> simp [cellsL]
  clear hl hb
  have e3 : laws_eqIntS.f k l l = some true := by rw [eqInts_f l l (by omega) k (by omega), decide_eq_true rfl]
  have e4 := markInts_f l 1 (by omega) (by omega) k (by omega)
  have e5 := heldInts_f l.length 1 (by omega) (by omega) k (by omega)
  obtain ⟨k2, hk2⟩ : ∃ k2, k = k2 + 1 := ⟨4 * (s.size + 2) + 99, by omega⟩
  have f2 : impl_CellsOf.f k2 s = some (l, b) := by
    unfold impl_CellsOf.f
    rw [g1, Option.bind_some]
    unfold impl_CellsOf.f at e2
    rw [g1, Option.bind_some] at e2
    cases b with
    | true => rw [if_pos rfl] at e2 ⊢; rw [cellsOf_f s (by omega) k (by omega)] at e2; rw [cellsOf_f s (by omega) k2 (by omega)]; exact e2
    | false => rw [if_neg (by decide)] at e2 ⊢; exact e2
  have f3 : laws_eqIntS.f k2 l l = some true := by rw [eqInts_f l l (by omega) k2 (by omega), decide_eq_true rfl]
  have f4 := markInts_f l 1 (by omega) (by omega) k2 (by omega)
  have f5 := heldInts_f l.length 1 (by omega) (by omega) k2 (by omega)
  obtain ⟨k3, hk3⟩ : ∃ k3, k2 = k3 + 1 := ⟨4 * (s.size + 2) + 98, by omega⟩
  have h5 := heldInts_f l.length 1 (by omega) (by omega) k3 (by omega)
  have c : ¬ (1 : Int) + (l.length : Int) < 0 := by omega
  refine ⟨k, ?_⟩
  unfold laws_FnExactCellsOf.f
  by_cases c0 : (s.size : Int) > 1048576
  · rw [if_pos c0]
  · rw [if_neg c0, e1, Option.bind_some, e2, Option.bind_some, e3, Option.bind_some, if_pos rfl, hk2]
    simp only [laws_FnExactCellsOf.j0, bne_self_eq_false, if_false_left, Bool.false_eq_true, if_false]
    rw [f4, Option.bind_some, f5, Option.bind_some, if_neg c, if_pos rfl, f2, Option.bind_some, f3, Option.bind_some, if_pos rfl, hk3]
    simp only [laws_FnExactCellsOf.j1, bne_self_eq_false, Bool.false_eq_true, if_false]
    rw [h5, Option.bind_some, if_neg c, if_pos rfl]

end Go.Proofs.Ytbimpkfffcnlhaa.Pure
