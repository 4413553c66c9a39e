/- The program's NewSketch returns what the reference's returns, in memory of its own. No conditions. -/
import Derived.Test.YtbimpkfffcnlhaaPFnExactNewSketchx1
set_option linter.unusedVariables false
set_option linter.unusedSimpArgs false
namespace Go.Proofs.Ytbimpkfffcnlhaa.Pure
open Go.RowKit Go.Proofs.Ytbimpkfffcnlhaa.PFnExactNewSketch Go.Proofs.YtbimpkfffcnlhaaW.PrintWords Go.Proofs.YtbimpkfffcnlhaaW.PrintLast

/-! Whole numbers and rows of them -/
theorem w64 {x : Int} (h : -9223372036854775808 ≤ x) (h2 : x < 9223372036854775808) : wrap64 x = x := by unfold wrap64; omega
theorem rd_nat (l : List Int) (n : Nat) (h : n < l.length) : rd l (n : Int) = l[n] := by
  unfold rd; simp [List.getD_eq_getElem?_getD, h]
theorem succ_cast (n : Nat) : ((n : Int) + 1) = ((n + 1 : Nat) : Int) := by omega

/-! The laws' eqIntS -/
theorem eqInts_loop (xs ys : List Int) (hl : xs.length = ys.length) (hb : xs.length < 4611686018427387904) (d : Nat) : ∀ (k n : Nat), n + d = xs.length → d < k →
    laws_eqIntS.l0 k xs ys (n : Int) = some (decide (xs.drop n = ys.drop n)) := by
  induction d with
  | zero =>
    intro k n hn hk
    obtain ⟨k, rfl⟩ : ∃ m, k = m + 1 := ⟨k - 1, by omega⟩
    have c : ¬ (n : Int) < (xs.length : Int) := by omega
    simp only [laws_eqIntS.l0]; rw [if_neg c, List.drop_of_length_le (by omega), List.drop_of_length_le (by omega), decide_eq_true rfl]
  | succ d ih =>
    intro k n hn hk
    obtain ⟨k, rfl⟩ : ∃ m, k = m + 1 := ⟨k - 1, by omega⟩
    have h1 : n < xs.length := by omega
    have h2 : n < ys.length := by omega
    have c1 : (n : Int) < (xs.length : Int) := by omega
    have c2 : (n : Int) < (ys.length : Int) := by omega
    have c0 : (0 : Int) ≤ (n : Int) := by omega
    simp only [laws_eqIntS.l0]
    rw [if_pos c1, if_pos c0, if_pos c2, rd_nat xs n h1, rd_nat ys n h2, List.drop_eq_getElem_cons h1, List.drop_eq_getElem_cons h2, w64 (by omega) (by omega), succ_cast, ih k (n + 1) (by omega) (by omega)]
    by_cases e : xs[n] = ys[n]
    · rw [if_pos e]
      exact congrArg some (decide_eq_decide.mpr (by rw [List.cons.injEq]; exact ⟨fun h => ⟨e, h⟩, fun h => h.2⟩))
    · rw [if_neg e]
      exact congrArg some (decide_eq_false (by rw [List.cons.injEq]; exact fun h => e h.1)).symm
theorem eqInts_f (xs ys : List Int) (hb : xs.length < 4611686018427387904) (k : Nat) (hk : xs.length < k) : laws_eqIntS.f k xs ys = some (decide (xs = ys)) := by
  unfold laws_eqIntS.f
  by_cases e : xs.length = ys.length
  · have c : (xs.length : Int) = (ys.length : Int) := by omega
    rw [if_pos c]
    have h := eqInts_loop xs ys e hb xs.length k 0 (by omega) hk
    simpa using h
  · have c : ¬ (xs.length : Int) = (ys.length : Int) := by omega
    have e2 : ¬ xs = ys := fun h => e (by rw [h])
    rw [if_neg c, decide_eq_false e2]

/-! The laws' markIntS and heldIntS: numbers one after the other -/
def markL (a : Int) : Nat → List Int
  | 0 => []
  | n + 1 => a :: markL (a + 1) n
theorem markL_length (n : Nat) : ∀ a : Int, (markL a n).length = n := by
  induction n with
  | zero => intro a; rfl
  | succ n ih => intro a; simp [markL, ih]
theorem markL_get (n : Nat) : ∀ (a : Int) (i : Nat) (h : i < (markL a n).length), (markL a n)[i] = a + i := by
  induction n with
  | zero => intro a i h; simp [markL] at h
  | succ n ih =>
    intro a i h
    cases i with
    | zero => simp [markL]
    | succ i =>
      simp only [markL, List.getElem_cons_succ]
      rw [ih]; omega
theorem markInts_loop (m : Nat) (a : Int) (ha : 0 ≤ a) (hb : a + m < 4611686018427387904) (d : Nat) : ∀ (k n : Nat) (l : List Int), l.length = m → n + d = m → d < k →
    laws_markIntS.l0 k l (a + n) (n : Int) = some (a + m, l.take n ++ markL (a + n) d) := by
  induction d with
  | zero =>
    intro k n l hl hn hk
    obtain ⟨k, rfl⟩ : ∃ m, k = m + 1 := ⟨k - 1, by omega⟩
    have c : ¬ (n : Int) < (l.length : Int) := by omega
    simp only [laws_markIntS.l0]; rw [if_neg c, List.take_of_length_le (by omega)]; simp [markL]; omega
  | succ d ih =>
    intro k n l hl hn hk
    obtain ⟨k, rfl⟩ : ∃ m, k = m + 1 := ⟨k - 1, by omega⟩
    have c1 : (n : Int) < (l.length : Int) := by omega
    have c0 : (0 : Int) ≤ (n : Int) := by omega
    have h1 : n < l.length := by omega
    simp only [laws_markIntS.l0]
    rw [if_pos c1, if_pos c0, w64 (x := a + n + 1) (by omega) (by omega), w64 (x := (n : Int) + 1) (by omega) (by omega), succ_cast, show a + (n : Int) + 1 = a + ((n + 1 : Nat) : Int) by omega, Int.toNat_natCast,
      ih k (n + 1) (l.set n (a + n)) (by rw [List.length_set]; exact hl) (by omega) (by omega)]
    congr 2
    rw [List.take_add_one, List.take_set_of_le (by omega)]
    simp [markL, h1]
    congr 1; omega
theorem markInts_f (l : List Int) (a : Int) (ha : 0 ≤ a) (hb : a + l.length < 4611686018427387904) (k : Nat) (hk : l.length < k) : laws_markIntS.f k l a = some (a + l.length, markL a l.length) := by
  unfold laws_markIntS.f
  have h := markInts_loop l.length a ha hb l.length k 0 l rfl (by omega) hk
  simpa using h
theorem heldInts_loop (m : Nat) (a : Int) (ha : 0 ≤ a) (hb : a + m < 4611686018427387904) (d : Nat) : ∀ (k n : Nat), n + d = m → d < k →
    laws_heldIntS.l0 k (markL a m) (a + n) (n : Int) = some (a + m) := by
  induction d with
  | zero =>
    intro k n hn hk
    obtain ⟨k, rfl⟩ : ∃ m, k = m + 1 := ⟨k - 1, by omega⟩
    have hl := markL_length m a
    have c : ¬ (n : Int) < ((markL a m).length : Int) := by omega
    simp only [laws_heldIntS.l0]; rw [if_neg c]; congr 1; omega
  | succ d ih =>
    intro k n hn hk
    obtain ⟨k, rfl⟩ : ∃ m, k = m + 1 := ⟨k - 1, by omega⟩
    have hl := markL_length m a
    have c1 : (n : Int) < ((markL a m).length : Int) := by omega
    have c0 : (0 : Int) ≤ (n : Int) := by omega
    have h1 : n < (markL a m).length := by omega
    simp only [laws_heldIntS.l0]
    rw [if_pos c1, if_pos c0, rd_nat _ n h1, markL_get, if_pos rfl, w64 (x := a + n + 1) (by omega) (by omega), w64 (x := (n : Int) + 1) (by omega) (by omega), succ_cast, show a + (n : Int) + 1 = a + ((n + 1 : Nat) : Int) by omega]
    exact ih k (n + 1) (by omega) (by omega)
theorem heldInts_f (m : Nat) (a : Int) (ha : 0 ≤ a) (hb : a + m < 4611686018427387904) (k : Nat) (hk : m < k) : laws_heldIntS.f k (markL a m) a = some (a + m) := by
  unfold laws_heldIntS.f
  have h := heldInts_loop m a ha hb m k 0 (by omega) hk
  simpa using h

theorem FnExactNewSketch : laws_FnExactNewSketch.Pure := by
  obtain ⟨l, hl⟩ : ∃ l, l = List.replicate 128 (0 : Int) := ⟨_, rfl⟩
  have hn : l.length = 128 := by rw [hl]; exact List.length_replicate
  have e1 : spec_NewSketch.f = some (l, 0) := by unfold spec_NewSketch.f; rw [if_pos (by omega), hl]
  have e2 : impl_NewSketch.f = some (l, 0) := by unfold impl_NewSketch.f; rw [if_pos (by omega), hl]
  clear hl
  obtain ⟨k, hk⟩ : ∃ k, k = 200 := ⟨_, rfl⟩
  have e3 : laws_eqSketch.f k l 0 l 0 = some true := by
    unfold laws_eqSketch.f
    rw [eqInts_f l l (by omega) k (by omega), decide_eq_true rfl, Option.bind_some, if_pos rfl, if_pos rfl]
  have e4 : laws_markSketch.f k l 0 1 = some (129, markL 1 128) := by
    unfold laws_markSketch.f
    rw [markInts_f l 1 (by omega) (by omega) k (by omega), hn]; rfl
  have e5 : laws_heldSketch.f k (markL 1 128) 0 1 = some 129 := by
    unfold laws_heldSketch.f
    rw [heldInts_f 128 1 (by omega) (by omega) k (by omega), Option.bind_some, if_neg (by omega)]; rfl
  refine ⟨k, ?_⟩
  unfold laws_FnExactNewSketch.f
  simp only [e1, e2, e3, e4, e5, Option.bind_some, if_true]
  simp

end Go.Proofs.Ytbimpkfffcnlhaa.Pure
