/- The program's KeysIn returns what the reference's returns, in memory of its own, and leaves its argument as it was. No conditions. -/
import Derived.Test.YtgdlnbdbilgboaaPFnExactKeysInx6
import Derived.Laws.Strings
set_option linter.unusedVariables false
set_option linter.unusedSimpArgs false
namespace Go.Proofs.Ytgdlnbdbilgboaa.Pure
open Go.RowKit Go.Proofs.Ytgdlnbdbilgboaa.PFnExactKeysIn Go.Proofs.YtgdlnbdbilgboaaW.PrintWords Go.Proofs.YtgdlnbdbilgboaaW.PrintLast

/-! Whole numbers and rows of them -/
theorem w64 {x : Int} (h : -9223372036854775808 ≤ x) (h2 : x < 9223372036854775808) : wrap64 x = x := by unfold wrap64; omega
theorem rd_nat (l : List Int) (n : Nat) (h : n < l.length) : rd l (n : Int) = l[n] := by
  unfold rd; simp [List.getD_eq_getElem?_getD, h]
theorem succ_cast (n : Nat) : ((n : Int) + 1) = ((n + 1 : Nat) : Int) := by omega

/-! The first place at which a predicate holds -/
theorem idxO_ge {α : Type} (p : α → Option Bool) (l : List α) : ∀ (n i : Int), 0 ≤ n → idxO p l n = some i → i = -1 ∨ n ≤ i := by
  induction l with
  | nil => intro n i hn h; left; exact (Option.some.inj h).symm
  | cons x xs ih =>
    intro n i hn h
    obtain ⟨b, hb, h2⟩ := Option.bind_eq_some_iff.mp h
    cases b with
    | true => right; have := Option.some.inj h2; omega
    | false => have := ih (n + 1) i (by omega) h2; omega
theorem idxO_all {α : Type} (p : α → Option Bool) (q : α → Bool) (h : ∀ x, p x = some (!q x)) (l : List α) : ∀ (n : Int), 0 ≤ n → ∃ i, idxO p l n = some i ∧ (!decide (i ≥ 0)) = l.all q := by
  induction l with
  | nil => intro n hn; exact ⟨-1, rfl, rfl⟩
  | cons x xs ih =>
    intro n hn
    unfold idxO
    rw [h x, Option.bind_some]
    cases hq : q x with
    | true =>
      obtain ⟨i, h1, h2⟩ := ih (n + 1) (by omega)
      exact ⟨i, h1, by rw [h2, List.all_cons, hq, Bool.true_and]⟩
    | false => exact ⟨n, rfl, by rw [List.all_cons, hq, Bool.false_and, decide_eq_true (show n ≥ 0 from hn)]; rfl⟩

/-! Entries: the laws' words for them -/
def toE (p : S63) : S49 := ⟨p.f0, p.f1⟩
theorem rdP_nat (l : List S49) (n : Nat) (h : n < l.length) : rd_T49 l (n : Int) = l[n] := by
  unfold rd_T49; simp [List.getD_eq_getElem?_getD, h]
theorem rdQ_nat (l : List S63) (n : Nat) (h : n < l.length) : rd_T63 l (n : Int) = l[n] := by
  unfold rd_T63; simp [List.getD_eq_getElem?_getD, h]
theorem toEntries_loop (xs : List S63) (hb : xs.length < 4611686018427387904) (d : Nat) : ∀ (k n : Nat) (ys : List S49), ys.length = xs.length → n + d = xs.length → d < k →
    laws_toEntryS.l0 k xs ys (n : Int) = some (ys.take n ++ (xs.drop n).map toE) := by
  induction d with
  | zero =>
    intro k n ys hl hn hk
    obtain ⟨k, rfl⟩ : ∃ m, k = m + 1 := ⟨k - 1, by omega⟩
    have c : ¬ (n : Int) < (xs.length : Int) := by omega
    simp only [laws_toEntryS.l0]; rw [if_neg c, List.take_of_length_le (by omega), List.drop_of_length_le (by omega), List.map_nil, List.append_nil]
  | succ d ih =>
    intro k n ys hl hn hk
    obtain ⟨k, rfl⟩ : ∃ m, k = m + 1 := ⟨k - 1, by omega⟩
    have h1 : n < xs.length := by omega
    have h2 : n < ys.length := by omega
    have c1 : (n : Int) < (xs.length : Int) := by omega
    have c2 : (n : Int) < (ys.length : Int) := by omega
    have c0 : (0 : Int) ≤ (n : Int) := by omega
    simp only [laws_toEntryS.l0, laws_toEntry.f]
    rw [if_pos c1, if_pos c0, Option.bind_some, if_pos c2, rdQ_nat xs n h1, w64 (by omega) (by omega), succ_cast, Int.toNat_natCast, ih k (n + 1) _ (by simp [hl]) (by omega) (by omega), List.drop_eq_getElem_cons h1, List.map_cons]
    congr 1
    rw [List.take_add_one, List.take_set_of_le (by omega)]
    simp [h2, toE]
theorem toEntries_f (xs : List S63) (hb : xs.length ≤ 1048576) (k : Nat) (hk : xs.length < k) : laws_toEntryS.f k xs = some (xs.map toE) := by
  unfold laws_toEntryS.f
  rw [if_pos (by omega), if_pos (by omega)]
  have h := toEntries_loop xs (by omega) xs.length k 0 (List.replicate ((xs.length : Int) : Int).toNat z49) (by simp) (by omega) hk
  simpa using h
theorem eqEntries_loop (xs : List S49) (hb : xs.length < 4611686018427387904) (d : Nat) : ∀ (k n : Nat), n + d = xs.length → d < k →
    laws_eqEntryS.l0 k xs xs (n : Int) = some true := by
  induction d with
  | zero =>
    intro k n hn hk
    obtain ⟨k, rfl⟩ : ∃ m, k = m + 1 := ⟨k - 1, by omega⟩
    have c : ¬ (n : Int) < (xs.length : Int) := by omega
    simp only [laws_eqEntryS.l0]; rw [if_neg c]
  | succ d ih =>
    intro k n hn hk
    obtain ⟨k, rfl⟩ : ∃ m, k = m + 1 := ⟨k - 1, by omega⟩
    have c1 : (n : Int) < (xs.length : Int) := by omega
    have c0 : (0 : Int) ≤ (n : Int) := by omega
    simp only [laws_eqEntryS.l0, laws_eqEntry.f]
    rw [if_pos c1, if_pos c0, if_pos c1]
    simp only [if_true, Option.bind_some]
    rw [w64 (by omega) (by omega), succ_cast]
    exact ih k (n + 1) (by omega) (by omega)
theorem eqEntries_f (xs : List S49) (hb : xs.length ≤ 1048576) (k : Nat) (hk : xs.length < k) : laws_eqEntryS.f k xs xs = some true := by
  unfold laws_eqEntryS.f
  rw [if_pos rfl]
  exact eqEntries_loop xs (by omega) xs.length k 0 (by omega) hk
theorem szEntries_loop (l : List S63) (hb : l.length < 4611686018427387904) (hw : ∀ x ∈ l, x.f0.size ≤ maxLen ∧ x.f1.size ≤ maxLen) (d : Nat) : ∀ (k n : Nat) (a : Int), n + d = l.length → d < k → 0 ≤ a → a ≤ 1048576 →
    ∃ r, laws_szEntryS.l0 k l a (n : Int) = some r ∧ (0 ≤ r → r ≤ a) := by
  induction d with
  | zero =>
    intro k n a hn hk h0 h1
    obtain ⟨k, rfl⟩ : ∃ m, k = m + 1 := ⟨k - 1, by omega⟩
    have c : ¬ (n : Int) < (l.length : Int) := by omega
    exact ⟨a, by simp only [laws_szEntryS.l0]; rw [if_neg c], fun _ => Int.le_refl _⟩
  | succ d ih =>
    intro k n a hn hk h0 h1
    obtain ⟨k, rfl⟩ : ∃ m, k = m + 1 := ⟨k - 1, by omega⟩
    have hlt : n < l.length := by omega
    have c1 : (n : Int) < (l.length : Int) := by omega
    have c0 : (0 : Int) ≤ (n : Int) := by omega
    obtain ⟨g0, g1⟩ := hw l[n] (List.getElem_mem hlt)
    have hmx : maxLen = 9223372036854775807 := by decide
    simp only [laws_szEntryS.l0, laws_szEntry.f]
    rw [if_pos c1, if_pos c0, rdQ_nat l n hlt, w64 (x := a - (l[n].f0.size : Int)) (by omega) (by omega)]
    by_cases e0 : a - (l[n].f0.size : Int) < 0
    · rw [if_pos e0, Option.bind_some, if_pos (by omega)]
      exact ⟨-1, rfl, fun h => by omega⟩
    · rw [if_neg e0, w64 (x := a - (l[n].f0.size : Int) - (l[n].f1.size : Int)) (by omega) (by omega)]
      by_cases e1 : a - (l[n].f0.size : Int) - (l[n].f1.size : Int) < 0
      · rw [if_pos e1, Option.bind_some, if_pos (by omega)]
        exact ⟨-1, rfl, fun h => by omega⟩
      · rw [if_neg e1, Option.bind_some, if_neg e1, w64 (x := (n : Int) + 1) (by omega) (by omega), succ_cast]
        obtain ⟨r, hr, hr2⟩ := ih k (n + 1) (a - (l[n].f0.size : Int) - (l[n].f1.size : Int)) (by omega) (by omega) (by omega) (by omega)
        exact ⟨r, hr, fun h => by have := hr2 h; omega⟩
theorem szEntries_f (l : List S63) (hm : l.length ≤ maxLen) (hw : ∀ x ∈ l, x.f0.size ≤ maxLen ∧ x.f1.size ≤ maxLen) (a : Int) (h0 : 0 ≤ a) (h1 : a ≤ 1048576) :
    ∃ r, (∀ k, 1048576 < k → laws_szEntryS.f k l a = some r) ∧ (0 ≤ r → r ≤ a ∧ l.length ≤ 1048576) := by
  have hmx : maxLen = 9223372036854775807 := by decide
  unfold laws_szEntryS.f
  rw [w64 (x := a - (l.length : Int)) (by omega) (by omega)]
  by_cases c : a - (l.length : Int) < 0
  · exact ⟨-1, fun k _ => by rw [if_pos c], fun h => by omega⟩
  · obtain ⟨r, hr, hr2⟩ := szEntries_loop l (by omega) hw l.length (l.length + 1) 0 (a - (l.length : Int)) (by omega) (by omega) (by omega) (by omega)
    refine ⟨r, fun k hk => ?_, fun h => ⟨by have := hr2 h; omega, by omega⟩⟩
    rw [if_neg c]
    exact at_rounds (g := fun k => laws_szEntryS.l0 k l (a - (l.length : Int)) 0) (fun k => laws_szEntryS.mono_l k _ _ _) (k := l.length + 1) (by omega) hr
theorem szSegmented_f (a b : Int) (l0 l1 : List S63) (hm0 : l0.length ≤ maxLen) (hw0 : ∀ x ∈ l0, x.f0.size ≤ maxLen ∧ x.f1.size ≤ maxLen) (hm1 : l1.length ≤ maxLen) (hw1 : ∀ x ∈ l1, x.f0.size ≤ maxLen ∧ x.f1.size ≤ maxLen) :
    ∃ r, (∀ k, 1048576 < k → laws_szSegmented.f k a b l0 l1 1048576 = some r) ∧ (0 ≤ r → l0.length ≤ 1048576 ∧ l1.length ≤ 1048576) := by
  unfold laws_szSegmented.f
  obtain ⟨r, hr, hr2⟩ := szEntries_f l0 hm0 hw0 1048576 (by omega) (by omega)
  by_cases c : r < 0
  · exact ⟨-1, fun k hk => by rw [hr k hk, Option.bind_some, if_pos c], fun h => by omega⟩
  · obtain ⟨q, hq, hq2⟩ := szEntries_f l1 hm1 hw1 r (by omega) (by have := hr2 (by omega); omega)
    by_cases c2 : q < 0
    · exact ⟨-1, fun k hk => by rw [hr k hk, Option.bind_some, if_neg c, hq k hk, Option.bind_some, if_pos c2], fun h => by omega⟩
    · exact ⟨q, fun k hk => by rw [hr k hk, Option.bind_some, if_neg c, hq k hk, Option.bind_some, if_neg c2], fun _ => ⟨(hr2 (by omega)).2, (hq2 (by omega)).2⟩⟩
theorem toSegmented_f (a b : Int) (l0 l1 : List S63) (h0 : l0.length ≤ 1048576) (h1 : l1.length ≤ 1048576) (k : Nat) (hk : 1048576 < k) : laws_toSegmented.f k a b l0 l1 = some (a, b, l0.map toE, l1.map toE) := by
  unfold laws_toSegmented.f
  rw [toEntries_f l0 h0 k (by omega), Option.bind_some, toEntries_f l1 h1 k (by omega), Option.bind_some]
theorem eqSegmented_f (a b : Int) (l0 l1 : List S49) (h0 : l0.length ≤ 1048576) (h1 : l1.length ≤ 1048576) (k : Nat) (hk : 1048576 < k) : laws_eqSegmented.f k a b l0 l1 a b l0 l1 = some true := by
  unfold laws_eqSegmented.f
  rw [if_pos rfl, if_pos rfl, eqEntries_f l0 h0 k (by omega), Option.bind_some, if_pos rfl, eqEntries_f l1 h1 k (by omega), Option.bind_some, if_pos rfl]

/-! A good cache of two parts, in the program and in the reference -/
def wsum : List S49 → Int → Int
  | [], s => s
  | x :: xs, s => wsum xs (wrap64 (s + wrap64 ((x.f0.size : Int) + (x.f1.size : Int))))
theorem specWeight_loop (l : List S49) (hb : l.length < 4611686018427387904) (d : Nat) : ∀ (k n : Nat) (s : Int), n + d = l.length → d < k → spec_l12Weight.l0 k s l (l.length : Int) (n : Int) = some (wsum (l.drop n) s) := by
  induction d with
  | zero =>
    intro k n s hn hk
    obtain ⟨k, rfl⟩ : ∃ m, k = m + 1 := ⟨k - 1, by omega⟩
    have c : ¬ (n : Int) < (l.length : Int) := by omega
    simp only [spec_l12Weight.l0]; rw [if_neg c, List.drop_of_length_le (by omega)]; rfl
  | succ d ih =>
    intro k n s hn hk
    obtain ⟨k, rfl⟩ : ∃ m, k = m + 1 := ⟨k - 1, by omega⟩
    have h1 : n < l.length := by omega
    have c1 : (n : Int) < (l.length : Int) := by omega
    have c0 : (0 : Int) ≤ (n : Int) := by omega
    simp only [spec_l12Weight.l0]
    rw [if_pos c1, if_pos c0, if_pos c1, rdP_nat l n h1, w64 (x := (n : Int) + 1) (by omega) (by omega), succ_cast, ih k (n + 1) _ (by omega) (by omega), List.drop_eq_getElem_cons h1]
    rfl
theorem specWeight_f (l : List S49) (hb : l.length < 4611686018427387904) (k : Nat) (hk : l.length < k) : spec_l12Weight.f k l = some (wsum l 0) :=
  specWeight_loop l hb l.length k 0 0 (by omega) hk
theorem weight_same (l : List S49) (m : Int) : ∀ (k : Nat) (s n : Int), impl_weight.l0 k s l m n = spec_l12Weight.l0 k s l m n := by
  intro k
  induction k with
  | zero => intro s n; rfl
  | succ k ih => intro s n; simp only [impl_weight.l0, spec_l12Weight.l0, ih]
theorem implWeight_f (l : List S49) (hb : l.length < 4611686018427387904) (k : Nat) (hk : l.length < k) : impl_weight.f k l = some (wsum l 0) := by
  unfold impl_weight.f; rw [weight_same]; exact specWeight_f l hb k hk
theorem within_f (a b c : Int) : impl_within.f a b c = some (decide (b ≤ a) && decide (a ≤ c)) := by
  unfold impl_within.f
  by_cases h : b ≤ a
  · rw [if_pos h, decide_eq_true h, Bool.true_and]
  · rw [if_neg h, decide_eq_false h, Bool.false_and]
theorem l1In_f (a b c : Int) : spec_l1In.f a b c = some (decide (b ≤ a) && decide (a ≤ c)) := by
  unfold spec_l1In.f
  by_cases h : b ≤ a
  · rw [if_pos h, decide_eq_true h, Bool.true_and]
  · rw [if_neg h, decide_eq_false h, Bool.false_and]
def roomB (a : Int) : Bool := decide (100 ≤ a) && decide (a ≤ 2000)
def entB (x : S49) : Bool := (decide (1 ≤ (x.f0.size : Int)) && decide ((x.f0.size : Int) ≤ 20)) && decide ((x.f1.size : Int) ≤ 60)
def fitsB (l : List S49) (a : Int) : Bool := decide (l.length ≤ 60) && decide (wsum l 0 ≤ a)
theorem isRoom_f (a : Int) : impl_isRoom.f a = some (roomB a) := by unfold impl_isRoom.f; rw [within_f]; rfl
theorem l12Room_f (a : Int) : spec_l12Room.f a = some (roomB a) := by unfold spec_l12Room.f; rw [l1In_f]; rfl
theorem isEntry_f (x : S49) : impl_isEntry.f x.f0 x.f1 = some (entB x) := by
  unfold impl_isEntry.f impl_isKey.f entB
  rw [within_f, Option.bind_some, Option.bind_some]
  cases decide (1 ≤ (x.f0.size : Int)) && decide ((x.f0.size : Int) ≤ 20) with
  | true => rw [if_pos rfl, Bool.true_and]
  | false => rw [if_neg (by decide), Bool.false_and]
theorem l12Entry_f (x : S49) : spec_l12Entry.f x.f0 x.f1 = some (entB x) := by
  unfold spec_l12Entry.f entB
  rw [l1In_f, Option.bind_some]
  cases decide (1 ≤ (x.f0.size : Int)) && decide ((x.f0.size : Int) ≤ 20) with
  | true => rw [if_pos rfl, Bool.true_and]
  | false => rw [if_neg (by decide), Bool.false_and]
theorem fits_f (l : List S49) (a : Int) (hb : l.length < 4611686018427387904) (k : Nat) (hk : l.length < k) : impl_fits.f k l a = some (fitsB l a) := by
  unfold impl_fits.f fitsB
  by_cases c : l.length ≤ 60
  · rw [if_pos (by omega), implWeight_f l hb k hk, Option.bind_some, decide_eq_true c, Bool.true_and]
  · rw [if_neg (by omega), decide_eq_false c, Bool.false_and]
theorem allEnt_f (l : List S49) (hl : l.length < 9223372036854775807) : xAll_T49_impl_isEntry.f l = some (l.all entB) := by
  obtain ⟨i, h1, h2⟩ := idxO_all xAll_T49_impl_isEntry.z entB (fun x => by unfold xAll_T49_impl_isEntry.z; rw [isEntry_f]; rfl) l 0 (by omega)
  unfold xAll_T49_impl_isEntry.f
  rw [if_pos hl, h1, Option.bind_some, h2]
/-- the place of a name, where it is among others -/
theorem at_loop (l : List S49) (key : ByteArray) (hb : l.length < 4611686018427387904) (d : Nat) : ∀ (k n : Nat), n + d = l.length → d < k →
    ∃ i, spec_l12At.l0 k key l (l.length : Int) (n : Int) = some i ∧ decide (i ≥ 0) = xin key ((l.drop n).map S49.f0) := by
  induction d with
  | zero =>
    intro k n hn hk
    obtain ⟨k, rfl⟩ : ∃ m, k = m + 1 := ⟨k - 1, by omega⟩
    have c : ¬ (n : Int) < (l.length : Int) := by omega
    exact ⟨-1, by simp only [spec_l12At.l0]; rw [if_neg c], by rw [List.drop_of_length_le (by omega)]; rfl⟩
  | succ d ih =>
    intro k n hn hk
    obtain ⟨k, rfl⟩ : ∃ m, k = m + 1 := ⟨k - 1, by omega⟩
    have h1 : n < l.length := by omega
    have c1 : (n : Int) < (l.length : Int) := by omega
    have c0 : (0 : Int) ≤ (n : Int) := by omega
    simp only [spec_l12At.l0]
    rw [if_pos c1, if_pos c0, if_pos c1, rdP_nat l n h1, w64 (x := (n : Int) + 1) (by omega) (by omega), succ_cast, List.drop_eq_getElem_cons h1, List.map_cons]
    unfold xin
    rw [List.any_cons, ByteArray.toList_eq, ByteArray.toList_eq]
    by_cases e : l[n].f0.data.toList = key.data.toList
    · rw [if_pos e, decide_eq_true e, Bool.true_or]
      exact ⟨(n : Int), rfl, decide_eq_true (by omega)⟩
    · rw [if_neg e, decide_eq_false e, Bool.false_or]
      exact ih k (n + 1) (by omega) (by omega)
theorem at_f (l : List S49) (key : ByteArray) (hb : l.length < 4611686018427387904) (k : Nat) (hk : l.length < k) : ∃ i, spec_l12At.f k l key = some i ∧ decide (i ≥ 0) = xin key (l.map S49.f0) :=
  at_loop l key hb l.length k 0 (by omega) hk
theorem xin_append (s : ByteArray) (a b : List ByteArray) : xin s (a ++ b) = (xin s a || xin s b) := by unfold xin; rw [List.any_append]
theorem xapart_more (acc : List ByteArray) (b : List S49) : ∀ acc2, xapart (acc ++ acc2) b = (xapart acc2 b && b.all fun x => !xin x.f0 acc) := by
  induction b with
  | nil => intro acc2; rfl
  | cons x xs ih =>
    intro acc2
    unfold xapart
    rw [xin_append, List.append_assoc, ih (acc2 ++ [x.f0]), List.all_cons]
    cases xin x.f0 acc <;> cases xin x.f0 acc2 <;> simp
theorem xapart_both (a b : List S49) : ∀ acc, xapart acc (a ++ b) = (xapart acc a && xapart (acc ++ a.map S49.f0) b) := by
  induction a with
  | nil => intro acc; simp [xapart]
  | cons x xs ih =>
    intro acc
    have e1 : xapart acc (x :: (xs ++ b)) = if xin x.f0 acc = true then false else xapart (acc ++ [x.f0]) (xs ++ b) := rfl
    have e2 : xapart acc (x :: xs) = if xin x.f0 acc = true then false else xapart (acc ++ [x.f0]) xs := rfl
    rw [List.cons_append, e1, e2, ih, List.map_cons, List.append_assoc, List.singleton_append]
    cases xin x.f0 acc with
    | true => rw [if_pos rfl, if_pos rfl, Bool.false_and]
    | false => rw [if_neg (by decide), if_neg (by decide)]
theorem part_loop (l : List S49) (a : Int) (hb : l.length < 4611686018427387904) (d : Nat) : ∀ (k n : Nat), n + d = l.length → d + l.length + 1 < k →
    spec_l12Part.l0 k l a l (l.length : Int) (n : Int) = some ((l.drop n).all entB && (xapart ((l.take n).map S49.f0) (l.drop n) && fitsB l a)) := by
  induction d with
  | zero =>
    intro k n hn hk
    obtain ⟨k, rfl⟩ : ∃ m, k = m + 1 := ⟨k - 1, by omega⟩
    have c : ¬ (n : Int) < (l.length : Int) := by omega
    simp only [spec_l12Part.l0]
    rw [if_neg c, List.drop_of_length_le (by omega), List.all_nil, Bool.true_and]
    unfold xapart fitsB
    rw [Bool.true_and]
    by_cases c6 : l.length ≤ 60
    · rw [if_pos (by omega), specWeight_f l hb k (by omega), Option.bind_some, decide_eq_true c6, Bool.true_and]
    · rw [if_neg (by omega), decide_eq_false c6, Bool.false_and]
  | succ d ih =>
    intro k n hn hk
    obtain ⟨k, rfl⟩ : ∃ m, k = m + 1 := ⟨k - 1, by omega⟩
    have h1 : n < l.length := by omega
    have c1 : (n : Int) < (l.length : Int) := by omega
    have c0 : (0 : Int) ≤ (n : Int) := by omega
    obtain ⟨i, hi, hi2⟩ := at_f (l.take n) l[n].f0 (by rw [List.length_take]; omega) k (by rw [List.length_take]; omega)
    have hst : (l.take (n + 1)).map S49.f0 = (l.take n).map S49.f0 ++ [l[n].f0] := by rw [List.take_succ_eq_append_getElem h1, List.map_append]; rfl
    have e2 : xapart ((l.take n).map S49.f0) (l[n] :: l.drop (n + 1)) = if xin l[n].f0 ((l.take n).map S49.f0) = true then false else xapart ((l.take n).map S49.f0 ++ [l[n].f0]) (l.drop (n + 1)) := rfl
    have ih2 := ih k (n + 1) (by omega) (by omega)
    rw [hst] at ih2
    simp only [spec_l12Part.l0]
    rw [if_pos c1, if_pos c0, if_pos c1, rdP_nat l n h1, w64 (x := (n : Int) + 1) (by omega) (by omega), succ_cast, l12Entry_f, Option.bind_some, List.drop_eq_getElem_cons h1, List.all_cons, e2, ← hi2]
    cases he : entB l[n] with
    | false => rw [if_neg (by decide), Bool.false_and, Bool.false_and]
    | true =>
      have cn : (n : Int) ≤ (l.length : Int) := by omega
      rw [if_pos rfl, if_pos cn, Int.toNat_natCast, hi, Option.bind_some, ih2, Bool.true_and]
      by_cases c : i ≥ 0
      · rw [if_pos c, decide_eq_true c, if_pos rfl, Bool.false_and, Bool.and_false]
      · rw [if_neg c, decide_eq_false c, if_neg (by decide)]
theorem part_f (l : List S49) (a : Int) (hb : l.length < 4611686018427387904) (k : Nat) (hk : l.length + l.length + 1 < k) : spec_l12Part.f k l a = some (l.all entB && (xapart [] l && fitsB l a)) :=
  part_loop l a hb l.length k 0 (by omega) hk
def goodSeg (a b : Int) (l0 l1 : List S49) : Bool := (l1.all fun x => !xin x.f0 (l0.map S49.f0)) && (roomB a && (roomB b && ((l0.all entB && (xapart [] l0 && fitsB l0 a)) && (l1.all entB && (xapart [] l1 && fitsB l1 b)))))
theorem specGood_loop (a b : Int) (l0 l1 : List S49) (h0 : l0.length ≤ 1048576) (h1 : l1.length ≤ 1048576) (d : Nat) : ∀ (k n : Nat), n + d = l1.length → d + 2097160 < k →
    spec_GoodSegmented.l0 k l1 (l1.length : Int) (n : Int) a b l0 l1 = some (((l1.drop n).all fun x => !xin x.f0 (l0.map S49.f0)) && (roomB a && (roomB b && ((l0.all entB && (xapart [] l0 && fitsB l0 a)) && (l1.all entB && (xapart [] l1 && fitsB l1 b)))))) := by
  induction d with
  | zero =>
    intro k n hn hk
    obtain ⟨k, rfl⟩ : ∃ m, k = m + 1 := ⟨k - 1, by omega⟩
    have c : ¬ (n : Int) < (l1.length : Int) := by omega
    simp only [spec_GoodSegmented.l0]
    rw [if_neg c, List.drop_of_length_le (by omega), List.all_nil, Bool.true_and, l12Room_f, Option.bind_some, l12Room_f, Option.bind_some, part_f l0 a (by omega) k (by omega), Option.bind_some, part_f l1 b (by omega) k (by omega), Option.bind_some]
    cases roomB a with
    | false => rw [if_neg (by decide), Bool.false_and]
    | true =>
      rw [if_pos rfl, Bool.true_and]
      cases roomB b with
      | false => rw [if_neg (by decide), Bool.false_and]
      | true =>
        rw [if_pos rfl, Bool.true_and]
        cases (l0.all entB && (xapart [] l0 && fitsB l0 a)) with
        | false => rw [if_neg (by decide), Bool.false_and]
        | true => rw [if_pos rfl, Bool.true_and]
  | succ d ih =>
    intro k n hn hk
    obtain ⟨k, rfl⟩ : ∃ m, k = m + 1 := ⟨k - 1, by omega⟩
    have hlt : n < l1.length := by omega
    have c1 : (n : Int) < (l1.length : Int) := by omega
    have c0 : (0 : Int) ≤ (n : Int) := by omega
    obtain ⟨i, hi, hi2⟩ := at_f l0 l1[n].f0 (by omega) k (by omega)
    simp only [spec_GoodSegmented.l0]
    rw [if_pos c1, if_pos c0, if_pos c1, rdP_nat l1 n hlt, w64 (x := (n : Int) + 1) (by omega) (by omega), succ_cast, hi, Option.bind_some, ih k (n + 1) (by omega) (by omega), List.drop_eq_getElem_cons hlt, List.all_cons, ← hi2]
    by_cases c : i ≥ 0
    · rw [if_pos c, decide_eq_true c]; simp
    · rw [if_neg c, decide_eq_false c]; simp
theorem specGood_f (a b : Int) (l0 l1 : List S49) (h0 : l0.length ≤ 1048576) (h1 : l1.length ≤ 1048576) (k : Nat) (hk : 3145800 < k) : spec_GoodSegmented.f k a b l0 l1 = some (goodSeg a b l0 l1) :=
  specGood_loop a b l0 l1 h0 h1 l1.length k 0 (by omega) (by omega)
theorem implGood_f (a b : Int) (l0 l1 : List S49) (h0 : l0.length ≤ 1048576) (h1 : l1.length ≤ 1048576) (k : Nat) (hk : 1048576 < k) : impl_GoodSegmented.f k a b l0 l1 = some (goodSeg a b l0 l1) := by
  unfold impl_GoodSegmented.f goodSeg
  rw [isRoom_f, isRoom_f, fits_f l0 a (by omega) k (by omega), fits_f l1 b (by omega) k (by omega), allEnt_f l0 (by omega), allEnt_f l1 (by omega)]
  simp only [Option.bind_some]
  cases roomB a with
  | false => simp
  | true =>
    cases roomB b with
    | false => simp
    | true =>
      cases hf0 : fitsB l0 a with
      | false => simp
      | true =>
        cases hf1 : fitsB l1 b with
        | false => simp
        | true =>
          cases he0 : l0.all entB with
          | false => simp
          | true =>
            cases he1 : l1.all entB with
            | false => simp
            | true =>
              have f0 : l0.length ≤ 60 := by unfold fitsB at hf0; simp only [Bool.and_eq_true, decide_eq_true_eq] at hf0; exact hf0.1
              have f1 : l1.length ≤ 60 := by unfold fitsB at hf1; simp only [Bool.and_eq_true, decide_eq_true_eq] at hf1; exact hf1.1
              have hs : ∀ x ∈ l0 ++ l1, x.f0.size ≤ 1000 := by
                intro x hx
                have hx2 : entB x = true := by
                  rcases List.mem_append.mp hx with h | h
                  · exact List.all_eq_true.mp he0 x h
                  · exact List.all_eq_true.mp he1 x h
                unfold entB at hx2
                simp only [Bool.and_eq_true, decide_eq_true_eq] at hx2
                omega
              simp only [if_true]
              rw [if_pos (by omega), if_pos hs, xapart_both, List.nil_append]
              have hm := xapart_more (l0.map S49.f0) l1 []
              rw [List.append_nil] at hm
              rw [hm]
              simp only [Bool.true_and, Bool.and_true]
              rw [Bool.and_comm (xapart [] l1), ← Bool.and_assoc, Bool.and_comm (xapart [] l0), Bool.and_assoc]

/-! The laws' markText: a text for each number -/
theorem mark_loop (d : Nat) : ∀ (k n : Nat) (s : ByteArray), d < k → n < 10 ^ d → n < 9223372036854775808 → s.size + d ≤ 1000 → ∃ t, laws_markText.l0 k (n : Int) s = some t := by
  induction d with
  | zero =>
    intro k n s hk h1 h2 hs
    obtain ⟨k, rfl⟩ : ∃ m, k = m + 1 := ⟨k - 1, by omega⟩
    have h0 : n = 0 := by simp at h1; exact h1
    simp only [laws_markText.l0]
    rw [if_neg (by omega), if_pos (by omega)]
    exact ⟨_, rfl⟩
  | succ d ih =>
    intro k n s hk h1 h2 hs
    obtain ⟨k, rfl⟩ : ∃ m, k = m + 1 := ⟨k - 1, by omega⟩
    simp only [laws_markText.l0]
    by_cases c : (n : Int) > 0
    · have hsz : ∀ n : Int, (strOfNums [n]).size = 1 := fun n => rfl
      have hd : Int.tdiv (n : Int) 10 = ((n / 10 : Nat) : Int) := by rw [Int.tdiv_eq_ediv_of_nonneg (by omega)]; omega
      have hlt : n / 10 < 10 ^ d := by rw [Nat.pow_succ] at h1; omega
      rw [if_pos c, Option.bind_some, if_pos (by rw [hsz]; omega), hd, w64 (by omega) (by omega)]
      exact ih k (n / 10) _ (by omega) hlt (by omega) (by rw [ByteArray.size_append, hsz]; omega)
    · rw [if_neg c, if_pos (by omega)]
      exact ⟨_, rfl⟩
def markTxt (a : Int) : ByteArray := (laws_markText.f 100 a).getD ByteArray.empty
theorem markTxt_f (a : Int) (h0 : 0 ≤ a) (ha : a < 4611686018427387904) (k : Nat) (hk : 40 ≤ k) : laws_markText.f k a = some (markTxt a) := by
  obtain ⟨n, rfl⟩ := Int.eq_ofNat_of_zero_le h0
  obtain ⟨t, ht⟩ : ∃ t, laws_markText.f 40 (n : Int) = some t := by
    unfold laws_markText.f
    by_cases c : (n : Int) ≤ 0
    · rw [if_pos c]; exact ⟨_, rfl⟩
    · rw [if_neg c]
      exact mark_loop 20 40 n _ (by omega) (by omega) (by omega) (by decide)
  have e1 := at_rounds (g := fun k => laws_markText.f k (n : Int)) (laws_markText.mono _) hk ht
  have e2 := at_rounds (g := fun k => laws_markText.f k (n : Int)) (laws_markText.mono _) (show 40 ≤ 100 by omega) ht
  have e3 : laws_markText.f 100 (n : Int) = some t := e2
  unfold markTxt
  rw [e3]; exact e1
def markTL (a : Int) : Nat → List ByteArray
  | 0 => []
  | n + 1 => markTxt a :: markTL (a + 1) n
theorem markTL_length (n : Nat) : ∀ a : Int, (markTL a n).length = n := by
  induction n with
  | zero => intro a; rfl
  | succ n ih => intro a; simp [markTL, ih]
theorem markTL_get (n : Nat) : ∀ (a : Int) (i : Nat) (h : i < (markTL a n).length), (markTL a n)[i] = markTxt (a + i) := by
  induction n with
  | zero => intro a i h; simp [markTL] at h
  | succ n ih =>
    intro a i h
    cases i with
    | zero => simp [markTL]
    | succ i =>
      simp only [markTL, List.getElem_cons_succ]
      rw [ih]; congr 1; omega
theorem markStrs_loop (m : Nat) (a : Int) (ha : 0 ≤ a) (hb : a + m < 4611686018427387904) (d : Nat) : ∀ (k n : Nat) (l : List ByteArray), l.length = m → n + d = m → d + 40 < k →
    laws_markStringS.l0 k l (a + n) (n : Int) = some (a + m, l.take n ++ markTL (a + n) d) := by
  induction d with
  | zero =>
    intro k n l hl hn hk
    obtain ⟨k, rfl⟩ : ∃ m, k = m + 1 := ⟨k - 1, by omega⟩
    have c : ¬ (n : Int) < (l.length : Int) := by omega
    simp only [laws_markStringS.l0]; rw [if_neg c, List.take_of_length_le (by omega)]; simp [markTL]; omega
  | succ d ih =>
    intro k n l hl hn hk
    obtain ⟨k, rfl⟩ : ∃ m, k = m + 1 := ⟨k - 1, by omega⟩
    have c1 : (n : Int) < (l.length : Int) := by omega
    have c0 : (0 : Int) ≤ (n : Int) := by omega
    have h1 : n < l.length := by omega
    simp only [laws_markStringS.l0]
    rw [if_pos c1, markTxt_f (a + n) (by omega) (by omega) k (by omega), Option.bind_some, if_pos c0, w64 (x := a + n + 1) (by omega) (by omega), w64 (x := (n : Int) + 1) (by omega) (by omega), succ_cast, show a + (n : Int) + 1 = a + ((n + 1 : Nat) : Int) by omega, Int.toNat_natCast,
      ih k (n + 1) (l.set n (markTxt (a + n))) (by rw [List.length_set]; exact hl) (by omega) (by omega)]
    congr 2
    rw [List.take_add_one, List.take_set_of_le (by omega)]
    simp [markTL, h1]
    congr 1; omega
theorem markStrs_f (l : List ByteArray) (a : Int) (ha : 0 ≤ a) (hb : a + l.length < 4611686018427387904) (k : Nat) (hk : l.length + 40 < k) : laws_markStringS.f k l a = some (a + l.length, markTL a l.length) := by
  unfold laws_markStringS.f
  have h := markStrs_loop l.length a ha hb l.length k 0 l rfl (by omega) hk
  simpa using h
theorem rdS_nat (l : List ByteArray) (n : Nat) (h : n < l.length) : rdOf ByteArray.empty l (n : Int) = l[n] := by
  unfold rdOf; simp [List.getD_eq_getElem?_getD, h]
theorem heldStrs_loop (m : Nat) (a : Int) (ha : 0 ≤ a) (hb : a + m < 4611686018427387904) (d : Nat) : ∀ (k n : Nat), n + d = m → d + 40 < k →
    laws_heldStringS.l0 k (markTL a m) (a + n) (n : Int) = some (a + m) := by
  induction d with
  | zero =>
    intro k n hn hk
    obtain ⟨k, rfl⟩ : ∃ m, k = m + 1 := ⟨k - 1, by omega⟩
    have hl := markTL_length m a
    have c : ¬ (n : Int) < ((markTL a m).length : Int) := by omega
    simp only [laws_heldStringS.l0]; rw [if_neg c]; congr 1; omega
  | succ d ih =>
    intro k n hn hk
    obtain ⟨k, rfl⟩ : ∃ m, k = m + 1 := ⟨k - 1, by omega⟩
    have hl := markTL_length m a
    have c1 : (n : Int) < ((markTL a m).length : Int) := by omega
    have c0 : (0 : Int) ≤ (n : Int) := by omega
    have h1 : n < (markTL a m).length := by omega
    simp only [laws_heldStringS.l0]
    rw [if_pos c1, if_pos c0, markTxt_f (a + n) (by omega) (by omega) k (by omega), Option.bind_some, rdS_nat _ n h1, markTL_get, if_pos rfl, w64 (x := a + n + 1) (by omega) (by omega), w64 (x := (n : Int) + 1) (by omega) (by omega), succ_cast, show a + (n : Int) + 1 = a + ((n + 1 : Nat) : Int) by omega]
    exact ih k (n + 1) (by omega) (by omega)
theorem heldStrs_f (m : Nat) (a : Int) (ha : 0 ≤ a) (hb : a + m < 4611686018427387904) (k : Nat) (hk : m + 40 < k) : laws_heldStringS.f k (markTL a m) a = some (a + m) := by
  unfold laws_heldStringS.f
  have h := heldStrs_loop m a ha hb m k 0 (by omega) hk
  simpa using h
theorem eqStrs_loop (xs : List ByteArray) (hb : xs.length < 4611686018427387904) (d : Nat) : ∀ (k n : Nat), n + d = xs.length → d < k →
    laws_eqStringS.l0 k xs xs (n : Int) = some true := by
  induction d with
  | zero =>
    intro k n hn hk
    obtain ⟨k, rfl⟩ : ∃ m, k = m + 1 := ⟨k - 1, by omega⟩
    have c : ¬ (n : Int) < (xs.length : Int) := by omega
    simp only [laws_eqStringS.l0]; rw [if_neg c]
  | succ d ih =>
    intro k n hn hk
    obtain ⟨k, rfl⟩ : ∃ m, k = m + 1 := ⟨k - 1, by omega⟩
    have c1 : (n : Int) < (xs.length : Int) := by omega
    have c0 : (0 : Int) ≤ (n : Int) := by omega
    simp only [laws_eqStringS.l0]
    rw [if_pos c1, if_pos c0, if_pos c1]
    simp only [if_true]
    rw [w64 (by omega) (by omega), succ_cast]
    exact ih k (n + 1) (by omega) (by omega)
theorem eqStrs_f (xs : List ByteArray) (hb : xs.length < 4611686018427387904) (k : Nat) (hk : xs.length < k) : laws_eqStringS.f k xs xs = some true := by
  unfold laws_eqStringS.f
  rw [if_pos rfl]
  exact eqStrs_loop xs hb xs.length k 0 (by omega) hk

theorem markEntries_loop (m : Nat) (d : Nat) : ∀ (k n : Nat) (a : Int) (l : List S49), l.length = m → n + d = m → m < 4611686018427387904 → d + 40 < k → 0 ≤ a → a + 2 * d < 4611686018427387904 →
    ∃ l2, laws_markEntryS.l0 k l a (n : Int) = some (a + 2 * d, l2) := by
  induction d with
  | zero =>
    intro k n a l hl hn hm hk ha hb
    obtain ⟨k, rfl⟩ : ∃ m, k = m + 1 := ⟨k - 1, by omega⟩
    have c : ¬ (n : Int) < (l.length : Int) := by omega
    exact ⟨l, by simp only [laws_markEntryS.l0]; rw [if_neg c]; simp⟩
  | succ d ih =>
    intro k n a l hl hn hm hk ha hb
    obtain ⟨k, rfl⟩ : ∃ m, k = m + 1 := ⟨k - 1, by omega⟩
    have c1 : (n : Int) < (l.length : Int) := by omega
    have c0 : (0 : Int) ≤ (n : Int) := by omega
    simp only [laws_markEntryS.l0]
    rw [if_pos c1, markTxt_f a (by omega) (by omega) k (by omega), Option.bind_some, if_pos c0, Option.bind_some, w64 (x := a + 1) (by omega) (by omega), markTxt_f (a + 1) (by omega) (by omega) k (by omega), Option.bind_some, w64 (x := a + 1 + 1) (by omega) (by omega), w64 (x := (n : Int) + 1) (by omega) (by omega), succ_cast]
    have hgen : ∀ l' : List S49, l'.length = m → ∃ l2, laws_markEntryS.l0 k l' (a + 1 + 1) ((n + 1 : Nat) : Int) = some (a + 2 * ((d + 1 : Nat) : Int), l2) := fun l' hl' => by
      obtain ⟨l2, h2⟩ := ih k (n + 1) (a + 1 + 1) l' hl' (by omega) hm (by omega) (by omega) (by omega)
      exact ⟨l2, by rw [h2]; congr 2; omega⟩
    exact hgen _ (by rw [List.length_set, List.length_set]; exact hl)
theorem markEntries_f (l : List S49) (a : Int) (ha : 0 ≤ a) (hl : l.length ≤ 1048576) (hb : a ≤ 4000000) (k : Nat) (hk : 1048700 < k) : ∃ l2, laws_markEntryS.f k l a = some (a + 2 * l.length, l2) := by
  unfold laws_markEntryS.f
  exact markEntries_loop l.length l.length k 0 a l rfl (by omega) (by omega) (by omega) ha (by omega)
theorem markSegmented_f (a b : Int) (l0 l1 : List S49) (h0 : l0.length ≤ 1048576) (h1 : l1.length ≤ 1048576) (k : Nat) (hk : 1048700 < k) : ∃ q, laws_markSegmented.f k a b l0 l1 1 = some q ∧ ¬ q.1 < 0 := by
  unfold laws_markSegmented.f
  obtain ⟨x, hx⟩ := markEntries_f l0 1 (by omega) h0 (by omega) k hk
  obtain ⟨y, hy⟩ := markEntries_f l1 (1 + 2 * l0.length) (by omega) h1 (by omega) k hk
  rw [hx, Option.bind_some]
  simp only []
  rw [hy, Option.bind_some]
  exact ⟨_, rfl, by simp only []; omega⟩
theorem implKeys_loop (l : List S49) (hb : l.length ≤ 4000000) (d : Nat) : ∀ (k n : Nat) (acc : List ByteArray), n + d = l.length → d < k → acc.length = n →
    impl_KeysIn.l0 k acc l (l.length : Int) (n : Int) = some (acc ++ (l.drop n).map S49.f0, true) := by
  induction d with
  | zero =>
    intro k n acc hn hk ha
    obtain ⟨k, rfl⟩ : ∃ m, k = m + 1 := ⟨k - 1, by omega⟩
    have c : ¬ (n : Int) < (l.length : Int) := by omega
    simp only [impl_KeysIn.l0]; rw [if_neg c, List.drop_of_length_le (by omega), List.map_nil, List.append_nil]
  | succ d ih =>
    intro k n acc hn hk ha
    obtain ⟨k, rfl⟩ : ∃ m, k = m + 1 := ⟨k - 1, by omega⟩
    have h1 : n < l.length := by omega
    have c1 : (n : Int) < (l.length : Int) := by omega
    have c0 : (0 : Int) ≤ (n : Int) := by omega
    simp only [impl_KeysIn.l0]
    rw [if_pos c1, if_pos c0, if_pos c1, if_pos (by omega), rdP_nat l n h1, w64 (by omega) (by omega), succ_cast, ih k (n + 1) _ (by omega) (by omega) (by simp [ha]), List.drop_eq_getElem_cons h1, List.map_cons, List.append_assoc, List.singleton_append]
theorem FnExactKeysIn : laws_FnExactKeysIn.Pure := by
  intro a b l0 l1 ha hb hm0 hw0 hm1 hw1
  obtain ⟨r, hr, hr2⟩ := szSegmented_f a b l0 l1 hm0 hw0 hm1 hw1
  by_cases c : r < 0
  · refine ⟨3145850, ?_⟩
    unfold laws_FnExactKeysIn.f
    rw [hr _ (by omega), Option.bind_some, if_pos c]
  · obtain ⟨n0, n1⟩ := hr2 (by omega)
    have m0 : (l0.map toE).length ≤ 1048576 := by rw [List.length_map]; exact n0
    have m1 : (l1.map toE).length ≤ 1048576 := by rw [List.length_map]; exact n1
    obtain ⟨m, hmm⟩ : ∃ m, m = 9000000 := ⟨_, rfl⟩
    have e : ∃ ks z, ks.length ≤ 2097152 ∧ ∀ j, spec_KeysIn.f (m + j) a b (l0.map toE) (l1.map toE) = some (ks, z) ∧ impl_KeysIn.f (m + j) a b (l0.map toE) (l1.map toE) = some (ks, z) := by
      unfold spec_KeysIn.f impl_KeysIn.f
      cases hg : goodSeg a b (l0.map toE) (l1.map toE) with
      | false =>
        exact ⟨[], false, by simp, fun j => by rw [specGood_f a b _ _ m0 m1 _ (by omega), Option.bind_some, implGood_f a b _ _ m0 m1 _ (by omega), Option.bind_some, hg]; exact ⟨rfl, rfl⟩⟩
      | true =>
        have hf : (l0.map toE).length ≤ 60 ∧ (l1.map toE).length ≤ 60 := by
          unfold goodSeg fitsB at hg
          simp only [Bool.and_eq_true, decide_eq_true_eq] at hg
          omega
        refine ⟨((l1.map toE) ++ (l0.map toE)).map S49.f0, true, by rw [List.length_map, List.length_append]; omega, fun j => ?_⟩
        rw [specGood_f a b _ _ m0 m1 _ (by omega), Option.bind_some, implGood_f a b _ _ m0 m1 _ (by omega), Option.bind_some, hg, if_pos rfl, if_pos rfl]
        refine ⟨by rw [if_pos (by omega)], ?_⟩
        unfold impl_Entry_35.f
        simp only []
        rw [if_pos (by omega), Option.bind_some]
        have h := implKeys_loop (l1.map toE ++ l0.map toE) (by rw [List.length_append]; omega) (l1.map toE ++ l0.map toE).length (m + j) 0 [] (by omega) (by rw [List.length_append]; omega) rfl
        simpa using h
    obtain ⟨ks, z, hks, e⟩ := e
    have e1 := fun j => (e j).1
    have e2 := fun j => (e j).2
    have t1 : ∀ j, laws_toSegmented.f (m + j) a b l0 l1 = some (a, b, l0.map toE, l1.map toE) := fun j => toSegmented_f a b l0 l1 n0 n1 _ (by omega)
    have s1 : ∀ j, laws_szSegmented.f (m + j) a b l0 l1 1048576 = some r := fun j => hr _ (by omega)
    have q1 : ∀ j, laws_eqSegmented.f (m + j) a b (l0.map toE) (l1.map toE) a b (l0.map toE) (l1.map toE) = some true := fun j => eqSegmented_f a b _ _ m0 m1 _ (by omega)
    have q2 : ∀ j, laws_eqStringS.f (m + j) ks ks = some true := fun j => eqStrs_f ks (by omega) _ (by omega)
    have k1 : ∀ j, laws_markStringS.f (m + j) ks 1 = some ((1 : Int) + ks.length, markTL 1 ks.length) := fun j => markStrs_f ks 1 (by omega) (by omega) _ (by omega)
    have k2 : ∀ j, laws_heldStringS.f (m + j) (markTL 1 ks.length) 1 = some ((1 : Int) + ks.length) := fun j => heldStrs_f ks.length 1 (by omega) (by omega) _ (by omega)
    obtain ⟨q, hq, hq2⟩ := markSegmented_f a b (l0.map toE) (l1.map toE) m0 m1 (m + 4) (by omega)
    have p2 : ¬ (1 : Int) + (ks.length : Int) < 0 := by omega
    clear e hr hr2
    refine ⟨m + 5, ?_⟩
    unfold laws_FnExactKeysIn.f
    simp only [s1, t1, e1, e2, q1, q2, k1, k2, c, p2, Option.bind_some, if_true, if_false, bne_self_eq_false, Bool.false_eq_true, laws_FnExactKeysIn.j0, hq, hq2, laws_FnExactKeysIn.j1, laws_FnExactKeysIn.j2]

end Go.Proofs.Ytgdlnbdbilgboaa.Pure
