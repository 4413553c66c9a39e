/- The program's BytesIn returns what the reference's returns, and leaves its argument as it was. No conditions. -/
import Derived.Test.YtgdlnbdbilgboaaPFnExactBytesInx6
import Derived.Laws.Strings
set_option linter.unusedVariables false
set_option linter.unusedSimpArgs false
namespace Go.Proofs.Ytgdlnbdbilgboaa.Pure
open Go.RowKit Go.Proofs.Ytgdlnbdbilgboaa.PFnExactBytesIn Go.Proofs.YtgdlnbdbilgboaaW.PrintWords Go.Proofs.YtgdlnbdbilgboaaW.PrintLast

/-! Whole numbers and rows of them -/
theorem w64 {x : Int} (h : -9223372036854775808 ≤ x) (h2 : x < 9223372036854775808) : wrap64 x = x := by unfold wrap64; omega
theorem rd_nat (l : List Int) (n : Nat) (h : n < l.length) : rd l (n : Int) = l[n] := by
  unfold rd; simp [List.getD_eq_getElem?_getD, h]
theorem succ_cast (n : Nat) : ((n : Int) + 1) = ((n + 1 : Nat) : Int) := by omega

/-! The first place at which a predicate holds -/
theorem idxO_ge {α : Type} (p : α → Option Bool) (l : List α) : ∀ (n i : Int), 0 ≤ n → idxO p l n = some i → i = -1 ∨ n ≤ i := by
  induction l with
  | nil => intro n i hn h; left; exact (Option.some.inj h).symm
  | cons x xs ih =>
    intro n i hn h
    obtain ⟨b, hb, h2⟩ := Option.bind_eq_some_iff.mp h
    cases b with
    | true => right; have := Option.some.inj h2; omega
    | false => have := ih (n + 1) i (by omega) h2; omega
theorem idxO_all {α : Type} (p : α → Option Bool) (q : α → Bool) (h : ∀ x, p x = some (!q x)) (l : List α) : ∀ (n : Int), 0 ≤ n → ∃ i, idxO p l n = some i ∧ (!decide (i ≥ 0)) = l.all q := by
  induction l with
  | nil => intro n hn; exact ⟨-1, rfl, rfl⟩
  | cons x xs ih =>
    intro n hn
    unfold idxO
    rw [h x, Option.bind_some]
    cases hq : q x with
    | true =>
      obtain ⟨i, h1, h2⟩ := ih (n + 1) (by omega)
      exact ⟨i, h1, by rw [h2, List.all_cons, hq, Bool.true_and]⟩
    | false => exact ⟨n, rfl, by rw [List.all_cons, hq, Bool.false_and, decide_eq_true (show n ≥ 0 from hn)]; rfl⟩

/-! Entries: the laws' words for them -/
def toE (p : S63) : S49 := ⟨p.f0, p.f1⟩
theorem rdP_nat (l : List S49) (n : Nat) (h : n < l.length) : rd_T49 l (n : Int) = l[n] := by
  unfold rd_T49; simp [List.getD_eq_getElem?_getD, h]
theorem rdQ_nat (l : List S63) (n : Nat) (h : n < l.length) : rd_T63 l (n : Int) = l[n] := by
  unfold rd_T63; simp [List.getD_eq_getElem?_getD, h]
theorem toEntries_loop (xs : List S63) (hb : xs.length < 4611686018427387904) (d : Nat) : ∀ (k n : Nat) (ys : List S49), ys.length = xs.length → n + d = xs.length → d < k →
    laws_toEntryS.l0 k xs ys (n : Int) = some (ys.take n ++ (xs.drop n).map toE) := by
  induction d with
  | zero =>
    intro k n ys hl hn hk
    obtain ⟨k, rfl⟩ : ∃ m, k = m + 1 := ⟨k - 1, by omega⟩
    have c : ¬ (n : Int) < (xs.length : Int) := by omega
    simp only [laws_toEntryS.l0]; rw [if_neg c, List.take_of_length_le (by omega), List.drop_of_length_le (by omega), List.map_nil, List.append_nil]
  | succ d ih =>
    intro k n ys hl hn hk
    obtain ⟨k, rfl⟩ : ∃ m, k = m + 1 := ⟨k - 1, by omega⟩
    have h1 : n < xs.length := by omega
    have h2 : n < ys.length := by omega
    have c1 : (n : Int) < (xs.length : Int) := by omega
    have c2 : (n : Int) < (ys.length : Int) := by omega
    have c0 : (0 : Int) ≤ (n : Int) := by omega
    simp only [laws_toEntryS.l0, laws_toEntry.f]
    rw [if_pos c1, if_pos c0, Option.bind_some, if_pos c2, rdQ_nat xs n h1, w64 (by omega) (by omega), succ_cast, Int.toNat_natCast, ih k (n + 1) _ (by simp [hl]) (by omega) (by omega), List.drop_eq_getElem_cons h1, List.map_cons]
    congr 1
    rw [List.take_add_one, List.take_set_of_le (by omega)]
    simp [h2, toE]
theorem toEntries_f (xs : List S63) (hb : xs.length ≤ 1048576) (k : Nat) (hk : xs.length < k) : laws_toEntryS.f k xs = some (xs.map toE) := by
  unfold laws_toEntryS.f
  rw [if_pos (by omega), if_pos (by omega)]
  have h := toEntries_loop xs (by omega) xs.length k 0 (List.replicate ((xs.length : Int) : Int).toNat z49) (by simp) (by omega) hk
  simpa using h
theorem eqEntries_loop (xs : List S49) (hb : xs.length < 4611686018427387904) (d : Nat) : ∀ (k n : Nat), n + d = xs.length → d < k →
    laws_eqEntryS.l0 k xs xs (n : Int) = some true := by
  induction d with
  | zero =>
    intro k n hn hk
    obtain ⟨k, rfl⟩ : ∃ m, k = m + 1 := ⟨k - 1, by omega⟩
    have c : ¬ (n : Int) < (xs.length : Int) := by omega
    simp only [laws_eqEntryS.l0]; rw [if_neg c]
  | succ d ih =>
    intro k n hn hk
    obtain ⟨k, rfl⟩ : ∃ m, k = m + 1 := ⟨k - 1, by omega⟩
    have c1 : (n : Int) < (xs.length : Int) := by omega
    have c0 : (0 : Int) ≤ (n : Int) := by omega
    simp only [laws_eqEntryS.l0, laws_eqEntry.f]
    rw [if_pos c1, if_pos c0, if_pos c1]
    simp only [if_true, Option.bind_some]
    rw [w64 (by omega) (by omega), succ_cast]
    exact ih k (n + 1) (by omega) (by omega)
theorem eqEntries_f (xs : List S49) (hb : xs.length ≤ 1048576) (k : Nat) (hk : xs.length < k) : laws_eqEntryS.f k xs xs = some true := by
  unfold laws_eqEntryS.f
  rw [if_pos rfl]
  exact eqEntries_loop xs (by omega) xs.length k 0 (by omega) hk
theorem szEntries_loop (l : List S63) (hb : l.length < 4611686018427387904) (hw : ∀ x ∈ l, x.f0.size ≤ maxLen ∧ x.f1.size ≤ maxLen) (d : Nat) : ∀ (k n : Nat) (a : Int), n + d = l.length → d < k → 0 ≤ a → a ≤ 1048576 →
    ∃ r, laws_szEntryS.l0 k l a (n : Int) = some r ∧ (0 ≤ r → r ≤ a) := by
  induction d with
  | zero =>
    intro k n a hn hk h0 h1
    obtain ⟨k, rfl⟩ : ∃ m, k = m + 1 := ⟨k - 1, by omega⟩
    have c : ¬ (n : Int) < (l.length : Int) := by omega
    exact ⟨a, by simp only [laws_szEntryS.l0]; rw [if_neg c], fun _ => Int.le_refl _⟩
  | succ d ih =>
    intro k n a hn hk h0 h1
    obtain ⟨k, rfl⟩ : ∃ m, k = m + 1 := ⟨k - 1, by omega⟩
    have hlt : n < l.length := by omega
    have c1 : (n : Int) < (l.length : Int) := by omega
    have c0 : (0 : Int) ≤ (n : Int) := by omega
    obtain ⟨g0, g1⟩ := hw l[n] (List.getElem_mem hlt)
    have hmx : maxLen = 9223372036854775807 := by decide
    simp only [laws_szEntryS.l0, laws_szEntry.f]
    rw [if_pos c1, if_pos c0, rdQ_nat l n hlt, w64 (x := a - (l[n].f0.size : Int)) (by omega) (by omega)]
    by_cases e0 : a - (l[n].f0.size : Int) < 0
    · rw [if_pos e0, Option.bind_some, if_pos (by omega)]
      exact ⟨-1, rfl, fun h => by omega⟩
    · rw [if_neg e0, w64 (x := a - (l[n].f0.size : Int) - (l[n].f1.size : Int)) (by omega) (by omega)]
      by_cases e1 : a - (l[n].f0.size : Int) - (l[n].f1.size : Int) < 0
      · rw [if_pos e1, Option.bind_some, if_pos (by omega)]
        exact ⟨-1, rfl, fun h => by omega⟩
      · rw [if_neg e1, Option.bind_some, if_neg e1, w64 (x := (n : Int) + 1) (by omega) (by omega), succ_cast]
        obtain ⟨r, hr, hr2⟩ := ih k (n + 1) (a - (l[n].f0.size : Int) - (l[n].f1.size : Int)) (by omega) (by omega) (by omega) (by omega)
        exact ⟨r, hr, fun h => by have := hr2 h; omega⟩
theorem szEntries_f (l : List S63) (hm : l.length ≤ maxLen) (hw : ∀ x ∈ l, x.f0.size ≤ maxLen ∧ x.f1.size ≤ maxLen) (a : Int) (h0 : 0 ≤ a) (h1 : a ≤ 1048576) :
    ∃ r, (∀ k, 1048576 < k → laws_szEntryS.f k l a = some r) ∧ (0 ≤ r → r ≤ a ∧ l.length ≤ 1048576) := by
  have hmx : maxLen = 9223372036854775807 := by decide
  unfold laws_szEntryS.f
  rw [w64 (x := a - (l.length : Int)) (by omega) (by omega)]
  by_cases c : a - (l.length : Int) < 0
  · exact ⟨-1, fun k _ => by rw [if_pos c], fun h => by omega⟩
  · obtain ⟨r, hr, hr2⟩ := szEntries_loop l (by omega) hw l.length (l.length + 1) 0 (a - (l.length : Int)) (by omega) (by omega) (by omega) (by omega)
    refine ⟨r, fun k hk => ?_, fun h => ⟨by have := hr2 h; omega, by omega⟩⟩
    rw [if_neg c]
    exact at_rounds (g := fun k => laws_szEntryS.l0 k l (a - (l.length : Int)) 0) (fun k => laws_szEntryS.mono_l k _ _ _) (k := l.length + 1) (by omega) hr
theorem szSegmented_f (a b : Int) (l0 l1 : List S63) (hm0 : l0.length ≤ maxLen) (hw0 : ∀ x ∈ l0, x.f0.size ≤ maxLen ∧ x.f1.size ≤ maxLen) (hm1 : l1.length ≤ maxLen) (hw1 : ∀ x ∈ l1, x.f0.size ≤ maxLen ∧ x.f1.size ≤ maxLen) :
    ∃ r, (∀ k, 1048576 < k → laws_szSegmented.f k a b l0 l1 1048576 = some r) ∧ (0 ≤ r → l0.length ≤ 1048576 ∧ l1.length ≤ 1048576) := by
  unfold laws_szSegmented.f
  obtain ⟨r, hr, hr2⟩ := szEntries_f l0 hm0 hw0 1048576 (by omega) (by omega)
  by_cases c : r < 0
  · exact ⟨-1, fun k hk => by rw [hr k hk, Option.bind_some, if_pos c], fun h => by omega⟩
  · obtain ⟨q, hq, hq2⟩ := szEntries_f l1 hm1 hw1 r (by omega) (by have := hr2 (by omega); omega)
    by_cases c2 : q < 0
    · exact ⟨-1, fun k hk => by rw [hr k hk, Option.bind_some, if_neg c, hq k hk, Option.bind_some, if_pos c2], fun h => by omega⟩
    · exact ⟨q, fun k hk => by rw [hr k hk, Option.bind_some, if_neg c, hq k hk, Option.bind_some, if_neg c2], fun _ => ⟨(hr2 (by omega)).2, (hq2 (by omega)).2⟩⟩
theorem toSegmented_f (a b : Int) (l0 l1 : List S63) (h0 : l0.length ≤ 1048576) (h1 : l1.length ≤ 1048576) (k : Nat) (hk : 1048576 < k) : laws_toSegmented.f k a b l0 l1 = some (a, b, l0.map toE, l1.map toE) := by
  unfold laws_toSegmented.f
  rw [toEntries_f l0 h0 k (by omega), Option.bind_some, toEntries_f l1 h1 k (by omega), Option.bind_some]
theorem eqSegmented_f (a b : Int) (l0 l1 : List S49) (h0 : l0.length ≤ 1048576) (h1 : l1.length ≤ 1048576) (k : Nat) (hk : 1048576 < k) : laws_eqSegmented.f k a b l0 l1 a b l0 l1 = some true := by
  unfold laws_eqSegmented.f
  rw [if_pos rfl, if_pos rfl, eqEntries_f l0 h0 k (by omega), Option.bind_some, if_pos rfl, eqEntries_f l1 h1 k (by omega), Option.bind_some, if_pos rfl]

/-! A good cache of two parts, in the program and in the reference -/
def wsum : List S49 → Int → Int
  | [], s => s
  | x :: xs, s => wsum xs (wrap64 (s + wrap64 ((x.f0.size : Int) + (x.f1.size : Int))))
theorem specWeight_loop (l : List S49) (hb : l.length < 4611686018427387904) (d : Nat) : ∀ (k n : Nat) (s : Int), n + d = l.length → d < k → spec_l12Weight.l0 k s l (l.length : Int) (n : Int) = some (wsum (l.drop n) s) := by
  induction d with
  | zero =>
    intro k n s hn hk
    obtain ⟨k, rfl⟩ : ∃ m, k = m + 1 := ⟨k - 1, by omega⟩
    have c : ¬ (n : Int) < (l.length : Int) := by omega
    simp only [spec_l12Weight.l0]; rw [if_neg c, List.drop_of_length_le (by omega)]; rfl
  | succ d ih =>
    intro k n s hn hk
    obtain ⟨k, rfl⟩ : ∃ m, k = m + 1 := ⟨k - 1, by omega⟩
    have h1 : n < l.length := by omega
    have c1 : (n : Int) < (l.length : Int) := by omega
    have c0 : (0 : Int) ≤ (n : Int) := by omega
    simp only [spec_l12Weight.l0]
    rw [if_pos c1, if_pos c0, if_pos c1, rdP_nat l n h1, w64 (x := (n : Int) + 1) (by omega) (by omega), succ_cast, ih k (n + 1) _ (by omega) (by omega), List.drop_eq_getElem_cons h1]
    rfl
theorem specWeight_f (l : List S49) (hb : l.length < 4611686018427387904) (k : Nat) (hk : l.length < k) : spec_l12Weight.f k l = some (wsum l 0) :=
  specWeight_loop l hb l.length k 0 0 (by omega) hk
theorem weight_same (l : List S49) (m : Int) : ∀ (k : Nat) (s n : Int), impl_weight.l0 k s l m n = spec_l12Weight.l0 k s l m n := by
  intro k
  induction k with
  | zero => intro s n; rfl
  | succ k ih => intro s n; simp only [impl_weight.l0, spec_l12Weight.l0, ih]
theorem implWeight_f (l : List S49) (hb : l.length < 4611686018427387904) (k : Nat) (hk : l.length < k) : impl_weight.f k l = some (wsum l 0) := by
  unfold impl_weight.f; rw [weight_same]; exact specWeight_f l hb k hk
theorem within_f (a b c : Int) : impl_within.f a b c = some (decide (b ≤ a) && decide (a ≤ c)) := by
  unfold impl_within.f
  by_cases h : b ≤ a
  · rw [if_pos h, decide_eq_true h, Bool.true_and]
  · rw [if_neg h, decide_eq_false h, Bool.false_and]
theorem l1In_f (a b c : Int) : spec_l1In.f a b c = some (decide (b ≤ a) && decide (a ≤ c)) := by
  unfold spec_l1In.f
  by_cases h : b ≤ a
  · rw [if_pos h, decide_eq_true h, Bool.true_and]
  · rw [if_neg h, decide_eq_false h, Bool.false_and]
def roomB (a : Int) : Bool := decide (100 ≤ a) && decide (a ≤ 2000)
def entB (x : S49) : Bool := (decide (1 ≤ (x.f0.size : Int)) && decide ((x.f0.size : Int) ≤ 20)) && decide ((x.f1.size : Int) ≤ 60)
def fitsB (l : List S49) (a : Int) : Bool := decide (l.length ≤ 60) && decide (wsum l 0 ≤ a)
theorem isRoom_f (a : Int) : impl_isRoom.f a = some (roomB a) := by unfold impl_isRoom.f; rw [within_f]; rfl
theorem l12Room_f (a : Int) : spec_l12Room.f a = some (roomB a) := by unfold spec_l12Room.f; rw [l1In_f]; rfl
theorem isEntry_f (x : S49) : impl_isEntry.f x.f0 x.f1 = some (entB x) := by
  unfold impl_isEntry.f impl_isKey.f entB
  rw [within_f, Option.bind_some, Option.bind_some]
  cases decide (1 ≤ (x.f0.size : Int)) && decide ((x.f0.size : Int) ≤ 20) with
  | true => rw [if_pos rfl, Bool.true_and]
  | false => rw [if_neg (by decide), Bool.false_and]
theorem l12Entry_f (x : S49) : spec_l12Entry.f x.f0 x.f1 = some (entB x) := by
  unfold spec_l12Entry.f entB
  rw [l1In_f, Option.bind_some]
  cases decide (1 ≤ (x.f0.size : Int)) && decide ((x.f0.size : Int) ≤ 20) with
  | true => rw [if_pos rfl, Bool.true_and]
  | false => rw [if_neg (by decide), Bool.false_and]
theorem fits_f (l : List S49) (a : Int) (hb : l.length < 4611686018427387904) (k : Nat) (hk : l.length < k) : impl_fits.f k l a = some (fitsB l a) := by
  unfold impl_fits.f fitsB
  by_cases c : l.length ≤ 60
  · rw [if_pos (by omega), implWeight_f l hb k hk, Option.bind_some, decide_eq_true c, Bool.true_and]
  · rw [if_neg (by omega), decide_eq_false c, Bool.false_and]
theorem allEnt_f (l : List S49) (hl : l.length < 9223372036854775807) : xAll_T49_impl_isEntry.f l = some (l.all entB) := by
  obtain ⟨i, h1, h2⟩ := idxO_all xAll_T49_impl_isEntry.z entB (fun x => by unfold xAll_T49_impl_isEntry.z; rw [isEntry_f]; rfl) l 0 (by omega)
  unfold xAll_T49_impl_isEntry.f
  rw [if_pos hl, h1, Option.bind_some, h2]
/-- the place of a name, where it is among others -/
theorem at_loop (l : List S49) (key : ByteArray) (hb : l.length < 4611686018427387904) (d : Nat) : ∀ (k n : Nat), n + d = l.length → d < k →
    ∃ i, spec_l12At.l0 k key l (l.length : Int) (n : Int) = some i ∧ decide (i ≥ 0) = xin key ((l.drop n).map S49.f0) := by
  induction d with
  | zero =>
    intro k n hn hk
    obtain ⟨k, rfl⟩ : ∃ m, k = m + 1 := ⟨k - 1, by omega⟩
    have c : ¬ (n : Int) < (l.length : Int) := by omega
    exact ⟨-1, by simp only [spec_l12At.l0]; rw [if_neg c], by rw [List.drop_of_length_le (by omega)]; rfl⟩
  | succ d ih =>
    intro k n hn hk
    obtain ⟨k, rfl⟩ : ∃ m, k = m + 1 := ⟨k - 1, by omega⟩
    have h1 : n < l.length := by omega
    have c1 : (n : Int) < (l.length : Int) := by omega
    have c0 : (0 : Int) ≤ (n : Int) := by omega
    simp only [spec_l12At.l0]
    rw [if_pos c1, if_pos c0, if_pos c1, rdP_nat l n h1, w64 (x := (n : Int) + 1) (by omega) (by omega), succ_cast, List.drop_eq_getElem_cons h1, List.map_cons]
    unfold xin
    rw [List.any_cons, ByteArray.toList_eq, ByteArray.toList_eq]
    by_cases e : l[n].f0.data.toList = key.data.toList
    · rw [if_pos e, decide_eq_true e, Bool.true_or]
      exact ⟨(n : Int), rfl, decide_eq_true (by omega)⟩
    · rw [if_neg e, decide_eq_false e, Bool.false_or]
      exact ih k (n + 1) (by omega) (by omega)
theorem at_f (l : List S49) (key : ByteArray) (hb : l.length < 4611686018427387904) (k : Nat) (hk : l.length < k) : ∃ i, spec_l12At.f k l key = some i ∧ decide (i ≥ 0) = xin key (l.map S49.f0) :=
  at_loop l key hb l.length k 0 (by omega) hk
theorem xin_append (s : ByteArray) (a b : List ByteArray) : xin s (a ++ b) = (xin s a || xin s b) := by unfold xin; rw [List.any_append]
theorem xapart_more (acc : List ByteArray) (b : List S49) : ∀ acc2, xapart (acc ++ acc2) b = (xapart acc2 b && b.all fun x => !xin x.f0 acc) := by
  induction b with
  | nil => intro acc2; rfl
  | cons x xs ih =>
    intro acc2
    unfold xapart
    rw [xin_append, List.append_assoc, ih (acc2 ++ [x.f0]), List.all_cons]
    cases xin x.f0 acc <;> cases xin x.f0 acc2 <;> simp
theorem xapart_both (a b : List S49) : ∀ acc, xapart acc (a ++ b) = (xapart acc a && xapart (acc ++ a.map S49.f0) b) := by
  induction a with
  | nil => intro acc; simp [xapart]
  | cons x xs ih =>
    intro acc
    have e1 : xapart acc (x :: (xs ++ b)) = if xin x.f0 acc = true then false else xapart (acc ++ [x.f0]) (xs ++ b) := rfl
    have e2 : xapart acc (x :: xs) = if xin x.f0 acc = true then false else xapart (acc ++ [x.f0]) xs := rfl
    rw [List.cons_append, e1, e2, ih, List.map_cons, List.append_assoc, List.singleton_append]
    cases xin x.f0 acc with
    | true => rw [if_pos rfl, if_pos rfl, Bool.false_and]
    | false => rw [if_neg (by decide), if_neg (by decide)]
theorem part_loop (l : List S49) (a : Int) (hb : l.length < 4611686018427387904) (d : Nat) : ∀ (k n : Nat), n + d = l.length → d + l.length + 1 < k →
    spec_l12Part.l0 k l a l (l.length : Int) (n : Int) = some ((l.drop n).all entB && (xapart ((l.take n).map S49.f0) (l.drop n) && fitsB l a)) := by
  induction d with
  | zero =>
    intro k n hn hk
    obtain ⟨k, rfl⟩ : ∃ m, k = m + 1 := ⟨k - 1, by omega⟩
    have c : ¬ (n : Int) < (l.length : Int) := by omega
    simp only [spec_l12Part.l0]
    rw [if_neg c, List.drop_of_length_le (by omega), List.all_nil, Bool.true_and]
    unfold xapart fitsB
    rw [Bool.true_and]
    by_cases c6 : l.length ≤ 60
    · rw [if_pos (by omega), specWeight_f l hb k (by omega), Option.bind_some, decide_eq_true c6, Bool.true_and]
    · rw [if_neg (by omega), decide_eq_false c6, Bool.false_and]
  | succ d ih =>
    intro k n hn hk
    obtain ⟨k, rfl⟩ : ∃ m, k = m + 1 := ⟨k - 1, by omega⟩
    have h1 : n < l.length := by omega
    have c1 : (n : Int) < (l.length : Int) := by omega
    have c0 : (0 : Int) ≤ (n : Int) := by omega
    obtain ⟨i, hi, hi2⟩ := at_f (l.take n) l[n].f0 (by rw [List.length_take]; omega) k (by rw [List.length_take]; omega)
    have hst : (l.take (n + 1)).map S49.f0 = (l.take n).map S49.f0 ++ [l[n].f0] := by rw [List.take_succ_eq_append_getElem h1, List.map_append]; rfl
    have e2 : xapart ((l.take n).map S49.f0) (l[n] :: l.drop (n + 1)) = if xin l[n].f0 ((l.take n).map S49.f0) = true then false else xapart ((l.take n).map S49.f0 ++ [l[n].f0]) (l.drop (n + 1)) := rfl
    have ih2 := ih k (n + 1) (by omega) (by omega)
    rw [hst] at ih2
    simp only [spec_l12Part.l0]
    rw [if_pos c1, if_pos c0, if_pos c1, rdP_nat l n h1, w64 (x := (n : Int) + 1) (by omega) (by omega), succ_cast, l12Entry_f, Option.bind_some, List.drop_eq_getElem_cons h1, List.all_cons, e2, ← hi2]
    cases he : entB l[n] with
    | false => rw [if_neg (by decide), Bool.false_and, Bool.false_and]
    | true =>
      have cn : (n : Int) ≤ (l.length : Int) := by omega
      rw [if_pos rfl, if_pos cn, Int.toNat_natCast, hi, Option.bind_some, ih2, Bool.true_and]
      by_cases c : i ≥ 0
      · rw [if_pos c, decide_eq_true c, if_pos rfl, Bool.false_and, Bool.and_false]
      · rw [if_neg c, decide_eq_false c, if_neg (by decide)]
theorem part_f (l : List S49) (a : Int) (hb : l.length < 4611686018427387904) (k : Nat) (hk : l.length + l.length + 1 < k) : spec_l12Part.f k l a = some (l.all entB && (xapart [] l && fitsB l a)) :=
  part_loop l a hb l.length k 0 (by omega) hk
def goodSeg (a b : Int) (l0 l1 : List S49) : Bool := (l1.all fun x => !xin x.f0 (l0.map S49.f0)) && (roomB a && (roomB b && ((l0.all entB && (xapart [] l0 && fitsB l0 a)) && (l1.all entB && (xapart [] l1 && fitsB l1 b)))))
theorem specGood_loop (a b : Int) (l0 l1 : List S49) (h0 : l0.length ≤ 1048576) (h1 : l1.length ≤ 1048576) (d : Nat) : ∀ (k n : Nat), n + d = l1.length → d + 2097160 < k →
    spec_GoodSegmented.l0 k l1 (l1.length : Int) (n : Int) a b l0 l1 = some (((l1.drop n).all fun x => !xin x.f0 (l0.map S49.f0)) && (roomB a && (roomB b && ((l0.all entB && (xapart [] l0 && fitsB l0 a)) && (l1.all entB && (xapart [] l1 && fitsB l1 b)))))) := by
  induction d with
  | zero =>
    intro k n hn hk
    obtain ⟨k, rfl⟩ : ∃ m, k = m + 1 := ⟨k - 1, by omega⟩
    have c : ¬ (n : Int) < (l1.length : Int) := by omega
    simp only [spec_GoodSegmented.l0]
    rw [if_neg c, List.drop_of_length_le (by omega), List.all_nil, Bool.true_and, l12Room_f, Option.bind_some, l12Room_f, Option.bind_some, part_f l0 a (by omega) k (by omega), Option.bind_some, part_f l1 b (by omega) k (by omega), Option.bind_some]
    cases roomB a with
    | false => rw [if_neg (by decide), Bool.false_and]
    | true =>
      rw [if_pos rfl, Bool.true_and]
      cases roomB b with
      | false => rw [if_neg (by decide), Bool.false_and]
      | true =>
        rw [if_pos rfl, Bool.true_and]
        cases (l0.all entB && (xapart [] l0 && fitsB l0 a)) with
        | false => rw [if_neg (by decide), Bool.false_and]
        | true => rw [if_pos rfl, Bool.true_and]
  | succ d ih =>
    intro k n hn hk
    obtain ⟨k, rfl⟩ : ∃ m, k = m + 1 := ⟨k - 1, by omega⟩
    have hlt : n < l1.length := by omega
    have c1 : (n : Int) < (l1.length : Int) := by omega
    have c0 : (0 : Int) ≤ (n : Int) := by omega
    obtain ⟨i, hi, hi2⟩ := at_f l0 l1[n].f0 (by omega) k (by omega)
    simp only [spec_GoodSegmented.l0]
    rw [if_pos c1, if_pos c0, if_pos c1, rdP_nat l1 n hlt, w64 (x := (n : Int) + 1) (by omega) (by omega), succ_cast, hi, Option.bind_some, ih k (n + 1) (by omega) (by omega), List.drop_eq_getElem_cons hlt, List.all_cons, ← hi2]
    by_cases c : i ≥ 0
    · rw [if_pos c, decide_eq_true c]; simp
    · rw [if_neg c, decide_eq_false c]; simp
theorem specGood_f (a b : Int) (l0 l1 : List S49) (h0 : l0.length ≤ 1048576) (h1 : l1.length ≤ 1048576) (k : Nat) (hk : 3145800 < k) : spec_GoodSegmented.f k a b l0 l1 = some (goodSeg a b l0 l1) :=
  specGood_loop a b l0 l1 h0 h1 l1.length k 0 (by omega) (by omega)
theorem implGood_f (a b : Int) (l0 l1 : List S49) (h0 : l0.length ≤ 1048576) (h1 : l1.length ≤ 1048576) (k : Nat) (hk : 1048576 < k) : impl_GoodSegmented.f k a b l0 l1 = some (goodSeg a b l0 l1) := by
  unfold impl_GoodSegmented.f goodSeg
  rw [isRoom_f, isRoom_f, fits_f l0 a (by omega) k (by omega), fits_f l1 b (by omega) k (by omega), allEnt_f l0 (by omega), allEnt_f l1 (by omega)]
  simp only [Option.bind_some]
  cases roomB a with
  | false => simp
  | true =>
    cases roomB b with
    | false => simp
    | true =>
      cases hf0 : fitsB l0 a with
      | false => simp
      | true =>
        cases hf1 : fitsB l1 b with
        | false => simp
        | true =>
          cases he0 : l0.all entB with
          | false => simp
          | true =>
            cases he1 : l1.all entB with
            | false => simp
            | true =>
              have f0 : l0.length ≤ 60 := by unfold fitsB at hf0; simp only [Bool.and_eq_true, decide_eq_true_eq] at hf0; exact hf0.1
              have f1 : l1.length ≤ 60 := by unfold fitsB at hf1; simp only [Bool.and_eq_true, decide_eq_true_eq] at hf1; exact hf1.1
              have hs : ∀ x ∈ l0 ++ l1, x.f0.size ≤ 1000 := by
                intro x hx
                have hx2 : entB x = true := by
                  rcases List.mem_append.mp hx with h | h
                  · exact List.all_eq_true.mp he0 x h
                  · exact List.all_eq_true.mp he1 x h
                unfold entB at hx2
                simp only [Bool.and_eq_true, decide_eq_true_eq] at hx2
                omega
              simp only [if_true]
              rw [if_pos (by omega), if_pos hs, xapart_both, List.nil_append]
              have hm := xapart_more (l0.map S49.f0) l1 []
              rw [List.append_nil] at hm
              rw [hm]
              simp only [Bool.true_and, Bool.and_true]
              rw [Bool.and_comm (xapart [] l1), ← Bool.and_assoc, Bool.and_comm (xapart [] l0), Bool.and_assoc]

theorem FnExactBytesIn : laws_FnExactBytesIn.Pure := by
  intro a b l0 l1 ha hb hm0 hw0 hm1 hw1
  obtain ⟨r, hr, hr2⟩ := szSegmented_f a b l0 l1 hm0 hw0 hm1 hw1
  refine ⟨3145850, ?_⟩
  unfold laws_FnExactBytesIn.f
  rw [hr _ (by omega), Option.bind_some]
  by_cases c : r < 0
  · rw [if_pos c]
  · obtain ⟨n0, n1⟩ := hr2 (by omega)
    have m0 : (l0.map toE).length ≤ 1048576 := by rw [List.length_map]; exact n0
    have m1 : (l1.map toE).length ≤ 1048576 := by rw [List.length_map]; exact n1
    obtain ⟨x, y, z, e1, e2⟩ : ∃ x y z, spec_BytesIn.f 3145850 a b (l0.map toE) (l1.map toE) = some (x, y, z) ∧ impl_BytesIn.f 3145850 a b (l0.map toE) (l1.map toE) = some (x, y, z) := by
      unfold spec_BytesIn.f impl_BytesIn.f
      rw [specGood_f a b _ _ m0 m1 _ (by omega), Option.bind_some, implGood_f a b _ _ m0 m1 _ (by omega), Option.bind_some]
      cases goodSeg a b (l0.map toE) (l1.map toE) with
      | false => exact ⟨0, 0, false, rfl, rfl⟩
      | true =>
        rw [if_pos rfl, if_pos rfl, specWeight_f _ (by omega) _ (by omega), specWeight_f _ (by omega) _ (by omega), implWeight_f _ (by omega) _ (by omega), implWeight_f _ (by omega) _ (by omega)]
        exact ⟨_, _, _, rfl, rfl⟩
    rw [if_neg c, toSegmented_f a b l0 l1 n0 n1 _ (by omega)]
    simp only [Option.bind_some]
    rw [e1, Option.bind_some, e2, Option.bind_some]
    simp only [if_true, laws_FnExactBytesIn.j0, bne_self_eq_false, Bool.false_eq_true, if_false]
    rw [toSegmented_f a b l0 l1 n0 n1 _ (by omega)]
    simp only [Option.bind_some]
    rw [eqSegmented_f a b _ _ m0 m1 _ (by omega), Option.bind_some, if_pos rfl]

end Go.Proofs.Ytgdlnbdbilgboaa.Pure
