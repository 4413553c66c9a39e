/- The program's RingServer returns what the reference's returns, and leaves its argument as it was. No conditions. -/
import Derived.Test.YtbehlonooafplaaPFnExactRingServerx5
set_option linter.unusedVariables false
set_option linter.unusedSimpArgs false
namespace Go.Proofs.Ytbehlonooafplaa.Pure
open Go.RowKit Go.Proofs.Ytbehlonooafplaa.PFnExactRingServer Go.Proofs.YtbehlonooafplaaW.PrintWords Go.Proofs.YtbehlonooafplaaW.PrintLast

/-! Whole numbers and rows of them -/
theorem w64 {x : Int} (h : -9223372036854775808 ≤ x) (h2 : x < 9223372036854775808) : wrap64 x = x := by unfold wrap64; omega
theorem rd_nat (l : List Int) (n : Nat) (h : n < l.length) : rd l (n : Int) = l[n] := by
  unfold rd; simp [List.getD_eq_getElem?_getD, h]
theorem succ_cast (n : Nat) : ((n : Int) + 1) = ((n + 1 : Nat) : Int) := by omega

/-! The first place at which a predicate holds -/
theorem idxO_ge {α : Type} (p : α → Option Bool) (l : List α) : ∀ (n i : Int), 0 ≤ n → idxO p l n = some i → i = -1 ∨ n ≤ i := by
  induction l with
  | nil => intro n i hn h; left; exact (Option.some.inj h).symm
  | cons x xs ih =>
    intro n i hn h
    obtain ⟨b, hb, h2⟩ := Option.bind_eq_some_iff.mp h
    cases b with
    | true => right; have := Option.some.inj h2; omega
    | false => have := ih (n + 1) i (by omega) h2; omega
theorem idxO_all {α : Type} (p : α → Option Bool) (q : α → Bool) (h : ∀ x, p x = some (!q x)) (l : List α) : ∀ (n : Int), 0 ≤ n → ∃ i, idxO p l n = some i ∧ (!decide (i ≥ 0)) = l.all q := by
  induction l with
  | nil => intro n hn; exact ⟨-1, rfl, rfl⟩
  | cons x xs ih =>
    intro n hn
    unfold idxO
    rw [h x, Option.bind_some]
    cases hq : q x with
    | true =>
      obtain ⟨i, h1, h2⟩ := ih (n + 1) (by omega)
      exact ⟨i, h1, by rw [h2, List.all_cons, hq, Bool.true_and]⟩
    | false => exact ⟨n, rfl, by rw [List.all_cons, hq, Bool.false_and, decide_eq_true (show n ≥ 0 from hn)]; rfl⟩

/-! The hash: the program's loop -/
def fnv (s : ByteArray) (i : Nat) : Nat → Int → Int
  | 0, h => h
  | d + 1, h => fnv s (i + 1) d (((Go.bits .xor .u32 h ((bt s (i : Int)) % 4294967296)) * 16777619) % 4294967296)
theorem hashed_loop (s : ByteArray) (hs : s.size < 4611686018427387904) (d : Nat) : ∀ (k n : Nat) (h : Int), n + d = s.size → d < k →
    impl_hashed.l0 k h s (s.size : Int) (n : Int) = some (fnv s n d h) := by
  induction d with
  | zero =>
    intro k n h hn hk
    obtain ⟨k, rfl⟩ : ∃ m, k = m + 1 := ⟨k - 1, by omega⟩
    have c : ¬ (n : Int) < (s.size : Int) := by omega
    simp only [impl_hashed.l0]; rw [if_neg c]; rfl
  | succ d ih =>
    intro k n h hn hk
    obtain ⟨k, rfl⟩ : ∃ m, k = m + 1 := ⟨k - 1, by omega⟩
    have c1 : (n : Int) < (s.size : Int) := by omega
    have c0 : (0 : Int) ≤ (n : Int) := by omega
    simp only [impl_hashed.l0]
    rw [if_pos c1, if_pos c0, if_pos c1, w64 (by omega) (by omega), succ_cast]
    exact ih k (n + 1) _ (by omega) (by omega)
theorem hashed_f (s : ByteArray) (h : Int) (hs : s.size < 4611686018427387904) (k : Nat) (hk : s.size < k) : impl_hashed.f k h s = some (fnv s 0 s.size h) :=
  hashed_loop s hs s.size k 0 h (by omega) hk
theorem fnv_range (s : ByteArray) (d : Nat) : ∀ (n : Nat) (h : Int), 0 ≤ h → h < 4294967296 → 0 ≤ fnv s n d h ∧ fnv s n d h < 4294967296 := by
  induction d with
  | zero => intro n h a b; exact ⟨a, b⟩
  | succ d ih => intro n h a b; exact ih _ _ (Int.emod_nonneg _ (by omega)) (Int.emod_lt_of_pos _ (by omega))

/-! The hash, of the program and of the reference, are one -/
theorem specHash_loop (s : ByteArray) (hs : s.size < 4611686018427387904) (d : Nat) : ∀ (k n : Nat) (h : Int), n + d = s.size → d < k →
    spec_HashOf.l0 k s h (n : Int) = (impl_hashed.l0 k h s (s.size : Int) (n : Int)).bind fun t => (some (Go.bits .xor .u32 (((Go.bits .xor .u32 t (t / 32768)) * 2246822507) % 4294967296) ((((Go.bits .xor .u32 t (t / 32768)) * 2246822507) % 4294967296) / 8192))) := by
  induction d with
  | zero =>
    intro k n h hn hk
    obtain ⟨k, rfl⟩ : ∃ m, k = m + 1 := ⟨k - 1, by omega⟩
    have c : ¬ (n : Int) < (s.size : Int) := by omega
    simp only [impl_hashed.l0, spec_HashOf.l0]; rw [if_neg c, if_neg c]; rfl
  | succ d ih =>
    intro k n h hn hk
    obtain ⟨k, rfl⟩ : ∃ m, k = m + 1 := ⟨k - 1, by omega⟩
    have c1 : (n : Int) < (s.size : Int) := by omega
    have c0 : (0 : Int) ≤ (n : Int) := by omega
    simp only [impl_hashed.l0, spec_HashOf.l0]
    rw [if_pos c1, if_pos c0, if_pos c1, if_pos c0, if_pos c1, w64 (by omega) (by omega), succ_cast]
    exact ih k (n + 1) _ (by omega) (by omega)
def hashB (s : ByteArray) : Int := (fun t => (Go.bits .xor .u32 (((Go.bits .xor .u32 t (t / 32768)) * 2246822507) % 4294967296) ((((Go.bits .xor .u32 t (t / 32768)) * 2246822507) % 4294967296) / 8192))) (fnv s 0 s.size 2166136261)
theorem implHashOf_f (s : ByteArray) (hs : s.size < 4611686018427387904) (k : Nat) (hk : s.size < k) : impl_HashOf.f k s = some (hashB s) := by
  unfold impl_HashOf.f; rw [hashed_f s _ hs k hk]; rfl
theorem specHashOf_f (s : ByteArray) (hs : s.size < 4611686018427387904) (k : Nat) (hk : s.size < k) : spec_HashOf.f k s = some (hashB s) := by
  have h := specHash_loop s hs s.size k 0 2166136261 (by omega) hk
  have h2 := hashed_loop s hs s.size k 0 2166136261 (by omega) hk
  rw [h2] at h; exact h

/-! Points: compared, and in their order -/
def lessP (p q : S36) : Bool := decide (p.f0 < q.f0) || (decide (p.f0 = q.f0) && decide (p.f1 < q.f1))
theorem rdP_nat (l : List S36) (n : Nat) (h : n < l.length) : rd_T36 l (n : Int) = l[n] := by
  unfold rd_T36; simp [List.getD_eq_getElem?_getD, h]
theorem cmpOr_f (a b : Int) (k : Nat) : cmp_Or_int.f (k + 3) [a, b] = some (if a = 0 then b else a) := by
  unfold cmp_Or_int.f
  simp only [cmp_Or_int.l0]
  by_cases h : a = 0
  · by_cases h2 : b = 0
    · simp [h, h2, rd, wrap64]
    · simp [h, h2, rd, wrap64]
  · simp [h, rd, wrap64]
theorem cmpU_f (a b : Int) : cmp_Compare_uint32.f a b = some (if a < b then -1 else if a > b then 1 else 0) := by
  unfold cmp_Compare_uint32.f cmp_isNaN_uint32.f
  simp only [bne_self_eq_false, Option.bind_some, Bool.false_eq_true, if_false]
  split
  · rfl
  · split <;> rfl
theorem cmpI_f (a b : Int) : cmp_Compare_int.f a b = some (if a < b then -1 else if a > b then 1 else 0) := by
  unfold cmp_Compare_int.f cmp_isNaN_int.f
  simp only [bne_self_eq_false, Option.bind_some, Bool.false_eq_true, if_false]
  split
  · rfl
  · split <;> rfl
theorem cmpP_f (x y : S36) (k : Nat) : ∃ r, xSorted_T36_impl_comparePoints.c (k + 3) x y = some r ∧ (decide (r < 0)) = lessP x y := by
  unfold xSorted_T36_impl_comparePoints.c impl_comparePoints.f
  rw [cmpU_f, Option.bind_some, cmpI_f, Option.bind_some, cmpOr_f, Option.bind_some]
  refine ⟨_, rfl, ?_⟩
  unfold lessP
  by_cases h1 : x.f0 < y.f0
  · simp [h1]
  · by_cases h2 : x.f0 > y.f0
    · have h3 : ¬ x.f0 = y.f0 := by omega
      simp [h1, h2, h3]
    · have h3 : x.f0 = y.f0 := by omega
      by_cases h4 : x.f1 < y.f1
      · simp [h3, h4]
      · by_cases h5 : y.f1 < x.f1
        · simp [h3, h4, h5]
        · simp [h3, h4, h5]
def downB (l : List S36) : Nat → Bool
  | 0 => true
  | i + 1 => !lessP (l.getD (i + 1) z36) (l.getD i z36) && downB l i
theorem downO_f (l : List S36) (k : Nat) : ∀ n, downO (xSorted_T36_impl_comparePoints.c (k + 3)) l z36 n = some (downB l n)
  | 0 => rfl
  | n + 1 => by
    obtain ⟨r, h1, h2⟩ := cmpP_f (l.getD (n + 1) z36) (l.getD n z36) k
    unfold downO downB
    rw [h1, Option.bind_some, ← h2]
    by_cases c : r < 0
    · rw [if_pos c, decide_eq_true c]; rfl
    · rw [if_neg c, decide_eq_false c, downO_f l k n]; rfl
theorem downB_iff (l : List S36) : ∀ n, downB l n = true ↔ ∀ i, i < n → lessP (l.getD (i + 1) z36) (l.getD i z36) = false
  | 0 => ⟨fun _ i h => by omega, fun _ => rfl⟩
  | n + 1 => by
    unfold downB
    rw [Bool.and_eq_true, downB_iff l n, Bool.not_eq_true']
    exact ⟨fun ⟨a, b⟩ i hi => by
      by_cases e : i = n
      · rw [e]; exact a
      · exact b i (by omega), fun h => ⟨h n (by omega), fun i hi => h i (by omega)⟩⟩
def inSrv (p : S36) : Bool := decide (0 ≤ p.f1) && decide (p.f1 ≤ 99)
def okAt (l : List S36) (j : Nat) : Prop := inSrv (l.getD j z36) = true ∧ (0 < j → lessP (l.getD j z36) (l.getD (j - 1) z36) = false)
instance (l : List S36) (j : Nat) : Decidable (okAt l j) := by unfold okAt; infer_instance
theorem l1In_f (a b c : Int) : spec_l1In.f a b c = some (decide (b ≤ a) && decide (a ≤ c)) := by
  unfold spec_l1In.f
  by_cases h : b ≤ a
  · rw [if_pos h, decide_eq_true h, Bool.true_and]
  · rw [if_neg h, decide_eq_false h, Bool.false_and]
theorem within_f (a b c : Int) : impl_within.f a b c = some (decide (b ≤ a) && decide (a ≤ c)) := by
  unfold impl_within.f
  by_cases h : b ≤ a
  · rw [if_pos h, decide_eq_true h, Bool.true_and]
  · rw [if_neg h, decide_eq_false h, Bool.false_and]
theorem l14Less_f (p q : S36) : spec_l14Less.f p.f0 p.f1 q.f0 q.f1 = some (lessP p q) := by
  unfold spec_l14Less.f lessP
  by_cases h : p.f0 < q.f0
  · rw [if_pos h, decide_eq_true h, Bool.true_or]
  · rw [if_neg h, decide_eq_false h, Bool.false_or]
    by_cases h2 : p.f0 = q.f0
    · rw [if_pos h2, decide_eq_true h2, Bool.true_and]
    · rw [if_neg h2, decide_eq_false h2, Bool.false_and]
theorem allSrv_f (l : List S36) (hl : l.length < 9223372036854775807) : xAll_T36_impl_RingServer_1.f l = some (l.all inSrv) := by
  obtain ⟨i, h1, h2⟩ := idxO_all xAll_T36_impl_RingServer_1.z inSrv (fun x => by unfold xAll_T36_impl_RingServer_1.z impl_RingServer_1.f impl_isServer.f; rw [within_f]; rfl) l 0 (by omega)
  unfold xAll_T36_impl_RingServer_1.f
  rw [if_pos hl, h1, Option.bind_some, h2]
/-- the reference's look at the points, and what it does behind it -/
def ringTail (l : List S36) (s : ByteArray) (k : Nat) : Option (Int × Bool) :=
  (spec_l1In.f (l.length : Int) 1 96).bind fun t => if t = true then (spec_HashOf.f k s).bind fun h => spec_RingServer.l1 k l h l (l.length : Int) 0 else some (0, false)
theorem getD_nat (l : List S36) (n : Nat) (h : n < l.length) : l.getD n z36 = l[n] := by simp [List.getD_eq_getElem?_getD, h]
theorem ring_loop (l : List S36) (s : ByteArray) (hb : l.length < 4611686018427387904) (T : Option (Int × Bool)) (K : Nat) (d : Nat) : ∀ (k n : Nat), n + d = l.length → K + d < k →
    ((∀ k, K ≤ k → ringTail l s k = T) → (∀ j, n ≤ j → j < l.length → okAt l j) → spec_RingServer.l0 k l s l (l.length : Int) (n : Int) = T) ∧ ((∃ j, n ≤ j ∧ j < l.length ∧ ¬ okAt l j) → spec_RingServer.l0 k l s l (l.length : Int) (n : Int) = some (0, false)) := by
  induction d with
  | zero =>
    intro k n hn hk
    obtain ⟨k, rfl⟩ : ∃ m, k = m + 1 := ⟨k - 1, by omega⟩
    refine ⟨fun hT _ => ?_, fun ⟨j, a, b, _⟩ => by omega⟩
    have c : ¬ (n : Int) < (l.length : Int) := by omega
    simp only [spec_RingServer.l0]; rw [if_neg c]
    exact hT k (by omega)
  | succ d ih =>
    intro k n hn hk
    obtain ⟨k, rfl⟩ : ∃ m, k = m + 1 := ⟨k - 1, by omega⟩
    have h1 : n < l.length := by omega
    have c1 : (n : Int) < (l.length : Int) := by omega
    have c0 : (0 : Int) ≤ (n : Int) := by omega
    obtain ⟨i1, i2⟩ := ih k (n + 1) (by omega) (by omega)
    have key : spec_RingServer.l0 (k + 1) l s l (l.length : Int) (n : Int) = if okAt l n then spec_RingServer.l0 k l s l (l.length : Int) ((n + 1 : Nat) : Int) else some (0, false) := by
      simp only [spec_RingServer.l0]
      rw [if_pos c1, if_pos c0, if_pos c1, l1In_f, Option.bind_some, rdP_nat l n h1, w64 (x := (n : Int) + 1) (by omega) (by omega), succ_cast]
      have e0 : inSrv (l.getD n z36) = (decide (0 ≤ l[n].f1) && decide (l[n].f1 ≤ 99)) := by rw [getD_nat l n h1]; rfl
      cases hp : (decide (0 ≤ l[n].f1) && decide (l[n].f1 ≤ 99)) with
      | false => rw [if_neg (by decide), if_neg (fun h : okAt l n => by have z := h.1; rw [e0, hp] at z; cases z)]
      | true =>
        rw [if_pos rfl]
        by_cases c : 0 < n
        · have d1 : (n : Int) > 0 := by omega
          have e : wrap64 ((n : Int) - 1) = ((n - 1 : Nat) : Int) := by rw [w64 (by omega) (by omega)]; omega
          rw [if_pos d1, e, if_pos (by omega), if_pos (by omega), rdP_nat l (n - 1) (by omega), l14Less_f, Option.bind_some]
          cases hl : lessP l[n] l[n - 1] with
          | true => rw [if_pos rfl, if_neg (fun h : okAt l n => by have z := h.2 c; rw [getD_nat l n h1, getD_nat l (n - 1) (by omega), hl] at z; cases z)]
          | false => rw [if_neg (by decide), if_pos (show okAt l n from ⟨by rw [e0, hp], fun _ => by rw [getD_nat l n h1, getD_nat l (n - 1) (by omega), hl]⟩)]
        · have d1 : ¬ (n : Int) > 0 := by omega
          rw [if_neg d1, if_pos (show okAt l n from ⟨by rw [e0, hp], fun h => absurd h c⟩)]
    rw [key]
    refine ⟨fun hT h => ?_, fun ⟨j, a, b, hj⟩ => ?_⟩
    · rw [if_pos (h n (Nat.le_refl _) h1)]
      exact i1 hT (fun j a b => h j (by omega) b)
    · by_cases c : okAt l n
      · rw [if_pos c]
        have hne : n ≠ j := fun e => hj (e ▸ c)
        exact i2 ⟨j, by omega, b, hj⟩
      · rw [if_neg c]
theorem first_loop (l : List S36) (h i : Int) (hb : l.length < 4611686018427387904) (hpos : 0 < l.length) (d : Nat) : ∀ (k n : Nat), n + d = l.length → d < k → idxO (xRing.p h) (l.drop n) (n : Int) = some i →
    spec_RingServer.l1 k l h l (l.length : Int) (n : Int) = some ((rd_T36 l (max i 0)).f1, true) := by
  induction d with
  | zero =>
    intro k n hn hk hi
    obtain ⟨k, rfl⟩ : ∃ m, k = m + 1 := ⟨k - 1, by omega⟩
    rw [List.drop_of_length_le (by omega)] at hi
    obtain rfl : (-1 : Int) = i := Option.some.inj hi
    have c : ¬ (n : Int) < (l.length : Int) := by omega
    simp only [spec_RingServer.l1]; rw [if_neg c, if_pos (by omega)]; rfl
  | succ d ih =>
    intro k n hn hk hi
    obtain ⟨k, rfl⟩ : ∃ m, k = m + 1 := ⟨k - 1, by omega⟩
    have h1 : n < l.length := by omega
    have c1 : (n : Int) < (l.length : Int) := by omega
    have c0 : (0 : Int) ≤ (n : Int) := by omega
    rw [idxO_at _ l n h1] at hi
    unfold xRing.p at hi
    rw [Option.bind_some] at hi
    simp only [spec_RingServer.l1]
    rw [if_pos c1, if_pos c0, if_pos c1, rdP_nat l n h1]
    by_cases c : l[n].f0 ≥ h
    · rw [decide_eq_true c, if_pos rfl] at hi
      obtain rfl := Option.some.inj hi
      rw [if_pos c, show max (n : Int) 0 = (n : Int) by omega, rdP_nat l n h1]
    · rw [decide_eq_false c, if_neg (by decide)] at hi
      rw [if_neg c, w64 (x := (n : Int) + 1) (by omega) (by omega), succ_cast]
      exact ih k (n + 1) (by omega) (by omega) hi
theorem idxO_some {α : Type} (p : α → Option Bool) (hp : ∀ x, ∃ b, p x = some b) (l : List α) : ∀ n : Int, ∃ i, idxO p l n = some i := by
  induction l with
  | nil => intro n; exact ⟨-1, rfl⟩
  | cons x xs ih =>
    intro n
    obtain ⟨b, hb⟩ := hp x
    unfold idxO
    rw [hb, Option.bind_some]
    cases b with
    | true => exact ⟨n, rfl⟩
    | false => exact ih (n + 1)
theorem ring_same (l : List S36) (s : ByteArray) (hl : l.length ≤ 1048576) (hs : s.size ≤ 1048576) (m : Nat) (hm : l.length + (l.length + s.size) + 10 < m) : ∃ r b, ∀ j, impl_RingServer.f (m + j) l s = some (r, b) ∧ spec_RingServer.f (m + j) l s = some (r, b) := by
  obtain ⟨i, hi⟩ := idxO_some (xRing.p (hashB s)) (fun x => ⟨_, rfl⟩) l 0
  have hi0 : idxO (xRing.p (hashB s)) (l.drop 0) ((0 : Nat) : Int) = some i := hi
  by_cases hall : ∀ j, 0 ≤ j → j < l.length → okAt l j
  · by_cases hz : l.length = 0
    · refine ⟨0, false, fun j => ⟨by unfold impl_RingServer.f; rw [if_pos hz], ?_⟩⟩
      refine (ring_loop l s (by omega) (some (0, false)) 0 l.length (m + j) 0 (by omega) (by omega)).1 (fun k _ => ?_) hall
      unfold ringTail; rw [l1In_f, hz]; rfl
    · by_cases h96 : l.length > 96
      · refine ⟨0, false, fun j => ⟨by unfold impl_RingServer.f; rw [if_neg hz, if_pos h96], ?_⟩⟩
        refine (ring_loop l s (by omega) (some (0, false)) 0 l.length (m + j) 0 (by omega) (by omega)).1 (fun k _ => ?_) hall
        unfold ringTail
        rw [l1In_f, decide_eq_false (p := (l.length : Int) ≤ 96) (by omega), Bool.and_false]; rfl
      · refine ⟨(rd_T36 l (max i 0)).f1, true, fun j => ⟨?_, ?_⟩⟩
        · unfold impl_RingServer.f xSorted_T36_impl_comparePoints.f
          have hd : downB l (l.length - 1) = true := (downB_iff l _).mpr (fun q hq => by
            have z := (hall (q + 1) (by omega) (by omega)).2 (by omega)
            exact z)
          have ha : l.all inSrv = true := List.all_eq_true.mpr (fun x hx => by
            obtain ⟨q, hq, rfl⟩ := List.getElem_of_mem hx
            have z := (hall q (by omega) hq).1
            rw [getD_nat l q hq] at z; exact z)
          rw [if_neg hz, if_neg h96, if_pos (by omega), show m + j = (m + j - 3) + 3 by omega, downO_f, Option.bind_some, hd, if_pos rfl, allSrv_f l (by omega), Option.bind_some, ha, if_pos rfl, implHashOf_f s (by omega) _ (by omega), Option.bind_some, hi, Option.bind_some]
        · refine (ring_loop l s (by omega) (some ((rd_T36 l (max i 0)).f1, true)) (l.length + s.size + 5) l.length (m + j) 0 (by omega) (by omega)).1 (fun k hk => ?_) hall
          unfold ringTail
          rw [l1In_f, Option.bind_some, decide_eq_true (p := (1 : Int) ≤ (l.length : Int)) (by omega), decide_eq_true (p := (l.length : Int) ≤ 96) (by omega), Bool.true_and, if_pos rfl, specHashOf_f s (by omega) k (by omega), Option.bind_some]
          exact first_loop l _ i (by omega) (by omega) l.length k 0 (by omega) (by omega) hi0
  · have hbad : ∃ j, 0 ≤ j ∧ j < l.length ∧ ¬ okAt l j := by
      refine Classical.byContradiction fun h => hall fun j a b => Classical.byContradiction fun c => h ⟨j, a, b, c⟩
    refine ⟨0, false, fun j => ⟨?_, ?_⟩⟩
    · unfold impl_RingServer.f xSorted_T36_impl_comparePoints.f
      by_cases hz : l.length = 0
      · rw [if_pos hz]
      · by_cases h96 : l.length > 96
        · rw [if_neg hz, if_pos h96]
        · rw [if_neg hz, if_neg h96, if_pos (by omega), show m + j = (m + j - 3) + 3 by omega, downO_f, Option.bind_some]
          cases hd : downB l (l.length - 1) with
          | false => rw [if_neg (by decide)]
          | true =>
            rw [if_pos rfl, allSrv_f l (by omega), Option.bind_some]
            cases ha : l.all inSrv with
            | false => rw [if_neg (by decide)]
            | true =>
              exfalso
              obtain ⟨q, _, hq, hno⟩ := hbad
              refine hno ⟨?_, fun hp => ?_⟩
              · rw [getD_nat l q hq]; exact List.all_eq_true.mp ha _ (List.getElem_mem hq)
              · have z := (downB_iff l _).mp hd (q - 1) (by omega)
                rw [show q - 1 + 1 = q by omega] at z; exact z
    · exact (ring_loop l s (by omega) none 0 l.length (m + j) 0 (by omega) (by omega)).2 hbad
/-! The laws' words for points -/
def toP (p : S40) : S36 := ⟨p.f0, p.f1⟩
theorem rdQ_nat (l : List S40) (n : Nat) (h : n < l.length) : rd_T40 l (n : Int) = l[n] := by
  unfold rd_T40; simp [List.getD_eq_getElem?_getD, h]
theorem toPoints_loop (xs : List S40) (hb : xs.length < 4611686018427387904) (d : Nat) : ∀ (k n : Nat) (ys : List S36), ys.length = xs.length → n + d = xs.length → d < k →
    laws_toPointS.l0 k xs ys (n : Int) = some (ys.take n ++ (xs.drop n).map toP) := by
  induction d with
  | zero =>
    intro k n ys hl hn hk
    obtain ⟨k, rfl⟩ : ∃ m, k = m + 1 := ⟨k - 1, by omega⟩
    have c : ¬ (n : Int) < (xs.length : Int) := by omega
    simp only [laws_toPointS.l0]; rw [if_neg c, List.take_of_length_le (by omega), List.drop_of_length_le (by omega), List.map_nil, List.append_nil]
  | succ d ih =>
    intro k n ys hl hn hk
    obtain ⟨k, rfl⟩ : ∃ m, k = m + 1 := ⟨k - 1, by omega⟩
    have h1 : n < xs.length := by omega
    have h2 : n < ys.length := by omega
    have c1 : (n : Int) < (xs.length : Int) := by omega
    have c2 : (n : Int) < (ys.length : Int) := by omega
    have c0 : (0 : Int) ≤ (n : Int) := by omega
    simp only [laws_toPointS.l0, laws_toPoint.f]
    rw [if_pos c1, if_pos c0, Option.bind_some, if_pos c2, rdQ_nat xs n h1, w64 (by omega) (by omega), succ_cast, Int.toNat_natCast, ih k (n + 1) _ (by simp [hl]) (by omega) (by omega), List.drop_eq_getElem_cons h1, List.map_cons]
    congr 1
    rw [List.take_add_one, List.take_set_of_le (by omega)]
    simp [h2, toP]
theorem toPoints_f (xs : List S40) (hb : xs.length ≤ 1048576) (k : Nat) (hk : xs.length < k) : laws_toPointS.f k xs = some (xs.map toP) := by
  unfold laws_toPointS.f
  rw [if_pos (by omega), if_pos (by omega)]
  have h := toPoints_loop xs (by omega) xs.length k 0 (List.replicate ((xs.length : Int) : Int).toNat z36) (by simp) (by omega) hk
  simpa using h
theorem eqPoints_loop (xs : List S36) (hb : xs.length < 4611686018427387904) (d : Nat) : ∀ (k n : Nat), n + d = xs.length → d < k →
    laws_eqPointS.l0 k xs xs (n : Int) = some true := by
  induction d with
  | zero =>
    intro k n hn hk
    obtain ⟨k, rfl⟩ : ∃ m, k = m + 1 := ⟨k - 1, by omega⟩
    have c : ¬ (n : Int) < (xs.length : Int) := by omega
    simp only [laws_eqPointS.l0]; rw [if_neg c]
  | succ d ih =>
    intro k n hn hk
    obtain ⟨k, rfl⟩ : ∃ m, k = m + 1 := ⟨k - 1, by omega⟩
    have c1 : (n : Int) < (xs.length : Int) := by omega
    have c0 : (0 : Int) ≤ (n : Int) := by omega
    simp only [laws_eqPointS.l0, laws_eqPoint.f]
    rw [if_pos c1, if_pos c0, if_pos c1]
    simp only [if_true, Option.bind_some]
    rw [w64 (by omega) (by omega), succ_cast]
    exact ih k (n + 1) (by omega) (by omega)
theorem eqPoints_f (xs : List S36) (hb : xs.length ≤ 1048576) (k : Nat) (hk : xs.length < k) : laws_eqPointS.f k xs xs = some true := by
  unfold laws_eqPointS.f
  rw [if_pos rfl]
  exact eqPoints_loop xs (by omega) xs.length k 0 (by omega) hk
theorem FnExactRingServer : laws_FnExactRingServer.Pure := by
  intro l s hm hw hs
  by_cases c : (s.size : Int) > 1048576
  · exact ⟨1, by unfold laws_FnExactRingServer.f; rw [if_pos c]⟩
  · have hmx : maxLen ≤ 9223372036854775807 := by decide
    have e0 : laws_szPointS.f l 1048576 = some (if (1048576 - (l.length : Int)) < 0 then -1 else 1048576 - (l.length : Int)) := by
      unfold laws_szPointS.f
      rw [w64 (by omega) (by omega)]
      split <;> rfl
    by_cases c2 : (1048576 - (l.length : Int)) < 0
    · exact ⟨1, by unfold laws_FnExactRingServer.f; rw [if_neg c, e0, if_pos c2, Option.bind_some, if_pos (by omega)]⟩
    · obtain ⟨m, hm⟩ : ∃ m, m = l.length + (l.length + s.size) + 20 := ⟨_, rfl⟩
      have t1 : ∀ j, laws_toPointS.f (m + j) l = some (l.map toP) := fun j => toPoints_f l (by omega) (m + j) (by omega)
      have q1 : ∀ j, laws_eqPointS.f (m + j) (l.map toP) (l.map toP) = some true := fun j => eqPoints_f _ (by rw [List.length_map]; omega) (m + j) (by rw [List.length_map]; omega)
      obtain ⟨r, b, e⟩ := ring_same (l.map toP) s (by rw [List.length_map]; omega) (by omega) m (by rw [List.length_map]; omega)
      have e1 := fun j => (e j).1
      have e2 := fun j => (e j).2
      refine ⟨m + 2, ?_⟩
      unfold laws_FnExactRingServer.f
      rw [if_neg c, e0, if_neg c2, Option.bind_some, if_neg c2]
      simp only [t1, e1, e2, q1, Option.bind_some, if_true, bne_self_eq_false, Bool.false_eq_true, if_false, laws_FnExactRingServer.j0]

end Go.Proofs.Ytbehlonooafplaa.Pure
