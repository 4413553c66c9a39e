/- With one more a key stays, or goes to the new one, for drawn keys. No conditions. -/
import Derived.Test.YtbehlonooafplaaDoorPFnJumpx2
import Derived.Lib.VarintBits
set_option linter.unusedVariables false
set_option linter.unusedSimpArgs false
namespace Go.Proofs.YtbehlonooafplaaDoor.Pure
open Go.RowKit Go.Proofs.YtbehlonooafplaaDoor.PFnJump Go.Proofs.YtbehlonooafplaaDoorW.PrintWords Go.Proofs.YtbehlonooafplaaDoorW.PrintLast

theorem bytes_of (l : List Int) (h : ∀ x ∈ l, (Lit.int .u8 x).wf = true) : ∀ x ∈ l, 0 ≤ x ∧ x ≤ 255 := by
  intro x hx
  have := h x hx
  simp [Lit.wf, IntKind.min, IntKind.max, IntKind.bits, IntKind.signed] at this
  omega

/-! Whole numbers and rows of them -/
theorem w64 {x : Int} (h : -9223372036854775808 ≤ x) (h2 : x < 9223372036854775808) : wrap64 x = x := by unfold wrap64; omega
theorem rd_nat (l : List Int) (n : Nat) (h : n < l.length) : rd l (n : Int) = l[n] := by
  unfold rd; simp [List.getD_eq_getElem?_getD, h]
theorem succ_cast (n : Nat) : ((n : Int) + 1) = ((n + 1 : Nat) : Int) := by omega

/-! The cursor that draws an argument out of bytes -/
theorem and255 (y : Int) (h0 : 0 ≤ y) (h1 : y < 18446744073709551616) : bits .and .u64 y 255 = y % 256 := bits_mask .u64 64 (by decide) wraps_u64 8 (by decide) y h0 h1
theorem and255_range (s : Int) : 0 ≤ bits .and .u64 ((IntKind.u64.wrap s) / 1099511627776) 255 ∧ bits .and .u64 ((IntKind.u64.wrap s) / 1099511627776) 255 ≤ 255 := by
  have h : IntKind.u64.wrap s = s % 18446744073709551616 := IntKind.wrap_u64 s
  rw [h, and255 _ (by omega) (by omega)]
  omega
theorem rd_byte (l : List Int) (hc : ∀ x ∈ l, 0 ≤ x ∧ x ≤ 255) (i : Int) (h0 : 0 ≤ i) (h1 : i < l.length) : 0 ≤ rd l i ∧ rd l i ≤ 255 := by
  obtain ⟨n, rfl⟩ : ∃ n : Nat, i = (n : Int) := ⟨i.toNat, by omega⟩
  rw [rd_nat l n (by omega)]
  exact hc _ (List.getElem_mem _)
theorem next_ok (code : List Int) (hc : ∀ x ∈ code, 0 ≤ x ∧ x ≤ 255) (hb : code.length < 4611686018427387904) (a s : Int) (h0 : 0 ≤ a) (h1 : a < 4611686018427387904) :
    ∃ b s', spec_l1Cur_next.f code a s = some (b, a + 1, s') ∧ 0 ≤ b ∧ b ≤ 255 := by
  have hw : wrap64 (a + 1) = a + 1 := w64 (by omega) (by omega)
  unfold spec_l1Cur_next.f
  rw [hw]
  by_cases c : a < (code.length : Int)
  · have hr := rd_byte code hc a h0 c
    rw [if_pos c, if_pos h0, if_pos (by omega)]
    exact ⟨_, _, rfl, by rw [w64 (by omega) (by omega)]; exact hr⟩
  · rw [if_neg c, if_neg (by omega)]
    refine ⟨_, _, rfl, ?_⟩
    have hr := and255_range ((IntKind.u64.wrap (IntKind.u64.wrap (s * 6364136223846793005))) + 1442695040888963407)
    rw [w64 (by omega) (by omega)]
    exact hr
theorem tmod_range (x n : Int) (h : 0 ≤ x) (hn : 0 < n) : 0 ≤ Int.tmod x n ∧ Int.tmod x n < n := ⟨Int.tmod_nonneg n h, Int.tmod_lt_of_pos x hn⟩
theorem pick_ok (code : List Int) (hc : ∀ x ∈ code, 0 ≤ x ∧ x ≤ 255) (hb : code.length < 4611686018427387904) (a s n : Int) (h0 : 0 ≤ a) (h1 : a < 4611686018427380000) :
    ∃ v a' s', spec_l1Cur_pick.f code a s n = some (v, a', s') ∧ 0 ≤ v ∧ (v < n ∨ v = 0) ∧ a ≤ a' ∧ a' ≤ a + 2 := by
  unfold spec_l1Cur_pick.f
  by_cases c : n ≤ 1
  · rw [if_pos c]
    exact ⟨0, a, s, rfl, by omega, by omega, by omega, by omega⟩
  · rw [if_neg c]
    obtain ⟨b, s1, e1, hb0, hb1⟩ := next_ok code hc hb a s h0 (by omega)
    rw [e1, Option.bind_some]
    by_cases c2 : n > 200
    · rw [if_pos c2]
      obtain ⟨b2, s2, e2, hb2, hb3⟩ := next_ok code hc hb (a + 1) s1 (by omega) (by omega)
      try dsimp only
      rw [e2, Option.bind_some, if_neg (by omega)]
      have hw1 : wrap64 (b * 256) = b * 256 := w64 (by omega) (by omega)
      have hw2 : wrap64 (b * 256 + b2) = b * 256 + b2 := w64 (by omega) (by omega)
      have hr := tmod_range (b * 256 + b2) n (by omega) (by omega)
      refine ⟨_, _, _, rfl, ?_⟩
      simp only [hw1, hw2]
      exact ⟨hr.1, Or.inl hr.2, by omega, by omega⟩
    · rw [if_neg c2, if_neg (by omega)]
      have hr := tmod_range b n (by omega) (by omega)
      refine ⟨_, _, _, rfl, hr.1, Or.inl hr.2, ?_, ?_⟩ <;> dsimp only <;> omega
theorem among_ok (code : List Int) (hc : ∀ x ∈ code, 0 ≤ x ∧ x ≤ 255) (hb : code.length < 4611686018427387904) (l : List Int) (hl : 0 < l.length) (a s : Int) (h0 : 0 ≤ a) (h1 : a < 4611686018427380000) :
    ∃ v a' s', spec_l1Cur_among.f code a s l = some (v, a', s') ∧ v ∈ l ∧ a ≤ a' ∧ a' ≤ a + 2 := by
  unfold spec_l1Cur_among.f
  obtain ⟨v, a', s', e, h⟩ := pick_ok code hc hb a s (l.length : Int) h0 h1
  rw [e, Option.bind_some, if_pos h.1]
  have c : v < (l.length : Int) := by omega
  try dsimp only
  rw [if_pos c]
  refine ⟨_, _, _, rfl, ?_, h.2.2⟩
  obtain ⟨n, rfl⟩ : ∃ n : Nat, v = (n : Int) := ⟨v.toNat, by omega⟩
  try dsimp only
  rw [rd_nat l n (by omega)]
  exact List.getElem_mem _

/-! The hash: the program's loop -/
def fnv (s : ByteArray) (i : Nat) : Nat → Int → Int
  | 0, h => h
  | d + 1, h => fnv s (i + 1) d (((Go.bits .xor .u32 h ((bt s (i : Int)) % 4294967296)) * 16777619) % 4294967296)
theorem hashed_loop (s : ByteArray) (hs : s.size < 4611686018427387904) (d : Nat) : ∀ (k n : Nat) (h : Int), n + d = s.size → d < k →
    impl_hashed.l0 k h s (s.size : Int) (n : Int) = some (fnv s n d h) := by
  induction d with
  | zero =>
    intro k n h hn hk
    obtain ⟨k, rfl⟩ : ∃ m, k = m + 1 := ⟨k - 1, by omega⟩
    have c : ¬ (n : Int) < (s.size : Int) := by omega
    simp only [impl_hashed.l0]; rw [if_neg c]; rfl
  | succ d ih =>
    intro k n h hn hk
    obtain ⟨k, rfl⟩ : ∃ m, k = m + 1 := ⟨k - 1, by omega⟩
    have c1 : (n : Int) < (s.size : Int) := by omega
    have c0 : (0 : Int) ≤ (n : Int) := by omega
    simp only [impl_hashed.l0]
    rw [if_pos c1, if_pos c0, if_pos c1, w64 (by omega) (by omega), succ_cast]
    exact ih k (n + 1) _ (by omega) (by omega)
theorem hashed_f (s : ByteArray) (h : Int) (hs : s.size < 4611686018427387904) (k : Nat) (hk : s.size < k) : impl_hashed.f k h s = some (fnv s 0 s.size h) :=
  hashed_loop s hs s.size k 0 h (by omega) hk
theorem fnv_range (s : ByteArray) (d : Nat) : ∀ (n : Nat) (h : Int), 0 ≤ h → h < 4294967296 → 0 ≤ fnv s n d h ∧ fnv s n d h < 4294967296 := by
  induction d with
  | zero => intro n h a b; exact ⟨a, b⟩
  | succ d ih => intro n h a b; exact ih _ _ (Int.emod_nonneg _ (by omega)) (Int.emod_lt_of_pos _ (by omega))

/-! The hash, of the program and of the reference, are one -/
theorem specHash_loop (s : ByteArray) (hs : s.size < 4611686018427387904) (d : Nat) : ∀ (k n : Nat) (h : Int), n + d = s.size → d < k →
    spec_HashOf.l0 k s h (n : Int) = (impl_hashed.l0 k h s (s.size : Int) (n : Int)).bind fun t => (some (Go.bits .xor .u32 (((Go.bits .xor .u32 t (t / 32768)) * 2246822507) % 4294967296) ((((Go.bits .xor .u32 t (t / 32768)) * 2246822507) % 4294967296) / 8192))) := by
  induction d with
  | zero =>
    intro k n h hn hk
    obtain ⟨k, rfl⟩ : ∃ m, k = m + 1 := ⟨k - 1, by omega⟩
    have c : ¬ (n : Int) < (s.size : Int) := by omega
    simp only [impl_hashed.l0, spec_HashOf.l0]; rw [if_neg c, if_neg c]; rfl
  | succ d ih =>
    intro k n h hn hk
    obtain ⟨k, rfl⟩ : ∃ m, k = m + 1 := ⟨k - 1, by omega⟩
    have c1 : (n : Int) < (s.size : Int) := by omega
    have c0 : (0 : Int) ≤ (n : Int) := by omega
    simp only [impl_hashed.l0, spec_HashOf.l0]
    rw [if_pos c1, if_pos c0, if_pos c1, if_pos c0, if_pos c1, w64 (by omega) (by omega), succ_cast]
    exact ih k (n + 1) _ (by omega) (by omega)
def hashB (s : ByteArray) : Int := (fun t => (Go.bits .xor .u32 (((Go.bits .xor .u32 t (t / 32768)) * 2246822507) % 4294967296) ((((Go.bits .xor .u32 t (t / 32768)) * 2246822507) % 4294967296) / 8192))) (fnv s 0 s.size 2166136261)
theorem implHashOf_f (s : ByteArray) (hs : s.size < 4611686018427387904) (k : Nat) (hk : s.size < k) : impl_HashOf.f k s = some (hashB s) := by
  unfold impl_HashOf.f; rw [hashed_f s _ hs k hk]; rfl
theorem specHashOf_f (s : ByteArray) (hs : s.size < 4611686018427387904) (k : Nat) (hk : s.size < k) : spec_HashOf.f k s = some (hashB s) := by
  have h := specHash_loop s hs s.size k 0 2166136261 (by omega) hk
  have h2 := hashed_loop s hs s.size k 0 2166136261 (by omega) hk
  rw [h2] at h; exact h

/-! Numbers of a ring that grows by one -/
def digB (n : Nat) : ByteArray := ⟨(Go.Lib.decDigits n).toArray⟩
theorem itoa_f (n : Nat) (h : n < 100) : strconv_Itoa.f (n : Int) = some (digB n) := by
  unfold strconv_Itoa.f digB
  rw [if_pos (by omega), if_pos (by omega), Int.toNat_natCast]
theorem dec_small (n : Nat) (h : n < 10) : Go.Lib.decDigits n = [UInt8.ofNat (48 + n)] := by
  rw [Go.Lib.decDigits, dif_pos h]
theorem dec_two (n : Nat) (h : 10 ≤ n) (h2 : n < 100) : Go.Lib.decDigits n = [UInt8.ofNat (48 + n / 10), UInt8.ofNat (48 + n % 10)] := by
  rw [Go.Lib.decDigits, dif_neg (by omega), dec_small (n / 10) (by omega)]; rfl
theorem dig_size (n : Nat) (h : n < 100) : (digB n).size ≤ 2 := by
  unfold digB
  by_cases c : n < 10
  · rw [dec_small n c]; show 1 ≤ 2; omega
  · rw [dec_two n (by omega) h]; exact Nat.le_refl _
theorem strOf_one (n : Nat) (h : n < 256) : strOfNums [(n : Int)] = ⟨#[UInt8.ofNat n]⟩ := by
  unfold strOfNums
  rw [List.map_cons, List.map_nil, Int.toNat_natCast]
theorem num_small (n : Nat) (h : n < 10) (k : Nat) : spec_l1Num.f (k + 1) (n : Int) = some (digB n) := by
  simp only [spec_l1Num.f]
  rw [if_pos (by omega), w64 (x := 48 + (n : Int)) (by omega) (by omega), show (48 + (n : Int)) % 256 = ((48 + n : Nat) : Int) by omega, strOf_one _ (by omega)]
  unfold digB
  rw [dec_small n h]
theorem num_f (n : Nat) (h : n < 100) (k : Nat) : spec_l1Num.f (k + 2) (n : Int) = some (digB n) := by
  by_cases c : n < 10
  · exact num_small n c (k + 1)
  · have h1 : Int.tdiv (n : Int) 10 = ((n / 10 : Nat) : Int) := by
      rw [Int.tdiv_eq_ediv_of_nonneg (by omega)]; omega
    have h2 : Int.tmod (n : Int) 10 = ((n % 10 : Nat) : Int) := by
      rw [Int.tmod_eq_emod_of_nonneg (by omega)]; omega
    rw [show k + 2 = (k + 1) + 1 from rfl, spec_l1Num.f.eq_def]
    simp only []
    rw [if_neg (by omega), h1, h2, w64 (x := ((n / 10 : Nat) : Int)) (by omega) (by omega), num_small (n / 10) (by omega) k, Option.bind_some, Option.bind_some, w64 (x := 48 + ((n % 10 : Nat) : Int)) (by omega) (by omega), show (48 + ((n % 10 : Nat) : Int)) % 256 = ((48 + n % 10 : Nat) : Int) by omega, strOf_one _ (by omega)]
    have hs := dig_size (n / 10) (by omega)
    rw [if_pos (by have : (⟨#[UInt8.ofNat (48 + n % 10)]⟩ : ByteArray).size = 1 := rfl; omega)]
    unfold digB
    rw [dec_small (n / 10) (by omega), dec_two n (by omega) h]
    rfl
def keyB (s : ByteArray) (n : Nat) : ByteArray := (s ++ (⟨#[35]⟩ : ByteArray)) ++ digB n
theorem key_sizes (s : ByteArray) (n : Nat) (h : n < 100) (hs : s.size < 1000000000000) : (s ++ (⟨#[35]⟩ : ByteArray)).size = s.size + 1 ∧ (keyB s n).size ≤ s.size + 3 := by
  have h1 : (s ++ (⟨#[35]⟩ : ByteArray)).size = s.size + 1 := by rw [ByteArray.size_append]; rfl
  have h2 := dig_size n h
  refine ⟨h1, ?_⟩
  unfold keyB
  rw [ByteArray.size_append, h1]; omega
def jmpP (p : Nat → Bool) : Nat → Nat → Int → Int
  | 0, _, b => b
  | d + 1, n, b => jmpP p d (n + 1) (if p n = true then (n : Int) else b)
theorem jmpP_zero (p : Nat → Bool) (n : Nat) (b : Int) : jmpP p 0 n b = b := rfl
theorem jmpP_succ (p : Nat → Bool) (d n : Nat) (b : Int) : jmpP p (d + 1) n b = jmpP p d (n + 1) (if p n = true then (n : Int) else b) := rfl
def hitB (s : ByteArray) (n : Nat) : Bool := decide (Int.tmod (hashB (keyB s n)) ((n + 1 : Nat) : Int) = 0)
theorem hitB_pos (s : ByteArray) (n : Nat) (h : Int.tmod (hashB (keyB s n)) ((n + 1 : Nat) : Int) = 0) : hitB s n = true := decide_eq_true h
theorem hitB_neg (s : ByteArray) (n : Nat) (h : ¬ Int.tmod (hashB (keyB s n)) ((n + 1 : Nat) : Int) = 0) : hitB s n = false := decide_eq_false h
theorem jump_impl (s : ByteArray) (hs : s.size < 1000000000000) (d : Nat) : ∀ (k n : Nat) (b : Int), n + d ≤ 100 → d + s.size + 10 < k →
    impl_JumpOf.l0 k s ((n + d : Nat) : Int) b (n : Int) = some (jmpP (hitB s) d n b, true) := by
  induction d with
  | zero =>
    intro k n b hn hk
    obtain ⟨k, rfl⟩ : ∃ m, k = m + 1 := ⟨k - 1, by omega⟩
    simp only [impl_JumpOf.l0]
    rw [if_neg (by omega), jmpP_zero]
  | succ d ih =>
    intro k n b hn hk
    obtain ⟨k, rfl⟩ : ∃ m, k = m + 1 := ⟨k - 1, by omega⟩
    obtain ⟨z1, z2⟩ := key_sizes s n (by omega) hs
    have z3 := dig_size n (by omega)
    simp only [impl_JumpOf.l0]
    rw [if_pos (by omega), if_pos (by omega), itoa_f n (by omega), Option.bind_some, if_pos (by omega)]
    have hh := implHashOf_f (keyB s n) (by omega) k (by omega)
    rw [show (s ++ (⟨#[35]⟩ : ByteArray)) ++ digB n = keyB s n from rfl, hh, Option.bind_some, w64 (x := (n : Int) + 1) (by omega) (by omega), show ((n : Int) + 1) % 4294967296 = ((n + 1 : Nat) : Int) by omega, if_neg (by omega), succ_cast, show ((n + (d + 1) : Nat) : Int) = ((n + 1 + d : Nat) : Int) by omega]
    have i1 := ih k (n + 1) (n : Int) (by omega) (by omega)
    have i2 := ih k (n + 1) b (by omega) (by omega)
    rw [i1, i2]
    rw [jmpP_succ]
    by_cases c : Int.tmod (hashB (keyB s n)) ((n + 1 : Nat) : Int) = 0
    · rw [if_pos c, hitB_pos s n c, if_pos rfl]
    · rw [if_neg c, hitB_neg s n c, if_neg Bool.false_ne_true]
theorem jump_spec (s : ByteArray) (hs : s.size < 1000000000000) (d : Nat) : ∀ (k n : Nat) (b : Int), n + d ≤ 100 → d + s.size + 10 < k →
    spec_JumpOf.l0 k s ((n + d : Nat) : Int) b (n : Int) = some (jmpP (hitB s) d n b, true) := by
  induction d with
  | zero =>
    intro k n b hn hk
    obtain ⟨k, rfl⟩ : ∃ m, k = m + 1 := ⟨k - 1, by omega⟩
    simp only [spec_JumpOf.l0]
    rw [if_neg (by omega), jmpP_zero]
  | succ d ih =>
    intro k n b hn hk
    obtain ⟨k, rfl⟩ : ∃ m, k = m + 1 := ⟨k - 1, by omega⟩
    obtain ⟨z1, z2⟩ := key_sizes s n (by omega) hs
    have z3 := dig_size n (by omega)
    have hn2 : spec_l1Num.f k (n : Int) = some (digB n) := by
      obtain ⟨q, rfl⟩ : ∃ q, k = q + 2 := ⟨k - 2, by omega⟩
      exact num_f n (by omega) q
    simp only [spec_JumpOf.l0]
    rw [if_pos (by omega), if_pos (by omega), hn2, Option.bind_some, if_pos (by omega)]
    have hh := specHashOf_f (keyB s n) (by omega) k (by omega)
    rw [show (s ++ (⟨#[35]⟩ : ByteArray)) ++ digB n = keyB s n from rfl, hh, Option.bind_some, w64 (x := (n : Int) + 1) (by omega) (by omega), show ((n : Int) + 1) % 4294967296 = ((n + 1 : Nat) : Int) by omega, if_neg (by omega), succ_cast, show ((n + (d + 1) : Nat) : Int) = ((n + 1 + d : Nat) : Int) by omega]
    have i1 := ih k (n + 1) (n : Int) (by omega) (by omega)
    have i2 := ih k (n + 1) b (by omega) (by omega)
    rw [i1, i2]
    rw [jmpP_succ]
    by_cases c : Int.tmod (hashB (keyB s n)) ((n + 1 : Nat) : Int) = 0
    · rw [if_pos c, hitB_pos s n c, if_pos rfl]
    · rw [if_neg c, hitB_neg s n c, if_neg Bool.false_ne_true]
/-- what JumpOf tells -/
def jumpV (s : ByteArray) (m : Int) : Int × Bool := if 1 ≤ m ∧ m ≤ 100 then (jmpP (hitB s) (m.toNat - 1) 1 0, true) else (0, false)
theorem within_f (a b c : Int) : impl_within.f a b c = some (decide (b ≤ a) && decide (a ≤ c)) := by
  unfold impl_within.f
  by_cases h : b ≤ a
  · rw [if_pos h, decide_eq_true h, Bool.true_and]
  · rw [if_neg h, decide_eq_false h, Bool.false_and]
theorem l1In_f (a b c : Int) : spec_l1In.f a b c = some (decide (b ≤ a) && decide (a ≤ c)) := by
  unfold spec_l1In.f
  by_cases h : a ≥ b
  · rw [if_pos h, decide_eq_true (show b ≤ a from h), Bool.true_and]
  · rw [if_neg h, decide_eq_false (show ¬ b ≤ a from h), Bool.false_and]
theorem jumpOf_f (s : ByteArray) (m : Int) (hs : s.size < 1000000000000) (k : Nat) (hk : s.size + 200 < k) : impl_JumpOf.f k s m = some (jumpV s m) ∧ spec_JumpOf.f k s m = some (jumpV s m) := by
  unfold impl_JumpOf.f spec_JumpOf.f jumpV
  rw [within_f, l1In_f, Option.bind_some, Option.bind_some]
  by_cases c : 1 ≤ m ∧ m ≤ 100
  · have c2 : (decide (1 ≤ m) && decide (m ≤ 100)) = true := by simpa using c
    obtain ⟨d, rfl⟩ : ∃ d : Nat, m = ((1 + d : Nat) : Int) := ⟨m.toNat - 1, by omega⟩
    rw [c2, if_pos rfl, if_pos rfl, if_pos c, Int.toNat_natCast, show 1 + d - 1 = d by omega]
    exact ⟨jump_impl s hs d k 1 0 (by omega) (by omega), jump_spec s hs d k 1 0 (by omega) (by omega)⟩
  · have c2 : (decide (1 ≤ m) && decide (m ≤ 100)) = false := by
      cases h : (decide (1 ≤ m) && decide (m ≤ 100)) with
      | false => rfl
      | true => exact absurd (by simpa using h) c
    rw [c2, if_neg c]
    exact ⟨rfl, rfl⟩

theorem jmpP_range (p : Nat → Bool) (d : Nat) : ∀ (n : Nat) (b : Int), 0 ≤ b → b < n → 0 ≤ jmpP p d n b ∧ jmpP p d n b < n + d := by
  induction d with
  | zero => intro n b h0 h1; rw [jmpP_zero]; exact ⟨h0, by omega⟩
  | succ d ih =>
    intro n b h0 h1
    rw [jmpP_succ]
    have z : 0 ≤ (if p n = true then (n : Int) else b) ∧ (if p n = true then (n : Int) else b) < ((n + 1 : Nat) : Int) := by
      split <;> omega
    have := ih (n + 1) _ z.1 z.2
    omega
theorem jmpP_last (p : Nat → Bool) (d : Nat) : ∀ (n : Nat) (b : Int), jmpP p (d + 1) n b = jmpP p d n b ∨ jmpP p (d + 1) n b = ((n + d : Nat) : Int) := by
  induction d with
  | zero =>
    intro n b
    rw [jmpP_succ, jmpP_zero, jmpP_zero]
    split
    · exact Or.inr rfl
    · exact Or.inl rfl
  | succ d ih =>
    intro n b
    have h := ih (n + 1) (if p n = true then (n : Int) else b)
    rw [show n + 1 + d = n + (d + 1) by omega] at h
    rw [jmpP_succ p (d + 1) n b, jmpP_succ p d n b]
    exact h
theorem ofs_ok (code : List Int) (hc : ∀ x ∈ code, 0 ≤ x ∧ x ≤ 255) (hb : code.length < 4611686018427387904) (l : List ByteArray) (hl : 0 < l.length) (a s : Int) (h0 : 0 ≤ a) (h1 : a < 4611686018427380000) :
    ∃ v a' s', spec_l1Cur_of.f code a s l = some (v, a', s') ∧ v ∈ l ∧ a ≤ a' ∧ a' ≤ a + 2 := by
  unfold spec_l1Cur_of.f
  obtain ⟨v, a', s', e, h2, h3, h4⟩ := pick_ok code hc hb a s (l.length : Int) h0 h1
  have hv : v < (l.length : Int) := by omega
  obtain ⟨n, rfl⟩ := Int.eq_ofNat_of_zero_le h2
  rw [e, Option.bind_some, if_pos (by omega), if_pos hv]
  refine ⟨_, _, _, rfl, ?_, h4⟩
  have hn : n < l.length := by omega
  have e2 : rdOf ByteArray.empty l (n : Int) = l[n] := by
    unfold rdOf; simp [List.getD_eq_getElem?_getD, hn]
  show rdOf ByteArray.empty l (n : Int) ∈ l
  rw [e2]; exact List.getElem_mem _
theorem drawJump_ok (code : List Int) (hc : ∀ x ∈ code, 0 ≤ x ∧ x ≤ 255) (hb : code.length < 4611686018427387904) : ∃ s m, s.size ≤ 100 ∧ ∀ k, 10 < k → spec_DrawJumpOf.f k code = some (s, m) := by
  obtain ⟨v, a1, s1, e1, h0, h1, h2⟩ := pick_ok code hc hb 0 0 99 (by omega) (by omega)
  obtain ⟨n, rfl⟩ := Int.eq_ofNat_of_zero_le h0
  have hz := dig_size n (by omega)
  obtain ⟨s, a2, s2, e2, hm, h3⟩ := ofs_ok code hc hb [(⟨#[]⟩ : ByteArray), (⟨#[97]⟩ : ByteArray), (⟨#[98]⟩ : ByteArray), (⟨#[104, 116, 116, 112, 58, 47, 47, 104, 47, 97]⟩ : ByteArray), (⟨#[107]⟩ : ByteArray) ++ digB n] (by simp) a1 s1 (by omega) (by omega)
  obtain ⟨m, a3, s3, e3, _⟩ := among_ok code hc hb [0, 1, 2, 5, 10, 50, 100, 101] (by decide) a2 s2 (by omega) (by omega)
  refine ⟨s, m, ?_, fun k hk => ?_⟩
  · simp only [List.mem_cons, List.not_mem_nil, or_false] at hm
    rcases hm with rfl | rfl | rfl | rfl | rfl
    · decide
    · decide
    · decide
    · decide
    · rw [ByteArray.size_append, show (⟨#[107]⟩ : ByteArray).size = 1 from rfl]; omega
  · obtain ⟨q, rfl⟩ : ∃ q, k = q + 2 := ⟨k - 2, by omega⟩
    unfold spec_DrawJumpOf.f spec_l1Cur_ringKey.f
    rw [e1, Option.bind_some]
    try dsimp only
    rw [num_f n (by omega) q, Option.bind_some, if_pos (by omega), e2, Option.bind_some, Option.bind_some]
    try dsimp only
    rw [e3, Option.bind_some]
theorem FnJump : laws_FnJump.Pure := by
  intro code hm hs hw
  have hc := bytes_of code hw
  have hb : code.length < 4611686018427387904 := by omega
  by_cases big : (code.length : Int) > 1048576
  · exact ⟨0, by unfold laws_FnJump.f; rw [if_pos big]⟩
  obtain ⟨s, m, hss, hd⟩ := drawJump_ok code hc hb
  have h := jumpOf_f s m (by omega) 1001 (by omega)
  refine ⟨1001, ?_⟩
  unfold laws_FnJump.f
  rw [if_neg big, hd 1001 (by omega), Option.bind_some]
  try dsimp only
  rw [h.1, h.2]
  simp only [Option.bind_some, bne_self_eq_false, Bool.false_eq_true, if_false, laws_FnJump.j0]
  by_cases c : 1 ≤ m ∧ m ≤ 100
  · have v : jumpV s m = (jmpP (hitB s) (m.toNat - 1) 1 0, true) := by unfold jumpV; rw [if_pos c]
    have r := jmpP_range (hitB s) (m.toNat - 1) 1 0 (by omega) (by omega)
    rw [v]
    simp only [if_true]
    by_cases c2 : m = 100
    · rw [if_pos c2, if_pos (by omega), decide_eq_true (by omega)]
    · have v2 : jumpV s (m + 1) = (jmpP (hitB s) m.toNat 1 0, true) := by
        unfold jumpV; rw [if_pos (by omega), show (m + 1).toNat - 1 = m.toNat by omega]
      have h2 := (jumpOf_f s (m + 1) (by omega) 1000 (by omega)).1
      rw [if_neg c2, w64 (x := m + 1) (by omega) (by omega), h2, Option.bind_some, v2]
      simp only [if_true]
      rw [if_pos (by omega), if_pos (by omega)]
      have z := jmpP_last (hitB s) (m.toNat - 1) 1 0
      rw [show m.toNat - 1 + 1 = m.toNat by omega] at z
      rcases z with z | z
      · rw [if_pos z]
      · by_cases e : jmpP (hitB s) m.toNat 1 0 = jmpP (hitB s) (m.toNat - 1) 1 0
        · rw [if_pos e]
        · rw [if_neg e]
          exact congrArg some (beq_iff_eq.mpr (by rw [z]; omega))
  · have v : jumpV s m = (0, false) := by unfold jumpV; rw [if_neg c]
    rw [v]
    rfl

end Go.Proofs.YtbehlonooafplaaDoor.Pure
