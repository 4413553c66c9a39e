/- For all drawn pieces the program writes the chunks that the reference writes, reads the body back whatever stands behind them and asks for more where they are cut off, and hexadecimal texts are the reference's and read back, for all drawings of at most 1048576 bytes. -/
import Derived.Test.YtplcocljgoipkaaDoorPFnChunksx5
import Derived.Lib.VarintBits
import Derived.Lib.QuoteBits
set_option linter.unusedVariables false
set_option linter.unusedSimpArgs false
namespace Go.Proofs.YtplcocljgoipkaaDoor.Pure
open Go.RowKit Go.Proofs.YtplcocljgoipkaaDoor.PFnChunks Go.Proofs.YtplcocljgoipkaaDoorW.PrintWords Go.Proofs.YtplcocljgoipkaaDoorW.PrintLast

/-! Whole numbers and rows of them -/
theorem w64 {x : Int} (h : -9223372036854775808 ≤ x) (h2 : x < 9223372036854775808) : wrap64 x = x := by unfold wrap64; omega
theorem rd_nat (l : List Int) (n : Nat) (h : n < l.length) : rd l (n : Int) = l[n] := by
  unfold rd; simp [List.getD_eq_getElem?_getD, h]
theorem succ_cast (n : Nat) : ((n : Int) + 1) = ((n + 1 : Nat) : Int) := by omega

theorem bytes_of (l : List Int) (h : ∀ x ∈ l, (Lit.int .u8 x).wf = true) : ∀ x ∈ l, 0 ≤ x ∧ x ≤ 255 := by
  intro x hx
  have := h x hx
  simp [Lit.wf, IntKind.min, IntKind.max, IntKind.bits, IntKind.signed] at this
  omega

/-! The cursor that draws an argument out of bytes -/
theorem and255 (y : Int) (h0 : 0 ≤ y) (h1 : y < 18446744073709551616) : bits .and .u64 y 255 = y % 256 := bits_mask .u64 64 (by decide) wraps_u64 8 (by decide) y h0 h1
theorem and255_range (s : Int) : 0 ≤ bits .and .u64 ((IntKind.u64.wrap s) / 1099511627776) 255 ∧ bits .and .u64 ((IntKind.u64.wrap s) / 1099511627776) 255 ≤ 255 := by
  have h : IntKind.u64.wrap s = s % 18446744073709551616 := IntKind.wrap_u64 s
  rw [h, and255 _ (by omega) (by omega)]
  omega
theorem rd_byte (l : List Int) (hc : ∀ x ∈ l, 0 ≤ x ∧ x ≤ 255) (i : Int) (h0 : 0 ≤ i) (h1 : i < l.length) : 0 ≤ rd l i ∧ rd l i ≤ 255 := by
  obtain ⟨n, rfl⟩ : ∃ n : Nat, i = (n : Int) := ⟨i.toNat, by omega⟩
  rw [rd_nat l n (by omega)]
  exact hc _ (List.getElem_mem _)
theorem next_ok (code : List Int) (hc : ∀ x ∈ code, 0 ≤ x ∧ x ≤ 255) (hb : code.length < 4611686018427387904) (a s : Int) (h0 : 0 ≤ a) (h1 : a < 4611686018427387904) :
    ∃ b s', spec_l1Cur_next.f code a s = some (b, a + 1, s') ∧ 0 ≤ b ∧ b ≤ 255 := by
  have hw : wrap64 (a + 1) = a + 1 := w64 (by omega) (by omega)
  unfold spec_l1Cur_next.f
  rw [hw]
  by_cases c : a < (code.length : Int)
  · have hr := rd_byte code hc a h0 c
    rw [if_pos c, if_pos h0, if_pos (by omega)]
    exact ⟨_, _, rfl, by rw [w64 (by omega) (by omega)]; exact hr⟩
  · rw [if_neg c, if_neg (by omega)]
    refine ⟨_, _, rfl, ?_⟩
    have hr := and255_range ((IntKind.u64.wrap (IntKind.u64.wrap (s * 6364136223846793005))) + 1442695040888963407)
    rw [w64 (by omega) (by omega)]
    exact hr
theorem tmod_range (x n : Int) (h : 0 ≤ x) (hn : 0 < n) : 0 ≤ Int.tmod x n ∧ Int.tmod x n < n := ⟨Int.tmod_nonneg n h, Int.tmod_lt_of_pos x hn⟩
theorem pick_ok (code : List Int) (hc : ∀ x ∈ code, 0 ≤ x ∧ x ≤ 255) (hb : code.length < 4611686018427387904) (a s n : Int) (h0 : 0 ≤ a) (h1 : a < 4611686018427380000) :
    ∃ v a' s', spec_l1Cur_pick.f code a s n = some (v, a', s') ∧ 0 ≤ v ∧ (v < n ∨ v = 0) ∧ a ≤ a' ∧ a' ≤ a + 2 := by
  unfold spec_l1Cur_pick.f
  by_cases c : n ≤ 1
  · rw [if_pos c]
    exact ⟨0, a, s, rfl, by omega, by omega, by omega, by omega⟩
  · rw [if_neg c]
    obtain ⟨b, s1, e1, hb0, hb1⟩ := next_ok code hc hb a s h0 (by omega)
    rw [e1, Option.bind_some]
    by_cases c2 : n > 200
    · rw [if_pos c2]
      obtain ⟨b2, s2, e2, hb2, hb3⟩ := next_ok code hc hb (a + 1) s1 (by omega) (by omega)
      try dsimp only
      rw [e2, Option.bind_some, if_neg (by omega)]
      have hw1 : wrap64 (b * 256) = b * 256 := w64 (by omega) (by omega)
      have hw2 : wrap64 (b * 256 + b2) = b * 256 + b2 := w64 (by omega) (by omega)
      have hr := tmod_range (b * 256 + b2) n (by omega) (by omega)
      refine ⟨_, _, _, rfl, ?_⟩
      simp only [hw1, hw2]
      exact ⟨hr.1, Or.inl hr.2, by omega, by omega⟩
    · rw [if_neg c2, if_neg (by omega)]
      have hr := tmod_range b n (by omega) (by omega)
      refine ⟨_, _, _, rfl, hr.1, Or.inl hr.2, ?_, ?_⟩ <;> dsimp only <;> omega
theorem one_ok (code : List Int) (hc : ∀ x ∈ code, 0 ≤ x ∧ x ≤ 255) (hb : code.length < 4611686018427387904) (a s n : Int) (h0 : 0 ≤ a) (h1 : a < 4611686018427380000) :
    ∃ v a' s', spec_l1Cur_one.f code a s n = some (v, a', s') ∧ a ≤ a' ∧ a' ≤ a + 2 := by
  unfold spec_l1Cur_one.f
  obtain ⟨v, a', s', e, h⟩ := pick_ok code hc hb a s n h0 h1
  rw [e, Option.bind_some]
  exact ⟨_, _, _, rfl, h.2.2⟩

/-! The reader of chunks, in plain words -/
abbrev emp : ByteArray := ⟨#[]⟩
def hv (b : Int) : Int := if 48 ≤ b ∧ b ≤ 57 then b - 48 else if 97 ≤ b ∧ b ≤ 102 then b - 87 else if 65 ≤ b ∧ b ≤ 70 then b - 55 else -1
theorem hv_range (b : Int) : -1 ≤ hv b ∧ hv b ≤ 15 := by
  unfold hv
  split
  · omega
  · split
    · omega
    · split <;> omega
theorem hv_13 (b : Int) (h : 0 ≤ hv b) : b ≠ 13 := by
  intro e; subst e; exact absurd h (by decide)
/-- where the digits end, at most c of them -/
def run (s : ByteArray) : Nat → Nat → Nat
  | 0, e => e
  | c + 1, e => if e < s.size ∧ 0 ≤ hv (bt s (e : Int)) then run s c (e + 1) else e
/-- what the digits count -/
def val (s : ByteArray) : Nat → Nat → Int → Int
  | 0, _, acc => acc
  | c + 1, p, acc => val s c (p + 1) (16 * acc + hv (bt s (p : Int)))
theorem run_ge (s : ByteArray) : ∀ c e, e ≤ run s c e ∧ run s c e ≤ e + c
  | 0, e => by simp [run]
  | c + 1, e => by
    unfold run
    have := run_ge s c (e + 1)
    split <;> omega
theorem run_le (s : ByteArray) : ∀ c e, e ≤ s.size → run s c e ≤ s.size
  | 0, e, h => by simpa [run] using h
  | c + 1, e, h => by
    unfold run
    split
    · rename_i h2; exact run_le s c (e + 1) (by omega)
    · exact h
theorem run_in (s : ByteArray) : ∀ c e i, e ≤ i → i < run s c e → i < s.size ∧ 0 ≤ hv (bt s (i : Int))
  | 0, e, i, h, h2 => by simp [run] at h2; omega
  | c + 1, e, i, h, h2 => by
    unfold run at h2
    split at h2
    · rename_i h3
      by_cases c2 : i = e
      · subst c2; exact h3
      · exact run_in s c (e + 1) i (by omega) h2
    · omega
theorem run_end (s : ByteArray) : ∀ c e, run s c e = e + c ∨ s.size ≤ run s c e ∨ hv (bt s (run s c e : Int)) < 0
  | 0, e => Or.inl (by simp [run])
  | c + 1, e => by
    unfold run
    split
    · have := run_end s c (e + 1); rcases this with h | h | h
      · left; omega
      · right; left; exact h
      · right; right; exact h
    · rename_i h
      by_cases c2 : e < s.size
      · right; right
        have : ¬ 0 ≤ hv (bt s (e : Int)) := fun h3 => h ⟨c2, h3⟩
        omega
      · right; left; omega
theorem val_range (s : ByteArray) : ∀ (c p : Nat) (acc : Int), 0 ≤ acc → (∀ i, p ≤ i → i < p + c → 0 ≤ hv (bt s (i : Int))) → 0 ≤ val s c p acc ∧ val s c p acc < (acc + 1) * 16 ^ c
  | 0, p, acc, h, _ => by simp [val]; omega
  | c + 1, p, acc, h, hh => by
    unfold val
    have h1 := hh p (Nat.le_refl _) (by omega)
    have h2 := (hv_range (bt s (p : Int))).2
    have ih := val_range s c (p + 1) (16 * acc + hv (bt s (p : Int))) (by omega) (fun i a b => hh i (by omega) (by omega))
    refine ⟨ih.1, Int.lt_of_lt_of_le ih.2 ?_⟩
    have e : (16 : Int) ^ (c + 1) = 16 * 16 ^ c := by rw [Int.pow_succ, Int.mul_comm]
    rw [e, ← Int.mul_assoc]
    exact Int.mul_le_mul_of_nonneg_right (by omega) (Int.pow_nonneg (by decide))
abbrev R3 := ByteArray × Int × Int
def PT (rec : Nat → ByteArray → Int → Option R3) (s : ByteArray) (a e : Nat) (n : Int) (body : ByteArray) (many : Int) : Option R3 :=
  if e = s.size then some (emp, 0, 1)
  else if e = a then some (emp, 0, 2)
  else if ¬ bt s (e : Int) = 13 then some (emp, 0, 2)
  else if (body.size : Int) + n > 300 then some (emp, 0, 2)
  else if n > 0 ∧ many = 60 then some (emp, 0, 2)
  else if e + 1 = s.size then some (emp, 0, 1)
  else if ¬ bt s ((e + 1 : Nat) : Int) = 10 then some (emp, 0, 2)
  else if e + 2 + n.toNat > s.size then some (emp, 0, 1)
  else if e + 2 + n.toNat = s.size then some (emp, 0, 1)
  else if ¬ bt s ((e + 2 + n.toNat : Nat) : Int) = 13 then some (emp, 0, 2)
  else if e + 2 + n.toNat + 1 = s.size then some (emp, 0, 1)
  else if ¬ bt s ((e + 2 + n.toNat + 1 : Nat) : Int) = 10 then some (emp, 0, 2)
  else if n = 0 then some (body ++ s.extract (e + 2) (e + 2 + n.toNat), ((e + 2 + n.toNat + 2 : Nat) : Int), 0)
  else rec (e + 2 + n.toNat + 2) (body ++ s.extract (e + 2) (e + 2 + n.toNat)) (many + 1)
def PL : Nat → ByteArray → Nat → ByteArray → Int → Option R3
  | 0, _, _, _, _ => none
  | f + 1, s, a, body, many => PT (fun x y z => PL f s x y z) s a (run s 4 a) (val s (run s 4 a - a) a 0) body many
theorem pval (s : ByteArray) (a : Nat) : 0 ≤ val s (run s 4 a - a) a 0 ∧ val s (run s 4 a - a) a 0 < 65536 := by
  have h := run_ge s 4 a
  have z := val_range s (run s 4 a - a) a 0 (by omega) (fun i h1 h2 => (run_in s 4 a i h1 (by omega)).2)
  refine ⟨z.1, Int.lt_of_lt_of_le z.2 ?_⟩
  have : run s 4 a - a = 0 ∨ run s 4 a - a = 1 ∨ run s 4 a - a = 2 ∨ run s 4 a - a = 3 ∨ run s 4 a - a = 4 := by omega
  rcases this with h | h | h | h | h <;> rw [h] <;> decide
/-- a body with what was cut out behind it -/
theorem body_size (s body : ByteArray) (x y : Nat) (h : y ≤ s.size) (h2 : x ≤ y) : (body ++ s.extract x y).size = body.size + (y - x) := by
  rw [ByteArray.size_append, ByteArray.size_extract, Nat.min_eq_left h]
/-- it always ends -/
theorem PL_total : ∀ f s a body many, a ≤ s.size → s.size - a < f → body.size ≤ 300 → ∃ r, PL f s a body many = some r ∧ (r.2.2 = 0 ∧ 0 ≤ r.2.1 ∧ r.2.1 ≤ (s.size : Int) ∧ r.1.size ≤ 300 ∨ r.2.2 = 1 ∧ r.1 = emp ∧ r.2.1 = 0 ∨ r.2.2 = 2 ∧ r.1 = emp ∧ r.2.1 = 0)
  | 0, s, a, body, many, _, h, _ => absurd h (by omega)
  | f + 1, s, a, body, many, ha, hf, hb => by
    have B : ∃ r : R3, some ((emp, 0, 2) : R3) = some r ∧ (r.2.2 = 0 ∧ 0 ≤ r.2.1 ∧ r.2.1 ≤ (s.size : Int) ∧ r.1.size ≤ 300 ∨ r.2.2 = 1 ∧ r.1 = emp ∧ r.2.1 = 0 ∨ r.2.2 = 2 ∧ r.1 = emp ∧ r.2.1 = 0) := ⟨_, rfl, Or.inr (Or.inr ⟨rfl, rfl, rfl⟩)⟩
    have M : ∃ r : R3, some ((emp, 0, 1) : R3) = some r ∧ (r.2.2 = 0 ∧ 0 ≤ r.2.1 ∧ r.2.1 ≤ (s.size : Int) ∧ r.1.size ≤ 300 ∨ r.2.2 = 1 ∧ r.1 = emp ∧ r.2.1 = 0 ∨ r.2.2 = 2 ∧ r.1 = emp ∧ r.2.1 = 0) := ⟨_, rfl, Or.inr (Or.inl ⟨rfl, rfl, rfl⟩)⟩
    unfold PL PT
    have h1 := run_ge s 4 a
    have h2 := run_le s 4 a ha
    have h3 := pval s a
    generalize run s 4 a = e at *
    generalize val s (e - a) a 0 = n at *
    by_cases c1 : e = s.size
    · rw [if_pos c1]; exact M
    rw [if_neg c1]
    by_cases c2 : e = a
    · rw [if_pos c2]; exact B
    rw [if_neg c2]
    by_cases c3 : ¬ bt s (e : Int) = 13
    · rw [if_pos c3]; exact B
    rw [if_neg c3]
    by_cases c4 : (body.size : Int) + n > 300
    · rw [if_pos c4]; exact B
    rw [if_neg c4]
    by_cases c5 : n > 0 ∧ many = 60
    · rw [if_pos c5]; exact B
    rw [if_neg c5]
    by_cases c6 : e + 1 = s.size
    · rw [if_pos c6]; exact M
    rw [if_neg c6]
    by_cases c7 : ¬ bt s ((e + 1 : Nat) : Int) = 10
    · rw [if_pos c7]; exact B
    rw [if_neg c7]
    by_cases c8 : e + 2 + n.toNat > s.size
    · rw [if_pos c8]; exact M
    rw [if_neg c8]
    by_cases c9 : e + 2 + n.toNat = s.size
    · rw [if_pos c9]; exact M
    rw [if_neg c9]
    by_cases c10 : ¬ bt s ((e + 2 + n.toNat : Nat) : Int) = 13
    · rw [if_pos c10]; exact B
    rw [if_neg c10]
    by_cases c11 : e + 2 + n.toNat + 1 = s.size
    · rw [if_pos c11]; exact M
    rw [if_neg c11]
    by_cases c12 : ¬ bt s ((e + 2 + n.toNat + 1 : Nat) : Int) = 10
    · rw [if_pos c12]; exact B
    rw [if_neg c12]
    have hs : (body ++ s.extract (e + 2) (e + 2 + n.toNat)).size ≤ 300 := by rw [body_size _ _ _ _ (by omega) (by omega)]; omega
    by_cases c13 : n = 0
    · rw [if_pos c13]
      exact ⟨_, rfl, Or.inl ⟨rfl, by show (0 : Int) ≤ ((e + 2 + n.toNat + 2 : Nat) : Int); omega, by show ((e + 2 + n.toNat + 2 : Nat) : Int) ≤ (s.size : Int); omega, hs⟩⟩
    rw [if_neg c13]
    exact PL_total f s _ _ (many + 1) (by omega) (by omega) hs
/-- a byte of the front, where more stands behind -/
theorem bt_front (s t : ByteArray) (i : Nat) (h : i < s.size) : bt (s ++ t) (i : Int) = bt s (i : Int) := by
  unfold bt
  have h1 : ((i : Int)).toNat < (s ++ t).size := by rw [ByteArray.size_append]; omega
  have h2 : ((i : Int)).toNat < s.size := by omega
  rw [dif_pos h1, dif_pos h2, ByteArray.getElem_append_left h2]
theorem cut_front (s t : ByteArray) (x y : Nat) (h : y ≤ s.size) : (s ++ t).extract x y = s.extract x y := by
  rw [ByteArray.extract_append]
  have : t.extract (x - s.size) (y - s.size) = ByteArray.empty := by
    rw [show y - s.size = 0 by omega]
    apply ByteArray.ext
    simp
  rw [this, ByteArray.append_empty]
theorem run_front (s t : ByteArray) : ∀ c e, e ≤ s.size → run s c e < s.size → run (s ++ t) c e = run s c e
  | 0, e, _, _ => rfl
  | c + 1, e, h, h2 => by
    have hsz : (s ++ t).size = s.size + t.size := ByteArray.size_append
    unfold run at h2 ⊢
    by_cases c1 : e < s.size
    · rw [bt_front s t e c1]
      by_cases c2 : 0 ≤ hv (bt s (e : Int))
      · rw [if_pos ⟨c1, c2⟩] at h2
        rw [if_pos ⟨by omega, c2⟩, if_pos ⟨c1, c2⟩]
        exact run_front s t c (e + 1) (by omega) h2
      · rw [if_neg (fun hh => c2 hh.2), if_neg (fun hh => c2 hh.2)]
    · rw [if_neg (fun hh => c1 hh.1)] at h2
      omega
theorem val_front (s t : ByteArray) : ∀ c p acc, p + c ≤ s.size → val (s ++ t) c p acc = val s c p acc
  | 0, p, acc, _ => rfl
  | c + 1, p, acc, h => by
    unfold val
    rw [bt_front s t p (by omega)]
    exact val_front s t c (p + 1) _ (by omega)
/-- what was told of a text stays when more comes, but for 'more' -/
theorem PL_front : ∀ f s t a body many r, a ≤ s.size → PL f s a body many = some r → r.2.2 ≠ 1 → PL f (s ++ t) a body many = some r
  | 0, s, t, a, body, many, r, _, h, _ => by cases h
  | f + 1, s, t, a, body, many, r, ha, h, hr => by
    have M : ∀ P : Prop, some ((emp, 0, 1) : R3) = some r → P := fun P hh => by
      obtain rfl := Option.some.inj hh
      exact absurd rfl hr
    have hsz : (s ++ t).size = s.size + t.size := ByteArray.size_append
    unfold PL at h ⊢
    have h1 := run_ge s 4 a
    have h2 := run_le s 4 a ha
    have h3 := pval s a
    by_cases c1 : run s 4 a = s.size
    · unfold PT at h; rw [if_pos c1] at h; exact M _ h
    rw [run_front s t 4 a ha (by omega), val_front s t _ a 0 (by omega)]
    generalize run s 4 a = e at *
    generalize val s (e - a) a 0 = n at *
    unfold PT at h ⊢
    rw [if_neg c1] at h
    rw [if_neg (by omega)]
    by_cases c2 : e = a
    · rw [if_pos c2] at h ⊢; exact h
    rw [if_neg c2] at h ⊢
    rw [bt_front s t e (by omega)]
    by_cases c3 : ¬ bt s (e : Int) = 13
    · rw [if_pos c3] at h ⊢; exact h
    rw [if_neg c3] at h ⊢
    by_cases c4 : (body.size : Int) + n > 300
    · rw [if_pos c4] at h ⊢; exact h
    rw [if_neg c4] at h ⊢
    by_cases c5 : n > 0 ∧ many = 60
    · rw [if_pos c5] at h ⊢; exact h
    rw [if_neg c5] at h ⊢
    by_cases c6 : e + 1 = s.size
    · rw [if_pos c6] at h; exact M _ h
    rw [if_neg c6] at h
    rw [if_neg (by omega), bt_front s t (e + 1) (by omega)]
    by_cases c7 : ¬ bt s ((e + 1 : Nat) : Int) = 10
    · rw [if_pos c7] at h ⊢; exact h
    rw [if_neg c7] at h ⊢
    by_cases c8 : e + 2 + n.toNat > s.size
    · rw [if_pos c8] at h; exact M _ h
    rw [if_neg c8] at h
    by_cases c9 : e + 2 + n.toNat = s.size
    · rw [if_pos c9] at h; exact M _ h
    rw [if_neg c9] at h
    rw [if_neg (by omega), if_neg (by omega), bt_front s t (e + 2 + n.toNat) (by omega)]
    by_cases c10 : ¬ bt s ((e + 2 + n.toNat : Nat) : Int) = 13
    · rw [if_pos c10] at h ⊢; exact h
    rw [if_neg c10] at h ⊢
    by_cases c11 : e + 2 + n.toNat + 1 = s.size
    · rw [if_pos c11] at h; exact M _ h
    rw [if_neg c11] at h
    rw [if_neg (by omega), bt_front s t (e + 2 + n.toNat + 1) (by omega)]
    by_cases c12 : ¬ bt s ((e + 2 + n.toNat + 1 : Nat) : Int) = 10
    · rw [if_pos c12] at h ⊢; exact h
    rw [if_neg c12] at h ⊢
    rw [cut_front s t _ _ (by omega)]
    by_cases c13 : n = 0
    · rw [if_pos c13] at h ⊢; exact h
    rw [if_neg c13] at h ⊢
    exact PL_front f s t _ _ _ r (by omega) h hr
theorem PT_mono (rec rec' : Nat → ByteArray → Int → Option R3) (s : ByteArray) (a e : Nat) (n : Int) (body : ByteArray) (many : Int) (r : R3) (hh : ∀ x y z, rec x y z = some r → rec' x y z = some r) (h : PT rec s a e n body many = some r) : PT rec' s a e n body many = some r := by
  unfold PT at h ⊢
  by_cases c1 : e = s.size
  · rw [if_pos c1] at h ⊢; exact h
  rw [if_neg c1] at h ⊢
  by_cases c2 : e = a
  · rw [if_pos c2] at h ⊢; exact h
  rw [if_neg c2] at h ⊢
  by_cases c3 : ¬ bt s (e : Int) = 13
  · rw [if_pos c3] at h ⊢; exact h
  rw [if_neg c3] at h ⊢
  by_cases c4 : (body.size : Int) + n > 300
  · rw [if_pos c4] at h ⊢; exact h
  rw [if_neg c4] at h ⊢
  by_cases c5 : n > 0 ∧ many = 60
  · rw [if_pos c5] at h ⊢; exact h
  rw [if_neg c5] at h ⊢
  by_cases c6 : e + 1 = s.size
  · rw [if_pos c6] at h ⊢; exact h
  rw [if_neg c6] at h ⊢
  by_cases c7 : ¬ bt s ((e + 1 : Nat) : Int) = 10
  · rw [if_pos c7] at h ⊢; exact h
  rw [if_neg c7] at h ⊢
  by_cases c8 : e + 2 + n.toNat > s.size
  · rw [if_pos c8] at h ⊢; exact h
  rw [if_neg c8] at h ⊢
  by_cases c9 : e + 2 + n.toNat = s.size
  · rw [if_pos c9] at h ⊢; exact h
  rw [if_neg c9] at h ⊢
  by_cases c10 : ¬ bt s ((e + 2 + n.toNat : Nat) : Int) = 13
  · rw [if_pos c10] at h ⊢; exact h
  rw [if_neg c10] at h ⊢
  by_cases c11 : e + 2 + n.toNat + 1 = s.size
  · rw [if_pos c11] at h ⊢; exact h
  rw [if_neg c11] at h ⊢
  by_cases c12 : ¬ bt s ((e + 2 + n.toNat + 1 : Nat) : Int) = 10
  · rw [if_pos c12] at h ⊢; exact h
  rw [if_neg c12] at h ⊢
  by_cases c13 : n = 0
  · rw [if_pos c13] at h ⊢; exact h
  rw [if_neg c13] at h ⊢
  exact hh _ _ _ h
theorem PL_mono : ∀ f g s a body many r, f ≤ g → PL f s a body many = some r → PL g s a body many = some r
  | 0, g, s, a, body, many, r, _, h => by cases h
  | f + 1, 0, s, a, body, many, r, hfg, h => absurd hfg (by omega)
  | f + 1, g + 1, s, a, body, many, r, hfg, h => by
    unfold PL at h ⊢
    exact PT_mono _ _ s a _ _ body many r (fun x y z hx => PL_mono f g s x y z r (by omega) hx) h

/-! The program's reader of chunks is the plain one -/
set_option maxRecDepth 100000 in
theorem hex_all : ∀ n : Fin 256, impl_hexValue.f ((n.val : Nat) : Int) = some (hv ((n.val : Nat) : Int)) := by decide
theorem hexv_ok (b : Int) (h0 : 0 ≤ b) (h1 : b ≤ 255) : impl_hexValue.f b = some (hv b) := by
  have h := hex_all ⟨b.toNat, by omega⟩
  have e : ((b.toNat : Nat) : Int) = b := by omega
  simp only [e] at h
  exact h
theorem or16 (x d : Int) (h0 : 0 ≤ x) (h1 : x < 4503599627370496) (h2 : 0 ≤ d) (h3 : d < 16) : bits .or .i64 (x * 16) d = 16 * x + d := by
  obtain ⟨m, rfl⟩ : ∃ m : Nat, x = (m : Int) := ⟨x.toNat, by omega⟩
  obtain ⟨c, rfl⟩ : ∃ c : Nat, d = (c : Int) := ⟨d.toNat, by omega⟩
  rw [show ((m : Int) * 16) = ((m * 16 : Nat) : Int) by omega]
  show IntKind.i64.wrap ((BitVec.ofInt 64 ((m * 16 : Nat) : Int) ||| BitVec.ofInt 64 ((c : Nat) : Int)).toNat : Int) = _
  rw [BitVec.toNat_or, ofInt_u64 _ (by omega), ofInt_u64 _ (by omega)]
  have h := Nat.two_pow_add_eq_or_of_lt (i := 4) (b := c) (by omega) m
  rw [Nat.mul_comm m 16, show (16 : Nat) = 2 ^ 4 by decide, ← h]
  rw [Lib.wrap_i64_small _ (by omega)]
  omega
theorem bt_cut (s : ByteArray) (a e i : Nat) (h : a + i < e) (he : e ≤ s.size) : bt (s.extract a e) (i : Int) = bt s ((a + i : Nat) : Int) := by
  unfold bt
  have h1 : ((i : Int)).toNat < (s.extract a e).size := by rw [ByteArray.size_extract]; omega
  have h2 : (((a + i : Nat) : Int)).toNat < s.size := by omega
  rw [dif_pos h1, dif_pos h2, ByteArray.getElem_extract h1]
  rfl
theorem pow16 (i : Nat) (h : i ≤ 3) : (16 : Int) ^ i ≤ 4096 := by
  have : i = 0 ∨ i = 1 ∨ i = 2 ∨ i = 3 := by omega
  rcases this with h | h | h | h <;> subst h <;> decide
theorem readhex_l (s : ByteArray) (a e : Nat) (he : e ≤ s.size) (hae : a ≤ e) (hd : ∀ i, a ≤ i → i < e → 0 ≤ hv (bt s (i : Int))) :
    ∀ (c k i : Nat) (acc : Int), a + i + c = e → i + c ≤ 4 → 0 ≤ acc → acc + 1 ≤ 16 ^ i → impl_ReadHex.l0 (k + c + 1) (s.extract a e) acc ((e - a : Nat) : Int) (i : Int) = some (val s c (a + i) acc, true)
  | 0, k, i, acc, h1, h2, h3, h4 => by
    unfold impl_ReadHex.l0
    rw [if_neg (by omega)]
    rfl
  | c + 1, k, i, acc, h1, h2, h3, h4 => by
    rw [show k + (c + 1) + 1 = (k + c + 1) + 1 by omega]
    unfold impl_ReadHex.l0 val
    have hp := pow16 i (by omega)
    have hb := bt_range s ((a + i : Nat) : Int)
    have hh := hd (a + i) (by omega) (by omega)
    have hr := (hv_range (bt s ((a + i : Nat) : Int))).2
    have hsz : ((s.extract a e).size : Int) = ((e - a : Nat) : Int) := by rw [ByteArray.size_extract, Nat.min_eq_left he]
    rw [if_pos (by omega), if_pos (by omega), hsz, if_pos (by omega), bt_cut s a e i (by omega) he, hexv_ok _ hb.1 hb.2, Option.bind_some, if_neg (by omega), w64 (by omega) (by omega), or16 acc _ h3 (by omega) hh (by omega), w64 (by omega) (by omega), succ_cast i]
    rw [readhex_l s a e he hae hd c k (i + 1) _ (by omega) (by omega) (by omega) (by rw [Int.pow_succ]; omega), show a + (i + 1) = a + i + 1 by omega]
theorem within_ok (x y z : Int) : impl_within.f x y z = some (decide (y ≤ x ∧ x ≤ z)) := by
  unfold impl_within.f
  by_cases c : y ≤ x
  · rw [if_pos c]; simp [c]
  · rw [if_neg c]; simp [c]
theorem readhex_ok (s : ByteArray) (a e k : Nat) (he : e ≤ s.size) (hae : a < e) (h4 : e ≤ a + 4) (hd : ∀ i, a ≤ i → i < e → 0 ≤ hv (bt s (i : Int))) : impl_ReadHex.f (k + 5) (s.extract a e) = some (val s (e - a) a 0, true) := by
  unfold impl_ReadHex.f
  have hsz : ((s.extract a e).size : Int) = ((e - a : Nat) : Int) := by rw [ByteArray.size_extract, Nat.min_eq_left he]
  rw [within_ok, hsz, Option.bind_some, decide_eq_true (by omega), if_pos rfl]
  have h := readhex_l s a e he (by omega) hd (e - a) (k + 4 - (e - a)) 0 0 (by omega) (by omega) (by omega) (by decide)
  rw [show k + 5 = k + 4 - (e - a) + (e - a) + 1 by omega]
  exact h
theorem readhex_none (s : ByteArray) (a k : Nat) : impl_ReadHex.f k (s.extract a a) = some (0, false) := by
  unfold impl_ReadHex.f
  have hsz : ((s.extract a a).size : Int) = 0 := by rw [ByteArray.size_extract]; omega
  rw [within_ok, hsz, Option.bind_some]
  rfl
theorem size_scan (s body : ByteArray) (many : Int) (a : Nat) (hs : s.size < 1099511627776) : ∀ (c k p : Nat), p + c = a + 4 → p ≤ s.size → a ≤ p →
    ∃ k', k ≤ k' ∧ impl_chunks_size.l0 (k + c + 1) (a : Int) s (p : Int) body many = impl_chunks_size.j1 k' (a : Int) s ((run s c p : Nat) : Int) body many
  | 0, k, p, h1, h2, h3 => by
    refine ⟨k, Nat.le_refl _, ?_⟩
    unfold impl_chunks_size.l0 run
    by_cases c1 : (p : Int) < (s.size : Int)
    · rw [if_pos c1, w64 (by omega) (by omega), if_neg (by omega)]
    · rw [if_neg c1]
  | c + 1, k, p, h1, h2, h3 => by
    rw [show k + (c + 1) + 1 = (k + c + 1) + 1 by omega]
    unfold impl_chunks_size.l0 run
    by_cases c1 : (p : Int) < (s.size : Int)
    · have hb := bt_range s (p : Int)
      rw [if_pos c1, w64 (by omega) (by omega), if_pos (by omega), if_pos (by omega), hexv_ok _ hb.1 hb.2, Option.bind_some]
      by_cases c2 : hv (bt s (p : Int)) ≥ 0
      · rw [if_pos c2, if_pos ⟨by omega, c2⟩, w64 (by omega) (by omega), succ_cast p]
        exact size_scan s body many a hs c k (p + 1) (by omega) (by omega) (by omega)
      · rw [if_neg c2, if_neg (fun hh => c2 hh.2)]
        exact ⟨k + c + 1, by omega, rfl⟩
    · rw [if_neg c1, if_neg (fun hh => c1 (by omega))]
      exact ⟨k + c + 1, by omega, rfl⟩
theorem sign_end (s body : ByteArray) (many w : Int) (p : Nat) (h : p = s.size) : impl_chunks_sign.f s (p : Int) body many w = some (1, s, (p : Int), body, many) := by
  unfold impl_chunks_sign.f; rw [if_pos (by omega)]
theorem sign_bad (s body : ByteArray) (many w : Int) (p : Nat) (h : p < s.size) (hb : ¬ bt s (p : Int) = w) : impl_chunks_sign.f s (p : Int) body many w = some (2, s, (p : Int), body, many) := by
  unfold impl_chunks_sign.f; rw [if_neg (by omega), if_pos (by omega), if_pos (by omega), if_neg hb]
theorem sign_ok (s body : ByteArray) (many w : Int) (p : Nat) (hs : s.size < 1099511627776) (h : p < s.size) (hb : bt s (p : Int) = w) : impl_chunks_sign.f s (p : Int) body many w = some (0, s, ((p + 1 : Nat) : Int), body, many) := by
  unfold impl_chunks_sign.f; rw [if_neg (by omega), if_pos (by omega), if_pos (by omega), if_pos hb, w64 (by omega) (by omega), succ_cast p]
/-- the end of a line, in plain words -/
def lineEnd (s : ByteArray) (p : Nat) : Int := if p = s.size then 1 else if ¬ bt s (p : Int) = 13 then 2 else if p + 1 = s.size then 1 else if ¬ bt s ((p + 1 : Nat) : Int) = 10 then 2 else 0
theorem end_ok (s body : ByteArray) (many : Int) (p : Nat) (hs : s.size < 1099511627776) (h : p ≤ s.size) : ∃ q : Nat, impl_chunks_end.f s (p : Int) body many = some (lineEnd s p, s, (q : Int), body, many) ∧ (lineEnd s p = 0 → q = p + 2) := by
  unfold impl_chunks_end.f lineEnd
  by_cases c1 : p = s.size
  · rw [sign_end s body many 13 p c1, Option.bind_some, if_pos c1]
    exact ⟨p, rfl, fun h => absurd h (by decide)⟩
  rw [if_neg c1]
  by_cases c2 : ¬ bt s (p : Int) = 13
  · rw [sign_bad s body many 13 p (by omega) c2, Option.bind_some, if_pos c2]
    exact ⟨p, rfl, fun h => absurd h (by decide)⟩
  rw [if_neg c2, sign_ok s body many 13 p hs (by omega) (Classical.not_not.mp c2), Option.bind_some, if_pos rfl]
  dsimp only
  by_cases c3 : p + 1 = s.size
  · rw [sign_end s body many 10 (p + 1) c3, Option.bind_some, if_pos c3]
    exact ⟨p + 1, rfl, fun h => absurd h (by decide)⟩
  rw [if_neg c3]
  by_cases c4 : ¬ bt s ((p + 1 : Nat) : Int) = 10
  · rw [sign_bad s body many 10 (p + 1) (by omega) c4, Option.bind_some, if_pos c4]
    exact ⟨p + 1, rfl, fun h => absurd h (by decide)⟩
  rw [if_neg c4, sign_ok s body many 10 (p + 1) hs (by omega) (Classical.not_not.mp c4), Option.bind_some]
  exact ⟨p + 2, rfl, fun _ => rfl⟩
/-- the reader again, a line's end in one word -/
theorem PT_line (rec : Nat → ByteArray → Int → Option R3) (s : ByteArray) (a e : Nat) (n : Int) (body : ByteArray) (many : Int) : PT rec s a e n body many =
  if e = s.size then some (emp, 0, 1) else if e = a then some (emp, 0, 2) else if ¬ bt s (e : Int) = 13 then some (emp, 0, 2) else if (body.size : Int) + n > 300 then some (emp, 0, 2) else if n > 0 ∧ many = 60 then some (emp, 0, 2) else
  if ¬ lineEnd s e = 0 then some (emp, 0, lineEnd s e) else if e + 2 + n.toNat > s.size then some (emp, 0, 1) else if ¬ lineEnd s (e + 2 + n.toNat) = 0 then some (emp, 0, lineEnd s (e + 2 + n.toNat)) else
  if n = 0 then some (body ++ s.extract (e + 2) (e + 2 + n.toNat), ((e + 2 + n.toNat + 2 : Nat) : Int), 0) else rec (e + 2 + n.toNat + 2) (body ++ s.extract (e + 2) (e + 2 + n.toNat)) (many + 1) := by
  unfold PT lineEnd
  by_cases c1 : e = s.size
  · rw [if_pos c1, if_pos c1]
  rw [if_neg c1, if_neg c1]
  by_cases c2 : e = a
  · rw [if_pos c2, if_pos c2]
  rw [if_neg c2, if_neg c2]
  by_cases c3 : ¬ bt s (e : Int) = 13
  · rw [if_pos c3, if_pos c3]
  rw [if_neg c3, if_neg c3]
  by_cases c4 : (body.size : Int) + n > 300
  · rw [if_pos c4, if_pos c4]
  rw [if_neg c4, if_neg c4]
  by_cases c5 : n > 0 ∧ many = 60
  · rw [if_pos c5, if_pos c5]
  rw [if_neg c5, if_neg c5, if_neg c1, if_neg c3]
  by_cases c6 : e + 1 = s.size
  · rw [if_pos c6, if_pos c6, if_pos (show ¬ (1 : Int) = 0 by decide)]
  rw [if_neg c6, if_neg c6]
  by_cases c7 : ¬ bt s ((e + 1 : Nat) : Int) = 10
  · rw [if_pos c7, if_pos c7, if_pos (show ¬ (2 : Int) = 0 by decide)]
  rw [if_neg c7, if_neg c7, if_neg (show ¬ ¬ (0 : Int) = 0 by decide)]
  by_cases c8 : e + 2 + n.toNat > s.size
  · rw [if_pos c8, if_pos c8]
  rw [if_neg c8, if_neg c8]
  by_cases c9 : e + 2 + n.toNat = s.size
  · rw [if_pos c9, if_pos c9, if_pos (show ¬ (1 : Int) = 0 by decide)]
  rw [if_neg c9, if_neg c9]
  by_cases c10 : ¬ bt s ((e + 2 + n.toNat : Nat) : Int) = 13
  · rw [if_pos c10, if_pos c10, if_pos (show ¬ (2 : Int) = 0 by decide)]
  rw [if_neg c10, if_neg c10]
  by_cases c11 : e + 2 + n.toNat + 1 = s.size
  · rw [if_pos c11, if_pos c11, if_pos (show ¬ (1 : Int) = 0 by decide)]
  rw [if_neg c11, if_neg c11]
  by_cases c12 : ¬ bt s ((e + 2 + n.toNat + 1 : Nat) : Int) = 10
  · rw [if_pos c12, if_pos c12, if_pos (show ¬ (2 : Int) = 0 by decide)]
  rw [if_neg c12, if_neg c12, if_neg (show ¬ ¬ (0 : Int) = 0 by decide)]
theorem lineEnd_range (s : ByteArray) (p : Nat) : lineEnd s p = 0 ∨ lineEnd s p = 1 ∨ lineEnd s p = 2 := by
  unfold lineEnd
  split
  · simp
  · split
    · simp
    · split
      · simp
      · split <;> simp
theorem lineEnd_in (s : ByteArray) (p : Nat) (hp : p ≤ s.size) (h : lineEnd s p = 0) : p + 2 ≤ s.size := by
  unfold lineEnd at h
  by_cases c1 : p = s.size
  · rw [if_pos c1] at h; exact absurd h (by decide)
  rw [if_neg c1] at h
  by_cases c2 : ¬ bt s (p : Int) = 13
  · rw [if_pos c2] at h; exact absurd h (by decide)
  rw [if_neg c2] at h
  by_cases c3 : p + 1 = s.size
  · rw [if_pos c3] at h; exact absurd h (by decide)
  omega
theorem impl_ok (s : ByteArray) (hs : s.size < 1099511627776) : ∀ (f k a : Nat) (body : ByteArray) (many : Int) (r : R3), a ≤ s.size → body.size ≤ 300 → 0 ≤ many → many ≤ (a : Int) → PL f s a body many = some r → impl_ReadChunks.l0 (k + f + 20) s (a : Int) body many = some r
  | 0, k, a, body, many, r, _, _, _, _, h => by cases h
  | f + 1, k, a, body, many, r, ha, hb, hm, hm2, h => by
    unfold PL at h
    rw [PT_line] at h
    have h1 := run_ge s 4 a
    have h2 := run_le s 4 a ha
    have h3 := pval s a
    have hin := fun i x y => (run_in s 4 a i x y).2
    rw [show k + (f + 1) + 20 = (k + f + 20) + 1 by omega]
    unfold impl_ReadChunks.l0 impl_chunks_piece.f impl_chunks_size.f
    obtain ⟨k', hk', e1⟩ := size_scan s body many a hs 4 (k + f + 15) a rfl ha (Nat.le_refl _)
    rw [show k + f + 20 = k + f + 15 + 4 + 1 by omega, e1]
    obtain ⟨k2, rfl⟩ : ∃ k2, k' = k2 + 5 + 1 := ⟨k' - 6, by omega⟩
    unfold impl_chunks_size.j1
    dsimp only
    by_cases c1 : run s 4 a = s.size
    · rw [if_pos c1] at h
      rw [if_pos (by omega), Option.bind_some, if_neg (show ¬ (1 : Int) = 0 by decide), Option.bind_some, if_neg (show ¬ (1 : Int) = 0 by decide)]
      exact h
    rw [if_neg c1] at h
    rw [if_neg (by omega), if_pos (by omega), if_pos (by omega), if_pos (by omega)]
    by_cases c2 : run s 4 a = a
    · rw [if_pos c2] at h
      rw [c2]
      have e2 : impl_ReadHex.f (k2 + 5) (s.extract ((a : Int)).toNat ((a : Int)).toNat) = some (0, false) := readhex_none s _ _
      rw [e2, Option.bind_some, if_neg (show ¬ false = true by decide), Option.bind_some, if_neg (show ¬ (2 : Int) = 0 by decide), Option.bind_some, if_neg (show ¬ (2 : Int) = 0 by decide)]
      exact h
    rw [if_neg c2] at h
    have e2 : impl_ReadHex.f (k2 + 5) (s.extract ((a : Int)).toNat (((run s 4 a : Nat) : Int)).toNat) = some (val s (run s 4 a - a) a 0, true) := readhex_ok s a (run s 4 a) k2 h2 (by omega) h1.2 hin
    rw [e2, Option.bind_some, if_pos rfl, if_pos (by omega), if_pos (by omega)]
    generalize run s 4 a = e at *
    generalize val s (e - a) a 0 = n at *
    by_cases c3 : ¬ bt s (e : Int) = 13
    · rw [if_pos c3] at h
      rw [if_neg c3, Option.bind_some, if_neg (show ¬ (2 : Int) = 0 by decide), Option.bind_some, if_neg (show ¬ (2 : Int) = 0 by decide)]
      exact h
    rw [if_neg c3] at h
    rw [if_pos (Classical.not_not.mp c3)]
    dsimp only
    rw [w64 (by omega) (by omega)]
    by_cases c4 : (body.size : Int) + n > 300
    · rw [if_pos c4] at h
      rw [if_pos c4, Option.bind_some, if_neg (show ¬ (2 : Int) = 0 by decide), Option.bind_some, if_neg (show ¬ (2 : Int) = 0 by decide)]
      exact h
    rw [if_neg c4] at h
    rw [if_neg c4]
    have e3 : (if n > 0 then if many = 60 then some ((0, 2, s, (e : Int), body, many) : Int × Int × ByteArray × Int × ByteArray × Int) else some (n, 0, s, (e : Int), body, many) else some (n, 0, s, (e : Int), body, many)) = if n > 0 ∧ many = 60 then some (0, 2, s, (e : Int), body, many) else some (n, 0, s, (e : Int), body, many) := by
      by_cases x : n > 0
      · by_cases y : many = 60
        · rw [if_pos x, if_pos y, if_pos ⟨x, y⟩]
        · rw [if_pos x, if_neg y, if_neg (fun z => y z.2)]
      · rw [if_neg x, if_neg (fun z => x z.1)]
    rw [e3]
    by_cases c5 : n > 0 ∧ many = 60
    · rw [if_pos c5] at h
      rw [if_pos c5, Option.bind_some, if_neg (show ¬ (2 : Int) = 0 by decide), Option.bind_some, if_neg (show ¬ (2 : Int) = 0 by decide)]
      exact h
    rw [if_neg c5] at h
    rw [if_neg c5, Option.bind_some, if_pos rfl]
    dsimp only
    obtain ⟨q, e4, hq⟩ := end_ok s body many e hs h2
    rw [e4, Option.bind_some]
    dsimp only
    by_cases c6 : ¬ lineEnd s e = 0
    · rw [if_pos c6] at h
      rw [if_neg c6, Option.bind_some, if_neg c6]
      exact h
    rw [if_neg c6] at h
    rw [if_pos (Classical.not_not.mp c6)]
    obtain rfl := hq (Classical.not_not.mp c6)
    have hle := lineEnd_in s e h2 (Classical.not_not.mp c6)
    rw [w64 (by omega) (by omega)]
    have hcast : ((e + 2 : Nat) : Int) + n = ((e + 2 + n.toNat : Nat) : Int) := by omega
    rw [hcast]
    by_cases c7 : e + 2 + n.toNat > s.size
    · rw [if_pos c7] at h
      rw [if_pos (by omega), Option.bind_some, if_neg (show ¬ (1 : Int) = 0 by decide)]
      exact h
    rw [if_neg c7] at h
    rw [if_neg (by omega), if_pos (by omega), if_pos (by omega), if_pos (by omega)]
    have hx : s.extract (((e + 2 : Nat) : Int)).toNat (((e + 2 + n.toNat : Nat) : Int)).toNat = s.extract (e + 2) (e + 2 + n.toNat) := rfl
    rw [hx, w64 (by omega) (by omega)]
    have hbs := body_size s body (e + 2) (e + 2 + n.toNat) (by omega) (by omega)
    rw [if_pos (by rw [← ByteArray.size_append, hbs]; omega)]
    obtain ⟨q2, e5, hq2⟩ := end_ok s (body ++ s.extract (e + 2) (e + 2 + n.toNat)) (many + 1) (e + 2 + n.toNat) hs (by omega)
    rw [e5, Option.bind_some, Option.bind_some]
    dsimp only
    by_cases c8 : ¬ lineEnd s (e + 2 + n.toNat) = 0
    · rw [if_pos c8] at h
      rw [if_neg c8]
      exact h
    rw [if_neg c8] at h
    rw [if_pos (Classical.not_not.mp c8)]
    obtain rfl := hq2 (Classical.not_not.mp c8)
    have hle2 := lineEnd_in s _ (by omega) (Classical.not_not.mp c8)
    by_cases c9 : n = 0
    · rw [if_pos c9] at h
      rw [if_pos (by simp [c9])]
      exact h
    rw [if_neg c9] at h
    rw [if_neg (by simp [c9])]
    exact impl_ok s hs f k _ _ (many + 1) r (by omega) (by omega) (by omega) (by omega) h

/-! Chunks are read as they were written -/
theorem no_size (x : ByteArray) (h : x.size = 0) : x = emp := by
  apply ByteArray.ext
  exact Array.eq_empty_of_size_eq_zero h
theorem bt_behind (p q : ByteArray) (i : Nat) : bt (p ++ q) ((p.size + i : Nat) : Int) = bt q (i : Int) := by
  unfold bt
  have hz : (p ++ q).size = p.size + q.size := ByteArray.size_append
  by_cases h : ((i : Int)).toNat < q.size
  · have h1 : (((p.size + i : Nat) : Int)).toNat < (p ++ q).size := by rw [hz]; omega
    rw [dif_pos h1, dif_pos h]
    have e : (p ++ q)[(((p.size + i : Nat) : Int)).toNat]'h1 = q[((i : Int)).toNat]'h := by
      have z := ByteArray.getElem_append_right (a := p) (b := q) (i := (((p.size + i : Nat) : Int)).toNat) (h := h1) (show p.size ≤ (((p.size + i : Nat) : Int)).toNat by omega)
      rw [z]
      congr 1
      omega
    rw [e]
  · rw [dif_neg (by rw [hz]; omega), dif_neg h]
theorem run_behind (p q : ByteArray) : ∀ c e, run (p ++ q) c (p.size + e) = p.size + run q c e
  | 0, e => rfl
  | c + 1, e => by
    have hz : (p ++ q).size = p.size + q.size := ByteArray.size_append
    unfold run
    rw [bt_behind]
    by_cases h : e < q.size ∧ 0 ≤ hv (bt q (e : Int))
    · rw [if_pos h, if_pos ⟨by rw [hz]; exact Nat.add_lt_add_left h.1 _, h.2⟩]
      exact run_behind p q c (e + 1)
    · rw [if_neg h, if_neg (fun hh => h ⟨by have z := hh.1; rw [hz] at z; exact Nat.lt_of_add_lt_add_left z, hh.2⟩)]
theorem val_behind (p q : ByteArray) : ∀ c e acc, val (p ++ q) c (p.size + e) acc = val q c e acc
  | 0, e, acc => rfl
  | c + 1, e, acc => by
    unfold val
    rw [bt_behind]
    exact val_behind p q c (e + 1) _
theorem cut_in (p q : ByteArray) (x y : Nat) : (p ++ q).extract (p.size + x) (p.size + y) = q.extract x y := by
  rw [ByteArray.extract_append, Nat.add_sub_cancel_left, Nat.add_sub_cancel_left]
  have h : p.extract (p.size + x) (p.size + y) = emp := no_size _ (by rw [ByteArray.size_extract]; omega)
  rw [h]
  exact ByteArray.empty_append
def shf (m : Nat) (r : R3) : R3 := if r.2.2 = 0 then (r.1, (m : Int) + r.2.1, 0) else r
theorem PL_behind (p q : ByteArray) : ∀ f a body many, PL f (p ++ q) (p.size + a) body many = (PL f q a body many).map (shf p.size)
  | 0, a, body, many => rfl
  | f + 1, a, body, many => by
    have hz : (p ++ q).size = p.size + q.size := ByteArray.size_append
    unfold PL
    rw [run_behind, show p.size + run q 4 a - (p.size + a) = run q 4 a - a from Nat.add_sub_add_left _ _ _, val_behind]
    generalize run q 4 a = e
    generalize val q (e - a) a 0 = n
    have k1 : p.size + e + 1 = p.size + (e + 1) := rfl
    have k2 : p.size + e + 2 + n.toNat = p.size + (e + 2 + n.toNat) := by omega
    have k3 : p.size + (e + 2 + n.toNat) + 1 = p.size + (e + 2 + n.toNat + 1) := rfl
    have k4 : p.size + (e + 2 + n.toNat) + 2 = p.size + (e + 2 + n.toNat + 2) := rfl
    have k5 : p.size + e + 2 = p.size + (e + 2) := rfl
    unfold PT
    rw [k2, k1, k3, k4, k5, bt_behind, bt_behind, bt_behind, bt_behind, cut_in, hz]
    by_cases c1 : e = q.size
    · rw [if_pos (show p.size + e = p.size + q.size by omega), if_pos c1]; rfl
    rw [if_neg (show ¬ (p.size + e = p.size + q.size) by omega), if_neg c1]
    by_cases c2 : e = a
    · rw [if_pos (show p.size + e = p.size + a by omega), if_pos c2]; rfl
    rw [if_neg (show ¬ (p.size + e = p.size + a) by omega), if_neg c2]
    by_cases c3 : ¬ bt q (e : Int) = 13
    · rw [if_pos c3, if_pos c3]; rfl
    rw [if_neg c3, if_neg c3]
    by_cases c4 : (body.size : Int) + n > 300
    · rw [if_pos c4, if_pos c4]; rfl
    rw [if_neg c4, if_neg c4]
    by_cases c5 : n > 0 ∧ many = 60
    · rw [if_pos c5, if_pos c5]; rfl
    rw [if_neg c5, if_neg c5]
    by_cases c6 : e + 1 = q.size
    · rw [if_pos (show p.size + (e + 1) = p.size + q.size by omega), if_pos c6]; rfl
    rw [if_neg (show ¬ (p.size + (e + 1) = p.size + q.size) by omega), if_neg c6]
    by_cases c7 : ¬ bt q ((e + 1 : Nat) : Int) = 10
    · rw [if_pos c7, if_pos c7]; rfl
    rw [if_neg c7, if_neg c7]
    by_cases c8 : e + 2 + n.toNat > q.size
    · rw [if_pos (show p.size + (e + 2 + n.toNat) > p.size + q.size by omega), if_pos c8]; rfl
    rw [if_neg (show ¬ (p.size + (e + 2 + n.toNat) > p.size + q.size) by omega), if_neg c8]
    by_cases c9 : e + 2 + n.toNat = q.size
    · rw [if_pos (show p.size + (e + 2 + n.toNat) = p.size + q.size by omega), if_pos c9]; rfl
    rw [if_neg (show ¬ (p.size + (e + 2 + n.toNat) = p.size + q.size) by omega), if_neg c9]
    by_cases c10 : ¬ bt q ((e + 2 + n.toNat : Nat) : Int) = 13
    · rw [if_pos c10, if_pos c10]; rfl
    rw [if_neg c10, if_neg c10]
    by_cases c11 : e + 2 + n.toNat + 1 = q.size
    · rw [if_pos (show p.size + (e + 2 + n.toNat + 1) = p.size + q.size by omega), if_pos c11]; rfl
    rw [if_neg (show ¬ (p.size + (e + 2 + n.toNat + 1) = p.size + q.size) by omega), if_neg c11]
    by_cases c12 : ¬ bt q ((e + 2 + n.toNat + 1 : Nat) : Int) = 10
    · rw [if_pos c12, if_pos c12]; rfl
    rw [if_neg c12, if_neg c12]
    by_cases c13 : n = 0
    · rw [if_pos c13, if_pos c13]
      unfold shf
      refine congrArg some ?_
      show _ = if (0 : Int) = 0 then _ else _
      rw [if_pos rfl]
      exact Prod.ext rfl (Prod.ext (by show ((p.size + (e + 2 + n.toNat + 2) : Nat) : Int) = (p.size : Int) + ((e + 2 + n.toNat + 2 : Nat) : Int); omega) rfl)
    rw [if_neg c13, if_neg c13]
    exact PL_behind p q f _ _ _

/-! A body comes back from its chunks -/
def crlf : ByteArray := ⟨#[13, 10]⟩
def ck (x : ByteArray) : ByteArray := ((hexT x.size ++ crlf) ++ x) ++ crlf
def endc : ByteArray := ⟨#[48, 13, 10, 13, 10]⟩
def fiveTexts : List ByteArray := [(⟨#[97]⟩ : ByteArray), (⟨#[104, 101, 108, 108, 111]⟩ : ByteArray), (⟨#[13, 10]⟩ : ByteArray), (⟨#[48, 13, 10, 13, 10]⟩ : ByteArray), (⟨#[97, 32, 108, 111, 110, 103, 32, 112, 105, 101, 99, 101, 32, 111, 102, 32, 116, 101, 120, 116]⟩ : ByteArray)]
/-- what is told of a text that ends too soon -/
def moreQ (q : ByteArray) (m : Int) : Bool :=
  decide (run q 4 0 = q.size) || (decide (run q 4 0 ≠ 0) && decide (bt q ((run q 4 0 : Nat) : Int) = 13) && decide (val q (run q 4 0 - 0) 0 0 ≤ m) && decide (0 ≤ val q (run q 4 0 - 0) 0 0) &&
    (decide (run q 4 0 + 1 = q.size) || (decide (bt q ((run q 4 0 + 1 : Nat) : Int) = 10) &&
      (decide (run q 4 0 + 2 + (val q (run q 4 0 - 0) 0 0).toNat > q.size) || decide (run q 4 0 + 2 + (val q (run q 4 0 - 0) 0 0).toNat = q.size) ||
        (decide (bt q ((run q 4 0 + 2 + (val q (run q 4 0 - 0) 0 0).toNat : Nat) : Int) = 13) && decide (run q 4 0 + 2 + (val q (run q 4 0 - 0) 0 0).toNat + 1 = q.size))))))
theorem more_ok (q : ByteArray) (m : Int) (h : moreQ q m = true) (f : Nat) (body : ByteArray) (many : Int) (hb : (body.size : Int) + m ≤ 300) (hm : many ≠ 60 ∨ m ≤ 0) : PL (f + 1) q 0 body many = some (emp, 0, 1) := by
  unfold PL PT
  unfold moreQ at h
  generalize run q 4 0 = e at *
  generalize val q (e - 0) 0 0 = n at *
  by_cases c1 : e = q.size
  · rw [if_pos c1]
  rw [decide_eq_false c1, Bool.false_or, Bool.and_eq_true, Bool.and_eq_true, Bool.and_eq_true, Bool.and_eq_true] at h
  obtain ⟨⟨⟨⟨h2, h3⟩, h4⟩, h5⟩, h6⟩ := h
  replace h2 := of_decide_eq_true h2
  replace h3 := of_decide_eq_true h3
  replace h4 := of_decide_eq_true h4
  replace h5 := of_decide_eq_true h5
  rw [if_neg c1, if_neg h2, if_neg (fun z => z h3), if_neg (by omega), if_neg (show ¬ (n > 0 ∧ many = 60) from fun z => by rcases hm with hm | hm
                                                                                                                           · exact hm z.2
                                                                                                                           · have := z.1; omega)]
  by_cases c6 : e + 1 = q.size
  · rw [if_pos c6]
  rw [decide_eq_false c6, Bool.false_or, Bool.and_eq_true] at h6
  obtain ⟨h7, h8⟩ := h6
  replace h7 := of_decide_eq_true h7
  rw [if_neg c6, if_neg (fun z => z h7)]
  by_cases c8 : e + 2 + n.toNat > q.size
  · rw [if_pos c8]
  rw [if_neg c8]
  by_cases c9 : e + 2 + n.toNat = q.size
  · rw [if_pos c9]
  rw [decide_eq_false c8, decide_eq_false c9, Bool.false_or, Bool.false_or, Bool.and_eq_true] at h8
  rw [if_neg c9, if_neg (fun z => z (of_decide_eq_true h8.1)), if_pos (of_decide_eq_true h8.2)]
structure Ck (c x : ByteArray) (e : Nat) : Prop where
  r : run c 4 0 = e
  lt : e < c.size
  ne : e ≠ 0
  b1 : bt c (e : Int) = 13
  v : val c (e - 0) 0 0 = (x.size : Int)
  pos : 0 < x.size
  b2 : bt c ((e + 1 : Nat) : Int) = 10
  len : e + 2 + x.size + 2 = c.size
  b3 : bt c ((e + 2 + x.size : Nat) : Int) = 13
  b4 : bt c ((e + 2 + x.size + 1 : Nat) : Int) = 10
  cut : c.extract (e + 2) (e + 2 + x.size) = x
def ckB (c x : ByteArray) (e : Nat) : Bool := decide (run c 4 0 = e) && decide (e < c.size) && decide (e ≠ 0) && decide (bt c (e : Int) = 13) && decide (val c (e - 0) 0 0 = (x.size : Int)) && decide (0 < x.size) && decide (bt c ((e + 1 : Nat) : Int) = 10) && decide (e + 2 + x.size + 2 = c.size) && decide (bt c ((e + 2 + x.size : Nat) : Int) = 13) && decide (bt c ((e + 2 + x.size + 1 : Nat) : Int) = 10) && decide (c.extract (e + 2) (e + 2 + x.size) = x)
theorem ck_of (c x : ByteArray) (e : Nat) (h : ckB c x e = true) : Ck c x e := by
  unfold ckB at h
  simp only [Bool.and_eq_true, decide_eq_true_eq] at h
  obtain ⟨⟨⟨⟨⟨⟨⟨⟨⟨⟨h1, h2⟩, h3⟩, h4⟩, h5⟩, h6⟩, h7⟩, h8⟩, h9⟩, h10⟩, h11⟩ := h
  exact ⟨h1, h2, h3, h4, h5, h6, h7, h8, h9, h10, h11⟩
theorem five_all : (fiveTexts.all fun x => ckB (ck x) x (run (ck x) 4 0) && (List.range (ck x).size).all fun j => moreQ ((ck x).extract 0 j) (x.size : Int)) = true := by decide +kernel
theorem five_ck (x : ByteArray) (h : x ∈ fiveTexts) : Ck (ck x) x (run (ck x) 4 0) := by
  have g := List.all_eq_true.mp five_all x h
  rw [Bool.and_eq_true] at g
  exact ck_of _ _ _ g.1
theorem five_more (x : ByteArray) (h : x ∈ fiveTexts) (j : Nat) (hj : j < (ck x).size) : moreQ ((ck x).extract 0 j) (x.size : Int) = true := by
  have g := List.all_eq_true.mp five_all x h
  rw [Bool.and_eq_true] at g
  exact List.all_eq_true.mp g.2 j (List.mem_range.mpr hj)
theorem end_all : ((List.range endc.size).all fun j => moreQ (endc.extract 0 j) 0) = true := by decide +kernel
theorem step_ok (c x t : ByteArray) (e : Nat) (h : Ck c x e) (f : Nat) (body : ByteArray) (many : Int) (hb : body.size + x.size ≤ 300) (hm : many ≠ 60) : PL (f + 1) (c ++ t) 0 body many = (PL f t 0 (body ++ x) (many + 1)).map (shf c.size) := by
  have hz : (c ++ t).size = c.size + t.size := ByteArray.size_append
  have hlen := h.len
  have hlt := h.lt
  conv => lhs; unfold PL
  rw [run_front c t 4 0 (Nat.zero_le _) (by rw [h.r]; exact hlt), h.r, val_front c t _ 0 0 (by omega), h.v]
  unfold PT
  rw [Int.toNat_natCast]
  have b1 := bt_front c t e hlt
  have b2 := bt_front c t (e + 1) (by omega)
  have b3 := bt_front c t (e + 2 + x.size) (by omega)
  have b4 := bt_front c t (e + 2 + x.size + 1) (by omega)
  have hcut := cut_front c t (e + 2) (e + 2 + x.size) (by omega)
  rw [b1, b2, b3, b4, hcut, h.b1, h.b2, h.b3, h.b4, h.cut, hz]
  have hpos := h.pos
  have hne := h.ne
  rw [if_neg (by omega), if_neg hne, if_neg (fun z => z rfl), if_neg (by omega), if_neg (fun z => hm z.2), if_neg (by omega), if_neg (fun z => z rfl), if_neg (by omega), if_neg (by omega), if_neg (fun z => z rfl), if_neg (by omega), if_neg (fun z => z rfl), if_neg (by omega), hlen]
  exact PL_behind c t f 0 (body ++ x) (many + 1)
theorem fin_ok (t : ByteArray) (f : Nat) (body : ByteArray) (many : Int) (hb : body.size ≤ 300) : PL (f + 1) (endc ++ t) 0 body many = some (body, 5, 0) := by
  have hz : (endc ++ t).size = 5 + t.size := ByteArray.size_append
  have r : run endc 4 0 = 1 := by decide +kernel
  have v : val endc (1 - 0) 0 0 = 0 := by decide +kernel
  unfold PL
  rw [run_front endc t 4 0 (Nat.zero_le _) (by rw [r]; decide), r, val_front endc t _ 0 0 (by decide), v]
  unfold PT
  have b1 := bt_front endc t 1 (by decide)
  have b2 := bt_front endc t (1 + 1) (by decide)
  have b3 := bt_front endc t (1 + 2 + (0 : Int).toNat) (by decide)
  have b4 := bt_front endc t (1 + 2 + (0 : Int).toNat + 1) (by decide)
  have e1 : bt endc ((1 : Nat) : Int) = 13 := by decide +kernel
  have e2 : bt endc ((1 + 1 : Nat) : Int) = 10 := by decide +kernel
  have e3 : bt endc ((1 + 2 + (0 : Int).toNat : Nat) : Int) = 13 := by decide +kernel
  have e4 : bt endc ((1 + 2 + (0 : Int).toNat + 1 : Nat) : Int) = 10 := by decide +kernel
  have hcut : (endc ++ t).extract (1 + 2) (1 + 2 + (0 : Int).toNat) = emp := no_size _ (by rw [ByteArray.size_extract, hz]; show min 3 _ - 3 = 0; omega)
  rw [b1, b2, b3, b4, e1, e2, e3, e4, hcut, hz]
  have t0 : (0 : Int).toNat = 0 := rfl
  rw [t0, if_neg (by omega), if_neg (by decide), if_neg (fun z => z rfl), if_neg (by omega), if_neg (fun z => absurd z.1 (by decide)), if_neg (by omega), if_neg (fun z => z rfl), if_neg (by omega), if_neg (by omega), if_neg (fun z => z rfl), if_neg (by omega), if_neg (fun z => z rfl), if_pos rfl]
  exact congrArg some (Prod.ext ByteArray.append_empty rfl)
def enc : List ByteArray → ByteArray
  | [] => endc
  | x :: xs => ck x ++ enc xs
def tot (l : List ByteArray) : Nat := (l.map ByteArray.size).sum
def catl : List ByteArray → ByteArray → ByteArray
  | [], b => b
  | x :: xs, b => catl xs (b ++ x)
theorem whole_ok (t : ByteArray) : ∀ (l : List ByteArray) (f : Nat) (body : ByteArray) (many : Int), (∀ x ∈ l, x ∈ fiveTexts) → l.length < f → body.size + tot l ≤ 300 → many + l.length ≤ 60 → PL f (enc l ++ t) 0 body many = some (catl l body, ((enc l).size : Int), 0)
  | l, 0, body, many, _, h, _, _ => absurd h (by omega)
  | [], f + 1, body, many, hl, h, hb, hm => fin_ok t f body many (by have : tot [] = 0 := rfl; omega)
  | x :: xs, f + 1, body, many, hl, h, hb, hm => by
    have hx := hl x List.mem_cons_self
    have ht : tot (x :: xs) = x.size + tot xs := rfl
    rw [List.length_cons] at h hm
    have hs : (body ++ x).size = body.size + x.size := ByteArray.size_append
    show PL (f + 1) (ck x ++ enc xs ++ t) 0 body many = _
    rw [ByteArray.append_assoc, step_ok _ x _ _ (five_ck x hx) f body many (by omega) (by omega), whole_ok t xs f (body ++ x) (many + 1) (fun y hy => hl y (List.mem_cons_of_mem _ hy)) (by omega) (by rw [hs]; omega) (by omega)]
    refine congrArg some (Prod.ext rfl (Prod.ext ?_ rfl))
    show ((ck x).size : Int) + ((enc xs).size : Int) = (((ck x ++ enc xs)).size : Int)
    rw [ByteArray.size_append]; rfl
theorem cut_first (c t : ByteArray) (j : Nat) (h : j ≤ c.size) : (c ++ t).extract 0 j = c.extract 0 j := cut_front c t 0 j h
theorem cut_past (c t : ByteArray) (j : Nat) : (c ++ t).extract 0 (c.size + j) = c ++ t.extract 0 j := by
  rw [ByteArray.extract_append, Nat.zero_sub, Nat.add_sub_cancel_left]
  have e := ByteArray.extract_extract (a := c) (i := 0) (j := c.size) (k := 0) (l := c.size + j)
  rw [ByteArray.extract_zero_size, Nat.zero_add, Nat.zero_add, Nat.min_eq_right (Nat.le_add_right _ _)] at e
  rw [e, ByteArray.extract_zero_size]
theorem part_ok : ∀ (l : List ByteArray) (f j : Nat) (body : ByteArray) (many : Int), (∀ x ∈ l, x ∈ fiveTexts) → l.length < f → body.size + tot l ≤ 300 → many + l.length ≤ 60 → j < (enc l).size → PL f ((enc l).extract 0 j) 0 body many = some (emp, 0, 1)
  | l, 0, j, body, many, _, h, _, _, _ => absurd h (by omega)
  | [], f + 1, j, body, many, hl, h, hb, hm, hj => by
    have ht : tot [] = 0 := rfl
    exact more_ok _ 0 (List.all_eq_true.mp end_all j (List.mem_range.mpr hj)) f body many (by omega) (Or.inr (by decide))
  | x :: xs, f + 1, j, body, many, hl, h, hb, hm, hj => by
    have hx := hl x List.mem_cons_self
    have ht : tot (x :: xs) = x.size + tot xs := rfl
    rw [List.length_cons] at h hm
    have hs : (body ++ x).size = body.size + x.size := ByteArray.size_append
    have hz : (ck x ++ enc xs).size = (ck x).size + (enc xs).size := ByteArray.size_append
    show PL (f + 1) ((ck x ++ enc xs).extract 0 j) 0 body many = _
    by_cases c : j < (ck x).size
    · rw [cut_first _ _ j (Nat.le_of_lt c)]
      exact more_ok _ _ (five_more x hx j c) f body many (by omega) (Or.inl (by omega))
    · obtain ⟨j2, rfl⟩ : ∃ j2, j = (ck x).size + j2 := ⟨j - (ck x).size, by omega⟩
      have hj2 : (ck x).size + j2 < (ck x).size + (enc xs).size := hz ▸ hj
      rw [cut_past, step_ok _ x _ _ (five_ck x hx) f body many (by omega) (by omega)]
      rw [part_ok xs f j2 (body ++ x) (many + 1) (fun y hy => hl y (List.mem_cons_of_mem _ hy)) (by omega) (by rw [hs]; omega) (by omega) (Nat.lt_of_add_lt_add_left hj2)]
      rfl

/-! Chunks as the program and the reference write them -/
theorem mono_le {α : Type} (F : Nat → Option α) (h : ∀ k, LeO (F k) (F (k + 1))) (a b : Nat) (hab : a ≤ b) (r : α) (e : F a = some r) : F b = some r := by
  obtain ⟨d, rfl⟩ := Nat.le.dest hab
  clear hab
  induction d with
  | zero => exact e
  | succ d ih => exact h (a + d) r ih
theorem hex_all20 : ∀ n : Fin 21, spec_l5Hex.f 5 ((n.val : Nat) : Int) = some (hexT n.val) ∧ (hexT n.val).size ≤ 2 := by decide +kernel
theorem hexS (n K : Nat) (h : n ≤ 20) (hK : 5 ≤ K) : spec_l5Hex.f K (n : Int) = some (hexT n) :=
  mono_le (fun k => spec_l5Hex.f k (n : Int)) (fun k => spec_l5Hex.mono (n : Int) k) 5 K hK _ (hex_all20 ⟨n, by omega⟩).1
theorem hexsz (n : Nat) (h : n ≤ 20) : (hexT n).size ≤ 2 := (hex_all20 ⟨n, by omega⟩).2
theorem hexI (n : Nat) (h : n ≤ 20) : impl_hexText.f (n : Int) = some (hexT n) := by
  unfold impl_hexText.f
  rw [if_pos (by omega), if_pos (by omega)]
  rfl
theorem ck_size (x : ByteArray) (h : x.size ≤ 20) : (hexT x.size ++ crlf).size = (hexT x.size).size + 2 ∧ ((hexT x.size ++ crlf) ++ x).size = (hexT x.size).size + 2 + x.size ∧ (ck x).size = (hexT x.size).size + 2 + x.size + 2 := by
  have a : (hexT x.size ++ crlf).size = (hexT x.size).size + 2 := by rw [ByteArray.size_append]; rfl
  have b : ((hexT x.size ++ crlf) ++ x).size = (hexT x.size).size + 2 + x.size := by rw [ByteArray.size_append, a]
  refine ⟨a, b, ?_⟩
  unfold ck
  rw [ByteArray.size_append, b]; rfl
def encA : List ByteArray → ByteArray → ByteArray
  | [], a => a
  | x :: xs, a => encA xs (a ++ ck x)
theorem encA_enc : ∀ (l : List ByteArray) (a : ByteArray), encA l a ++ endc = a ++ enc l
  | [], a => rfl
  | x :: xs, a => by
    show encA xs (a ++ ck x) ++ endc = a ++ (ck x ++ enc xs)
    rw [encA_enc xs (a ++ ck x), ByteArray.append_assoc]
theorem enc_emp (l : List ByteArray) : encA l emp ++ endc = enc l := by rw [encA_enc]; exact ByteArray.empty_append
theorem rdOf_at (l : List ByteArray) (i : Nat) (h : i < l.length) : rdOf ByteArray.empty l (i : Int) = l[i] := by
  unfold rdOf
  rw [List.getD_eq_getElem?_getD, Int.toNat_natCast, List.getElem?_eq_getElem h]; rfl
theorem w_next (i n : Nat) (h : i < n) (h2 : n ≤ 62) : wrap64 ((i : Int) + 1) = ((i + 1 : Nat) : Int) := by rw [w64 (by omega) (by omega)]; omega
theorem w_sum (a b : Nat) (h : a ≤ 2000) (h2 : b ≤ 20) : wrap64 ((a : Int) + (b : Int)) = ((a + b : Nat) : Int) := by rw [w64 (by omega) (by omega)]; omega
theorem cast_lt (i n : Nat) (h : i < n) : (i : Int) < (n : Int) := Int.ofNat_lt.mpr h
theorem s1 (h x a : Nat) (h2 : h ≤ 2) (hx : x ≤ 20) (ha : a ≤ 2000) : h + 2 ≤ 9223372036854775807 ∧ h + 2 + x ≤ 9223372036854775807 ∧ h + 2 + x + 2 ≤ 9223372036854775807 ∧ a + (h + 2 + x + 2) ≤ 9223372036854775807 := by omega
theorem s2 (a i h x : Nat) (ha : a ≤ 26 * i) (h2 : h ≤ 2) (hx : x ≤ 20) : a + (h + 2 + x + 2) ≤ 26 * (i + 1) := by omega
theorem s3 (a i : Nat) (ha : a ≤ 26 * i) (hi : i ≤ 62) : a ≤ 2000 := by omega
def cbI (L : Nat) : List ByteArray → ByteArray → Nat → ByteArray × Bool
  | [], acc, _ => if (L : Int) > 60 then (emp, false) else (acc ++ endc, true)
  | x :: xs, acc, all => if x.toList = [] then (emp, false) else if ((all + x.size : Nat) : Int) > 300 then (emp, false) else cbI L xs (acc ++ ck x) (all + x.size)
def cbS (W : ByteArray) (L : Nat) : List ByteArray → Nat → ByteArray × Bool
  | [], all => if (L : Int) > 60 then (emp, false) else if (all : Int) > 300 then (emp, false) else (W, true)
  | x :: xs, all => if x.toList = [] then (emp, false) else cbS W L xs (all + x.size)
theorem implCB (l : List ByteArray) (hl : l.length ≤ 62) (hs : ∀ x ∈ l, x.size ≤ 20) : ∀ (m K i : Nat) (acc : ByteArray) (all : Nat), i + m = l.length → m < K → acc.size ≤ 26 * i → all ≤ 26 * i →
    impl_ChunkBytes.l0 K l acc (all : Int) l (l.length : Int) (i : Int) = some (cbI l.length (l.drop i) acc all)
  | m, 0, i, acc, all, _, h, _, _ => absurd h (Nat.not_lt_zero m)
  | 0, K + 1, i, acc, all, h, _, ha, _ => by
    have hi : i = l.length := h
    subst hi
    have hb := s3 _ _ ha hl
    have hb2 : acc.size + 5 ≤ 9223372036854775807 := Nat.le_trans (Nat.add_le_add_right hb 5) (by decide)
    unfold impl_ChunkBytes.l0
    rw [if_neg (Int.lt_irrefl _), List.drop_length]
    unfold cbI
    by_cases c : (l.length : Int) > 60
    · rw [if_pos c, if_pos c]
    · rw [if_neg c, if_neg c, if_pos hb2]; rfl
  | m + 1, K + 1, i, acc, all, h, hK, ha, hal => by
    have hi : i < l.length := by omega
    have him : i + 1 + m = l.length := by omega
    have hx := hs _ (List.getElem_mem hi)
    have hh := hexsz _ hx
    obtain ⟨z1, z2, z3⟩ := ck_size _ hx
    have hA := s3 _ _ ha (by omega)
    have hA2 := s3 _ _ hal (by omega)
    obtain ⟨q1, q2, q3, q4⟩ := s1 _ _ _ hh hx hA
    have hacc : (acc ++ ck l[i]).size ≤ 26 * (i + 1) := by rw [ByteArray.size_append, z3]; exact s2 _ _ _ _ ha hh hx
    have hall : all + l[i].size ≤ 26 * (i + 1) := by clear z1 z2 z3 hacc; omega
    unfold impl_ChunkBytes.l0
    rw [if_pos (cast_lt _ _ hi), if_pos (Int.natCast_nonneg i), if_pos (cast_lt _ _ hi), rdOf_at l i hi, List.drop_eq_getElem_cons hi]
    unfold cbI
    by_cases c1 : l[i].toList = []
    · rw [if_pos c1, if_pos c1]
    rw [if_neg c1, if_neg c1, w_sum _ _ hA2 hx]
    by_cases c2 : ((all + l[i].size : Nat) : Int) > 300
    · rw [if_pos c2, if_pos c2]
    rw [if_neg c2, if_neg c2, hexI _ hx, Option.bind_some]
    rw [if_pos q1]
    rw [if_pos (show (hexT l[i].size ++ (⟨#[13, 10]⟩ : ByteArray)).size + l[i].size ≤ 9223372036854775807 from z1.symm ▸ q2)]
    rw [if_pos (show ((hexT l[i].size ++ (⟨#[13, 10]⟩ : ByteArray)) ++ l[i]).size + 2 ≤ 9223372036854775807 from z2.symm ▸ q3)]
    rw [show (hexT l[i].size ++ (⟨#[13, 10]⟩ : ByteArray) ++ l[i] ++ (⟨#[13, 10]⟩ : ByteArray)) = ck l[i] from rfl]
    rw [if_pos (show acc.size + (ck l[i]).size ≤ 9223372036854775807 from z3.symm ▸ q4), w_next i _ hi hl]
    exact implCB l hl hs m K (i + 1) (acc ++ ck l[i]) (all + l[i].size) him (Nat.lt_of_succ_lt_succ hK) hacc hall
theorem specB (l : List ByteArray) (hl : l.length ≤ 62) (hs : ∀ x ∈ l, x.size ≤ 20) : ∀ (m K i : Nat) (acc : ByteArray), i + m = l.length → m + 6 < K → acc.size ≤ 26 * i →
    spec_l5Bytes.l0 K acc l (l.length : Int) (i : Int) = some (encA (l.drop i) acc ++ endc)
  | m, 0, i, acc, _, h, _ => absurd h (Nat.not_lt_zero _)
  | 0, K + 1, i, acc, h, _, ha => by
    have hi : i = l.length := h
    subst hi
    have hb := s3 _ _ ha hl
    have hb2 : acc.size + 5 ≤ 9223372036854775807 := Nat.le_trans (Nat.add_le_add_right hb 5) (by decide)
    unfold spec_l5Bytes.l0
    rw [if_neg (Int.lt_irrefl _), List.drop_length, if_pos hb2]
    rfl
  | m + 1, K + 1, i, acc, h, hK, ha => by
    have hi : i < l.length := by omega
    have him : i + 1 + m = l.length := by omega
    have hK5 : 5 ≤ K := by omega
    have hK6 : m + 6 < K := by omega
    have hx := hs _ (List.getElem_mem hi)
    have hh := hexsz _ hx
    obtain ⟨z1, z2, z3⟩ := ck_size _ hx
    have hA := s3 _ _ ha (by omega)
    obtain ⟨q1, q2, q3, q4⟩ := s1 _ _ _ hh hx hA
    have hacc : (acc ++ ck l[i]).size ≤ 26 * (i + 1) := by rw [ByteArray.size_append, z3]; exact s2 _ _ _ _ ha hh hx
    unfold spec_l5Bytes.l0
    rw [if_pos (cast_lt _ _ hi), if_pos (Int.natCast_nonneg i), if_pos (cast_lt _ _ hi), rdOf_at l i hi, List.drop_eq_getElem_cons hi, hexS _ K hx hK5, Option.bind_some]
    rw [if_pos q1]
    rw [if_pos (show (hexT l[i].size ++ (⟨#[13, 10]⟩ : ByteArray)).size + l[i].size ≤ 9223372036854775807 from z1.symm ▸ q2)]
    rw [if_pos (show ((hexT l[i].size ++ (⟨#[13, 10]⟩ : ByteArray)) ++ l[i]).size + 2 ≤ 9223372036854775807 from z2.symm ▸ q3)]
    rw [show (hexT l[i].size ++ (⟨#[13, 10]⟩ : ByteArray) ++ l[i] ++ (⟨#[13, 10]⟩ : ByteArray)) = ck l[i] from rfl]
    rw [if_pos (show acc.size + (ck l[i]).size ≤ 9223372036854775807 from z3.symm ▸ q4), w_next i _ hi hl]
    exact specB l hl hs m K (i + 1) (acc ++ ck l[i]) him hK6 hacc
theorem specCB (l : List ByteArray) (hl : l.length ≤ 62) (hs : ∀ x ∈ l, x.size ≤ 20) : ∀ (m K i all : Nat), i + m = l.length → m + 100 < K → all ≤ 26 * i →
    spec_ChunkBytes.l0 K l (all : Int) l (l.length : Int) (i : Int) = some (cbS (enc l) l.length (l.drop i) all)
  | m, 0, i, all, _, h, _ => absurd h (Nat.not_lt_zero _)
  | 0, K + 1, i, all, h, hK, ha => by
    have hi : i = l.length := h
    have hKb : l.length + 6 < K := by omega
    have hW := specB l hl hs l.length K 0 emp (Nat.zero_add _) hKb (by decide)
    rw [List.drop_zero, enc_emp] at hW
    subst hi
    unfold spec_ChunkBytes.l0
    rw [if_neg (Int.lt_irrefl _), List.drop_length]
    unfold cbS
    by_cases c : (l.length : Int) > 60
    · rw [if_pos c, if_pos c]
    rw [if_neg c, if_neg c]
    by_cases c2 : (all : Int) > 300
    · rw [if_pos c2, if_pos c2]
    rw [if_neg c2, if_neg c2]
    have hf : spec_l5Bytes.f K l = some (enc l) := hW
    rw [hf]; rfl
  | m + 1, K + 1, i, all, h, hK, ha => by
    have hi : i < l.length := by omega
    have him : i + 1 + m = l.length := by omega
    have hK6 : m + 100 < K := by omega
    have hx := hs _ (List.getElem_mem hi)
    have hA2 := s3 _ _ ha (by omega)
    have hall : all + l[i].size ≤ 26 * (i + 1) := by omega
    unfold spec_ChunkBytes.l0
    rw [if_pos (cast_lt _ _ hi), if_pos (Int.natCast_nonneg i), if_pos (cast_lt _ _ hi), rdOf_at l i hi, List.drop_eq_getElem_cons hi]
    unfold cbS
    by_cases c1 : l[i].toList = []
    · rw [if_pos c1, if_pos c1]
    rw [if_neg c1, if_neg c1, w_sum _ _ hA2 hx, w_next i _ hi hl]
    exact specCB l hl hs m K (i + 1) (all + l[i].size) him hK6 hall
theorem cbS_over (W : ByteArray) (L : Nat) : ∀ (xs : List ByteArray) (all : Nat), (all : Int) > 300 → cbS W L xs all = (emp, false)
  | [], all, h => by
    unfold cbS
    by_cases c : (L : Int) > 60
    · rw [if_pos c]
    · rw [if_neg c, if_pos h]
  | x :: xs, all, h => by
    unfold cbS
    by_cases c : x.toList = []
    · rw [if_pos c]
    · rw [if_neg c, cbS_over W L xs _ (by omega)]
theorem cb_eq (L : Nat) : ∀ (xs : List ByteArray) (acc : ByteArray) (all : Nat), (all : Int) ≤ 300 → cbI L xs acc all = cbS (encA xs acc ++ endc) L xs all
  | [], acc, all, h => by
    unfold cbI cbS
    by_cases c : (L : Int) > 60
    · rw [if_pos c, if_pos c]
    · rw [if_neg c, if_neg c, if_neg (by omega)]; rfl
  | x :: xs, acc, all, h => by
    unfold cbI cbS
    by_cases c : x.toList = []
    · rw [if_pos c, if_pos c]
    rw [if_neg c, if_neg c]
    by_cases c2 : ((all + x.size : Nat) : Int) > 300
    · rw [if_pos c2, cbS_over _ L xs _ c2]
    rw [if_neg c2, cb_eq L xs (acc ++ ck x) (all + x.size) (by omega)]
    rfl
theorem cbI_cases (L : Nat) : ∀ (xs : List ByteArray) (acc : ByteArray) (all : Nat), all ≤ 300 → cbI L xs acc all = (emp, false) ∨ (cbI L xs acc all = (encA xs acc ++ endc, true) ∧ (∀ x ∈ xs, x.toList ≠ []) ∧ all + tot xs ≤ 300 ∧ L ≤ 60)
  | [], acc, all, h => by
    unfold cbI
    by_cases c : (L : Int) > 60
    · rw [if_pos c]; exact Or.inl rfl
    · rw [if_neg c]
      exact Or.inr ⟨rfl, fun x hx => absurd hx List.not_mem_nil, h, by omega⟩
  | x :: xs, acc, all, h => by
    unfold cbI
    by_cases c : x.toList = []
    · rw [if_pos c]; exact Or.inl rfl
    rw [if_neg c]
    by_cases c2 : ((all + x.size : Nat) : Int) > 300
    · rw [if_pos c2]; exact Or.inl rfl
    rw [if_neg c2]
    rcases cbI_cases L xs (acc ++ ck x) (all + x.size) (by omega) with e | ⟨e, h1, h2, h3⟩
    · exact Or.inl e
    · refine Or.inr ⟨e, fun y hy => ?_, ?_, h3⟩
      · rcases List.mem_cons.mp hy with hy | hy
        · rw [hy]; exact c
        · exact h1 y hy
      · have ht : tot (x :: xs) = x.size + tot xs := rfl
        rw [ht, ← Nat.add_assoc]; exact h2

/-! FnChunks -/
theorem of_ok (code : List Int) (hc : ∀ x ∈ code, 0 ≤ x ∧ x ≤ 255) (hb : code.length < 4611686018427387904) (l : List ByteArray) (hl : 0 < l.length) (a s : Int) (h0 : 0 ≤ a) (h1 : a < 4611686018427380000) :
    ∃ v a' s', spec_l1Cur_of.f code a s l = some (v, a', s') ∧ v ∈ l ∧ a ≤ a' ∧ a' ≤ a + 2 := by
  unfold spec_l1Cur_of.f
  obtain ⟨v, a', s', e, h⟩ := pick_ok code hc hb a s (l.length : Int) h0 h1
  rw [e, Option.bind_some, if_pos h.1]
  have c : v < (l.length : Int) := by omega
  try dsimp only
  rw [if_pos c]
  refine ⟨_, _, _, rfl, ?_, h.2.2⟩
  unfold rdOf
  rw [List.getD_eq_getElem?_getD, List.getElem?_eq_getElem (show v.toNat < l.length by omega)]
  exact List.getElem_mem _
theorem pieces_l (code : List Int) (hc : ∀ x ∈ code, 0 ≤ x ∧ x ≤ 255) (hb : code.length < 4611686018427387904) :
    ∀ (n K : Nat) (l : List ByteArray) (a s : Int), n < K → 0 ≤ a → a + 2 * n < 4611686018427370000 → l.length + n ≤ 61 → (∀ x ∈ l, x ∈ fiveTexts ∨ x = emp) →
      ∃ l' a' s', spec_l1Cur_pieces.l0 K l (n : Int) code a s = some (l', a', s') ∧ l'.length ≤ 62 ∧ (∀ x ∈ l', x ∈ fiveTexts ∨ x = emp)
  | n, 0, l, a, s, h, _, _, _, _ => absurd h (by omega)
  | 0, K + 1, l, a, s, h, h0, h1, h2, h3 => by
    unfold spec_l1Cur_pieces.l0
    rw [if_neg (by omega)]
    obtain ⟨v, a', s', e, q1, q2⟩ := one_ok code hc hb a s 40 h0 (by omega)
    rw [e, Option.bind_some]
    try dsimp only
    cases v
    · exact ⟨l, a', s', rfl, by omega, h3⟩
    · rw [if_pos rfl, if_pos (by omega)]
      refine ⟨_, a', s', rfl, by simp; omega, ?_⟩
      intro x hx
      rcases List.mem_append.mp hx with hx | hx
      · exact h3 x hx
      · exact Or.inr (List.mem_singleton.mp hx)
  | n + 1, K + 1, l, a, s, h, h0, h1, h2, h3 => by
    unfold spec_l1Cur_pieces.l0
    rw [if_pos (by omega)]
    obtain ⟨v, a', s', e, hv, q1, q2⟩ := of_ok code hc hb fiveTexts (by decide) a s h0 (by omega)
    unfold fiveTexts at e
    rw [e, Option.bind_some]
    try dsimp only
    rw [if_pos (by omega), w64 (by omega) (by omega), show ((n + 1 : Nat) : Int) - 1 = (n : Int) by omega]
    exact pieces_l code hc hb n K (l ++ [v]) a' s' (by omega) (by omega) (by omega) (by simp; omega) (fun x hx => by
      rcases List.mem_append.mp hx with hx | hx
      · exact h3 x hx
      · rw [List.mem_singleton.mp hx]; exact Or.inl hv)
theorem draw_ok (code : List Int) (hc : ∀ x ∈ code, 0 ≤ x ∧ x ≤ 255) (hb : code.length < 4611686018427387904) (K : Nat) (hK : 100 ≤ K) :
    ∃ l, spec_DrawChunkBytes.f K code = some l ∧ l.length ≤ 62 ∧ (∀ x ∈ l, x ∈ fiveTexts ∨ x = emp) := by
  unfold spec_DrawChunkBytes.f spec_l1Cur_pieces.f
  obtain ⟨v, a1, s1, e1, p1, p2, p3, p4⟩ := pick_ok code hc hb 0 0 5 (by omega) (by omega)
  rw [e1, Option.bind_some]
  try dsimp only
  obtain ⟨v2, a2, s2, e2, q1, q2⟩ := one_ok code hc hb a1 s1 30 (by omega) (by omega)
  rw [e2, Option.bind_some]
  try dsimp only
  obtain ⟨K', rfl⟩ : ∃ K', K = K' + 1 := ⟨K - 1, by omega⟩
  cases v2
  · rw [if_neg (show ¬ false = true by decide)]
    unfold spec_l1Cur_pieces.j0
    try dsimp only
    obtain ⟨n, rfl⟩ : ∃ n : Nat, v = (n : Int) := ⟨v.toNat, by omega⟩
    obtain ⟨l', a', s', e, r1, r2⟩ := pieces_l code hc hb n K' [] a2 s2 (by omega) (by omega) (by omega) (by simp; omega) (fun x hx => by cases hx)
    rw [e, Option.bind_some]
    exact ⟨l', rfl, r1, r2⟩
  · rw [if_pos rfl]
    obtain ⟨v3, a3, s3, e3, t1, t2, t3, t4⟩ := pick_ok code hc hb a2 s2 2 (by omega) (by omega)
    rw [e3, Option.bind_some]
    unfold spec_l1Cur_pieces.j0
    try dsimp only
    rw [w64 (by omega) (by omega)]
    obtain ⟨n, hn⟩ : ∃ n : Nat, 60 + v3 = (n : Int) := ⟨(60 + v3).toNat, by omega⟩
    rw [hn]
    obtain ⟨l', a', s', e, r1, r2⟩ := pieces_l code hc hb n K' [] a3 s3 (by omega) (by omega) (by omega) (by simp; omega) (fun x hx => by cases hx)
    rw [e, Option.bind_some]
    exact ⟨l', rfl, r1, r2⟩
theorem five_small : (fiveTexts.all fun x => decide (x.size ≤ 20)) = true := by decide +kernel
theorem small_of (x : ByteArray) (h : x ∈ fiveTexts ∨ x = emp) : x.size ≤ 20 := by
  rcases h with h | h
  · exact of_decide_eq_true (List.all_eq_true.mp five_small x h)
  · rw [h]; decide
theorem emp_list : emp.toList = ([] : List UInt8) := by unfold ByteArray.toList; rw [ByteArray.toList.loop.eq_def]; rfl
/-- a number of the bytes -/
theorem number_l (l : List Int) (hc : ∀ x ∈ l, 0 ≤ x ∧ x ≤ 255) (hlen : l.length ≤ 1048576) : ∀ (m K i : Nat) (a : Int), i + m = l.length → m < K → 0 ≤ a → a < 1000003 → ∃ r, laws_numberOf.l0 K a l (l.length : Int) (i : Int) = some r ∧ 0 ≤ r ∧ r < 1000003
  | m, 0, i, a, _, h, _, _ => absurd h (Nat.not_lt_zero m)
  | 0, K + 1, i, a, h, _, h0, h1 => by
    unfold laws_numberOf.l0
    rw [if_neg (by omega)]
    exact ⟨a, rfl, h0, h1⟩
  | m + 1, K + 1, i, a, h, hK, h0, h1 => by
    have hi : i < l.length := by omega
    have hx := hc _ (List.getElem_mem hi)
    unfold laws_numberOf.l0
    rw [if_pos (by omega), if_pos (by omega), if_pos (by omega), rd_nat l i hi]
    generalize l[i] = y at hx
    rw [w64 (x := y) (by omega) (by omega), w64 (x := 31 * a) (by omega) (by omega), w64 (x := 31 * a + y) (by omega) (by omega), w64 (by omega) (by omega), succ_cast i]
    have ht : Int.tmod (31 * a + y) 1000003 = (31 * a + y) % 1000003 := Int.tmod_eq_emod_of_nonneg (by omega)
    rw [ht]
    exact number_l l hc hlen m K (i + 1) _ (by omega) (by omega) (by omega) (by omega)
/-- the hexadecimal texts: all that may be drawn -/
def hexDrawn : List Int := [-1, 0, 1, 2, 9, 10, 11, 12, 255, 256, 257, 65535, 65536, 65537, 65538]
def hexRest (k : Nat) (t : Int) : Option Bool := (impl_HexText.f t).bind fun bt226 => ((spec_HexText.f k t).bind fun bt228 => (if (bt226.2 != bt228.2) = true then (laws_FnChunks.j3 k t bt226.1 bt226.2 true) else (laws_FnChunks.j3 k t bt226.1 bt226.2 (bt226.1.toList != bt228.1.toList))))
def isTrue' : Option Bool → Bool
  | some true => true
  | _ => false
theorem isTrue_eq (x : Option Bool) (h : isTrue' x = true) : x = some true := by
  cases x with
  | none => cases h
  | some b => cases b with
    | false => cases h
    | true => rfl
theorem hex_checked : (hexDrawn.all fun t => isTrue' (hexRest 20 t)) = true := by decide +kernel
theorem among_ok (code : List Int) (hc : ∀ x ∈ code, 0 ≤ x ∧ x ≤ 255) (hb : code.length < 4611686018427387904) (l : List Int) (hl : 0 < l.length) (a s : Int) (h0 : 0 ≤ a) (h1 : a < 4611686018427380000) :
    ∃ v a' s', spec_l1Cur_among.f code a s l = some (v, a', s') ∧ v ∈ l ∧ a ≤ a' ∧ a' ≤ a + 2 := by
  unfold spec_l1Cur_among.f
  obtain ⟨v, a', s', e, h⟩ := pick_ok code hc hb a s (l.length : Int) h0 h1
  rw [e, Option.bind_some, if_pos h.1]
  have c : v < (l.length : Int) := by omega
  try dsimp only
  rw [if_pos c]
  refine ⟨_, _, _, rfl, ?_, h.2.2⟩
  obtain ⟨n, rfl⟩ : ∃ n : Nat, v = (n : Int) := ⟨v.toNat, by omega⟩
  try dsimp only
  rw [rd_nat l n (by omega)]
  exact List.getElem_mem _
theorem hexdraw_ok (code : List Int) (hc : ∀ x ∈ code, 0 ≤ x ∧ x ≤ 255) (hb : code.length < 4611686018427387904) : ∃ t, spec_DrawHexText.f code = some t ∧ t ∈ hexDrawn := by
  unfold spec_DrawHexText.f
  obtain ⟨v, a1, s1, e1, hv, p3, p4⟩ := among_ok code hc hb [(-1), 0, 9, 10, 255, 65535, 65536] (by decide) 0 0 (by omega) (by omega)
  rw [e1, Option.bind_some]
  try dsimp only
  obtain ⟨v2, a2, s2, e2, q1, q2, q3, q4⟩ := pick_ok code hc hb a1 s1 3 (by omega) (by omega)
  rw [e2, Option.bind_some]
  refine ⟨_, rfl, ?_⟩
  try dsimp only
  have h3 : v2 = 0 ∨ v2 = 1 ∨ v2 = 2 := by omega
  simp only [List.mem_cons, List.not_mem_nil, or_false] at hv
  unfold hexDrawn
  rcases hv with h | h | h | h | h | h | h <;> rcases h3 with g | g | g <;> subst h <;> subst g <;> decide +kernel
theorem j2_ok (code : List Int) (hc : ∀ x ∈ code, 0 ≤ x ∧ x ≤ 255) (hb : code.length < 4611686018427387904) (K : Nat) (hK : 21 ≤ K) : laws_FnChunks.j2 K code = some true := by
  refine mono_le (fun k => laws_FnChunks.j2 k code) (fun k => (laws_FnChunks.mono_l k).2.1 code) 21 K hK _ ?_
  obtain ⟨t, e, ht⟩ := hexdraw_ok code hc hb
  show laws_FnChunks.j2 21 code = some true
  unfold laws_FnChunks.j2
  show ((spec_DrawHexText.f code).bind fun t225 => hexRest 20 t225) = some true
  rw [e, Option.bind_some]
  exact isTrue_eq _ (List.all_eq_true.mp hex_checked t ht)
theorem readK (s : ByteArray) (hs : s.size < 1099511627776) (r : R3) (h : PL 70 s 0 emp 0 = some r) (K : Nat) (hK : 90 ≤ K) : impl_ReadChunks.f K s = some r := by
  obtain ⟨k, rfl⟩ : ∃ k, K = k + 70 + 20 := ⟨K - 90, by omega⟩
  exact impl_ok s hs 70 k 0 emp 0 r (Nat.zero_le _) (by decide) (by decide) (by decide) h
theorem enc_pos : ∀ l, 0 < (enc l).size
  | [] => by decide
  | x :: xs => by
    show 0 < (ck x ++ enc xs).size
    rw [ByteArray.size_append]
    exact Nat.lt_of_lt_of_le (enc_pos xs) (Nat.le_add_left _ _)
theorem enc_size : ∀ (l : List ByteArray), (∀ x ∈ l, x.size ≤ 20) → (enc l).size ≤ 26 * l.length + 5
  | [], _ => by decide
  | x :: xs, h => by
    have hx := h x List.mem_cons_self
    have hh := hexsz _ hx
    have z := (ck_size x hx).2.2
    have ih := enc_size xs (fun y hy => h y (List.mem_cons_of_mem _ hy))
    have e : (enc (x :: xs)).size = (ck x).size + (enc xs).size := ByteArray.size_append
    rw [e, List.length_cons]
    clear e
    omega
theorem bound_enc (n z : Nat) (h : z ≤ 26 * n + 5) (hn : n ≤ 62) : z ≤ 2000 := by omega
theorem tmod_in (t : Int) (z : Nat) (h0 : 0 ≤ t) (hz : 0 < z) : 0 ≤ Int.tmod t (z : Int) ∧ Int.tmod t (z : Int) ≤ (z : Int) ∧ (Int.tmod t (z : Int)).toNat < z := by
  have a := Int.tmod_nonneg (z : Int) h0
  have b := Int.tmod_lt_of_pos t (show (0 : Int) < (z : Int) by omega)
  exact ⟨a, by omega, by omega⟩
theorem law_l (x1 : List Int) (l : List ByteArray) (hl : l.length ≤ 60) (h5 : ∀ x ∈ l, x ∈ fiveTexts) (ht : tot l ≤ 300) (hc : ∀ x ∈ x1, 0 ≤ x ∧ x ≤ 255) (hx1 : x1.length ≤ 1048576) :
    ∀ (m K i : Nat) (acc : ByteArray), i + m = l.length → m + 1048600 < K → acc.size ≤ 20 * i → catl (l.drop i) acc = catl l emp → laws_FnChunks.l0 K x1 (enc l) acc l (l.length : Int) (i : Int) = some true
  | m, 0, i, acc, _, h, _, _ => absurd h (Nat.not_lt_zero _)
  | 0, K + 1, i, acc, h, hK, ha, hcat => by
    have hi : i = l.length := h
    subst hi
    have hK2 : x1.length < K := by omega
    have hK3 : 90 ≤ K := by omega
    have hK4 : 21 ≤ K := by omega
    have hb62 : l.length ≤ 62 := by omega
    have hlt70 : l.length < 70 := by omega
    have hlI : (0 : Int) + l.length ≤ 60 := by omega
    have hx1b : x1.length < 4611686018427387904 := by omega
    rw [List.drop_length] at hcat
    have hcat2 : acc = catl l emp := hcat
    have hz := bound_enc _ _ (enc_size l (fun x hx => small_of x (Or.inl (h5 x hx)))) hb62
    have hpos := enc_pos l
    obtain ⟨t, en, t0, t1⟩ := number_l x1 hc hx1 x1.length K 0 0 (Nat.zero_add _) hK2 (by decide) (by decide)
    have hn : laws_numberOf.f K x1 = some t := en
    obtain ⟨j0, j1, j2⟩ := tmod_in t (enc l).size t0 hpos
    have hb0 : emp.size + tot l ≤ 300 := by show 0 + tot l ≤ 300; rw [Nat.zero_add]; exact ht
    have w1 := whole_ok (⟨#[109, 111, 114, 101]⟩ : ByteArray) l 70 emp 0 h5 hlt70 hb0 hlI
    have w2 := part_ok l 70 _ emp 0 h5 hlt70 hb0 hlI j2
    have z1 : (enc l ++ (⟨#[109, 111, 114, 101]⟩ : ByteArray)).size < 1099511627776 := by
      rw [ByteArray.size_append]
      exact Nat.lt_of_le_of_lt (Nat.add_le_add_right hz 4) (by decide)
    have z2 : ((enc l).extract 0 (Int.tmod t ((enc l).size : Int)).toNat).size < 1099511627776 := by
      rw [ByteArray.size_extract]
      exact Nat.lt_of_le_of_lt (Nat.sub_le _ _) (Nat.lt_of_le_of_lt (Nat.min_le_right _ _) (Nat.lt_of_le_of_lt hz (by decide)))
    have z3 : (enc l).size + 4 ≤ 9223372036854775807 := Nat.le_trans (Nat.add_le_add_right hz 4) (by decide)
    have z4 : ¬ ((enc l).size : Int) = 0 := fun hh => absurd (Int.ofNat.inj hh) (Nat.ne_of_gt hpos)
    unfold laws_FnChunks.l0
    rw [if_neg (Int.lt_irrefl _), if_pos z3, readK _ z1 _ w1 K hK3, Option.bind_some, hn, Option.bind_some, if_neg z4, if_pos j0, if_pos j1, readK _ z2 _ w2 K hK3, Option.bind_some]
    dsimp only
    rw [if_pos rfl, if_pos rfl, hcat2, if_pos rfl, if_pos rfl, if_pos rfl, if_pos emp_list]
    exact j2_ok x1 hc hx1b K hK4
  | m + 1, K + 1, i, acc, h, hK, ha, hcat => by
    have hi : i < l.length := by omega
    have him : i + 1 + m = l.length := by omega
    have hKn : m + 1048600 < K := by omega
    have hs := small_of _ (Or.inl (h5 _ (List.getElem_mem hi)))
    have hsum : (acc ++ l[i]).size ≤ 20 * (i + 1) := by
      rw [ByteArray.size_append]
      exact Nat.le_trans (Nat.add_le_add ha hs) (Nat.le_of_eq (by rw [Nat.mul_add]))
    have hfit : acc.size + l[i].size ≤ 9223372036854775807 := Nat.le_trans (Nat.add_le_add ha hs) (by omega)
    rw [List.drop_eq_getElem_cons hi] at hcat
    unfold laws_FnChunks.l0
    rw [if_pos (cast_lt _ _ hi), if_pos (Int.natCast_nonneg i), if_pos (cast_lt _ _ hi), rdOf_at l i hi, if_pos hfit, w_next i _ hi (Nat.le_trans hl (by decide))]
    exact law_l x1 l hl h5 ht hc hx1 m K (i + 1) (acc ++ l[i]) him hKn hsum hcat
theorem w_len (a b : Nat) (ha : a ≤ 140737488351232) (hb : b ≤ 140737488351232) : wrap64 ((a : Int) + (b : Int)) = (a : Int) + (b : Int) := w64 (by omega) (by omega)
theorem FnChunks : laws_FnChunks.Pure := by
  intro code more hlen hlen2 hwf hlen3 hlen4 hwf2
  have hc := bytes_of code hwf
  have hc2 := bytes_of more hwf2
  refine ⟨3000000, ?_⟩
  unfold laws_FnChunks.f
  rw [w_len _ _ (by omega) (by omega)]
  by_cases c : (code.length : Int) + (more.length : Int) > 1048576
  · rw [if_pos c]
  rw [if_neg c]
  have hb : code.length < 4611686018427387904 := by omega
  have hm : more.length ≤ 1048576 := by omega
  have hmb : more.length < 4611686018427387904 := by omega
  obtain ⟨l, e, hl, h5⟩ := draw_ok code hc hb 3000000 (by decide)
  have hs : ∀ x ∈ l, x.size ≤ 20 := fun x hx => small_of x (h5 x hx)
  have i1 : impl_ChunkBytes.f 3000000 l = some (cbI l.length l emp 0) := by
    have h := implCB l hl hs l.length 3000000 0 emp 0 (Nat.zero_add _) (by omega) (by decide) (by decide)
    rw [List.drop_zero] at h
    exact h
  have i2 : spec_ChunkBytes.f 3000000 l = some (cbI l.length l emp 0) := by
    have h := specCB l hl hs l.length 3000000 0 0 (Nat.zero_add _) (by omega) (by decide)
    rw [List.drop_zero] at h
    rw [cb_eq l.length l emp 0 (by decide), enc_emp]
    exact h
  rw [e, Option.bind_some, i1, Option.bind_some, i2, Option.bind_some]
  have hne : ∀ b : Bool, (b != b) = false := fun b => by cases b <;> rfl
  have hnl : ∀ z : List UInt8, (z != z) = false := fun z => bne_eq_false_iff_eq.mpr rfl
  rw [hne, if_neg (show ¬ false = true by decide), hnl]
  unfold laws_FnChunks.j0
  dsimp only
  rw [if_neg (show ¬ false = true by decide)]
  rcases cbI_cases l.length l emp 0 (by decide) with g | ⟨g, g1, g2, g3⟩
  · rw [g]
    dsimp only
    rw [if_neg (show ¬ false = true by decide)]
    exact j2_ok more hc2 hmb _ (by decide)
  · rw [g]
    dsimp only
    rw [if_pos rfl, enc_emp]
    have h5' : ∀ x ∈ l, x ∈ fiveTexts := fun x hx => by
      rcases h5 x hx with h | h
      · exact h
      · exact absurd (h ▸ emp_list) (g1 x hx)
    rw [Nat.zero_add] at g2
    exact law_l more l g3 h5' g2 hc2 hm l.length 2999999 0 emp (Nat.zero_add _) (by omega) (by decide) (by rw [List.drop_zero])

end Go.Proofs.YtplcocljgoipkaaDoor.Pure
