/- What is resolved is resolved no further: texts as lists of bytes, paths as their parts. -/
import Derived.Test.YtklicdjbihmbiaaGreatDoorPFnResolvedx15
import Derived.Lib.VarintBits
set_option linter.unusedVariables false
set_option linter.unusedSimpArgs false
namespace Go.Proofs.YtklicdjbihmbiaaGreatDoor.Pure
open Go.RowKit Go.Proofs.YtklicdjbihmbiaaGreatDoor.PFnResolved Go.Proofs.YtklicdjbihmbiaaGreatDoorW.PrintWords Go.Proofs.YtklicdjbihmbiaaGreatDoorW.PrintLast

/-! Whole numbers and rows of them -/
theorem w64 {x : Int} (h : -9223372036854775808 ≤ x) (h2 : x < 9223372036854775808) : wrap64 x = x := by unfold wrap64; omega
theorem rd_nat (l : List Int) (n : Nat) (h : n < l.length) : rd l (n : Int) = l[n] := by
  unfold rd; simp [List.getD_eq_getElem?_getD, h]
theorem succ_cast (n : Nat) : ((n : Int) + 1) = ((n + 1 : Nat) : Int) := by omega

theorem mono_le {α : Type} (F : Nat → Option α) (h : ∀ k, LeO (F k) (F (k + 1))) (a b : Nat) (hab : a ≤ b) (r : α) (e : F a = some r) : F b = some r := by
  obtain ⟨d, rfl⟩ := Nat.le.dest hab
  clear hab
  induction d with
  | zero => exact e
  | succ d ih => exact h (a + d) r ih

/-! ### Texts as lists of bytes -/
abbrev tx (l : List UInt8) : ByteArray := ⟨l.toArray⟩
theorem tx_size (l : List UInt8) : (tx l).size = l.length := by simp [ByteArray.size]
theorem tx_data (s : ByteArray) : tx s.data.toList = s := rfl
theorem tx_list (l : List UInt8) : (tx l).data.toList = l := rfl
theorem tx_app (a b : List UInt8) : tx a ++ tx b = tx (a ++ b) := by
  apply ByteArray.ext
  simp [tx]
theorem tx_cut (T : List UInt8) (a b : Nat) : (tx T).extract a b = tx ((T.drop a).take (b - a)) := by
  apply ByteArray.ext
  apply Array.toList_inj.mp
  simp [tx]
theorem tx_inj {a b : List UInt8} (h : tx a = tx b) : a = b := by
  have : (tx a).data.toList = (tx b).data.toList := by rw [h]
  exact this
theorem bt_tx (T : List UInt8) (i : Nat) (h : i < T.length) : bt (tx T) (i : Int) = (T[i].toNat : Int) := by
  have h1 : ((i : Int)).toNat < (tx T).size := by rw [tx_size]; omega
  unfold bt
  rw [dif_pos h1]
  simp [tx, ByteArray.getElem_eq_getElem_data]
theorem bt_at (pre rest : List UInt8) (b : UInt8) : bt (tx (pre ++ b :: rest)) (pre.length : Int) = (b.toNat : Int) := by
  rw [bt_tx _ pre.length (by simp)]
  simp
/-! ### Cut at a byte -/
theorem index_none (c : UInt8) : ∀ l : List UInt8, c ∉ l → Lib.index l [c] = -1
  | [], _ => rfl
  | b :: l, h => by
    have hb : (c == b) = false := beq_eq_false_iff_ne.mpr fun e => h (e ▸ List.mem_cons_self ..)
    have ih := index_none c l fun hh => h (List.mem_cons_of_mem _ hh)
    unfold Lib.index
    rw [ih]
    simp [List.isPrefixOf, hb]
theorem index_at (c : UInt8) (r : List UInt8) : ∀ l : List UInt8, c ∉ l → Lib.index (l ++ c :: r) [c] = (l.length : Int)
  | [], _ => by simp [Lib.index, List.isPrefixOf]
  | b :: l, h => by
    have hb : (c == b) = false := beq_eq_false_iff_ne.mpr fun e => h (e ▸ List.mem_cons_self ..)
    have ih := index_at c r l fun hh => h (List.mem_cons_of_mem _ hh)
    show Lib.index (b :: (l ++ c :: r)) [c] = _
    unfold Lib.index
    rw [ih]
    have : ((l.length : Int) == -1) = false := beq_eq_false_iff_ne.mpr (by omega)
    simp [List.isPrefixOf, hb, this]
theorem cut_none (c : UInt8) (l : List UInt8) (h : c ∉ l) : Lib.cut l [c] = (l, [], false) := by
  unfold Lib.cut
  rw [index_none c l h]; rfl
theorem cut_at (c : UInt8) (l r : List UInt8) (h : c ∉ l) : Lib.cut (l ++ c :: r) [c] = (l, r, true) := by
  unfold Lib.cut
  rw [index_at c r l h, if_pos (by omega), Int.toNat_natCast, List.take_left]
  have : l.length + [c].length = (l ++ [c]).length := by simp
  rw [this, show l ++ c :: r = (l ++ [c]) ++ r by simp, List.drop_left]
theorem cut_http (r : List UInt8) : Lib.cut ([104, 116, 116, 112] ++ ([58, 47, 47] ++ r)) [58, 47, 47] = ([104, 116, 116, 112], r, true) := by
  simp [Lib.cut, Lib.index, List.isPrefixOf]
theorem cut_https (r : List UInt8) : Lib.cut ([104, 116, 116, 112, 115] ++ ([58, 47, 47] ++ r)) [58, 47, 47] = ([104, 116, 116, 112, 115], r, true) := by
  simp [Lib.cut, Lib.index, List.isPrefixOf]
/-! ### Numerals -/
theorem decFrom_app : ∀ (l r : List UInt8) (a : Nat), Lib.decFrom a (l ++ r) = (Lib.decFrom a l).bind fun b => Lib.decFrom b r
  | [], _, _ => rfl
  | x :: l, r, a => by
    show (match Lib.digitVal x with | some d => Lib.decFrom (a * 10 + d) (l ++ r) | none => none) = (match Lib.digitVal x with | some d => Lib.decFrom (a * 10 + d) l | none => none).bind _
    cases Lib.digitVal x with
    | none => rfl
    | some d => exact decFrom_app l r _
theorem u8of (d : Nat) (h : d < 10) : (UInt8.ofNat (48 + d)).toNat = 48 + d := by rw [UInt8.toNat_ofNat']; omega
theorem dig_val (d : Nat) (h : d < 10) : Lib.digitVal (UInt8.ofNat (48 + d)) = some d := by
  unfold Lib.digitVal
  rw [u8of d h, if_pos (by omega)]
  congr 1; omega
theorem dec_back (u : Nat) : Lib.decFrom 0 (Lib.decDigits u) = some u := by
  induction u using Nat.strongRecOn with
  | ind u ih =>
    unfold Lib.decDigits
    by_cases h : u < 10
    · rw [dif_pos h]
      show (match Lib.digitVal (UInt8.ofNat (48 + u)) with | some d => Lib.decFrom (0 * 10 + d) [] | none => none) = _
      rw [dig_val u h]
      show some (0 * 10 + u) = _
      congr 1; omega
    · rw [dif_neg h, decFrom_app, ih (u / 10) (by omega), Option.bind_some]
      show (match Lib.digitVal (UInt8.ofNat (48 + u % 10)) with | some d => Lib.decFrom (u / 10 * 10 + d) [] | none => none) = _
      rw [dig_val _ (by omega)]
      show some (u / 10 * 10 + u % 10) = _
      congr 1; omega
theorem dec_digs (u : Nat) : ∀ b ∈ Lib.decDigits u, 48 ≤ b.toNat ∧ b.toNat ≤ 57 := by
  induction u using Nat.strongRecOn with
  | ind u ih =>
    intro b hb
    unfold Lib.decDigits at hb
    by_cases h : u < 10
    · rw [dif_pos h] at hb
      rw [List.mem_singleton.mp hb, u8of u h]; omega
    · rw [dif_neg h] at hb
      rcases List.mem_append.mp hb with h1 | h1
      · exact ih (u / 10) (by omega) b h1
      · rw [List.mem_singleton.mp h1, u8of _ (by omega)]; omega
theorem dec_len (u : Nat) : ∀ n, u < 10 ^ (n + 1) → (Lib.decDigits u).length ≤ n + 1 := by
  induction u using Nat.strongRecOn with
  | ind u ih =>
    intro n hn
    unfold Lib.decDigits
    by_cases h : u < 10
    · rw [dif_pos h]; simp
    · rw [dif_neg h, List.length_append]
      cases n with
      | zero => omega
      | succ m =>
        have := ih (u / 10) (by omega) m (by rw [Nat.pow_succ] at hn; omega)
        simp; omega
theorem dec_ne (u : Nat) : Lib.decDigits u ≠ [] := by
  unfold Lib.decDigits
  split <;> simp
theorem atoi_back (u : Nat) : Lib.atoi (Lib.decDigits u) = some (u : Int) := by
  cases e : Lib.decDigits u with
  | nil => exact absurd e (dec_ne u)
  | cons b r =>
    have hb := dec_digs u b (by rw [e]; exact List.mem_cons_self ..)
    show (if (b == 45) = true then (Lib.decNat r).map fun (m : Nat) => -(m : Int) else if (b == 43) = true then (Lib.decNat r).map fun (m : Nat) => (m : Int) else (Lib.decNat (b :: r)).map fun (m : Nat) => (m : Int)) = _
    have h1 : (b == 45) = false := beq_eq_false_iff_ne.mpr fun h => by subst h; simp at hb
    have h2 : (b == 43) = false := beq_eq_false_iff_ne.mpr fun h => by subst h; simp at hb
    rw [h1, h2]
    have : Lib.decNat (b :: r) = some u := by
      unfold Lib.decNat
      rw [← e, if_neg (by rw [e]; exact Bool.false_ne_true), dec_back]
    simp [this]

/-! ### The bytes' kinds, by reckoning over all 256 -/
theorem byte_all (p : UInt8 → Bool) (h : ((List.range 256).all fun n => p (UInt8.ofNat n)) = true) (b : UInt8) : p b = true := by
  have := List.all_eq_true.mp h b.toNat (List.mem_range.mpr b.toNat_lt)
  rwa [UInt8.ofNat_toNat] at this
def isLB (b : UInt8) : Bool := (97 ≤ b.toNat && b.toNat ≤ 122) || (65 ≤ b.toNat && b.toNat ≤ 90)
def isDB (b : UInt8) : Bool := 48 ≤ b.toNat && b.toNat ≤ 57
def pbase : List UInt8 := [45, 46, 95, 126, 33, 36, 38, 39, 40, 41, 42, 43, 44, 59, 61, 58, 64]
def okB (o : List UInt8) (b : UInt8) : Bool := isLB b || isDB b || pbase.contains b || o.contains b
def hostB (b : UInt8) : Bool := isLB b || isDB b || b == 45 || b == 46
def freeB (b : UInt8) : Bool := isLB b || isDB b || b == 45 || b == 46 || b == 95 || b == 126
def hv (b : UInt8) : Int := match impl_hexValue.f (b.toNat : Int) with | some v => v | none => -1
def hexP (b : UInt8) : Bool := decide (impl_hexValue.f (b.toNat : Int) = some (hv b)) && decide (spec_l1Hex.f 2 (b.toNat : Int) = some (hv b)) && decide (-1 ≤ hv b) && decide (hv b ≤ 15)
theorem hex_all : ((List.range 256).all fun n => hexP (UInt8.ofNat n)) = true := by decide +kernel
theorem hex_b (b : UInt8) : impl_hexValue.f (b.toNat : Int) = some (hv b) ∧ (∀ k, 2 ≤ k → spec_l1Hex.f k (b.toNat : Int) = some (hv b)) ∧ -1 ≤ hv b ∧ hv b ≤ 15 := by
  have g := byte_all hexP hex_all b
  unfold hexP at g
  simp only [Bool.and_eq_true, decide_eq_true_eq] at g
  exact ⟨g.1.1.1, fun k hk => mono_le (fun k => spec_l1Hex.f k (b.toNat : Int)) (fun k => spec_l1Hex.mono _ k) 2 k hk _ g.1.1.2, g.1.2, g.2⟩
theorem or_all : ((List.range 16).all fun a => (List.range 16).all fun b => decide ((Go.bits .or .i64 (wrap64 ((a : Int) * 16)) (b : Int)) % 256 = 16 * (a : Int) + b)) = true := by decide +kernel
theorem or_hex (a b : Int) (ha : 0 ≤ a) (ha2 : a ≤ 15) (hb : 0 ≤ b) (hb2 : b ≤ 15) : (Go.bits .or .i64 (wrap64 (a * 16)) b) % 256 = 16 * a + b := by
  have g := List.all_eq_true.mp (List.all_eq_true.mp or_all a.toNat (List.mem_range.mpr (by omega))) b.toNat (List.mem_range.mpr (by omega))
  simp only [decide_eq_true_eq] at g
  rwa [Int.toNat_of_nonneg ha, Int.toNat_of_nonneg hb] at g
def isT : Option Bool → Bool
  | some true => true
  | _ => false
/-- what is known of a list of further signs -/
structure Oth (o : List UInt8) : Prop where
  am : ∀ b : UInt8, impl_isAmong.f (b.toNat : Int) (tx (pbase ++ o)) = some (okB o b)
  sp : ∀ (b : UInt8) k, 20 ≤ k → ∃ f h1 h2, spec_l1Free.f (b.toNat : Int) = some f ∧ spec_l1Has.f k (⟨#[33, 36, 38, 39, 40, 41, 42, 43, 44, 59, 61, 58, 64]⟩ : ByteArray) (b.toNat : Int) = some h1 ∧ spec_l1Has.f k (tx o) (b.toNat : Int) = some h2 ∧ (f || h1 || h2) = okB o b
  pr : okB o 37 = false
  sm : o.length ≤ 2
def othB (o : List UInt8) (b : UInt8) : Bool := decide (impl_isAmong.f (b.toNat : Int) (tx (pbase ++ o)) = some (okB o b)) && decide (spec_l1Free.f (b.toNat : Int) = some (isT (spec_l1Free.f (b.toNat : Int)))) && decide (spec_l1Has.f 20 (⟨#[33, 36, 38, 39, 40, 41, 42, 43, 44, 59, 61, 58, 64]⟩ : ByteArray) (b.toNat : Int) = some (isT (spec_l1Has.f 20 (⟨#[33, 36, 38, 39, 40, 41, 42, 43, 44, 59, 61, 58, 64]⟩ : ByteArray) (b.toNat : Int)))) && decide (spec_l1Has.f 20 (tx o) (b.toNat : Int) = some (isT (spec_l1Has.f 20 (tx o) (b.toNat : Int)))) && decide ((isT (spec_l1Free.f (b.toNat : Int)) || isT (spec_l1Has.f 20 (⟨#[33, 36, 38, 39, 40, 41, 42, 43, 44, 59, 61, 58, 64]⟩ : ByteArray) (b.toNat : Int)) || isT (spec_l1Has.f 20 (tx o) (b.toNat : Int))) = okB o b)
theorem oth_of (o : List UInt8) (h : ((List.range 256).all fun n => othB o (UInt8.ofNat n)) = true) (hp : okB o 37 = false) (hs : o.length ≤ 2) : Oth o where
  am := fun b => by
    have g := byte_all (othB o) h b
    unfold othB at g
    simp only [Bool.and_eq_true, decide_eq_true_eq] at g
    exact g.1.1.1.1
  sp := fun b k hk => by
    have g := byte_all (othB o) h b
    unfold othB at g
    simp only [Bool.and_eq_true, decide_eq_true_eq] at g
    exact ⟨_, _, _, g.1.1.1.2, mono_le (fun k => spec_l1Has.f k _ (b.toNat : Int)) (fun k => spec_l1Has.mono _ _ k) 20 k hk _ g.1.1.2, mono_le (fun k => spec_l1Has.f k _ (b.toNat : Int)) (fun k => spec_l1Has.mono _ _ k) 20 k hk _ g.1.2, g.2⟩
  pr := hp
  sm := hs
theorem oth_path : Oth [47] := oth_of _ (by decide +kernel) (by decide +kernel) (by decide)
theorem oth_query : Oth [47, 63] := oth_of _ (by decide +kernel) (by decide +kernel) (by decide)
def hostP (b : UInt8) : Bool := decide (impl_GoodUrl_1.f (b.toNat : Int) = some (hostB b)) && decide (spec_l1Letter.f (b.toNat : Int) = some (isLB b)) && decide (spec_l1Digit.f (b.toNat : Int) = some (isDB b)) && decide (spec_l1Free.f (b.toNat : Int) = some (freeB b)) && decide (spec_l1Free.f (b.toNat : Int) = some (freeB b))
theorem host_all : ((List.range 256).all fun n => hostP (UInt8.ofNat n)) = true := by decide +kernel
theorem host_b (b : UInt8) : impl_GoodUrl_1.f (b.toNat : Int) = some (hostB b) ∧ spec_l1Letter.f (b.toNat : Int) = some (isLB b) ∧ spec_l1Digit.f (b.toNat : Int) = some (isDB b) ∧ spec_l1Free.f (b.toNat : Int) = some (freeB b) ∧ spec_l1Free.f (b.toNat : Int) = some (freeB b) := by
  have g := byte_all hostP host_all b
  unfold hostP at g
  simp only [Bool.and_eq_true, decide_eq_true_eq] at g
  exact ⟨g.1.1.1.1, g.1.1.1.2, g.1.1.2, g.1.2, g.2⟩
/-! ### Percents -/
theorem toNat_37 (b : UInt8) : ((b.toNat : Int) = 37) = (b = 37) := propext ⟨fun h => UInt8.toNat_inj.mp (by show b.toNat = 37; omega), fun h => by subst h; rfl⟩
theorem perc_short (k : Nat) (l : List UInt8) (h : l.length < 3) : impl_percent.f (k + 1) (tx l) = some (0, false) := by
  unfold impl_percent.f impl_percent.j0
  dsimp only
  rw [tx_size, if_pos (by omega), if_pos rfl]
theorem perc_I (k : Nat) (x y : UInt8) (z : List UInt8) : impl_percent.f (k + 1) (tx (37 :: x :: y :: z)) = some (if 0 ≤ hv x ∧ 0 ≤ hv y then (16 * hv x + hv y, true) else (0, false)) := by
  have e0 : bt (tx (37 :: x :: y :: z)) 0 = 37 := bt_tx (37 :: x :: y :: z) 0 (by simp)
  have e1 : bt (tx (37 :: x :: y :: z)) 1 = (x.toNat : Int) := bt_tx (37 :: x :: y :: z) 1 (by simp)
  have e2 : bt (tx (37 :: x :: y :: z)) 2 = (y.toNat : Int) := bt_tx (37 :: x :: y :: z) 2 (by simp)
  have hs : ((tx (37 :: x :: y :: z)).size : Int) = (z.length : Int) + 3 := by rw [tx_size]; simp; omega
  unfold impl_percent.f impl_percent.j0
  dsimp only
  rw [hs, e0, e1, e2, if_neg (by omega), if_pos (by omega), if_pos rfl, if_pos (by omega), (hex_b x).1, Option.bind_some]
  by_cases c : 0 ≤ hv x
  · rw [if_neg (by omega), if_pos (by omega), (hex_b y).1, Option.bind_some]
    by_cases c2 : 0 ≤ hv y
    · rw [decide_eq_false (show ¬ hv y < 0 by omega), if_neg (show ¬ false = true by decide), if_pos (by omega), Option.bind_some, if_pos (by omega), Option.bind_some, if_pos ⟨c, c2⟩, or_hex _ _ c (hex_b x).2.2.2 c2 (hex_b y).2.2.2]
    · rw [decide_eq_true (show hv y < 0 by omega), if_pos rfl, if_neg (fun h => c2 h.2)]
  · rw [if_pos (by omega), if_pos rfl, if_neg (fun h => c h.1)]
theorem tx_tail (pre M : List UInt8) : (tx (pre ++ M)).extract (pre.length : Int).toNat (tx (pre ++ M)).size = tx M := by
  rw [tx_cut, tx_size, Int.toNat_natCast, List.drop_left, List.take_of_length_le (by simp)]
theorem byte_S (k : Nat) (pre : List UInt8) (x y : UInt8) (z : List UInt8) (hl : (pre ++ 37 :: x :: y :: z).length ≤ 100000) : spec_l1Byte.f (k + 3) (tx (pre ++ 37 :: x :: y :: z)) (pre.length : Int) = some (if 0 ≤ hv x ∧ 0 ≤ hv y then 16 * hv x + hv y else -1) := by
  have e0 : bt (tx (pre ++ 37 :: x :: y :: z)) (pre.length : Int) = 37 := bt_at pre _ 37
  have e1 : bt (tx (pre ++ 37 :: x :: y :: z)) ((pre.length : Int) + 1) = (x.toNat : Int) := by
    have := bt_at (pre ++ [37]) (y :: z) x
    simpa using this
  have e2 : bt (tx (pre ++ 37 :: x :: y :: z)) ((pre.length : Int) + 2) = (y.toNat : Int) := by
    have := bt_at (pre ++ [37, x]) z y
    simpa using this
  have hs : ((tx (pre ++ 37 :: x :: y :: z)).size : Int) = (pre.length : Int) + 3 + (z.length : Int) := by rw [tx_size]; simp; omega
  simp only [List.length_append, List.length_cons] at hl
  have w1 : wrap64 ((pre.length : Int) + 1) = (pre.length : Int) + 1 := w64 (by omega) (by omega)
  have w2 : wrap64 ((pre.length : Int) + 2) = (pre.length : Int) + 2 := w64 (by omega) (by omega)
  unfold spec_l1Byte.f spec_l1Byte.j0
  dsimp only
  rw [w1, w2, hs, e0, e1, e2, if_neg (by omega), if_pos (by omega), if_pos (by omega), show ((37 : Int) != 37) = false by decide, if_neg (show ¬ false = true by decide), if_pos (by omega), if_pos (by omega), (hex_b x).2.1 _ (by omega), Option.bind_some, if_pos (by omega), if_pos (by omega), (hex_b y).2.1 _ (by omega), Option.bind_some]
  by_cases c : 0 ≤ hv x
  · rw [if_neg (by omega)]
    by_cases c2 : 0 ≤ hv y
    · have := (hex_b x).2.2.2
      have := (hex_b y).2.2.2
      rw [if_neg (by omega), if_pos ⟨c, c2⟩, w64 (x := 16 * hv x) (by omega) (by omega), w64 (by omega) (by omega)]
    · rw [if_pos (by omega), if_neg (fun h => c2 h.2)]
  · rw [if_pos (by omega), if_neg (fun h => c h.1)]
theorem byte_short (k : Nat) (pre : List UInt8) (r : List UInt8) (b : UInt8) (hl : (pre ++ b :: r).length ≤ 100000) (h : r.length < 2 ∨ b ≠ 37) : spec_l1Byte.f (k + 3) (tx (pre ++ b :: r)) (pre.length : Int) = some (-1) := by
  have e0 : bt (tx (pre ++ b :: r)) (pre.length : Int) = (b.toNat : Int) := bt_at pre _ b
  have hs : ((tx (pre ++ b :: r)).size : Int) = (pre.length : Int) + 1 + (r.length : Int) := by rw [tx_size]; simp; omega
  simp only [List.length_append, List.length_cons] at hl
  have w2 : wrap64 ((pre.length : Int) + 2) = (pre.length : Int) + 2 := w64 (by omega) (by omega)
  unfold spec_l1Byte.f
  rw [w2, hs]
  by_cases c : r.length < 2
  · rw [if_pos (by omega)]
    unfold spec_l1Byte.j0
    dsimp only
    rw [if_pos rfl]
  · have hb : b ≠ 37 := h.resolve_left c
    rw [if_neg (by omega), if_pos (by omega), if_pos (by omega), e0]
    unfold spec_l1Byte.j0
    dsimp only
    rw [if_pos (bne_iff_ne.mpr (fun hh => hb ((toNat_37 b).mp hh)))]
def pch (o : List UInt8) : List UInt8 → Bool
  | [] => true
  | b :: r => if b = 37 then (match r with | x :: y :: z => decide (0 ≤ hv x) && decide (0 ≤ hv y) && pch o z | _ => false) else okB o b && pch o r
theorem pch_ne (o : List UInt8) (b : UInt8) (r : List UInt8) (c : b ≠ 37) : pch o (b :: r) = (okB o b && pch o r) := by
  conv => lhs; unfold pch
  rw [if_neg c]
theorem pch_I (o : List UInt8) (ho : Oth o) : ∀ (n : Nat) (M pre : List UInt8) (K : Nat), M.length ≤ n → (pre ++ M).length ≤ 1000 → n + 2 ≤ K → impl_arePchars.l0 K (tx (pre ++ M)) (tx o) (pre.length : Int) = some (pch o M)
  | n, M, pre, 0, _, _, h => absurd h (by omega)
  | n, [], pre, K + 1, _, _, _ => by
    unfold impl_arePchars.l0 pch
    rw [tx_size, List.append_nil, if_neg (Int.lt_irrefl _)]
  | 0, b :: r, pre, K + 1, h, _, _ => absurd h (by simp)
  | n + 1, b :: r, pre, K + 1, h, hl, hK => by
    have hs : ((tx (pre ++ b :: r)).size : Int) = (pre.length : Int) + 1 + (r.length : Int) := by rw [tx_size]; simp; omega
    have e0 : bt (tx (pre ++ b :: r)) (pre.length : Int) = (b.toNat : Int) := bt_at pre _ b
    have hl2 : pre.length + (r.length + 1) ≤ 1000 := by simpa using hl
    have hr : r.length ≤ n := by simpa using h
    unfold impl_arePchars.l0
    rw [hs, e0, if_pos (by omega), if_pos (by omega)]
    by_cases c : b = 37
    · subst c
      rw [if_pos (show (((37 : UInt8).toNat : Nat) : Int) = 37 from rfl), if_pos (by omega), tx_tail]
      obtain ⟨K2, rfl⟩ : ∃ K2, K = K2 + 1 := ⟨K - 1, by omega⟩
      match r, h, hl, hl2, hr with
      | [], _, _, _, _ => rw [perc_short K2 _ (by simp), Option.bind_some, if_neg (by decide)]; rfl
      | [x], _, _, _, _ => rw [perc_short K2 _ (by simp), Option.bind_some, if_neg (by decide)]; rfl
      | x :: y :: z, _, hl, hl2, hr =>
        rw [perc_I, Option.bind_some]
        have e : pch o (37 :: x :: y :: z) = (decide (0 ≤ hv x) && decide (0 ≤ hv y) && pch o z) := rfl
        rw [e]
        by_cases c : 0 ≤ hv x ∧ 0 ≤ hv y
        · rw [if_pos c, if_pos rfl, decide_eq_true c.1, decide_eq_true c.2, Bool.true_and, Bool.true_and]
          simp only [List.length_cons] at hl2 hr
          rw [w64 (x := (pre.length : Int) + 2) (by omega) (by omega), w64 (by omega) (by omega)]
          have ih := pch_I o ho n z (pre ++ [37, x, y]) (K2 + 1) (by omega) (by simp; omega) (by omega)
          have e1 : pre ++ [37, x, y] ++ z = pre ++ 37 :: x :: y :: z := by simp
          have e2 : (((pre ++ [37, x, y]).length : Nat) : Int) = (pre.length : Int) + 2 + 1 := by simp; omega
          rw [e1, e2] at ih
          exact ih
        · rw [if_neg c, if_neg (by decide)]
          have : (decide (0 ≤ hv x) && decide (0 ≤ hv y)) = false := by
            rw [Bool.eq_false_iff]; simp only [ne_eq, Bool.and_eq_true, decide_eq_true_eq]; exact c
          rw [this, Bool.false_and]
    · have e : pch o (b :: r) = (okB o b && pch o r) := pch_ne o b r c
      rw [if_neg (fun hh => c ((toNat_37 b).mp hh)), e, tx_size, if_pos (by have := ho.sm; omega)]
      have ea : (⟨#[45, 46, 95, 126, 33, 36, 38, 39, 40, 41, 42, 43, 44, 59, 61, 58, 64]⟩ : ByteArray) ++ tx o = tx (pbase ++ o) := tx_app _ _
      rw [ea, ho.am b, Option.bind_some]
      cases okB o b with
      | false => rw [if_neg (by decide), Bool.false_and]
      | true =>
        rw [if_pos rfl, Bool.true_and, w64 (by omega) (by omega)]
        have ih := pch_I o ho n r (pre ++ [b]) K hr (by simp; omega) (by omega)
        have e1 : pre ++ [b] ++ r = pre ++ b :: r := by simp
        have e2 : (((pre ++ [b]).length : Nat) : Int) = (pre.length : Int) + 1 := by simp
        rw [e1, e2] at ih
        exact ih
theorem pch_S (o : List UInt8) (ho : Oth o) : ∀ (n : Nat) (M pre : List UInt8) (K : Nat), M.length ≤ n → (pre ++ M).length ≤ 1000 → 2 * n + 30 ≤ K → spec_l1Chars.l0 K (tx (pre ++ M)) (tx o) (pre.length : Int) = some (pch o M)
  | n, M, pre, 0, _, _, h => absurd h (by omega)
  | n, M, pre, 1, _, _, h => absurd h (by omega)
  | n, [], pre, K + 2, _, _, _ => by
    unfold spec_l1Chars.l0 pch
    rw [tx_size, List.append_nil, if_neg (Int.lt_irrefl _)]
  | 0, b :: r, pre, K + 2, h, _, _ => absurd h (by simp)
  | n + 1, b :: r, pre, K + 2, h, hl, hK => by
    have hs : ((tx (pre ++ b :: r)).size : Int) = (pre.length : Int) + 1 + (r.length : Int) := by rw [tx_size]; simp; omega
    have e0 : bt (tx (pre ++ b :: r)) (pre.length : Int) = (b.toNat : Int) := bt_at pre _ b
    have hl2 : pre.length + (r.length + 1) ≤ 1000 := by simpa using hl
    have hr : r.length ≤ n := by simpa using h
    obtain ⟨f, h1, h2, g1, g2, g3, g4⟩ := ho.sp b (K + 1) (by omega)
    have yes : okB o b = true → spec_l1Chars.j1 (K + 1) (tx (pre ++ b :: r)) (tx o) (pre.length : Int) true = some (pch o r) := fun hh => by
      unfold spec_l1Chars.j1
      rw [if_pos rfl, w64 (by omega) (by omega)]
      have ih := pch_S o ho n r (pre ++ [b]) K hr (by simp; omega) (by omega)
      have e1 : pre ++ [b] ++ r = pre ++ b :: r := by simp
      have e2 : (((pre ++ [b]).length : Nat) : Int) = (pre.length : Int) + 1 := by simp
      rw [e1, e2] at ih
      exact ih
    have no : okB o b = false → spec_l1Chars.j1 (K + 1) (tx (pre ++ b :: r)) (tx o) (pre.length : Int) false = some (pch o (b :: r)) := fun hh => by
      unfold spec_l1Chars.j1
      rw [if_neg (by decide)]
      obtain ⟨K3, rfl⟩ : ∃ K3, K = K3 + 3 := ⟨K - 3, by omega⟩
      by_cases c : b = 37
      · subst c
        match r, h, hl, hl2, hr with
        | [], _, hl, _, _ => rw [byte_short K3 pre _ 37 (by omega) (Or.inl (by simp)), Option.bind_some, if_pos (by decide)]; rfl
        | [x], _, hl, _, _ => rw [byte_short K3 pre _ 37 (by omega) (Or.inl (by simp)), Option.bind_some, if_pos (by decide)]; rfl
        | x :: y :: z, _, hl, hl2, hr =>
          rw [byte_S K3 pre x y z (by omega), Option.bind_some]
          have e : pch o (37 :: x :: y :: z) = (decide (0 ≤ hv x) && decide (0 ≤ hv y) && pch o z) := rfl
          rw [e]
          by_cases c : 0 ≤ hv x ∧ 0 ≤ hv y
          · rw [if_pos c, if_neg (by omega), decide_eq_true c.1, decide_eq_true c.2, Bool.true_and, Bool.true_and]
            simp only [List.length_cons] at hl2 hr
            rw [w64 (x := (pre.length : Int) + 2) (by omega) (by omega), w64 (by omega) (by omega)]
            have ih := pch_S o ho n z (pre ++ [37, x, y]) (K3 + 3) (by omega) (by simp; omega) (by omega)
            have e1 : pre ++ [37, x, y] ++ z = pre ++ 37 :: x :: y :: z := by simp
            have e2 : (((pre ++ [37, x, y]).length : Nat) : Int) = (pre.length : Int) + 2 + 1 := by simp; omega
            rw [e1, e2] at ih
            exact ih
          · rw [if_neg c, if_pos (by decide)]
            have : (decide (0 ≤ hv x) && decide (0 ≤ hv y)) = false := by
              rw [Bool.eq_false_iff]; simp only [ne_eq, Bool.and_eq_true, decide_eq_true_eq]; exact c
            rw [this, Bool.false_and]
      · have e : pch o (b :: r) = (okB o b && pch o r) := pch_ne o b r c
        rw [byte_short K3 pre r b (by omega) (Or.inr c), Option.bind_some, if_pos (by decide), e, hh, Bool.false_and]
    have key : ∀ v : Bool, v = okB o b → spec_l1Chars.j1 (K + 1) (tx (pre ++ b :: r)) (tx o) (pre.length : Int) v = some (pch o (b :: r)) := fun v hv' => by
      cases v with
      | true =>
        have c : b ≠ 37 := fun hh => by subst hh; rw [ho.pr] at hv'; cases hv'
        have e : pch o (b :: r) = (okB o b && pch o r) := pch_ne o b r c
        rw [yes hv'.symm, e, ← hv', Bool.true_and]
      | false => exact no hv'.symm
    unfold spec_l1Chars.l0
    rw [hs, e0, if_pos (by omega), if_pos (by omega), g1, Option.bind_some]
    cases f with
    | true => rw [if_pos rfl]; exact key true (by rw [← g4]; simp)
    | false =>
      rw [if_neg (by decide), g2, Option.bind_some]
      cases h1 with
      | true => rw [if_pos rfl]; exact key true (by rw [← g4]; simp)
      | false =>
        rw [if_neg (by decide), g3, Option.bind_some]
        exact key h2 (by rw [← g4]; simp)

/-! ### The address's text and whether it is good -/
theorem tx_toList (l : List UInt8) : (tx l).toList = l := by rw [ByteArray.toList_eq]
def portL (n : Int) : List UInt8 := if n = 0 then [] else 58 :: Lib.itoa n
def askL (q : List UInt8) (a : Bool) : List UInt8 := if a = true then 63 :: q else []
def textL (S H : List UInt8) (n : Int) (P Q : List UInt8) (a : Bool) : List UInt8 := S ++ ([58, 47, 47] ++ (H ++ (portL n ++ (P ++ askL Q a))))
theorem itoa_len (n : Int) (h0 : 0 ≤ n) (h1 : n < 1000000) : (Lib.itoa n).length ≤ 6 := by
  obtain ⟨u, rfl⟩ : ∃ u : Nat, n = (u : Int) := ⟨n.toNat, by omega⟩
  rw [Lib.itoa_nonneg]
  exact dec_len u 5 (by omega)
theorem itoa_f (n : Int) (h0 : 0 ≤ n) (h1 : n < 1000000) : strconv_Itoa.f n = some (tx (Lib.itoa n)) := by
  unfold strconv_Itoa.f
  rw [if_pos h0, if_pos h1]
theorem num_u : ∀ (k u : Nat), u < 10 ^ (k + 1) → u < 1000000 → spec_l1Num.f (k + 1) (u : Int) = some (tx (Lib.decDigits u))
  | k, u, h, h2 => by
    unfold spec_l1Num.f Lib.decDigits
    by_cases c : u < 10
    · rw [if_pos (by omega), dif_pos c, w64 (by omega) (by omega)]
      have : ((48 + (u : Int)) % 256).toNat = 48 + u := by omega
      show some (tx [UInt8.ofNat ((48 + (u : Int)) % 256).toNat]) = _
      rw [this]
    · rw [if_neg (by omega), dif_neg c]
      have e1 : Int.tdiv (u : Int) 10 = ((u / 10 : Nat) : Int) := by rw [Int.tdiv_eq_ediv_of_nonneg (by omega)]; omega
      have e2 : Int.tmod (u : Int) 10 = ((u % 10 : Nat) : Int) := by rw [Int.tmod_eq_emod_of_nonneg (by omega)]; omega
      rw [e1, e2, w64 (by omega) (by omega), w64 (by omega) (by omega)]
      match k, h with
      | 0, h => exact absurd h (by omega)
      | k + 1, h =>
        rw [num_u k (u / 10) (by rw [Nat.pow_succ] at h; omega) (by omega), Option.bind_some, Option.bind_some]
        have : ((48 + ((u % 10 : Nat) : Int)) % 256).toNat = 48 + u % 10 := by omega
        have e3 : strOfNums [(48 + ((u % 10 : Nat) : Int)) % 256] = tx [UInt8.ofNat (48 + u % 10)] := by
          show tx [UInt8.ofNat ((48 + ((u % 10 : Nat) : Int)) % 256).toNat] = _
          rw [this]
        have hl := dec_len (u / 10) 5 (by omega)
        rw [e3, tx_size, tx_size, if_pos (by simp; omega), tx_app]
theorem num_f (k : Nat) (n : Int) (h0 : 0 ≤ n) (h1 : n < 1000000) : spec_l1Num.f (k + 6) n = some (tx (Lib.itoa n)) := by
  obtain ⟨u, rfl⟩ : ∃ u : Nat, n = (u : Int) := ⟨n.toNat, by omega⟩
  rw [Lib.itoa_nonneg]
  exact num_u (k + 5) u (Nat.lt_of_lt_of_le (show u < 10 ^ 6 by omega) (Nat.pow_le_pow_right (by decide) (by omega))) (by omega)
theorem text_I (S H : List UInt8) (n : Int) (P Q : List UInt8) (a : Bool) (hS : S.length ≤ 1000) (hH : H.length ≤ 1000) (hP : P.length ≤ 1000) (hQ : Q.length ≤ 1000) (h0 : 0 ≤ n) (h1 : n < 1000000) : impl_urlText.f (tx S) (tx H) n (tx P) (tx Q) a = some (tx (textL S H n P Q a)) := by
  have hl := itoa_len n h0 h1
  have e1 : (⟨#[58, 47, 47]⟩ : ByteArray) = tx [58, 47, 47] := rfl
  have e2 : (⟨#[58]⟩ : ByteArray) = tx [58] := rfl
  have e3 : (⟨#[63]⟩ : ByteArray) = tx [63] := rfl
  unfold impl_urlText.f textL portL askL
  rw [e1, e2, e3, itoa_f n h0 h1]
  simp only [Option.bind_some]
  generalize Lib.itoa n = I at hl ⊢
  by_cases c : n = 0
  · rw [if_pos c, if_pos c]
    cases a <;> simp [tx_app, tx_size] <;> omega
  · rw [if_neg c, if_neg c]
    cases a <;> simp [tx_app, tx_size] <;> omega
theorem text_S (k : Nat) (S H : List UInt8) (n : Int) (P Q : List UInt8) (a : Bool) (hS : S.length ≤ 1000) (hH : H.length ≤ 1000) (hP : P.length ≤ 1000) (hQ : Q.length ≤ 1000) (h0 : 0 ≤ n) (h1 : n < 1000000) : spec_l1Text.f (k + 6) (tx S) (tx H) n (tx P) (tx Q) a = some (tx (textL S H n P Q a)) := by
  have hl := itoa_len n h0 h1
  have e1 : (⟨#[58, 47, 47]⟩ : ByteArray) = tx [58, 47, 47] := rfl
  have e2 : (⟨#[58]⟩ : ByteArray) = tx [58] := rfl
  have e3 : (⟨#[63]⟩ : ByteArray) = tx [63] := rfl
  unfold spec_l1Text.f textL portL askL
  rw [e1, e2, e3, num_f k n h0 h1]
  simp only [Option.bind_some]
  generalize Lib.itoa n = I at hl ⊢
  by_cases c : n = 0
  · rw [if_pos c, if_pos c]
    cases a <;> simp [tx_app, tx_size] <;> omega
  · rw [if_neg c, if_neg c]
    cases a <;> simp [tx_app, tx_size] <;> omega
theorem within_f (x a b : Int) : impl_within.f x a b = some (decide (a ≤ x) && decide (x ≤ b)) := by
  unfold impl_within.f
  by_cases c : a ≤ x
  · rw [if_pos c, decide_eq_true c, Bool.true_and]
  · rw [if_neg c, decide_eq_false c, Bool.false_and]
theorem in_f (x a b : Int) : spec_l1In.f x a b = some (decide (a ≤ x) && decide (x ≤ b)) := by
  unfold spec_l1In.f
  by_cases c : a ≤ x
  · rw [if_pos c, decide_eq_true c, Bool.true_and]
  · rw [if_neg c, decide_eq_false c, Bool.false_and]
theorem idxO_mem {α : Type} (p : α → Option Bool) (q : α → Bool) (l : List α) (h : ∀ x ∈ l, p x = some (!q x)) : ∀ (n : Int), 0 ≤ n → ∃ i, idxO p l n = some i ∧ (!decide (i ≥ 0)) = l.all q := by
  induction l with
  | nil => intro n hn; exact ⟨-1, rfl, rfl⟩
  | cons x xs ih =>
    intro n hn
    unfold idxO
    rw [h x List.mem_cons_self, Option.bind_some]
    cases hq : q x with
    | true =>
      obtain ⟨i, h1, h2⟩ := ih (fun y hy => h y (List.mem_cons_of_mem _ hy)) (n + 1) (by omega)
      exact ⟨i, h1, by rw [h2, List.all_cons, hq, Bool.true_and]⟩
    | false => exact ⟨n, rfl, by rw [List.all_cons, hq, Bool.false_and, decide_eq_true (show n ≥ 0 from hn)]; rfl⟩
theorem bytes_tx (l : List UInt8) : bytesOf (tx l) = l.map fun b => (b.toNat : Int) := rfl
theorem host_I (H : List UInt8) (h : H.length ≤ 1000) : xBytes_impl_GoodUrl_1.f (tx H) = some (H.all hostB) := by
  unfold xBytes_impl_GoodUrl_1.f xAll_u8_impl_GoodUrl_1.f
  rw [tx_size, if_pos (by omega), bytes_tx, if_pos (by rw [List.length_map]; omega)]
  obtain ⟨i, e, g⟩ := idxO_mem xAll_u8_impl_GoodUrl_1.z (fun x => hostB (UInt8.ofNat x.toNat)) (H.map fun b => (b.toNat : Int)) (fun x hx => by
    obtain ⟨b, _, rfl⟩ := List.mem_map.mp hx
    unfold xAll_u8_impl_GoodUrl_1.z
    rw [(host_b b).1, Option.bind_some, Int.toNat_natCast, UInt8.ofNat_toNat]) 0 (by decide)
  rw [e, Option.bind_some, g, List.all_map]
  have e2 : ((fun x : Int => hostB (UInt8.ofNat x.toNat)) ∘ fun b : UInt8 => (b.toNat : Int)) = hostB := by
    funext b
    show hostB (UInt8.ofNat ((b.toNat : Int)).toNat) = hostB b
    rw [Int.toNat_natCast, UInt8.ofNat_toNat]
  rw [e2]
theorem host_S : ∀ (M pre : List UInt8) (K : Nat), (pre ++ M).length ≤ 1000 → M.length < K → spec_l1Host.l0 K (tx (pre ++ M)) (pre.length : Int) = some (M.all hostB && (decide (1 ≤ (((pre ++ M).length : Nat) : Int)) && decide ((((pre ++ M).length : Nat) : Int) ≤ 60)))
  | M, pre, 0, _, h => absurd h (by omega)
  | [], pre, K + 1, hl, _ => by
    unfold spec_l1Host.l0
    rw [tx_size, List.append_nil, if_neg (Int.lt_irrefl _), in_f, Option.bind_some]
    rfl
  | b :: r, pre, K + 1, hl, hK => by
    have hs : ((tx (pre ++ b :: r)).size : Int) = (pre.length : Int) + 1 + (r.length : Int) := by rw [tx_size]; simp; omega
    have e0 : bt (tx (pre ++ b :: r)) (pre.length : Int) = (b.toNat : Int) := bt_at pre _ b
    have hl2 : pre.length + (r.length + 1) ≤ 1000 := by simpa using hl
    have ih := host_S r (pre ++ [b]) K (by simp; omega) (by simp at hK; omega)
    have e1 : pre ++ [b] ++ r = pre ++ b :: r := by simp
    have e2 : (((pre ++ [b]).length : Nat) : Int) = (pre.length : Int) + 1 := by simp
    rw [e1, e2] at ih
    unfold spec_l1Host.l0
    rw [hs, e0, if_pos (by omega), if_pos (by omega), (host_b b).2.1, (host_b b).2.2.1, Option.bind_some, Option.bind_some, w64 (by omega) (by omega), ih, List.all_cons]
    have n45 : ((b.toNat : Int) = 45) = (b = 45) := propext ⟨fun h => UInt8.toNat_inj.mp (by show b.toNat = 45; omega), fun h => by subst h; rfl⟩
    have n46 : ((b.toNat : Int) = 46) = (b = 46) := propext ⟨fun h => UInt8.toNat_inj.mp (by show b.toNat = 46; omega), fun h => by subst h; rfl⟩
    simp only [n45, n46]
    unfold hostB
    cases isLB b with
    | true => rw [if_pos rfl]; simp
    | false =>
      rw [if_neg (by decide)]
      cases isDB b with
      | true => rw [if_pos rfl]; simp
      | false =>
        rw [if_neg (by decide)]
        by_cases c : b = 45
        · rw [if_pos c, c]; simp
        · rw [if_neg c]
          by_cases c2 : b = 46
          · rw [if_pos c2, c2]; simp
          · rw [if_neg c2, beq_eq_false_iff_ne.mpr c, beq_eq_false_iff_ne.mpr c2]; rfl
theorem ite_and (A : Bool) (x : Option Bool) (B : Bool) (h : A = true → x = some B) : (if A = true then x else some false) = some (A && B) := by
  cases A with
  | true => rw [if_pos rfl, h rfl]; rfl
  | false => rfl
def slash (P : List UInt8) : Bool := match P with | b :: _ => b == 47 | [] => false
def tailB (S H : List UInt8) (n : Int) (P Q : List UInt8) (a : Bool) : Bool := pch [47] P && (pch [47, 63] Q && ((a || Q.isEmpty) && decide ((textL S H n P Q a).length ≤ 200)))
def schB (S : List UInt8) : Bool := decide (S = [104, 116, 116, 112]) || decide (S = [104, 116, 116, 112, 115])
def goodL (S H : List UInt8) (n : Int) (P Q : List UInt8) (a : Bool) : Bool := schB S && ((decide (1 ≤ (H.length : Int)) && decide ((H.length : Int) ≤ 60)) && (H.all hostB && ((decide (0 ≤ n) && decide (n ≤ 65535)) && (slash P && tailB S H n P Q a))))
theorem prefix_f (P : List UInt8) (h : P.length ≤ 1000) : strings_HasPrefix.f (tx P) (⟨#[47]⟩ : ByteArray) = some (slash P) := by
  unfold strings_HasPrefix.f stringslite_HasPrefix.f
  have e : (⟨#[47]⟩ : ByteArray) = tx [47] := rfl
  rw [e, tx_size, tx_size, tx_toList [47]]
  cases P with
  | nil => rw [if_neg (by decide), Option.bind_some]; rfl
  | cons b r =>
    rw [if_pos (by simp; omega), if_pos (by decide), if_pos (by simp; omega), Option.bind_some, tx_cut, tx_toList]
    have : ((b :: r).drop 0).take (((([47] : List UInt8).length : Nat) : Int).toNat - 0) = [b] := rfl
    rw [this]
    unfold slash
    dsimp only
    by_cases c : b = 47
    · rw [c]; rfl
    · rw [beq_eq_false_iff_ne.mpr c, beq_eq_false_iff_ne.mpr (fun hh => c (by injection hh))]
theorem good_tail (k : Nat) (S H : List UInt8) (n : Int) (P Q : List UInt8) (a : Bool) (x : Option ByteArray) (hx : x = some (tx (textL S H n P Q a))) : (if a = true then x.bind (fun t => some (decide ((t.size : Int) ≤ 200))) else if (tx Q).toList = [] then x.bind (fun t => some (decide ((t.size : Int) ≤ 200))) else some false) = some ((a || Q.isEmpty) && decide ((textL S H n P Q a).length ≤ 200)) := by
  subst hx
  rw [Option.bind_some, tx_size, tx_toList]
  have e : decide ((((textL S H n P Q a).length : Nat) : Int) ≤ 200) = decide ((textL S H n P Q a).length ≤ 200) := by congr 1; exact propext ⟨fun h => by omega, fun h => by omega⟩
  rw [e]
  cases a with
  | true => rw [if_pos rfl]; rfl
  | false =>
    rw [if_neg (by decide)]
    cases Q with
    | nil => rw [if_pos rfl]; rfl
    | cons b r => rw [if_neg (by simp)]; rfl
theorem good_I (k : Nat) (S H : List UInt8) (n : Int) (P Q : List UInt8) (a : Bool) (hS : S.length ≤ 1000) (hH : H.length ≤ 1000) (hP : P.length ≤ 1000) (hQ : Q.length ≤ 1000) (hk : 1002 ≤ k) : impl_GoodUrl.f k (tx S) (tx H) n (tx P) (tx Q) a = some (goodL S H n P Q a) := by
  have cP : impl_arePchars.f k (tx P) (⟨#[47]⟩ : ByteArray) = some (pch [47] P) := pch_I [47] oth_path P.length P [] k (Nat.le_refl _) hP (by omega)
  have cQ : impl_arePchars.f k (tx Q) (⟨#[47, 63]⟩ : ByteArray) = some (pch [47, 63] Q) := pch_I [47, 63] oth_query Q.length Q [] k (Nat.le_refl _) hQ (by omega)
  unfold impl_GoodUrl.f goodL
  rw [tx_toList, cP, cQ, host_I H hH, prefix_f P hP, within_f, within_f, tx_size]
  simp only [Option.bind_some]
  unfold schB
  by_cases c1 : S = [104, 116, 116, 112]
  · rw [if_pos c1, decide_eq_true c1, Bool.true_or, Bool.true_and]
    refine ite_and _ _ _ fun _ => ite_and _ _ _ fun _ => ite_and _ _ _ fun hn => ite_and _ _ _ fun _ => ite_and _ _ _ fun _ => ite_and _ _ _ fun _ => ?_
    simp only [Bool.and_eq_true, decide_eq_true_eq] at hn
    exact good_tail k S H n P Q a _ (text_I S H n P Q a hS hH hP hQ hn.1 (by omega))
  · rw [if_neg c1, decide_eq_false c1, Bool.false_or]
    by_cases c2 : S = [104, 116, 116, 112, 115]
    · rw [if_pos c2, decide_eq_true c2, Bool.true_and]
      refine ite_and _ _ _ fun _ => ite_and _ _ _ fun _ => ite_and _ _ _ fun hn => ite_and _ _ _ fun _ => ite_and _ _ _ fun _ => ite_and _ _ _ fun _ => ?_
      simp only [Bool.and_eq_true, decide_eq_true_eq] at hn
      exact good_tail k S H n P Q a _ (text_I S H n P Q a hS hH hP hQ hn.1 (by omega))
    · rw [if_neg c2, decide_eq_false c2, Bool.false_and]
theorem good_S (k : Nat) (S H : List UInt8) (n : Int) (P Q : List UInt8) (a : Bool) (hS : S.length ≤ 1000) (hH : H.length ≤ 1000) (hP : P.length ≤ 1000) (hQ : Q.length ≤ 1000) (hk : 3002 ≤ k) : spec_GoodUrl.f k (tx S) (tx H) n (tx P) (tx Q) a = some (goodL S H n P Q a) := by
  obtain ⟨m, rfl⟩ : ∃ m, k = m + 1 := ⟨k - 1, by omega⟩
  have cP : spec_l1Chars.f m (tx P) (⟨#[47]⟩ : ByteArray) = some (pch [47] P) := pch_S [47] oth_path P.length P [] m (Nat.le_refl _) hP (by omega)
  have cQ : spec_l1Chars.f m (tx Q) (⟨#[47, 63]⟩ : ByteArray) = some (pch [47, 63] Q) := pch_S [47, 63] oth_query Q.length Q [] m (Nat.le_refl _) hQ (by omega)
  have cH : spec_l1Host.f (m + 1) (tx H) = some (H.all hostB && (decide (1 ≤ (H.length : Int)) && decide ((H.length : Int) ≤ 60))) := host_S H [] (m + 1) hH (by omega)
  have jt : spec_GoodUrl.j0 (m + 1) true (tx S) (tx H) n (tx P) (tx Q) a = some false := rfl
  have jf : 0 ≤ n → n ≤ 65535 → spec_GoodUrl.j0 (m + 1) false (tx S) (tx H) n (tx P) (tx Q) a = some (tailB S H n P Q a) := fun h0 h1 => by
    unfold spec_GoodUrl.j0 tailB
    dsimp only
    rw [if_neg (by decide), cP, cQ]
    simp only [Option.bind_some]
    obtain ⟨m2, rfl⟩ : ∃ m2, m = m2 + 6 := ⟨m - 6, by omega⟩
    exact ite_and _ _ _ fun _ => ite_and _ _ _ fun _ => good_tail 0 S H n P Q a _ (text_S m2 S H n P Q a hS hH hP hQ h0 (by omega))
  unfold spec_GoodUrl.f goodL
  rw [tx_toList, cH, in_f]
  simp only [Option.bind_some]
  have slashV : (0 ≤ n → n ≤ 65535 → (if ((tx P).size : Int) = 0 then spec_GoodUrl.j0 (m + 1) true (tx S) (tx H) n (tx P) (tx Q) a else if 0 < ((tx P).size : Int) then spec_GoodUrl.j0 (m + 1) (bt (tx P) 0 != 47) (tx S) (tx H) n (tx P) (tx Q) a else none) = some (slash P && tailB S H n P Q a)) := fun h0 h1 => by
    cases P with
    | nil => rw [if_pos (by rfl), jt]; rfl
    | cons b r =>
      have e0 : bt (tx (b :: r)) 0 = (b.toNat : Int) := bt_tx (b :: r) 0 (by simp)
      rw [tx_size, if_neg (by rw [List.length_cons]; omega), if_pos (by rw [List.length_cons]; omega), e0]
      unfold slash
      dsimp only
      by_cases c : b = 47
      · subst c
        rw [show ((((47 : UInt8).toNat : Nat) : Int) != 47) = false by decide, jf h0 h1]; rfl
      · have : ((b.toNat : Int) != 47) = true := bne_iff_ne.mpr fun hh => c (UInt8.toNat_inj.mp (by show b.toNat = 47; omega))
        rw [this, jt]
        show _ = some ((b == 47) && _)
        rw [beq_eq_false_iff_ne.mpr c, Bool.false_and]
  have main : (if (H.all hostB && (decide (1 ≤ (H.length : Int)) && decide ((H.length : Int) ≤ 60))) = true then (if (decide (0 ≤ n) && decide (n ≤ 65535)) = true then (if ((tx P).size : Int) = 0 then spec_GoodUrl.j0 (m + 1) true (tx S) (tx H) n (tx P) (tx Q) a else if 0 < ((tx P).size : Int) then spec_GoodUrl.j0 (m + 1) (bt (tx P) 0 != 47) (tx S) (tx H) n (tx P) (tx Q) a else none) else spec_GoodUrl.j0 (m + 1) true (tx S) (tx H) n (tx P) (tx Q) a) else spec_GoodUrl.j0 (m + 1) true (tx S) (tx H) n (tx P) (tx Q) a) = some ((decide (1 ≤ (H.length : Int)) && decide ((H.length : Int) ≤ 60)) && (H.all hostB && ((decide (0 ≤ n) && decide (n ≤ 65535)) && (slash P && tailB S H n P Q a)))) := by
    rw [jt] at slashV ⊢
    rw [ite_and (decide (0 ≤ n) && decide (n ≤ 65535)) _ (slash P && tailB S H n P Q a) fun hn => by
      simp only [Bool.and_eq_true, decide_eq_true_eq] at hn
      exact slashV hn.1 hn.2, ite_and _ _ _ fun _ => rfl]
    generalize H.all hostB = A
    generalize (decide (1 ≤ (H.length : Int)) && decide ((H.length : Int) ≤ 60)) = B
    cases A <;> cases B <;> rfl
  unfold schB
  by_cases c1 : S = [104, 116, 116, 112]
  · rw [if_pos c1, decide_eq_true c1, Bool.true_or, Bool.true_and]
    exact main
  · rw [if_neg c1, decide_eq_false c1, Bool.false_or]
    by_cases c2 : S = [104, 116, 116, 112, 115]
    · rw [if_pos c2, decide_eq_true c2, Bool.true_and]
      exact main
    · rw [if_neg c2, decide_eq_false c2, Bool.false_and]
      exact jt

theorem bytes_of (l : List Int) (h : ∀ x ∈ l, (Lit.int .u8 x).wf = true) : ∀ x ∈ l, 0 ≤ x ∧ x ≤ 255 := by
  intro x hx
  have := h x hx
  simp [Lit.wf, IntKind.min, IntKind.max, IntKind.bits, IntKind.signed] at this
  omega

/-! The cursor that draws an argument out of bytes -/
theorem and255 (y : Int) (h0 : 0 ≤ y) (h1 : y < 18446744073709551616) : bits .and .u64 y 255 = y % 256 := bits_mask .u64 64 (by decide) wraps_u64 8 (by decide) y h0 h1
theorem and255_range (s : Int) : 0 ≤ bits .and .u64 ((IntKind.u64.wrap s) / 1099511627776) 255 ∧ bits .and .u64 ((IntKind.u64.wrap s) / 1099511627776) 255 ≤ 255 := by
  have h : IntKind.u64.wrap s = s % 18446744073709551616 := IntKind.wrap_u64 s
  rw [h, and255 _ (by omega) (by omega)]
  omega
theorem rd_byte (l : List Int) (hc : ∀ x ∈ l, 0 ≤ x ∧ x ≤ 255) (i : Int) (h0 : 0 ≤ i) (h1 : i < l.length) : 0 ≤ rd l i ∧ rd l i ≤ 255 := by
  obtain ⟨n, rfl⟩ : ∃ n : Nat, i = (n : Int) := ⟨i.toNat, by omega⟩
  rw [rd_nat l n (by omega)]
  exact hc _ (List.getElem_mem _)
theorem next_ok (code : List Int) (hc : ∀ x ∈ code, 0 ≤ x ∧ x ≤ 255) (hb : code.length < 4611686018427387904) (a s : Int) (h0 : 0 ≤ a) (h1 : a < 4611686018427387904) :
    ∃ b s', spec_l1Cur_next.f code a s = some (b, a + 1, s') ∧ 0 ≤ b ∧ b ≤ 255 := by
  have hw : wrap64 (a + 1) = a + 1 := w64 (by omega) (by omega)
  unfold spec_l1Cur_next.f
  rw [hw]
  by_cases c : a < (code.length : Int)
  · have hr := rd_byte code hc a h0 c
    rw [if_pos c, if_pos h0, if_pos (by omega)]
    exact ⟨_, _, rfl, by rw [w64 (by omega) (by omega)]; exact hr⟩
  · rw [if_neg c, if_neg (by omega)]
    refine ⟨_, _, rfl, ?_⟩
    have hr := and255_range ((IntKind.u64.wrap (IntKind.u64.wrap (s * 6364136223846793005))) + 1442695040888963407)
    rw [w64 (by omega) (by omega)]
    exact hr
theorem tmod_range (x n : Int) (h : 0 ≤ x) (hn : 0 < n) : 0 ≤ Int.tmod x n ∧ Int.tmod x n < n := ⟨Int.tmod_nonneg n h, Int.tmod_lt_of_pos x hn⟩
theorem pick_ok (code : List Int) (hc : ∀ x ∈ code, 0 ≤ x ∧ x ≤ 255) (hb : code.length < 4611686018427387904) (a s n : Int) (h0 : 0 ≤ a) (h1 : a < 4611686018427380000) :
    ∃ v a' s', spec_l1Cur_pick.f code a s n = some (v, a', s') ∧ 0 ≤ v ∧ (v < n ∨ v = 0) ∧ a ≤ a' ∧ a' ≤ a + 2 := by
  unfold spec_l1Cur_pick.f
  by_cases c : n ≤ 1
  · rw [if_pos c]
    exact ⟨0, a, s, rfl, by omega, by omega, by omega, by omega⟩
  · rw [if_neg c]
    obtain ⟨b, s1, e1, hb0, hb1⟩ := next_ok code hc hb a s h0 (by omega)
    rw [e1, Option.bind_some]
    by_cases c2 : n > 200
    · rw [if_pos c2]
      obtain ⟨b2, s2, e2, hb2, hb3⟩ := next_ok code hc hb (a + 1) s1 (by omega) (by omega)
      try dsimp only
      rw [e2, Option.bind_some, if_neg (by omega)]
      have hw1 : wrap64 (b * 256) = b * 256 := w64 (by omega) (by omega)
      have hw2 : wrap64 (b * 256 + b2) = b * 256 + b2 := w64 (by omega) (by omega)
      have hr := tmod_range (b * 256 + b2) n (by omega) (by omega)
      refine ⟨_, _, _, rfl, ?_⟩
      simp only [hw1, hw2]
      exact ⟨hr.1, Or.inl hr.2, by omega, by omega⟩
    · rw [if_neg c2, if_neg (by omega)]
      have hr := tmod_range b n (by omega) (by omega)
      refine ⟨_, _, _, rfl, hr.1, Or.inl hr.2, ?_, ?_⟩ <;> dsimp only <;> omega
theorem one_ok (code : List Int) (hc : ∀ x ∈ code, 0 ≤ x ∧ x ≤ 255) (hb : code.length < 4611686018427387904) (a s n : Int) (h0 : 0 ≤ a) (h1 : a < 4611686018427380000) :
    ∃ v a' s', spec_l1Cur_one.f code a s n = some (v, a', s') ∧ a ≤ a' ∧ a' ≤ a + 2 := by
  unfold spec_l1Cur_one.f
  obtain ⟨v, a', s', e, h⟩ := pick_ok code hc hb a s n h0 h1
  rw [e, Option.bind_some]
  exact ⟨_, _, _, rfl, h.2.2⟩

/-! One of some texts -/
theorem of_ok (code : List Int) (hc : ∀ x ∈ code, 0 ≤ x ∧ x ≤ 255) (hb : code.length < 4611686018427387904) (l : List ByteArray) (hl : 0 < l.length) (a s : Int) (h0 : 0 ≤ a) (h1 : a < 4611686018427380000) :
    ∃ v a' s', spec_l1Cur_of.f code a s l = some (v, a', s') ∧ v ∈ l ∧ a ≤ a' ∧ a' ≤ a + 2 := by
  unfold spec_l1Cur_of.f
  obtain ⟨v, a', s', e, h⟩ := pick_ok code hc hb a s (l.length : Int) h0 h1
  rw [e, Option.bind_some, if_pos h.1]
  have c : v < (l.length : Int) := by omega
  try dsimp only
  rw [if_pos c]
  refine ⟨_, _, _, rfl, ?_, h.2.2⟩
  unfold rdOf
  rw [List.getD_eq_getElem?_getD, List.getElem?_eq_getElem (show v.toNat < l.length by omega)]
  exact List.getElem_mem _

/-! ### The drawn address -/
theorem among_ok (code : List Int) (hc : ∀ x ∈ code, 0 ≤ x ∧ x ≤ 255) (hb : code.length < 4611686018427387904) (l : List Int) (hl : 0 < l.length) (a s : Int) (h0 : 0 ≤ a) (h1 : a < 4611686018427380000) :
    ∃ v a' s', spec_l1Cur_among.f code a s l = some (v, a', s') ∧ v ∈ l ∧ a ≤ a' ∧ a' ≤ a + 2 := by
  unfold spec_l1Cur_among.f
  obtain ⟨v, a', s', e, h⟩ := pick_ok code hc hb a s (l.length : Int) h0 h1
  rw [e, Option.bind_some, if_pos h.1]
  have c : v < (l.length : Int) := by omega
  try dsimp only
  rw [if_pos c]
  refine ⟨_, _, _, rfl, ?_, h.2.2⟩
  unfold rd
  rw [List.getD_eq_getElem?_getD, List.getElem?_eq_getElem (show v.toNat < l.length by omega)]
  exact List.getElem_mem _
theorem parts_all : (([(⟨#[97]⟩ : ByteArray), (⟨#[98]⟩ : ByteArray), (⟨#[46]⟩ : ByteArray), (⟨#[46, 46]⟩ : ByteArray), (⟨#[]⟩ : ByteArray), (⟨#[37, 52, 49]⟩ : ByteArray), (⟨#[37, 50, 102]⟩ : ByteArray), (⟨#[120, 46, 121]⟩ : ByteArray), (⟨#[99, 32, 100]⟩ : ByteArray), (⟨#[37, 55, 69]⟩ : ByteArray)] : List ByteArray).all fun t => decide (t.size ≤ 3)) = true := by decide +kernel
theorem plus_f (s : ByteArray) (h : s.size ≤ 1000) : ∃ r, spec_plus.f s = some r ∧ r.size = s.size := by
  unfold spec_plus.f
  rw [if_pos (by omega)]
  refine ⟨_, rfl, ?_⟩
  show (s.data.map plusB).size = s.data.size
  simp
theorem path_l (code : List Int) (hc : ∀ x ∈ code, 0 ≤ x ∧ x ≤ 255) (hb : code.length < 4611686018427387904) :
    ∀ (n K : Nat) (l : List UInt8) (a s : Int), n < K → 0 ≤ a → a + 2 * n ≤ 1000 → l.length + 4 * n ≤ 100 →
      ∃ P a' s', spec_l1Cur_path.l0 K (tx l) (n : Int) code a s = some (P, a', s') ∧ P.size ≤ 101 ∧ 0 ≤ a' ∧ a' ≤ 1010
  | n, 0, l, a, s, h, _, _, _ => absurd h (by omega)
  | 0, K + 1, l, a, s, h, h0, h1, h2 => by
    have close : ∀ (T : ByteArray) (hT : T.size ≤ 100) (a1 s1 : Int) (g0 : 0 ≤ a1) (g1 : a1 ≤ 1002), ∃ P a' s', (if T.toList = ([] : List UInt8) then (if T.size + 1 ≤ 9223372036854775807 then (some (T ++ (⟨#[47]⟩ : ByteArray), a1, s1)) else (none)) else ((spec_l1Cur_one.f code a1 s1 3).bind fun bt159 => (if bt159.1 = true then (if T.size + 1 ≤ 9223372036854775807 then (some (T ++ (⟨#[47]⟩ : ByteArray), bt159.2.1, bt159.2.2)) else (none)) else (some (T, bt159.2.1, bt159.2.2))))) = some (P, a', s') ∧ P.size ≤ 101 ∧ 0 ≤ a' ∧ a' ≤ 1010 := fun T hT a1 s1 g0 g1 => by
      have hz : (T ++ (⟨#[47]⟩ : ByteArray)).size ≤ 101 := by rw [ByteArray.size_append]; show T.size + 1 ≤ 101; omega
      by_cases c : T.toList = []
      · rw [if_pos c, if_pos (by omega)]
        exact ⟨_, _, _, rfl, hz, g0, by omega⟩
      · obtain ⟨v, a2, s2, e, p1, p2⟩ := one_ok code hc hb a1 s1 3 g0 (by omega)
        rw [if_neg c, e, Option.bind_some]
        try dsimp only
        cases v with
        | true =>
          rw [if_pos rfl, if_pos (by omega)]
          exact ⟨_, _, _, rfl, hz, (by (try dsimp only); omega), (by (try dsimp only); omega)⟩
        | false =>
          rw [if_neg (by decide)]
          exact ⟨_, _, _, rfl, by omega, (by (try dsimp only); omega), (by (try dsimp only); omega)⟩
    have hl : (tx l).size ≤ 100 := by rw [tx_size]; omega
    unfold spec_l1Cur_path.l0
    rw [if_neg (by omega)]
    obtain ⟨v, a1, s1, e1, p1, p2⟩ := one_ok code hc hb a s 20 h0 (by omega)
    rw [e1, Option.bind_some]
    try dsimp only
    cases v with
    | true =>
      rw [if_pos rfl]
      exact close (tx l) hl a1 s1 (by omega) (by omega)
    | false =>
      obtain ⟨r, e2, hr⟩ := plus_f (tx l) (by omega)
      rw [if_neg (by decide), e2, Option.bind_some]
      exact close r (by omega) a1 s1 (by omega) (by omega)
  | n + 1, K + 1, l, a, s, h, h0, h1, h2 => by
    unfold spec_l1Cur_path.l0
    rw [if_pos (by omega)]
    obtain ⟨t, a1, s1, e1, q1, q2, q3⟩ := of_ok code hc hb _ (by decide : 0 < ([(⟨#[97]⟩ : ByteArray), (⟨#[98]⟩ : ByteArray), (⟨#[46]⟩ : ByteArray), (⟨#[46, 46]⟩ : ByteArray), (⟨#[]⟩ : ByteArray), (⟨#[37, 52, 49]⟩ : ByteArray), (⟨#[37, 50, 102]⟩ : ByteArray), (⟨#[120, 46, 121]⟩ : ByteArray), (⟨#[99, 32, 100]⟩ : ByteArray), (⟨#[37, 55, 69]⟩ : ByteArray)] : List ByteArray).length) a s h0 (by omega)
    have g := List.all_eq_true.mp parts_all t q1
    simp only [decide_eq_true_eq] at g
    rw [e1, Option.bind_some]
    obtain ⟨z, rfl⟩ : ∃ z, t = tx z := ⟨t.data.toList, rfl⟩
    rw [tx_size] at g
    have e47 : (⟨#[47]⟩ : ByteArray) = tx [47] := rfl
    try dsimp only
    rw [e47, tx_app, tx_app, tx_size, tx_size, tx_size, if_pos (by omega), if_pos (by simp; omega), w64 (by omega) (by omega), show ((n + 1 : Nat) : Int) - 1 = (n : Int) by omega]
    exact path_l code hc hb n K (l ++ ([47] ++ z)) a1 s1 (by omega) (by omega) (by omega) (by simp; omega)
theorem path_ok (code : List Int) (hc : ∀ x ∈ code, 0 ≤ x ∧ x ≤ 255) (hb : code.length < 4611686018427387904) (K : Nat) (hK : 10 ≤ K) (a s : Int) (h0 : 0 ≤ a) (h1 : a ≤ 100) :
    ∃ P a' s', spec_l1Cur_path.f K code a s = some (P, a', s') ∧ P.size ≤ 101 ∧ 0 ≤ a' ∧ a' ≤ 1010 := by
  unfold spec_l1Cur_path.f
  obtain ⟨v, a1, s1, e1, p1, p2, p3, p4⟩ := pick_ok code hc hb a s 5 h0 (by omega)
  rw [e1, Option.bind_some]
  try dsimp only
  obtain ⟨n, rfl⟩ : ∃ n : Nat, v = (n : Int) := ⟨v.toNat, by omega⟩
  exact path_l code hc hb n K [] a1 s1 (by omega) (by omega) (by omega) (by simp; omega)
def smallA (l : List ByteArray) : Bool := l.all fun t => decide (t.size ≤ 100)
theorem smallA_of {l : List ByteArray} (h : smallA l = true) {t : ByteArray} (ht : t ∈ l) : t.size ≤ 1000 := by
  have := List.all_eq_true.mp h t ht
  simp only [decide_eq_true_eq] at this
  omega
def UOK (r : Option (ByteArray × ByteArray × Int × ByteArray × ByteArray × Bool × Int × Int)) : Prop := ∃ S H n P Q b a' s', r = some (S, H, n, P, Q, b, a', s') ∧ S.size ≤ 1000 ∧ H.size ≤ 1000 ∧ P.size ≤ 1000 ∧ Q.size ≤ 1000 ∧ 0 ≤ a' ∧ a' ≤ 2100
theorem url_j1 (code : List Int) (hc : ∀ x ∈ code, 0 ≤ x ∧ x ≤ 255) (hb : code.length < 4611686018427387904) (k : Nat) (a s : Int) (h0 : 0 ≤ a) (h1 : a ≤ 2000) (S H : ByteArray) (n : Int) (P Q : ByteArray) (b : Bool) (hS : S.size ≤ 1000) (hH : H.size ≤ 1000) (hP : P.size ≤ 1000) (hQ : Q.size ≤ 1000) :
    UOK (spec_l1Cur_url.j1 (k + 1) code a s S H n P Q b) := by
  unfold spec_l1Cur_url.j1
  dsimp only
  obtain ⟨v, a1, s1, e1, p1, p2, p3, p4⟩ := pick_ok code hc hb a s 40 h0 (by omega)
  rw [e1, Option.bind_some]
  dsimp only
  by_cases c0 : v = 0
  · rw [if_pos c0]
    obtain ⟨t, a2, s2, e2, q1, q2, q3⟩ := of_ok code hc hb _ (by decide : 0 < ([(⟨#[]⟩ : ByteArray), (⟨#[102, 116, 112]⟩ : ByteArray)] : List ByteArray).length) a1 s1 (by omega) (by omega)
    rw [e2, Option.bind_some]
    exact ⟨_, _, _, _, _, _, _, _, rfl, smallA_of (by decide +kernel) q1, hH, hP, hQ, (by (try dsimp only); omega), (by (try dsimp only); omega)⟩
  rw [if_neg c0]
  by_cases c1 : v = 1
  · rw [if_pos c1]
    obtain ⟨t, a2, s2, e2, q1, q2, q3⟩ := among_ok code hc hb _ (by decide : 0 < ([(-1), 65535, 65536] : List Int).length) a1 s1 (by omega) (by omega)
    rw [e2, Option.bind_some]
    exact ⟨_, _, _, _, _, _, _, _, rfl, hS, hH, hP, hQ, (by (try dsimp only); omega), (by (try dsimp only); omega)⟩
  rw [if_neg c1]
  by_cases c2 : v = 2
  · rw [if_pos c2]
    obtain ⟨t, a2, s2, e2, q1, q2, q3⟩ := of_ok code hc hb _ (by decide : 0 < ([(⟨#[]⟩ : ByteArray), (⟨#[97, 32, 98]⟩ : ByteArray)] : List ByteArray).length) a1 s1 (by omega) (by omega)
    rw [e2, Option.bind_some]
    exact ⟨_, _, _, _, _, _, _, _, rfl, hS, smallA_of (by decide +kernel) q1, hP, hQ, (by (try dsimp only); omega), (by (try dsimp only); omega)⟩
  rw [if_neg c2]
  by_cases c3 : v = 3
  · rw [if_pos c3]
    exact ⟨_, _, _, _, _, _, _, _, rfl, hS, hH, hP, by decide, (by (try dsimp only); omega), (by (try dsimp only); omega)⟩
  · rw [if_neg c3]
    exact ⟨_, _, _, _, _, _, _, _, rfl, hS, hH, hP, hQ, (by (try dsimp only); omega), (by (try dsimp only); omega)⟩
theorem url_j0 (code : List Int) (hc : ∀ x ∈ code, 0 ≤ x ∧ x ≤ 255) (hb : code.length < 4611686018427387904) (k : Nat) (a s : Int) (h0 : 0 ≤ a) (h1 : a ≤ 1500) (S H : ByteArray) (n : Int) (P Q : ByteArray) (b : Bool) (hS : S.size ≤ 1000) (hH : H.size ≤ 1000) (hP : P.size ≤ 1000) (hQ : Q.size ≤ 1000) :
    UOK (spec_l1Cur_url.j0 (k + 2) code a s S H n P Q b) := by
  unfold spec_l1Cur_url.j0
  dsimp only
  obtain ⟨v, a1, s1, e1, p1, p2⟩ := one_ok code hc hb a s 3 h0 (by omega)
  rw [e1, Option.bind_some]
  dsimp only
  cases v with
  | true =>
    rw [if_pos rfl]
    obtain ⟨t, a2, s2, e2, q1, q2, q3⟩ := of_ok code hc hb _ (by decide : 0 < ([(⟨#[]⟩ : ByteArray), (⟨#[113, 61, 49]⟩ : ByteArray), (⟨#[37, 52, 49, 61, 47, 63]⟩ : ByteArray), (⟨#[97, 37, 50, 102, 98]⟩ : ByteArray)] : List ByteArray).length) a1 s1 (by omega) (by omega)
    rw [e2, Option.bind_some]
    exact url_j1 code hc hb k a2 s2 (by omega) (by omega) S H n P t true hS hH hP (smallA_of (by decide +kernel) q1)
  | false =>
    rw [if_neg (by decide)]
    exact url_j1 code hc hb k a1 s1 (by omega) (by omega) S H n P Q b hS hH hP hQ
theorem url_ok (code : List Int) (hc : ∀ x ∈ code, 0 ≤ x ∧ x ≤ 255) (hb : code.length < 4611686018427387904) (k : Nat) (hk : 10 ≤ k) : UOK (spec_l1Cur_url.f k code 0 0) := by
  obtain ⟨m, rfl⟩ : ∃ m, k = m + 2 := ⟨k - 2, by omega⟩
  unfold spec_l1Cur_url.f
  obtain ⟨S, a1, s1, e1, q1, q2, q3⟩ := of_ok code hc hb _ (by decide : 0 < ([(⟨#[104, 116, 116, 112]⟩ : ByteArray), (⟨#[104, 116, 116, 112, 115]⟩ : ByteArray)] : List ByteArray).length) 0 0 (by omega) (by omega)
  rw [e1, Option.bind_some]
  dsimp only
  obtain ⟨H, a2, s2, e2, r1, r2, r3⟩ := of_ok code hc hb _ (by decide : 0 < ([(⟨#[104]⟩ : ByteArray), (⟨#[69, 120, 46, 99, 111, 109]⟩ : ByteArray), (⟨#[101, 120, 46, 99, 111, 109]⟩ : ByteArray), (⟨#[97, 45, 98, 46, 99]⟩ : ByteArray)] : List ByteArray).length) a1 s1 (by omega) (by omega)
  rw [e2, Option.bind_some]
  dsimp only
  obtain ⟨P, a3, s3, e3, t1, t2, t3⟩ := path_ok code hc hb (m + 2) hk a2 s2 (by omega) (by omega)
  rw [e3, Option.bind_some]
  dsimp only
  obtain ⟨v, a4, s4, e4, p1, p2⟩ := one_ok code hc hb a3 s3 3 t2 (by omega)
  rw [e4, Option.bind_some]
  dsimp only
  have hS : S.size ≤ 1000 := smallA_of (by decide +kernel) q1
  have hH : H.size ≤ 1000 := smallA_of (by decide +kernel) r1
  cases v with
  | true =>
    rw [if_pos rfl]
    obtain ⟨t, a5, s5, e5, u1, u2, u3⟩ := among_ok code hc hb _ (by decide : 0 < ([80, 443, 8080] : List Int).length) a4 s4 (by omega) (by omega)
    rw [e5, Option.bind_some]
    exact url_j0 code hc hb m a5 s5 (by omega) (by omega) S H t P _ false hS hH (by omega) (by decide)
  | false =>
    rw [if_neg (by decide)]
    exact url_j0 code hc hb m a4 s4 (by omega) (by omega) S H 0 P _ false hS hH (by omega) (by decide)

/-! ### The address out of its text -/
theorem pch_no (o : List UInt8) (c : UInt8) (h1 : okB o c = false) (h2 : c ≠ 37) (h3 : hv c < 0) : ∀ (n : Nat) (M : List UInt8), M.length ≤ n → pch o M = true → c ∉ M
  | _, [], _, _ => by simp
  | 0, b :: r, h, _ => absurd h (by simp)
  | n + 1, b :: r, h, hp => by
    by_cases e : b = 37
    · subst e
      match r, h, hp with
      | [], _, hp => cases hp
      | [x], _, hp => cases hp
      | x :: y :: z, h, hp =>
        have e : pch o (37 :: x :: y :: z) = (decide (0 ≤ hv x) && decide (0 ≤ hv y) && pch o z) := rfl
        rw [e] at hp
        simp only [Bool.and_eq_true, decide_eq_true_eq] at hp
        have ih := pch_no o c h1 h2 h3 n z (by simp at h; omega) hp.2
        intro hm
        rcases List.mem_cons.mp hm with hm | hm
        · exact h2 hm
        rcases List.mem_cons.mp hm with hm | hm
        · subst hm; omega
        rcases List.mem_cons.mp hm with hm | hm
        · subst hm; omega
        · exact ih hm
    · rw [pch_ne o b r e, Bool.and_eq_true] at hp
      have ih := pch_no o c h1 h2 h3 n r (by simp at h; omega) hp.2
      intro hm
      rcases List.mem_cons.mp hm with hm | hm
      · subst hm; rw [h1] at hp; cases hp.1
      · exact ih hm
theorem host_no (c : UInt8) (h1 : hostB c = false) (H : List UInt8) (h : H.all hostB = true) : c ∉ H := fun hm => by
  have := List.all_eq_true.mp h c hm
  rw [h1] at this; cases this
theorem itoa_no (c : UInt8) (hc : c.toNat < 48 ∨ 57 < c.toNat) (n : Int) (h0 : 0 ≤ n) : c ∉ Lib.itoa n := fun hm => by
  obtain ⟨u, rfl⟩ : ∃ u : Nat, n = (u : Int) := ⟨n.toNat, by omega⟩
  rw [Lib.itoa_nonneg] at hm
  have := dec_digs u c hm
  omega
theorem port_no (c : UInt8) (hc : c.toNat < 48 ∨ 57 < c.toNat) (h58 : c ≠ 58) (n : Int) (h0 : 0 ≤ n) : c ∉ portL n := by
  unfold portL
  split
  · simp
  · intro hm
    rcases List.mem_cons.mp hm with hm | hm
    · exact h58 hm
    · exact itoa_no c hc n h0 hm
theorem indexB_at (c : UInt8) (r : List UInt8) : ∀ l : List UInt8, c ∉ l → Lib.indexByte (l ++ c :: r) c = (l.length : Int)
  | [], _ => by simp [Lib.indexByte]
  | b :: l, h => by
    have hb : (b == c) = false := beq_eq_false_iff_ne.mpr fun e => h (e ▸ List.mem_cons_self ..)
    have ih := indexB_at c r l fun hh => h (List.mem_cons_of_mem _ hh)
    show Lib.indexByte (b :: (l ++ c :: r)) c = _
    unfold Lib.indexByte
    rw [ih, hb, if_neg (by decide)]
    have : ((l.length : Int) == -1) = false := beq_eq_false_iff_ne.mpr (by omega)
    rw [this, if_neg (by decide)]; simp
theorem cut_f (T sep a b : List UInt8) (f : Bool) (h : T.length ≤ 100000) (hc : Lib.cut T sep = (a, b, f)) : strings_Cut.f (tx T) (tx sep) = some (tx a, tx b, f) := by
  unfold strings_Cut.f
  rw [tx_size, if_pos (by omega), tx_list, tx_list, hc]
theorem number_f (n : Int) (h0 : 0 ≤ n) (h1 : n < 1000000) : impl_number.f (tx (Lib.itoa n)) = some (n, true) := by
  have hl := itoa_len n h0 h1
  have hb : Lib.atoi (Lib.itoa n) = some n := by
    obtain ⟨u, rfl⟩ : ∃ u : Nat, n = (u : Int) := ⟨n.toNat, by omega⟩
    rw [Lib.itoa_nonneg]
    exact atoi_back u
  unfold impl_number.f
  rw [tx_size, if_pos (by omega), tx_list, hb]
  dsimp only
  rw [if_pos h0, if_pos h1, decide_eq_true rfl]
theorem read_f (k : Nat) (S H : List UInt8) (n : Int) (P Q : List UInt8) (a : Bool) (hS : S.length ≤ 1000) (hH : H.length ≤ 1000) (hP : P.length ≤ 1000) (hQ : Q.length ≤ 1000) (hk : 1010 ≤ k) (hg : goodL S H n P Q a = true) :
    impl_ReadUrl.f k (tx (textL S H n P Q a)) = some (tx S, tx H, n, tx P, tx Q, a, true) := by
  have hgI := fun k hk => good_I k S H n P Q a hS hH hP hQ hk
  rw [hg] at hgI
  unfold goodL tailB at hg
  simp only [Bool.and_eq_true, decide_eq_true_eq] at hg
  obtain ⟨hsch, _, hH2, ⟨hn0, hn1⟩, hsl, hpP, hpQ, haq, hlen⟩ := hg
  have p63 : (63 : UInt8) ∉ H ++ portL n ++ P := by
    intro hm
    rcases List.mem_append.mp hm with hm | hm
    · rcases List.mem_append.mp hm with hm | hm
      · exact host_no 63 (by decide) H hH2 hm
      · exact port_no 63 (by decide) (by decide) n hn0 hm
    · exact pch_no [47] 63 (by decide) (by decide) (by decide +kernel) P.length P (Nat.le_refl _) hpP hm
  have p47 : (47 : UInt8) ∉ H ++ portL n := by
    intro hm
    rcases List.mem_append.mp hm with hm | hm
    · exact host_no 47 (by decide) H hH2 hm
    · exact port_no 47 (by decide) (by decide) n hn0 hm
  have p58 : (58 : UInt8) ∉ H := host_no 58 (by decide) H hH2
  obtain ⟨P2, rfl⟩ : ∃ P2, P = 47 :: P2 := by
    unfold slash at hsl
    cases P with
    | nil => cases hsl
    | cons b r => exact ⟨r, by rw [beq_iff_eq.mp hsl]⟩
  have hpl : (portL n).length ≤ 7 := by
    unfold portL
    have := itoa_len n hn0 (by omega)
    split
    · simp
    · simp; omega
  have hal : (askL Q a).length ≤ 1001 := by unfold askL; split <;> simp; omega
  obtain ⟨R, hR⟩ : ∃ R, R = H ++ (portL n ++ (47 :: P2 ++ askL Q a)) := ⟨_, rfl⟩
  have hRl : R.length ≤ 4000 := by rw [hR]; simp only [List.length_append]; omega
  have c1 : Lib.cut (textL S H n (47 :: P2) Q a) [58, 47, 47] = (S, R, true) := by
    have ht : textL S H n (47 :: P2) Q a = S ++ ([58, 47, 47] ++ R) := by rw [hR]; rfl
    rw [ht]
    unfold schB at hsch
    simp only [Bool.or_eq_true, decide_eq_true_eq] at hsch
    rcases hsch with rfl | rfl
    · exact cut_http R
    · exact cut_https R
  have c2 : Lib.cut R [63] = (H ++ portL n ++ 47 :: P2, Q, a) := by
    rw [hR]
    unfold askL
    cases a with
    | true =>
      rw [if_pos rfl]
      have : H ++ (portL n ++ (47 :: P2 ++ 63 :: Q)) = (H ++ portL n ++ 47 :: P2) ++ 63 :: Q := by simp
      rw [this]
      exact cut_at 63 _ _ p63
    | false =>
      rw [if_neg (by decide)]
      have hq : Q = [] := by simpa using haq
      have : H ++ (portL n ++ (47 :: P2 ++ [])) = (H ++ portL n ++ 47 :: P2) := by simp
      rw [this, hq]
      exact cut_none 63 _ p63
  have i1 : Lib.indexByte (H ++ portL n ++ 47 :: P2) 47 = ((H ++ portL n).length : Int) := indexB_at 47 P2 _ p47
  obtain ⟨m, rfl⟩ : ∃ m, k = m + 4 := ⟨k - 4, by omega⟩
  have hBl : (H ++ portL n ++ 47 :: P2).length ≤ 4000 := by simp only [List.length_append]; omega
  have j3 : impl_ReadUrl.j3 (m + 1) n false (tx S) (tx H) 0 (tx (47 :: P2)) (tx Q) a = some (tx S, tx H, n, tx (47 :: P2), tx Q, a, true) := by
    unfold impl_ReadUrl.j3
    dsimp only
    rw [if_neg (by decide), hgI m (by omega), Option.bind_some, if_pos rfl]
  have j2 : impl_ReadUrl.j2 (m + 2) (tx (H ++ portL n)) (tx S) (⟨#[]⟩ : ByteArray) 0 (tx (47 :: P2)) (tx Q) a = some (tx S, tx H, n, tx (47 :: P2), tx Q, a, true) := by
    unfold impl_ReadUrl.j2
    dsimp only
    have e58 : (⟨#[58]⟩ : ByteArray) = tx [58] := rfl
    rw [e58]
    by_cases c : n = 0
    · have : portL n = [] := by unfold portL; rw [if_pos c]
      rw [this, List.append_nil, cut_f H [58] H [] false (by omega) (cut_none 58 H p58), Option.bind_some]
      dsimp only
      rw [if_neg (by decide)]
      have := hgI (m + 1) (by omega)
      rw [c] at this ⊢
      rw [this, Option.bind_some, if_pos rfl]
    · have : portL n = 58 :: Lib.itoa n := by unfold portL; rw [if_neg c]
      have hl2 : (H ++ 58 :: Lib.itoa n).length ≤ 100000 := by rw [← this]; simp only [List.length_append]; omega
      rw [this, cut_f _ [58] H (Lib.itoa n) true hl2 (cut_at 58 H _ p58), Option.bind_some]
      dsimp only
      rw [if_pos rfl, number_f n hn0 (by omega), Option.bind_some]
      dsimp only
      rw [if_pos rfl, beq_eq_false_iff_ne.mpr c, j3]
  have j1 : impl_ReadUrl.j1 (m + 3) (tx (H ++ portL n)) (tx S) (⟨#[]⟩ : ByteArray) 0 (tx (47 :: P2)) (tx Q) a = some (tx S, tx H, n, tx (47 :: P2), tx Q, a, true) := by
    unfold impl_ReadUrl.j1
    dsimp only
    rw [tx_toList, if_neg (by simp), j2]
  unfold impl_ReadUrl.f
  have e1 : (⟨#[58, 47, 47]⟩ : ByteArray) = tx [58, 47, 47] := rfl
  have e63 : (⟨#[63]⟩ : ByteArray) = tx [63] := rfl
  rw [e1, cut_f _ _ S R true (by omega) c1, Option.bind_some]
  dsimp only
  rw [if_pos rfl, tx_size, decide_eq_false (by omega)]
  unfold impl_ReadUrl.j0
  dsimp only
  rw [if_neg (by decide), e63, cut_f R [63] _ _ _ (by omega) c2, Option.bind_some]
  dsimp only
  have i2 : index_byte_in.f (tx (H ++ portL n ++ 47 :: P2)) 47 = some ((H ++ portL n).length : Int) := by
    unfold index_byte_in.f strings_IndexByte.f
    rw [tx_list]
    have : ((47 : Int).toNat).toUInt8 = 47 := by decide
    rw [this, i1]
  rw [i2, Option.bind_some, if_pos (by omega), if_pos (by omega), tx_size, if_pos (by simp only [List.length_append]; omega), tx_cut, tx_cut]
  have t1 : ((H ++ portL n ++ 47 :: P2).drop 0).take (((H ++ portL n).length : Int).toNat - 0) = H ++ portL n := by
    rw [List.drop_zero, Int.toNat_natCast, Nat.sub_zero, List.take_left]
  have t2 : ((H ++ portL n ++ 47 :: P2).drop ((H ++ portL n).length : Int).toNat).take ((H ++ portL n ++ 47 :: P2).length - ((H ++ portL n).length : Int).toNat) = 47 :: P2 := by
    rw [Int.toNat_natCast, List.drop_left, List.take_of_length_le (by simp only [List.length_append]; omega)]
  rw [t1, t2]
  exact j1

/-! ### Paths as their parts -/
def pathOf (S : List (List UInt8)) : List UInt8 := (S.map fun s => 47 :: s).flatten
theorem pathOf_cons (s : List UInt8) (S : List (List UInt8)) : pathOf (s :: S) = 47 :: (s ++ pathOf S) := rfl
theorem pathOf_app (A B : List (List UInt8)) : pathOf (A ++ B) = pathOf A ++ pathOf B := by simp [pathOf]
theorem pathOf_one (s : List UInt8) : pathOf [s] = 47 :: s := by simp [pathOf]
def segs : List UInt8 → List (List UInt8)
  | [] => [[]]
  | b :: r => if b = 47 then [] :: segs r else (match segs r with | s :: S => (b :: s) :: S | [] => [[b]])
def NoS (S : List (List UInt8)) : Prop := ∀ s ∈ S, (47 : UInt8) ∉ s
theorem segs_ok : ∀ l : List UInt8, ∃ s S, segs l = s :: S ∧ 47 :: l = pathOf (s :: S) ∧ NoS (s :: S)
  | [] => ⟨[], [], rfl, rfl, by intro s hs; rw [List.mem_singleton.mp hs]; simp⟩
  | b :: r => by
    obtain ⟨s, S, e, h1, h2⟩ := segs_ok r
    unfold segs
    by_cases c : b = 47
    · rw [if_pos c, e]
      refine ⟨[], s :: S, rfl, ?_, ?_⟩
      · rw [c, h1]; rfl
      · intro x hx
        rcases List.mem_cons.mp hx with hx | hx
        · rw [hx]; simp
        · exact h2 x hx
    · rw [if_neg c, e]
      refine ⟨b :: s, S, rfl, ?_, ?_⟩
      · rw [pathOf_cons] at h1 ⊢
        have := List.cons.inj h1
        rw [this.2]; rfl
      · intro x hx
        rcases List.mem_cons.mp hx with hx | hx
        · rw [hx]
          intro hm
          rcases List.mem_cons.mp hm with hm | hm
          · exact c hm.symm
          · exact h2 s List.mem_cons_self hm
        · exact h2 x (List.mem_cons_of_mem _ hx)
/-! split and join -/
theorem indexB_one (s : ByteArray) (c : UInt8) : Lib.indexB s (tx [c]) = Lib.index s.data.toList [c] := rfl
theorem nos_path (s : List UInt8) (S : List (List UInt8)) : s ++ pathOf S = (match S with | [] => s | t :: T => s ++ 47 :: (t ++ pathOf T)) := by
  cases S with
  | nil => simp [pathOf]
  | cons t T => rw [pathOf_cons]
theorem count_path : ∀ (S : List (List UInt8)) (s : List UInt8), NoS (s :: S) → Lib.countB (tx (s ++ pathOf S)) (tx [47]) = S.length
  | [], s, h => by
    have e : s ++ pathOf [] = s := by simp [pathOf]
    rw [e]
    exact Lib.countB_miss _ _ (index_none 47 s (h s List.mem_cons_self))
  | t :: T, s, h => by
    have hs : (47 : UInt8) ∉ s := h s List.mem_cons_self
    have hi : Lib.indexB (tx (s ++ pathOf (t :: T))) (tx [47]) = (s.length : Int) := by rw [pathOf_cons]; exact index_at 47 (t ++ pathOf T) s hs
    have ih := count_path T t (fun x hx => h x (List.mem_cons_of_mem _ hx))
    rw [Lib.countB_hit _ _ s.length (by decide) hi]
    have e : (tx (s ++ pathOf (t :: T))).extract (s.length + (tx [47]).size) (tx (s ++ pathOf (t :: T))).size = tx (t ++ pathOf T) := by
      rw [tx_cut, tx_size, tx_size, pathOf_cons]
      have e1 : s ++ 47 :: (t ++ pathOf T) = (s ++ [47]) ++ (t ++ pathOf T) := by simp
      have e2 : s.length + [(47 : UInt8)].length = (s ++ [47]).length := by simp
      rw [e1, e2, List.drop_left, List.take_of_length_le (by simp; omega)]
    rw [e, ih, List.length_cons]; omega
theorem split_path : ∀ (S : List (List UInt8)) (s : List UInt8), NoS (s :: S) → Lib.splitB (tx [47]) 0 S.length (tx (s ++ pathOf S)) = (s :: S).map tx
  | [], s, h => by
    have e : s ++ pathOf [] = s := by simp [pathOf]
    rw [e]; rfl
  | t :: T, s, h => by
    have hs : (47 : UInt8) ∉ s := h s List.mem_cons_self
    have hi : Lib.indexB (tx (s ++ pathOf (t :: T))) (tx [47]) = (s.length : Int) := by rw [pathOf_cons]; exact index_at 47 (t ++ pathOf T) s hs
    have ih := split_path T t (fun x hx => h x (List.mem_cons_of_mem _ hx))
    rw [List.length_cons, Lib.splitB_hit _ _ _ _ s.length hi]
    have e : (tx (s ++ pathOf (t :: T))).extract (s.length + (tx [47]).size) (tx (s ++ pathOf (t :: T))).size = tx (t ++ pathOf T) := by
      rw [tx_cut, tx_size, tx_size, pathOf_cons]
      have e1 : s ++ 47 :: (t ++ pathOf T) = (s ++ [47]) ++ (t ++ pathOf T) := by simp
      have e2 : s.length + [(47 : UInt8)].length = (s ++ [47]).length := by simp
      rw [e1, e2, List.drop_left, List.take_of_length_le (by simp; omega)]
    have e0 : (tx (s ++ pathOf (t :: T))).extract 0 (s.length + 0) = tx s := by
      rw [tx_cut, List.drop_zero, Nat.add_zero, Nat.sub_zero, List.take_left]
    rw [e, ih, e0]; rfl
theorem splitS (s : List UInt8) (S : List (List UInt8)) (h : NoS (s :: S)) (hl : (s ++ pathOf S).length ≤ 100000) : strings_Split.f (tx (s ++ pathOf S)) (⟨#[47]⟩ : ByteArray) = some ((s :: S).map tx) := by
  have e : (⟨#[47]⟩ : ByteArray) = tx [47] := rfl
  unfold strings_Split.f
  rw [e, tx_size, tx_size, if_pos (by omega), if_pos (by decide), count_path S s h, split_path S s h]
theorem join_path : ∀ (S : List (List UInt8)) (s : List UInt8), 47 :: Lib.join (s :: S) [47] = pathOf (s :: S)
  | [], s => by rw [Lib.join_one, pathOf_one]
  | t :: T, s => by
    have ih := join_path T t
    have e : Lib.join (s :: t :: T) [47] = s ++ ([47] ++ Lib.join (t :: T) [47]) := by
      simp [Lib.join, List.intercalate, List.intersperse]
    rw [e, pathOf_cons, ← ih]; rfl
theorem path_len : ∀ (S : List (List UInt8)), S.length ≤ (pathOf S).length
  | [] => by simp
  | s :: S => by have := path_len S; rw [pathOf_cons]; simp; omega
theorem joinS (s : List UInt8) (S : List (List UInt8)) (hl : (pathOf (s :: S)).length ≤ 100000) : strings_Join.f ((s :: S).map tx) (⟨#[47]⟩ : ByteArray) = some (tx (Lib.join (s :: S) [47])) := by
  have hp := path_len (s :: S)
  have hj := join_path S s
  have hjl : (Lib.join (s :: S) [47]).length < 1000000000 := by
    have : (47 :: Lib.join (s :: S) [47]).length = (pathOf (s :: S)).length := by rw [hj]
    rw [List.length_cons] at this; omega
  have em : (((s :: S).map tx).map (·.data.toList)) = s :: S := by
    rw [List.map_map]
    exact (List.map_congr_left (g := id) (fun b _ => rfl)).trans (List.map_id _)
  unfold strings_Join.f
  rw [em, if_pos (by rw [List.length_map]; omega)]
  show (if (Lib.join (s :: S) [47]).length < 1000000000 then some (tx (Lib.join (s :: S) [47])) else none) = _
  rw [if_pos hjl]
/-! dots -/
def isDots (s : List UInt8) : Bool := s == [46] || s == [46, 46]
def popD (s : List UInt8) (O : List (List UInt8)) : List (List UInt8) := if s = [46, 46] then O.dropLast else O
/-- what is left behind the parts T, where O is left of those before -/
def dotL : List (List UInt8) → List (List UInt8) → List (List UInt8)
  | O, [] => O
  | O, s :: T => if isDots s = true then dotL (if T = [] then popD s O ++ [[]] else popD s O) T else dotL (O ++ [s]) T
theorem toList_eq_lit (l m : List UInt8) : ((tx l).toList = m) = (l = m) := by rw [tx_toList]
theorem rdOf_map (X : List (List UInt8)) (i : Nat) (h : i < X.length) : rdOf ByteArray.empty (X.map tx) (i : Int) = tx X[i] := by
  unfold rdOf
  rw [List.getD_eq_getElem?_getD, Int.toNat_natCast, List.getElem?_eq_getElem (by rw [List.length_map]; exact h), List.getElem_map]; rfl
theorem rdOf_mid (pre : List (List UInt8)) (s : List UInt8) (T : List (List UInt8)) : rdOf ByteArray.empty ((pre ++ s :: T).map tx) (pre.length : Int) = tx s := by
  rw [rdOf_map _ pre.length (by simp)]
  simp
theorem isDots_cases (s : List UInt8) : (isDots s = true ∧ s = [46]) ∨ (isDots s = true ∧ s = [46, 46] ∧ s ≠ [46]) ∨ (isDots s = false ∧ s ≠ [46] ∧ s ≠ [46, 46]) := by
  unfold isDots
  by_cases c : s = [46]
  · left; subst c; exact ⟨rfl, rfl⟩
  · by_cases c2 : s = [46, 46]
    · right; left; subst c2; exact ⟨rfl, rfl, by decide⟩
    · right; right
      rw [beq_eq_false_iff_ne.mpr c, beq_eq_false_iff_ne.mpr c2]
      exact ⟨rfl, c, c2⟩
theorem take_last (O : List (List UInt8)) (h : 0 < O.length) : (O.map tx).take (((O.map tx).length : Int) - 1).toNat = O.dropLast.map tx := by
  rw [List.dropLast_eq_take, List.map_take, List.length_map]
  congr 1
  omega
theorem dots_I (X : List (List UInt8)) (hX : X.length ≤ 100000) : ∀ (T pre : List (List UInt8)) (O : List (List UInt8)) (K : Nat) (R : List (List UInt8)), X = pre ++ T → O.length ≤ pre.length → 3 * T.length + 3 ≤ K → R = dotL O T → R ≠ [] → (pathOf R).length ≤ 100000 →
    impl_dropDots.l0 K (O.map tx) (X.map tx) (X.map tx) (X.length : Int) (pre.length : Int) = some (tx (pathOf R))
  | T, pre, O, 0, R, _, _, h, _, _, _ => absurd h (by omega)
  | [], pre, O, K + 1, R, hx, hO, hK, hR, hn, hl => by
    unfold impl_dropDots.l0
    have hpl : X.length = pre.length := by rw [hx]; simp
    have hR2 : R = O := by rw [hR]; unfold dotL; rfl
    subst hR2
    obtain ⟨s, S, rfl⟩ : ∃ s S, R = s :: S := by
      cases R with
      | nil => exact absurd rfl hn
      | cons s S => exact ⟨s, S, rfl⟩
    have hj := join_path S s
    have hjl : 1 + (Lib.join (s :: S) [47]).length ≤ 100000 := by
      have : (47 :: Lib.join (s :: S) [47]).length = (pathOf (s :: S)).length := by rw [hj]
      rw [List.length_cons] at this; omega
    have e47 : (⟨#[47]⟩ : ByteArray) ++ tx (Lib.join (s :: S) [47]) = tx (pathOf (s :: S)) := by rw [← hj]; exact tx_app [47] _
    rw [if_neg (by omega), joinS s S hl, Option.bind_some, tx_size, if_pos (by omega), e47]
  | s :: T, pre, O, K + 1, R, hx, hO, hK, hR, hn, hl => by
    have hXl : X.length = pre.length + (T.length + 1) := by rw [hx]; simp
    have hpl2 : ((pre ++ [s]).length : Int) = (pre.length : Int) + 1 := by simp
    obtain ⟨K2, rfl⟩ : ∃ K2, K = K2 + 2 := ⟨K - 2, by simp at hK; omega⟩
    have hK3 : 3 * T.length + 3 ≤ K2 := by rw [List.length_cons] at hK; omega
    have hxs : X = (pre ++ [s]) ++ T := by rw [hx]; simp
    have ih := fun (O' : List (List UInt8)) (K' : Nat) (h1 : O'.length ≤ pre.length + 1) (h2 : 3 * T.length + 3 ≤ K') (h3 : R = dotL O' T) => dots_I X hX T (pre ++ [s]) O' K' R hxs (by rw [List.length_append]; exact h1) h2 h3 hn hl
    simp only [hpl2] at ih
    have hw : wrap64 ((pre.length : Int) + 1) = (pre.length : Int) + 1 := w64 (by omega) (by omega)
    have hrd : rdOf ByteArray.empty (X.map tx) (pre.length : Int) = tx s := by rw [hx]; exact rdOf_mid pre s T
    have hla : (((X.map tx).length : Nat) : Int) = (X.length : Int) := by rw [List.length_map]
    have hlast : ((pre.length : Int) == wrap64 ((X.length : Int) - 1)) = decide (T = []) := by
      rw [w64 (by omega) (by omega)]
      cases T with
      | nil => rw [decide_eq_true rfl]; exact beq_iff_eq.mpr (by simp at hXl; omega)
      | cons a b => rw [decide_eq_false (by simp)]; exact beq_eq_false_iff_ne.mpr (by simp at hXl; omega)
    have hmO : (O.map tx).length = O.length := List.length_map _
    unfold impl_dropDots.l0
    rw [hrd, hla, hlast, if_pos (by omega), if_pos (by omega), if_pos (by omega), tx_toList]
    have fin : ∀ O' : List (List UInt8), O'.length ≤ pre.length → R = dotL (if T = [] then O' ++ [[]] else O') T →
        (if decide (T = []) = true then (if (O'.map tx).length < 8796093022208 then impl_dropDots.l0 K2 (O'.map tx ++ [(⟨#[]⟩ : ByteArray)]) (X.map tx) (X.map tx) (X.length : Int) (wrap64 ((pre.length : Int) + 1)) else none) else impl_dropDots.l0 K2 (O'.map tx) (X.map tx) (X.map tx) (X.length : Int) (wrap64 ((pre.length : Int) + 1))) = some (tx (pathOf R)) := fun O' h1 h3 => by
      by_cases c : T = []
      · have e : O'.map tx ++ [(⟨#[]⟩ : ByteArray)] = (O' ++ [[]]).map tx := by simp
        rw [if_pos c] at h3
        rw [if_pos (decide_eq_true c), if_pos (by rw [List.length_map]; omega), hw, e]
        exact ih (O' ++ [[]]) K2 (by simp; omega) hK3 h3
      · rw [if_neg c] at h3
        rw [if_neg (fun hh => c (of_decide_eq_true hh)), hw]
        exact ih O' K2 (by omega) hK3 h3
    have J2f : R = dotL (if T = [] then O ++ [[]] else O) T → impl_dropDots.j2 (K2 + 1) (O.map tx) (X.map tx) (decide (T = [])) (X.map tx) (X.length : Int) (pre.length : Int) false = some (tx (pathOf R)) := fun h3 => by
      unfold impl_dropDots.j2
      rw [if_neg (by decide)]
      exact fin O hO h3
    have J2t : 0 < O.length → R = dotL (if T = [] then O.dropLast ++ [[]] else O.dropLast) T → impl_dropDots.j2 (K2 + 1) (O.map tx) (X.map tx) (decide (T = [])) (X.map tx) (X.length : Int) (pre.length : Int) true = some (tx (pathOf R)) := fun hp h3 => by
      have hd : O.dropLast.length ≤ pre.length := by rw [List.length_dropLast]; omega
      unfold impl_dropDots.j2
      have hwl : wrap64 (((O.map tx).length : Int) - 1) = ((O.map tx).length : Int) - 1 := by rw [hmO]; exact w64 (by omega) (by omega)
      rw [if_pos rfl, hwl, if_pos (by rw [hmO]; omega), if_pos (by omega), take_last O hp, Option.bind_some]
      exact fin O.dropLast hd h3
    have hR' : R = (if isDots s = true then dotL (if T = [] then popD s O ++ [[]] else popD s O) T else dotL (O ++ [s]) T) := by rw [hR]; conv => lhs; unfold dotL
    rcases isDots_cases s with ⟨g1, rfl⟩ | ⟨g1, rfl, g2⟩ | ⟨g1, g2, g3⟩
    · rw [g1, if_pos rfl] at hR'
      rw [if_pos rfl]
      unfold impl_dropDots.j1
      rw [if_pos (by rfl), tx_toList, if_neg (by decide)]
      exact J2f hR'
    · rw [g1, if_pos rfl] at hR'
      rw [if_neg g2]
      unfold impl_dropDots.j1
      rw [if_pos (by rfl), tx_toList, if_pos rfl, hmO]
      cases O with
      | nil => exact J2f hR'
      | cons o O2 =>
        rw [decide_eq_true (show ((((o :: O2).length : Nat) : Int) > 0) by rw [List.length_cons]; omega)]
        exact J2t (by simp) hR'
    · rw [g1, if_neg (by decide)] at hR'
      rw [if_neg g2]
      unfold impl_dropDots.j1
      have e : O.map tx ++ [tx s] = (O ++ [s]).map tx := by simp
      rw [beq_eq_false_iff_ne.mpr g3, if_neg (by decide), hmO, if_pos (by omega), hw, e]
      exact ih (O ++ [s]) (K2 + 1) (by simp; omega) (by omega) hR'
/-! the same, told by the specification -/
theorem cutS (c : UInt8) (ci : Int) (hc : ci = (c.toNat : Int)) (b : List UInt8) (f : Bool) : ∀ (a pre : List UInt8) (K : Nat), c ∉ a → (pre ++ a).length ≤ 10000 → b.length ≤ 10000 → a.length < K → spec_l1Cut.l0 K (tx (pre ++ (a ++ (if f = true then c :: b else [])))) ci (pre.length : Int) = some (tx (pre ++ a), (if f = true then tx b else (⟨#[]⟩ : ByteArray)), f)
  | a, pre, 0, _, _, _, h => absurd h (by omega)
  | [], pre, K + 1, ha, hl, hb, hK => by
    unfold spec_l1Cut.l0
    cases f with
    | false =>
      rw [if_neg (show ¬ false = true by decide), if_neg (show ¬ false = true by decide), List.append_nil, List.append_nil, tx_size, if_neg (Int.lt_irrefl _)]
    | true =>
      have hpl : pre.length ≤ 10000 := by simpa using hl
      rw [if_pos rfl, if_pos rfl, List.nil_append, List.append_nil]
      have hs : ((tx (pre ++ c :: b)).size : Int) = (pre.length : Int) + 1 + (b.length : Int) := by rw [tx_size]; simp; omega
      rw [hs, bt_at, if_pos (by omega), if_pos (by omega), if_pos hc.symm, if_pos (by omega), w64 (by omega) (by omega), if_pos (by omega), if_pos (by omega), tx_cut, tx_cut]
      have t1 : ((pre ++ c :: b).drop 0).take ((pre.length : Int).toNat - 0) = pre := by rw [List.drop_zero, Int.toNat_natCast, Nat.sub_zero, List.take_left]
      have t2 : ((pre ++ c :: b).drop ((pre.length : Int) + 1).toNat).take ((tx (pre ++ c :: b)).size - ((pre.length : Int) + 1).toNat) = b := by
        have e1 : pre ++ c :: b = (pre ++ [c]) ++ b := by simp
        have e2 : ((pre.length : Int) + 1).toNat = (pre ++ [c]).length := by simp
        rw [tx_size, e1, e2, List.drop_left, List.take_of_length_le (by simp; omega)]
      rw [t1, t2]
  | x :: a, pre, K + 1, ha, hl, hb, hK => by
    have hx : x ≠ c := fun h => ha (h ▸ List.mem_cons_self)
    have hpl : pre.length + (a.length + 1) ≤ 10000 := by simpa using hl
    have ih := cutS c ci hc b f a (pre ++ [x]) K (fun h => ha (List.mem_cons_of_mem _ h)) (by simp; omega) hb (by simp at hK; omega)
    have e1 : ∀ z : List UInt8, pre ++ [x] ++ z = pre ++ x :: z := fun z => by simp
    have e2 : (((pre ++ [x]).length : Nat) : Int) = (pre.length : Int) + 1 := by simp
    rw [e1, e1, e2] at ih
    have hxa : (x :: a) ++ (if f = true then c :: b else []) = x :: (a ++ (if f = true then c :: b else [])) := rfl
    rw [hxa]
    generalize a ++ (if f = true then c :: b else []) = m at ih ⊢
    have hs : ((tx (pre ++ x :: m)).size : Int) = (pre.length : Int) + 1 + (m.length : Int) := by rw [tx_size]; simp; omega
    unfold spec_l1Cut.l0
    rw [hs, bt_at, if_pos (by omega), if_pos (by omega), if_neg (fun hh => hx (UInt8.toNat_inj.mp (by omega))), w64 (by omega) (by omega), ih]
theorem cutS_at (c : UInt8) (ci : Int) (hc : ci = (c.toNat : Int)) (a b : List UInt8) (K : Nat) (ha : c ∉ a) (hl : a.length ≤ 10000) (hb : b.length ≤ 10000) (hK : a.length < K) : spec_l1Cut.f K (tx (a ++ c :: b)) ci = some (tx a, tx b, true) := by
  have := cutS c ci hc b true a [] K ha (by simpa using hl) hb hK
  rw [if_pos rfl, if_pos rfl] at this
  exact this
theorem cutS_none (c : UInt8) (ci : Int) (hc : ci = (c.toNat : Int)) (a : List UInt8) (K : Nat) (ha : c ∉ a) (hl : a.length ≤ 10000) (hK : a.length < K) : spec_l1Cut.f K (tx a) ci = some (tx a, (⟨#[]⟩ : ByteArray), false) := by
  have := cutS c ci hc [] false a [] K ha (by simpa using hl) (by simp) hK
  rw [if_neg (by decide), if_neg (by decide), List.append_nil] at this
  exact this
theorem dots_l1 (X : List (List UInt8)) (last : List UInt8) (hX : (pathOf X).length ≤ 100000) : ∀ (T pre : List (List UInt8)) (K : Nat), X = pre ++ T → T.length < K → spec_l1Dots.l1 K (tx last) (tx (pathOf pre)) (X.map tx) (X.length : Int) (pre.length : Int) = some (tx (if pathOf X = [] ∨ isDots last = true then pathOf X ++ [47] else pathOf X))
  | T, pre, 0, _, h => absurd h (by omega)
  | [], pre, K + 1, hx, hK => by
    have hx2 : X = pre := by rw [hx]; simp
    subst hx2
    have e47 : (⟨#[47]⟩ : ByteArray) = tx [47] := rfl
    unfold spec_l1Dots.l1
    rw [if_neg (Int.lt_irrefl _), tx_toList, tx_size, e47, tx_app, tx_toList]
    have hr : (pathOf X).length + 1 ≤ 9223372036854775807 := by omega
    by_cases c : pathOf X = []
    · rw [if_pos c, if_pos hr, if_pos (Or.inl c)]
    · rw [if_neg c]
      rcases isDots_cases last with ⟨g1, g2⟩ | ⟨g1, g2, g3⟩ | ⟨g1, g2, g3⟩
      · rw [if_pos g2, if_pos hr, if_pos (Or.inr g1)]
      · rw [if_neg g3, if_pos g2, if_pos hr, if_pos (Or.inr g1)]
      · rw [if_neg g2, if_neg g3, if_neg (fun h => h.elim c (fun hh => by rw [g1] at hh; cases hh))]
  | s :: T, pre, K + 1, hx, hK => by
    have hXl : X.length = pre.length + (T.length + 1) := by rw [hx]; simp
    have hpl := path_len X
    have hrd : rdOf ByteArray.empty (X.map tx) (pre.length : Int) = tx s := by rw [hx]; exact rdOf_mid pre s T
    have hla : (((X.map tx).length : Nat) : Int) = (X.length : Int) := by rw [List.length_map]
    have ih := dots_l1 X last hX T (pre ++ [s]) K (by rw [hx]; simp) (by simp at hK; omega)
    have e2 : (((pre ++ [s]).length : Nat) : Int) = (pre.length : Int) + 1 := by simp
    have e47 : (⟨#[47]⟩ : ByteArray) = tx [47] := rfl
    have hsz : (pathOf X).length = (pathOf pre).length + (1 + s.length) + (pathOf T).length := by
      rw [hx, pathOf_app, pathOf_cons]; simp; omega
    have e3 : pathOf pre ++ ([47] ++ s) = pathOf (pre ++ [s]) := by rw [pathOf_app, pathOf_one]; rfl
    rw [e2] at ih
    unfold spec_l1Dots.l1
    rw [hrd, hla, if_pos (by omega), if_pos (by omega), if_pos (by omega), e47, tx_app, tx_app, tx_size, tx_size, tx_size, if_pos (by omega), if_pos (by rw [List.length_append]; show (pathOf pre).length + (1 + s.length) ≤ _; omega), w64 (by omega) (by omega), e3]
    exact ih
/-- the parts that are left, without what an end in dots adds -/
def dotK : List (List UInt8) → List (List UInt8) → List (List UInt8)
  | O, [] => O
  | O, s :: T => if isDots s = true then dotK (popD s O) T else dotK (O ++ [s]) T
def lastD : List UInt8 → List (List UInt8) → List UInt8
  | s, [] => s
  | _, t :: T => lastD t T
theorem dotK_end : ∀ (T : List (List UInt8)) (s : List UInt8) (O : List (List UInt8)), pathOf (dotL O (s :: T)) = (if pathOf (dotK O (s :: T)) = [] ∨ isDots (lastD s T) = true then pathOf (dotK O (s :: T)) ++ [47] else pathOf (dotK O (s :: T)))
  | [], s, O => by
    have hL : dotL O [s] = (if isDots s = true then dotL (if ([] : List (List UInt8)) = [] then popD s O ++ [[]] else popD s O) [] else dotL (O ++ [s]) []) := rfl
    have hK : dotK O [s] = (if isDots s = true then dotK (popD s O) [] else dotK (O ++ [s]) []) := rfl
    have hl : lastD s [] = s := rfl
    rw [hL, hK, hl]
    by_cases hd : isDots s = true
    · rw [if_pos hd, if_pos hd, if_pos rfl, if_pos (Or.inr hd)]
      show pathOf (popD s O ++ [[]]) = pathOf (popD s O) ++ [47]
      rw [pathOf_app, pathOf_one]
    · rw [if_neg hd, if_neg hd]
      show pathOf (O ++ [s]) = (if pathOf (O ++ [s]) = [] ∨ isDots s = true then _ else pathOf (O ++ [s]))
      rw [if_neg (fun h => h.elim (fun hh => by rw [pathOf_app, pathOf_one] at hh; simp at hh) hd)]
  | t :: T, s, O => by
    have hL : dotL O (s :: t :: T) = (if isDots s = true then dotL (if (t :: T) = [] then popD s O ++ [[]] else popD s O) (t :: T) else dotL (O ++ [s]) (t :: T)) := rfl
    have hK : dotK O (s :: t :: T) = (if isDots s = true then dotK (popD s O) (t :: T) else dotK (O ++ [s]) (t :: T)) := rfl
    have hl : lastD s (t :: T) = lastD t T := rfl
    have hne : ¬ (t :: T = []) := by simp
    rw [if_neg hne] at hL
    rw [hL, hK, hl]
    by_cases hd : isDots s = true
    · rw [if_pos hd, if_pos hd]; exact dotK_end T t _
    · rw [if_neg hd, if_neg hd]; exact dotK_end T t _
theorem pop_len (s : List UInt8) (O : List (List UInt8)) : (popD s O).length ≤ O.length := by unfold popD; split <;> simp
theorem path_pop (s : List UInt8) (O : List (List UInt8)) : (pathOf (popD s O)).length ≤ (pathOf O).length := by
  unfold popD
  split
  · rcases List.eq_nil_or_concat O with h | ⟨L, b, h⟩
    · subst h; simp
    · rw [List.concat_eq_append] at h
      rw [h, List.dropLast_concat, pathOf_app]; simp
  · exact Nat.le_refl _
theorem dotK_len : ∀ (T O : List (List UInt8)), (pathOf (dotK O T)).length ≤ (pathOf O).length + (pathOf T).length
  | [], O => by simp [dotK]
  | s :: T, O => by
    unfold dotK
    rw [pathOf_cons]
    split
    · have := dotK_len T (popD s O)
      have := path_pop s O
      simp; omega
    · have := dotK_len T (O ++ [s])
      rw [pathOf_app, pathOf_one] at this
      simp at this ⊢; omega
def moreB (T : List (List UInt8)) : Bool := !T.isEmpty
def restT : List (List UInt8) → ByteArray
  | [] => ⟨#[]⟩
  | s :: T => tx (s ++ pathOf T)
theorem dots_S : ∀ (T : List (List UInt8)) (s : List UInt8) (O : List (List UInt8)) (K : Nat) (N : Nat), NoS (s :: T) → (pathOf O).length + (pathOf (s :: T)).length ≤ N → N ≤ 5000 → 2 * N + T.length + 10 ≤ K →
    spec_l1Dots.l0 K (O.map tx) (tx (s ++ pathOf T)) = some (tx (if pathOf (dotK O (s :: T)) = [] ∨ isDots (lastD s T) = true then pathOf (dotK O (s :: T)) ++ [47] else pathOf (dotK O (s :: T))))
  | T, s, O, 0, N, _, _, _, h => absurd h (by omega)
  | T, s, O, K + 1, N, hno, hN, hN2, hK => by
    have hs : (47 : UInt8) ∉ s := hno s List.mem_cons_self
    have hpc : (pathOf (s :: T)).length = 1 + s.length + (pathOf T).length := by rw [pathOf_cons]; simp; omega
    have hOl := path_len O
    have hmO : (O.map tx).length = O.length := List.length_map _
    have keyM : ∀ (O' : List (List UInt8)), (pathOf O').length ≤ (pathOf O).length + 1 + s.length → dotK O (s :: T) = dotK O' T →
        (if moreB T = true then spec_l1Dots.l0 K (O'.map tx) (restT T) else spec_l1Dots.j1 K (O'.map tx) (tx s)) = some (tx (if pathOf (dotK O (s :: T)) = [] ∨ isDots (lastD s T) = true then pathOf (dotK O (s :: T)) ++ [47] else pathOf (dotK O (s :: T)))) := fun O' h1 h2 => by
      have hO'l := path_len O'
      cases T with
      | nil =>
        rw [if_neg (show ¬ moreB [] = true by decide), h2]
        obtain ⟨K2, rfl⟩ : ∃ K2, K = K2 + 1 := ⟨K - 1, by omega⟩
        have hm : (((O'.map tx).length : Nat) : Int) = (O'.length : Int) := by rw [List.length_map]
        have e0 : (⟨#[]⟩ : ByteArray) = tx (pathOf []) := rfl
        unfold spec_l1Dots.j1
        dsimp only
        rw [e0, hm]
        exact dots_l1 O' s (by omega) O' [] K2 rfl (by omega)
      | cons t T2 =>
        rw [if_pos (show moreB (t :: T2) = true from rfl), h2]
        have hno2 : NoS (t :: T2) := fun x hx => hno x (List.mem_cons_of_mem _ hx)
        exact dots_S T2 t O' K N hno2 (by omega) hN2 (by rw [List.length_cons] at hK; omega)
    have hcut : spec_l1Cut.f K (tx (s ++ pathOf T)) 47 = some (tx s, restT T, moreB T) := by
      cases T with
      | nil =>
        have e : s ++ pathOf [] = s := by simp [pathOf]
        rw [e]
        exact cutS_none 47 47 rfl s K hs (by omega) (by omega)
      | cons t T2 =>
        have hp2 : (pathOf (t :: T2)).length = 1 + (t ++ pathOf T2).length := by rw [pathOf_cons]; simp; omega
        rw [pathOf_cons]
        exact cutS_at 47 47 rfl s (t ++ pathOf T2) K hs (by omega) (by omega) (by omega)
    unfold spec_l1Dots.l0
    rw [hcut, Option.bind_some]
    dsimp only
    rw [tx_toList]
    rcases isDots_cases s with ⟨g1, g2⟩ | ⟨g1, g2, g3⟩ | ⟨g1, g2, g3⟩
    · rw [if_pos g2]
      have e : popD s O = O := by unfold popD; rw [if_neg (by rw [g2]; decide)]
      exact keyM O (by omega) (by show (if isDots s = true then dotK (popD s O) T else _) = _; rw [g1, if_pos rfl, e])
    · rw [if_neg g3, if_pos g2, hmO]
      have e : popD s O = O.dropLast := by unfold popD; rw [if_pos g2]
      have hp := path_pop s O
      rw [e] at hp
      have hk : dotK O (s :: T) = dotK O.dropLast T := by show (if isDots s = true then dotK (popD s O) T else _) = _; rw [g1, if_pos rfl, e]
      by_cases c : 0 < O.length
      · have hwl : wrap64 ((O.length : Int) - 1) = (O.length : Int) - 1 := w64 (by omega) (by omega)
        have htl := take_last O c
        rw [hmO] at htl
        rw [if_pos (by omega), hwl, if_pos (by omega), if_pos (by omega), htl, Option.bind_some]
        exact keyM O.dropLast (by omega) hk
      · rw [if_neg (by omega)]
        have : O = [] := List.eq_nil_of_length_eq_zero (by omega)
        subst this
        exact keyM [] (by omega) hk
    · rw [if_neg g2, if_neg g3, hmO, if_pos (by omega), Option.bind_some]
      have e : O.map tx ++ [tx s] = (O ++ [s]).map tx := by simp
      rw [e]
      exact keyM (O ++ [s]) (by rw [pathOf_app, pathOf_one]; simp; omega) (by show (if isDots s = true then _ else dotK (O ++ [s]) T) = _; rw [g1, if_neg (by decide)])

/-! ### Paths without dots -/
theorem dotL_ne : ∀ (T O : List (List UInt8)), (O ≠ [] ∨ T ≠ []) → dotL O T ≠ []
  | [], O, h => by unfold dotL; exact h.elim id (fun hh => absurd rfl hh)
  | s :: T, O, _ => by
    unfold dotL
    by_cases hd : isDots s = true
    · rw [if_pos hd]
      by_cases hT : T = []
      · rw [if_pos hT]; exact dotL_ne T _ (Or.inl (by simp))
      · rw [if_neg hT]; exact dotL_ne T _ (Or.inr hT)
    · rw [if_neg hd]; exact dotL_ne T _ (Or.inl (by simp))
theorem pop_mem (s x : List UInt8) (O : List (List UInt8)) (h : x ∈ popD s O) : x ∈ O := by
  unfold popD at h
  split at h
  · exact List.dropLast_subset O h
  · exact h
theorem dotL_mem : ∀ (T O : List (List UInt8)) (x : List UInt8), x ∈ dotL O T → x ∈ O ∨ (x ∈ T ∧ isDots x = false) ∨ x = []
  | [], O, x, h => Or.inl h
  | s :: T, O, x, h => by
    unfold dotL at h
    by_cases hd : isDots s = true
    · rw [if_pos hd] at h
      rcases dotL_mem T _ x h with h1 | h1 | h1
      · by_cases hT : T = []
        · rw [if_pos hT] at h1
          rcases List.mem_append.mp h1 with h2 | h2
          · exact Or.inl (pop_mem s x O h2)
          · exact Or.inr (Or.inr (List.mem_singleton.mp h2))
        · rw [if_neg hT] at h1; exact Or.inl (pop_mem s x O h1)
      · exact Or.inr (Or.inl ⟨List.mem_cons_of_mem _ h1.1, h1.2⟩)
      · exact Or.inr (Or.inr h1)
    · rw [if_neg hd] at h
      rcases dotL_mem T _ x h with h1 | h1 | h1
      · rcases List.mem_append.mp h1 with h2 | h2
        · exact Or.inl h2
        · rw [List.mem_singleton.mp h2]; exact Or.inr (Or.inl ⟨List.mem_cons_self, Bool.eq_false_iff.mpr hd⟩)
      · exact Or.inr (Or.inl ⟨List.mem_cons_of_mem _ h1.1, h1.2⟩)
      · exact Or.inr (Or.inr h1)
theorem dotL_id : ∀ (T O : List (List UInt8)), (∀ s ∈ T, isDots s = false) → dotL O T = O ++ T
  | [], O, _ => by unfold dotL; rw [List.append_nil]
  | s :: T, O, h => by
    unfold dotL
    rw [h s List.mem_cons_self, if_neg (by decide), dotL_id T _ (fun x hx => h x (List.mem_cons_of_mem _ hx)), List.append_assoc]; rfl
theorem dotL_len : ∀ (T O : List (List UInt8)), (pathOf (dotL O T)).length ≤ (pathOf O).length + (pathOf T).length
  | [], O => by simp [dotL]
  | s :: T, O => by
    have hp := path_pop s O
    have hc : (pathOf (s :: T)).length = 1 + s.length + (pathOf T).length := by rw [pathOf_cons]; simp; omega
    unfold dotL
    by_cases hd : isDots s = true
    · rw [if_pos hd]
      by_cases hT : T = []
      · have := dotL_len T (popD s O ++ [[]])
        rw [pathOf_app, pathOf_one, List.length_append] at this
        rw [if_pos hT]
        have : ([47] : List UInt8).length = 1 := rfl
        omega
      · rw [if_neg hT]
        have := dotL_len T (popD s O)
        omega
    · rw [if_neg hd]
      have := dotL_len T (O ++ [s])
      rw [pathOf_app, pathOf_one, List.length_append, List.length_cons] at this
      omega
theorem segs_path : ∀ (S : List (List UInt8)) (s : List UInt8), NoS (s :: S) → segs (s ++ pathOf S) = s :: S
  | [], s, h => by
    have e : s ++ pathOf [] = s := by simp [pathOf]
    rw [e]
    have hs := h s List.mem_cons_self
    clear h e
    induction s with
    | nil => rfl
    | cons b r ih =>
      have hb : b ≠ 47 := fun hh => hs (hh ▸ List.mem_cons_self)
      unfold segs
      rw [if_neg hb, ih (fun hh => hs (List.mem_cons_of_mem _ hh))]
  | t :: T, s, h => by
    have hs := h s List.mem_cons_self
    have ih := segs_path T t (fun x hx => h x (List.mem_cons_of_mem _ hx))
    rw [pathOf_cons]
    clear h
    induction s with
    | nil =>
      show segs (47 :: (t ++ pathOf T)) = _
      unfold segs
      rw [if_pos rfl, ih]
    | cons b r ih2 =>
      have hb : b ≠ 47 := fun hh => hs (hh ▸ List.mem_cons_self)
      show segs (b :: (r ++ 47 :: (t ++ pathOf T))) = _
      unfold segs
      rw [if_neg hb, ih2 (fun hh => hs (List.mem_cons_of_mem _ hh))]
/-- what is left of the path '/' and l -/
def dropL (l : List UInt8) : List UInt8 := pathOf (dotL [] (segs l))
theorem dropL_form (l : List UInt8) : ∃ o O, dotL [] (segs l) = o :: O ∧ NoS (o :: O) ∧ (∀ s ∈ o :: O, isDots s = false) := by
  obtain ⟨s, S, e, h1, h2⟩ := segs_ok l
  have hne : dotL [] (segs l) ≠ [] := dotL_ne _ _ (Or.inr (by rw [e]; simp))
  obtain ⟨o, O, ho⟩ : ∃ o O, dotL [] (segs l) = o :: O := by
    cases hx : dotL [] (segs l) with
    | nil => exact absurd hx hne
    | cons o O => exact ⟨o, O, rfl⟩
  refine ⟨o, O, ho, fun x hx => ?_, fun x hx => ?_⟩
  · rw [← ho] at hx
    rcases dotL_mem _ _ x hx with h | h | h
    · cases h
    · rw [e] at h; exact h2 x h.1
    · rw [h]; simp
  · rw [← ho] at hx
    rcases dotL_mem _ _ x hx with h | h | h
    · cases h
    · exact h.2
    · rw [h]; rfl
theorem dropL_len (l : List UInt8) : (dropL l).length ≤ l.length + 1 := by
  obtain ⟨s, S, e, h1, h2⟩ := segs_ok l
  have := dotL_len (segs l) []
  unfold dropL
  rw [e] at this ⊢
  rw [← h1] at this
  have e0 : (pathOf []).length = 0 := rfl
  rw [e0, List.length_cons] at this
  omega
theorem drop_I (l : List UInt8) (hl : l.length ≤ 1000) (k : Nat) (hk : 5000 ≤ k) : impl_dropDots.f k (tx (47 :: l)) = some (tx (dropL l)) := by
  obtain ⟨s, S, e, h1, h2⟩ := segs_ok l
  have hle : l = s ++ pathOf S := by rw [pathOf_cons] at h1; exact (List.cons.inj h1).2
  have hSl := path_len S
  have hll : l.length = s.length + (pathOf S).length := by rw [hle]; simp
  have hR := dropL_len l
  have hne : dotL [] (segs l) ≠ [] := dotL_ne _ _ (Or.inr (by rw [e]; simp))
  have hx : (tx (47 :: l)).extract 1 (tx (47 :: l)).size = tx l := by
    rw [tx_cut, tx_size]
    show tx (l.take ((47 :: l).length - 1)) = _
    rw [List.take_of_length_le (by simp)]
  have hsp : strings_Split.f (tx l) (⟨#[47]⟩ : ByteArray) = some ((s :: S).map tx) := by
    rw [hle]; exact splitS s S h2 (by rw [← hle]; omega)
  have hd := dots_I (s :: S) (by rw [List.length_cons]; omega) (s :: S) [] [] k (dotL [] (segs l)) rfl (Nat.le_refl _) (by rw [List.length_cons]; omega) (by rw [e]) hne (by unfold dropL at hR; omega)
  unfold impl_dropDots.f
  rw [tx_size, if_pos (by rw [List.length_cons]; omega)]
  have hx2 : (tx (47 :: l)).extract 1 (47 :: l).length = tx l := by rw [← tx_size (47 :: l)]; exact hx
  first | rw [hx, hsp, Option.bind_some] | rw [hx2, hsp, Option.bind_some]
  have hm : ((((s :: S).map tx).length : Nat) : Int) = (((s :: S).length : Nat) : Int) := by rw [List.length_map]
  rw [hm]
  exact hd
theorem drop_S (l : List UInt8) (hl : l.length ≤ 1000) (k : Nat) (hk : 5000 ≤ k) : spec_l1Dots.f k (tx (47 :: l)) = some (tx (dropL l)) := by
  obtain ⟨s, S, e, h1, h2⟩ := segs_ok l
  have hle : l = s ++ pathOf S := by rw [pathOf_cons] at h1; exact (List.cons.inj h1).2
  have hSl := path_len S
  have hll : l.length = s.length + (pathOf S).length := by rw [hle]; simp
  have hx : (tx (47 :: l)).extract 1 (tx (47 :: l)).size = tx l := by
    rw [tx_cut, tx_size]
    show tx (l.take ((47 :: l).length - 1)) = _
    rw [List.take_of_length_le (by simp)]
  have hp : (pathOf (s :: S)).length = l.length + 1 := by rw [← h1]; rfl
  have hd := dots_S S s [] k (l.length + 1) h2 (by rw [hp]; show 0 + _ ≤ _; omega) (by omega) (by omega)
  rw [← dotK_end, ← hle, ← e] at hd
  unfold spec_l1Dots.f
  rw [tx_size, if_pos (by rw [List.length_cons]; omega)]
  have hx2 : (tx (47 :: l)).extract 1 (47 :: l).length = tx l := by rw [← tx_size (47 :: l)]; exact hx
  first | rw [hx] | rw [hx2]
  exact hd
/-- a path without dots: nothing is dropped -/
theorem drop_twice (l : List UInt8) : ∃ m, dropL l = 47 :: m ∧ dropL m = 47 :: m := by
  obtain ⟨o, O, e, h1, h2⟩ := dropL_form l
  refine ⟨o ++ pathOf O, by unfold dropL; rw [e, pathOf_cons], ?_⟩
  unfold dropL
  rw [segs_path O o h1, dotL_id _ _ h2, List.nil_append, pathOf_cons]

/-! ### Well-formed percents, part by part -/
theorem pch_tok (o : List UInt8) (x y : UInt8) (z : List UInt8) : pch o (37 :: x :: y :: z) = (decide (0 ≤ hv x) && decide (0 ≤ hv y) && pch o z) := rfl
theorem hv47 : hv 47 < 0 := by decide +kernel
theorem pch_split (o : List UInt8) (ho : okB o 47 = true) : ∀ (n : Nat) (A B : List UInt8), A.length ≤ n → pch o (A ++ 47 :: B) = (pch o A && pch o B)
  | _, [], B, _ => by
    show pch o (47 :: B) = (true && pch o B)
    rw [pch_ne o 47 B (by decide), ho]
  | 0, b :: r, B, h => absurd h (by simp)
  | n + 1, b :: r, B, h => by
    have hr : r.length ≤ n := by simpa using h
    by_cases c : b = 37
    · subst c
      match r, hr with
      | [], _ =>
        have e : pch o [37] = false := rfl
        rw [e, Bool.false_and]
        cases B with
        | nil => rfl
        | cons x B => show pch o (37 :: 47 :: x :: B) = false; rw [pch_tok, decide_eq_false (by have := hv47; omega)]; rfl
      | [x], _ =>
        have e : pch o [37, x] = false := rfl
        rw [e, Bool.false_and]
        show pch o (37 :: x :: 47 :: B) = false
        rw [pch_tok, decide_eq_false (show ¬ 0 ≤ hv 47 by have := hv47; omega), Bool.and_false]; rfl
      | x :: y :: z, hr =>
        show pch o (37 :: x :: y :: (z ++ 47 :: B)) = _
        rw [pch_tok, pch_tok, pch_split o ho n z B (by simp at hr; omega), Bool.and_assoc, Bool.and_assoc, Bool.and_assoc]
    · show pch o (b :: (r ++ 47 :: B)) = _
      rw [pch_ne o b _ c, pch_ne o b _ c, pch_split o ho n r B hr, Bool.and_assoc]
theorem pch_path (o : List UInt8) (ho : okB o 47 = true) : ∀ (S : List (List UInt8)) (s : List UInt8), pch o (s ++ pathOf S) = (s :: S).all (pch o)
  | [], s => by
    have e : s ++ pathOf [] = s := by simp [pathOf]
    rw [e]; simp
  | t :: T, s => by
    rw [pathOf_cons, pch_split o ho s.length s _ (Nat.le_refl _), pch_path o ho T t, List.all_cons (l := t :: T)]
theorem drop_pch (o : List UInt8) (ho : okB o 47 = true) (l m : List UInt8) (hm : dropL l = 47 :: m) (h1 : pch o l = true) : pch o m = true := by
  obtain ⟨s, S, e, g1, g2⟩ := segs_ok l
  have hle : l = s ++ pathOf S := by rw [pathOf_cons] at g1; exact (List.cons.inj g1).2
  obtain ⟨q, O, eq, f1, f2⟩ := dropL_form l
  have hme : m = q ++ pathOf O := by
    unfold dropL at hm
    rw [eq, pathOf_cons] at hm
    exact (List.cons.inj hm).2.symm
  rw [hle, pch_path o ho] at h1
  have hmem : ∀ x ∈ q :: O, x ∈ s :: S ∨ x = [] := fun x hx => by
    rw [← eq] at hx
    rcases dotL_mem _ _ x hx with h | h | h
    · cases h
    · rw [e] at h; exact Or.inl h.1
    · exact Or.inr h
  rw [hme, pch_path o ho]
  refine List.all_eq_true.mpr fun x hx => ?_
  rcases hmem x hx with h | h
  · exact List.all_eq_true.mp h1 x h
  · rw [h]; rfl

/-! ### An address behind its scheme -/
def zeroU : ByteArray × ByteArray × Int × ByteArray × ByteArray × Bool × Bool := ((⟨#[]⟩ : ByteArray), (⟨#[]⟩ : ByteArray), 0, (⟨#[]⟩ : ByteArray), (⟨#[]⟩ : ByteArray), false, false)
def gRes (S H : List UInt8) (n : Int) (P Q : List UInt8) (a : Bool) : ByteArray × ByteArray × Int × ByteArray × ByteArray × Bool × Bool := if goodL S H n P Q a = true then (tx S, tx H, n, tx P, tx Q, a, true) else zeroU
def pathS (P : List UInt8) : List UInt8 := if P = [] then [47] else P
theorem first_at (c : UInt8) : ∀ l : List UInt8, c ∉ l ∨ ∃ a b, l = a ++ c :: b ∧ c ∉ a
  | [] => Or.inl (by simp)
  | x :: l => by
    by_cases h : x = c
    · exact Or.inr ⟨[], l, by rw [h]; rfl, by simp⟩
    · rcases first_at c l with h1 | ⟨a, b, h1, h2⟩
      · left; intro hm; rcases List.mem_cons.mp hm with hm | hm
        · exact h hm.symm
        · exact h1 hm
      · right; refine ⟨x :: a, b, by rw [h1]; rfl, ?_⟩
        intro hm; rcases List.mem_cons.mp hm with hm | hm
        · exact h hm.symm
        · exact h2 hm
theorem ask_dec (l : List UInt8) : ∃ R Q a, l = R ++ askL Q a ∧ (63 : UInt8) ∉ R ∧ (a = false → Q = []) := by
  rcases first_at 63 l with h | ⟨R, Q, h1, h2⟩
  · exact ⟨l, [], false, by simp [askL], h, fun _ => rfl⟩
  · exact ⟨R, Q, true, by rw [h1]; rfl, h2, fun h => by cases h⟩
theorem cut_ask (R Q : List UInt8) (a : Bool) (h : (63 : UInt8) ∉ R) (hq : a = false → Q = []) : Lib.cut (R ++ askL Q a) [63] = (R, Q, a) := by
  cases a with
  | true => exact cut_at 63 R Q h
  | false =>
    rw [hq rfl]
    show Lib.cut (R ++ []) [63] = _
    rw [List.append_nil]
    exact cut_none 63 R h
theorem cutS_ask (K : Nat) (R Q : List UInt8) (a : Bool) (h : (63 : UInt8) ∉ R) (hq : a = false → Q = []) (hR : R.length ≤ 10000) (hQ : Q.length ≤ 10000) (hK : R.length < K) : spec_l1Cut.f K (tx (R ++ askL Q a)) 63 = some (tx R, tx Q, a) := by
  cases a with
  | true => exact cutS_at 63 63 rfl R Q K h hR hQ hK
  | false =>
    rw [hq rfl]
    show spec_l1Cut.f K (tx (R ++ [])) 63 = _
    rw [List.append_nil]
    exact cutS_none 63 63 rfl R K h hR hK
theorem path_dec (l : List UInt8) : ∃ H P, l = H ++ P ∧ (47 : UInt8) ∉ H ∧ (P = [] ∨ ∃ p, P = 47 :: p) := by
  rcases first_at 47 l with h | ⟨H, p, h1, h2⟩
  · exact ⟨l, [], by simp, h, Or.inl rfl⟩
  · exact ⟨H, 47 :: p, h1, h2, Or.inr ⟨p, rfl⟩⟩
theorem indexB_none (c : UInt8) : ∀ l : List UInt8, c ∉ l → Lib.indexByte l c = -1
  | [], _ => rfl
  | b :: l, h => by
    have hb : (b == c) = false := beq_eq_false_iff_ne.mpr fun e => h (e ▸ List.mem_cons_self ..)
    have ih := indexB_none c l fun hh => h (List.mem_cons_of_mem _ hh)
    unfold Lib.indexByte
    rw [ih, hb, if_neg (by decide)]; rfl
theorem good_port0 (S H P Q : List UInt8) (a : Bool) (k : Nat) (hS : S.length ≤ 1000) (hH : H.length ≤ 1000) (hP : P.length ≤ 1000) (hQ : Q.length ≤ 1000) (hk : 1002 ≤ k) :
    ((impl_GoodUrl.f k (tx S) (tx H) 0 (tx P) (tx Q) a).bind fun t => if t = true then (some (tx S, tx H, (0 : Int), tx P, tx Q, a, true)) else some ((⟨#[]⟩ : ByteArray), (⟨#[]⟩ : ByteArray), 0, (⟨#[]⟩ : ByteArray), (⟨#[]⟩ : ByteArray), false, false)) = some (gRes S H 0 P Q a) := by
  rw [good_I k S H 0 P Q a hS hH hP hQ hk, Option.bind_some]
  unfold gRes
  split <;> rfl
theorem readR (k : Nat) (S H P Q : List UInt8) (a : Bool) (hS : S = [104, 116, 116, 112] ∨ S = [104, 116, 116, 112, 115]) (hl : (H ++ P ++ askL Q a).length ≤ 180) (hH : (47 : UInt8) ∉ H) (hP : P = [] ∨ ∃ p, P = 47 :: p) (h63 : (63 : UInt8) ∉ H ++ P) (hq : a = false → Q = []) (h58 : (58 : UInt8) ∉ H) (hk : 1010 ≤ k) :
    impl_ReadUrl.f k (tx (S ++ ([58, 47, 47] ++ (H ++ P ++ askL Q a)))) = some (gRes S H 0 (pathS P) Q a) := by
  obtain ⟨R, hR⟩ : ∃ R, R = H ++ P ++ askL Q a := ⟨_, rfl⟩
  rw [← hR] at hl ⊢
  have hSl : S.length ≤ 5 := by rcases hS with h | h <;> rw [h] <;> decide
  have hRl : R.length = H.length + P.length + (askL Q a).length := by rw [hR, List.length_append, List.length_append]
  have hQl : Q.length ≤ 180 := by
    cases a with
    | true => unfold askL at hRl; rw [if_pos rfl, List.length_cons] at hRl; omega
    | false => rw [hq rfl]; simp
  have c1 : Lib.cut (S ++ ([58, 47, 47] ++ R)) [58, 47, 47] = (S, R, true) := by
    rcases hS with rfl | rfl
    · exact cut_http R
    · exact cut_https R
  have c2 : Lib.cut R [63] = (H ++ P, Q, a) := by rw [hR]; exact cut_ask _ _ _ h63 hq
  have c3 : Lib.cut H [58] = (H, [], false) := cut_none 58 H h58
  have hpl : (pathS P).length ≤ 1000 := by
    unfold pathS
    split
    · decide
    · omega
  obtain ⟨m, rfl⟩ : ∃ m, k = m + 4 := ⟨k - 4, by omega⟩
  have e58 : (⟨#[58]⟩ : ByteArray) = tx [58] := rfl
  have j2 : impl_ReadUrl.j2 (m + 2) (tx H) (tx S) (⟨#[]⟩ : ByteArray) 0 (tx (pathS P)) (tx Q) a = some (gRes S H 0 (pathS P) Q a) := by
    unfold impl_ReadUrl.j2
    dsimp only
    rw [e58, cut_f H [58] H [] false (by omega) c3, Option.bind_some]
    dsimp only
    rw [if_neg (by decide)]
    exact good_port0 S H (pathS P) Q a (m + 1) (by omega) (by omega) hpl (by omega) (by omega)
  have j1 : impl_ReadUrl.j1 (m + 3) (tx H) (tx S) (⟨#[]⟩ : ByteArray) 0 (tx P) (tx Q) a = some (gRes S H 0 (pathS P) Q a) := by
    unfold impl_ReadUrl.j1
    dsimp only
    rw [tx_toList]
    have e47 : (⟨#[47]⟩ : ByteArray) = tx [47] := rfl
    by_cases c : P = []
    · have : pathS P = [47] := by unfold pathS; rw [if_pos c]
      rw [this] at j2
      rw [if_pos c, e47, j2, this]
    · have : pathS P = P := by unfold pathS; rw [if_neg c]
      rw [this] at j2
      rw [if_neg c, j2, this]
  unfold impl_ReadUrl.f
  have e1 : (⟨#[58, 47, 47]⟩ : ByteArray) = tx [58, 47, 47] := rfl
  have e63 : (⟨#[63]⟩ : ByteArray) = tx [63] := rfl
  have hTl : (S ++ ([58, 47, 47] ++ R)).length ≤ 200 := by simp; omega
  rw [e1, cut_f _ _ S R true (by omega) c1, Option.bind_some]
  dsimp only
  rw [if_pos rfl, tx_size, decide_eq_false (by omega)]
  unfold impl_ReadUrl.j0
  dsimp only
  rw [if_neg (by decide), e63, cut_f R [63] _ _ _ (by omega) c2, Option.bind_some]
  dsimp only
  have h47 : ((47 : Int).toNat).toUInt8 = 47 := by decide
  rcases hP with hP | ⟨p, hP⟩
  · subst hP
    have i2 : index_byte_in.f (tx (H ++ [])) 47 = some (-1) := by
      unfold index_byte_in.f strings_IndexByte.f
      rw [tx_list, h47, indexB_none 47 _ (by rw [List.append_nil]; exact hH)]
    rw [i2, Option.bind_some, if_neg (by decide), List.append_nil]
    exact j1
  · subst hP
    have i2 : index_byte_in.f (tx (H ++ 47 :: p)) 47 = some (H.length : Int) := by
      unfold index_byte_in.f strings_IndexByte.f
      rw [tx_list, h47, indexB_at 47 p H hH]
    have hHp : (H ++ 47 :: p).length = H.length + (p.length + 1) := by simp
    rw [i2, Option.bind_some, if_pos (by omega), if_pos (by omega), tx_size, if_pos (by omega), tx_cut, tx_cut]
    have t1 : ((H ++ 47 :: p).drop 0).take ((H.length : Int).toNat - 0) = H := by
      rw [List.drop_zero, Int.toNat_natCast, Nat.sub_zero, List.take_left]
    have t2 : ((H ++ 47 :: p).drop (H.length : Int).toNat).take ((H ++ 47 :: p).length - (H.length : Int).toNat) = 47 :: p := by
      rw [Int.toNat_natCast, List.drop_left, List.take_of_length_le (by simp)]
    rw [t1, t2]
    exact j1
/-! the specification -/
theorem goodS_port0 (S H P Q : List UInt8) (a : Bool) (k : Nat) (hS : S.length ≤ 1000) (hH : H.length ≤ 1000) (hP : P.length ≤ 1000) (hQ : Q.length ≤ 1000) (hk : 3002 ≤ k) :
    ((spec_GoodUrl.f k (tx S) (tx H) 0 (tx P) (tx Q) a).bind fun t => if t = true then (some (tx S, tx H, (0 : Int), tx P, tx Q, a, true)) else some ((⟨#[]⟩ : ByteArray), (⟨#[]⟩ : ByteArray), 0, (⟨#[]⟩ : ByteArray), (⟨#[]⟩ : ByteArray), false, false)) = some (gRes S H 0 P Q a) := by
  rw [good_S k S H 0 P Q a hS hH hP hQ hk, Option.bind_some]
  unfold gRes
  split <;> rfl
theorem authJ (k : Nat) (S H P Q : List UInt8) (a : Bool) (hSl : S.length ≤ 5) (hl : (H ++ P ++ askL Q a).length ≤ 180) (h63 : (63 : UInt8) ∉ H ++ P) (hq : a = false → Q = []) (h58 : (58 : UInt8) ∉ H) (hk : 3010 ≤ k) :
    spec_l1Authority.j1 k (tx (H ++ P ++ askL Q a)) (H.length : Int) (tx S) (⟨#[]⟩ : ByteArray) 0 (⟨#[]⟩ : ByteArray) (⟨#[]⟩ : ByteArray) false = some (gRes S H 0 (pathS P) Q a) := by
  obtain ⟨m, rfl⟩ : ∃ m, k = m + 2 := ⟨k - 2, by omega⟩
  have hRl : (H ++ P ++ askL Q a).length = H.length + P.length + (askL Q a).length := by rw [List.length_append, List.length_append]
  have hQl : Q.length ≤ 180 := by
    cases a with
    | true => unfold askL at hRl hl; rw [if_pos rfl] at hRl hl; rw [List.length_cons] at hRl; omega
    | false => rw [hq rfl]; simp
  have hpl : (pathS P).length ≤ 1000 := by
    unfold pathS
    split
    · decide
    · omega
  have h63P : (63 : UInt8) ∉ P := fun h => h63 (List.mem_append_right _ h)
  have hs : ((tx (H ++ P ++ askL Q a)).size : Int) = (H.length : Int) + ((P.length + (askL Q a).length : Nat) : Int) := by rw [tx_size, hRl]; omega
  have t1 : (tx (H ++ P ++ askL Q a)).extract 0 (H.length : Int).toNat = tx H := by
    rw [tx_cut, List.drop_zero, Int.toNat_natCast, Nat.sub_zero, List.append_assoc, List.take_left]
  have t2 : (tx (H ++ P ++ askL Q a)).extract (H.length : Int).toNat (tx (H ++ P ++ askL Q a)).size = tx (P ++ askL Q a) := by
    rw [tx_cut, tx_size, Int.toNat_natCast, List.append_assoc, List.drop_left, List.take_of_length_le (by simp)]
  unfold spec_l1Authority.j1
  dsimp only
  rw [hs, if_pos (by omega), if_pos (by omega), t1, cutS_none 58 58 rfl H (m + 1) h58 (by omega) (by omega), Option.bind_some]
  dsimp only
  rw [if_neg (by decide)]
  unfold spec_l1Authority.j2
  dsimp only
  rw [hs, if_pos (by omega), if_pos (by omega), t2, cutS_ask m P Q a h63P hq (by omega) (by omega) (by omega), Option.bind_some]
  dsimp only
  rw [tx_toList]
  have e47 : (⟨#[47]⟩ : ByteArray) = tx [47] := rfl
  by_cases c : P = []
  · have : pathS P = [47] := by unfold pathS; rw [if_pos c]
    rw [if_pos c, e47, this]
    exact goodS_port0 S H [47] Q a m (by omega) (by omega) (by decide) (by omega) (by omega)
  · have : pathS P = P := by unfold pathS; rw [if_neg c]
    rw [if_neg c, this]
    exact goodS_port0 S H P Q a m (by omega) (by omega) (by omega) (by omega) (by omega)
theorem authL (S P Q : List UInt8) (a : Bool) (hSl : S.length ≤ 5) (hP : P = [] ∨ ∃ p, P = 47 :: p) (hq : a = false → Q = []) : ∀ (M pre : List UInt8) (k : Nat), (pre ++ M ++ P ++ askL Q a).length ≤ 180 → (63 : UInt8) ∉ pre ++ M ++ P → (47 : UInt8) ∉ M → (58 : UInt8) ∉ pre ++ M → 3011 + M.length ≤ k →
    spec_l1Authority.l0 k (tx (pre ++ M ++ P ++ askL Q a)) (pre.length : Int) (tx S) (⟨#[]⟩ : ByteArray) 0 (⟨#[]⟩ : ByteArray) (⟨#[]⟩ : ByteArray) false = some (gRes S (pre ++ M) 0 (pathS P) Q a)
  | M, pre, 0, _, _, _, _, h => absurd h (by omega)
  | [], pre, k + 1, hl, h63, h47, h58, hk => by
    rw [List.append_nil] at hl h63 h58 ⊢
    have j := authJ k S pre P Q a hSl hl h63 hq h58 (by simp at hk; omega)
    unfold spec_l1Authority.l0
    by_cases c : P ++ askL Q a = []
    · have hs : ((tx (pre ++ P ++ askL Q a)).size : Int) = (pre.length : Int) := by rw [List.append_assoc, c, List.append_nil, tx_size]
      rw [hs, if_neg (Int.lt_irrefl _)]
      exact j
    · obtain ⟨b, r, hbr, hb⟩ : ∃ b r, P ++ askL Q a = b :: r ∧ (b = 47 ∨ b = 63) := by
        rcases hP with h | ⟨p, h⟩
        · subst h
          cases a with
          | true => exact ⟨63, Q, rfl, Or.inr rfl⟩
          | false => exact absurd rfl c
        · exact ⟨47, p ++ askL Q a, by rw [h]; rfl, Or.inl rfl⟩
      have hx : pre ++ P ++ askL Q a = pre ++ b :: r := by rw [List.append_assoc, hbr]
      rw [hx] at j ⊢
      have hs : ((tx (pre ++ b :: r)).size : Int) = (pre.length : Int) + 1 + (r.length : Int) := by rw [tx_size]; simp; omega
      rw [hs, bt_at, if_pos (by omega), if_pos (by omega)]
      rcases hb with rfl | rfl
      · rw [if_pos (show (((47 : UInt8).toNat : Nat) : Int) = 47 from rfl)]
        exact j
      · rw [if_neg (show ¬ (((63 : UInt8).toNat : Nat) : Int) = 47 by decide), if_pos (show (((63 : UInt8).toNat : Nat) : Int) = 63 from rfl)]
        exact j
  | x :: M, pre, k + 1, hl, h63, h47, h58, hk => by
    have hx47 : x ≠ 47 := fun h => h47 (h ▸ List.mem_cons_self)
    have hx63 : x ≠ 63 := fun h => h63 (by rw [h]; simp)
    have e1 : pre ++ x :: M = pre ++ [x] ++ M := by simp
    have ih := authL S P Q a hSl hP hq M (pre ++ [x]) k (by rw [← e1]; exact hl) (by rw [← e1]; exact h63) (fun h => h47 (List.mem_cons_of_mem _ h)) (by rw [← e1]; exact h58) (by simp at hk; omega)
    have e2 : (((pre ++ [x]).length : Nat) : Int) = (pre.length : Int) + 1 := by simp
    rw [e2, ← e1] at ih
    have e3 : pre ++ x :: M ++ P ++ askL Q a = pre ++ x :: (M ++ P ++ askL Q a) := by simp
    have hs : ((tx (pre ++ x :: M ++ P ++ askL Q a)).size : Int) = (pre.length : Int) + 1 + ((M ++ P ++ askL Q a).length : Int) := by rw [e3, tx_size]; simp; omega
    have e0 : bt (tx (pre ++ x :: M ++ P ++ askL Q a)) (pre.length : Int) = (x.toNat : Int) := by rw [e3]; exact bt_at pre _ x
    have hpl : pre.length ≤ 180 := by simp only [List.length_append] at hl; omega
    unfold spec_l1Authority.l0
    rw [hs, e0, if_pos (by omega), if_pos (by omega), if_neg (fun hh => hx47 (UInt8.toNat_inj.mp (by show x.toNat = 47; omega))), if_neg (fun hh => hx63 (UInt8.toNat_inj.mp (by show x.toNat = 63; omega))), w64 (by omega) (by omega), ih]
theorem authS (k : Nat) (S H P Q : List UInt8) (a : Bool) (hSl : S.length ≤ 5) (hl : (H ++ P ++ askL Q a).length ≤ 180) (hH : (47 : UInt8) ∉ H) (hP : P = [] ∨ ∃ p, P = 47 :: p) (h63 : (63 : UInt8) ∉ H ++ P) (hq : a = false → Q = []) (h58 : (58 : UInt8) ∉ H) (hk : 3300 ≤ k) :
    spec_l1Authority.f k (tx S) (tx (H ++ P ++ askL Q a)) = some (gRes S H 0 (pathS P) Q a) := by
  have hHl : H.length ≤ 180 := by simp only [List.length_append] at hl; omega
  exact authL S P Q a hSl hP hq H [] k hl h63 hH h58 (by omega)

/-! ### What a reference leads to -/
theorem okS (S H : List UInt8) (n : Int) (P Q : List UInt8) (a : Bool) (hg : goodL S H n P Q a = true) : (S = [104, 116, 116, 112] ∨ S = [104, 116, 116, 112, 115]) ∧ (∃ p, P = 47 :: p) ∧ S.length ≤ 5 ∧ H.length ≤ 60 ∧ P.length ≤ 200 ∧ Q.length ≤ 200 ∧ 0 ≤ n ∧ n ≤ 65535 := by
  unfold goodL tailB at hg
  simp only [Bool.and_eq_true, decide_eq_true_eq] at hg
  obtain ⟨hsch, ⟨hh0, hh1⟩, hH2, ⟨hn0, hn1⟩, hsl, hpP, hpQ, haq, hlen⟩ := hg
  have hS : S = [104, 116, 116, 112] ∨ S = [104, 116, 116, 112, 115] := by
    unfold schB at hsch
    simpa only [Bool.or_eq_true, decide_eq_true_eq] using hsch
  have hl : P.length + (askL Q a).length ≤ 200 := by
    unfold textL at hlen
    simp only [List.length_append] at hlen
    omega
  refine ⟨hS, ?_, by rcases hS with h | h <;> rw [h] <;> decide, by omega, by omega, ?_, hn0, hn1⟩
  · unfold slash at hsl
    cases P with
    | nil => cases hsl
    | cons b r => exact ⟨r, by rw [beq_iff_eq.mp hsl]⟩
  · cases a with
    | true => unfold askL at hl; rw [if_pos rfl, List.length_cons] at hl; omega
    | false =>
      have : Q = [] := by simpa using haq
      rw [this]; simp
theorem good_drop (S H : List UInt8) (n : Int) (p m Q : List UInt8) (a : Bool) (hg : goodL S H n (47 :: p) Q a = true) (hm : dropL p = 47 :: m) : goodL S H n (47 :: m) Q a = true := by
  have hml := dropL_len p
  rw [hm, List.length_cons] at hml
  unfold goodL tailB at hg ⊢
  simp only [Bool.and_eq_true, decide_eq_true_eq] at hg ⊢
  obtain ⟨hsch, ⟨hh0, hh1⟩, hH2, ⟨hn0, hn1⟩, hsl, hpP, hpQ, haq, hlen⟩ := hg
  rw [pch_ne [47] 47 _ (by decide), Bool.and_eq_true] at hpP
  have gm := drop_pch [47] (by decide) p m hm hpP.2
  refine ⟨hsch, ⟨hh0, hh1⟩, hH2, ⟨hn0, hn1⟩, rfl, ?_, hpQ, haq, ?_⟩
  · rw [pch_ne [47] 47 _ (by decide), gm]; rfl
  · unfold textL at hlen ⊢
    simp only [List.length_append, List.length_cons] at hlen ⊢
    omega
/-- the end of both: the path's dots are dropped, and the address is looked at -/
theorem resolveI_end (k : Nat) (S H : List UInt8) (n : Int) (p Q : List UInt8) (a : Bool) (hS : S.length ≤ 1000) (hH : H.length ≤ 1000) (hp : p.length ≤ 900) (hQ : Q.length ≤ 1000) (hk : 5000 ≤ k) :
    ((impl_dropDots.f k (tx (47 :: p))).bind fun t318 => ((impl_GoodUrl.f k (tx S) (tx H) n t318 (tx Q) a).bind fun t319 => (if t319 = true then (some (tx S, tx H, n, t318, tx Q, a, true)) else (some ((⟨#[]⟩ : ByteArray), (⟨#[]⟩ : ByteArray), 0, (⟨#[]⟩ : ByteArray), (⟨#[]⟩ : ByteArray), false, false))))) = some (gRes S H n (dropL p) Q a) := by
  have hl := dropL_len p
  rw [drop_I p (by omega) k hk, Option.bind_some, good_I k S H n (dropL p) Q a hS hH (by omega) hQ (by omega), Option.bind_some]
  unfold gRes
  split <;> rfl
theorem resolveS_end (k : Nat) (S H : List UInt8) (n : Int) (p Q : List UInt8) (a : Bool) (hS : S.length ≤ 1000) (hH : H.length ≤ 1000) (hp : p.length ≤ 900) (hQ : Q.length ≤ 1000) (hk : 5001 ≤ k) :
    spec_ResolveUrl.j4 k true (tx S) (tx H) n (tx (47 :: p)) (tx Q) a = some (gRes S H n (dropL p) Q a) := by
  obtain ⟨m, rfl⟩ : ∃ m, k = m + 1 := ⟨k - 1, by omega⟩
  have hl := dropL_len p
  unfold spec_ResolveUrl.j4
  dsimp only
  rw [if_pos rfl, drop_S p (by omega) m (by omega), Option.bind_some, good_S m S H n (dropL p) Q a hS hH (by omega) hQ (by omega), Option.bind_some]
  unfold gRes
  split <;> rfl
theorem resolveS_no (k : Nat) (A B : ByteArray) (n : Int) (C D : ByteArray) (a : Bool) : spec_ResolveUrl.j4 (k + 1) false A B n C D a = some zeroU := rfl
theorem list_rev_ind {motive : List UInt8 → Prop} (nil : motive []) (append_singleton : ∀ (M : List UInt8) (x : UInt8), motive M → motive (M ++ [x])) (l : List UInt8) : motive l := by
  have key : ∀ (n : Nat) (l : List UInt8), l.length = n → motive l := by
    intro n
    induction n with
    | zero => intro l h; rw [List.eq_nil_of_length_eq_zero h]; exact nil
    | succ n ih =>
      intro l h
      rcases List.eq_nil_or_concat l with h1 | ⟨L, b, h1⟩
      · rw [h1] at h; cases h
      · rw [List.concat_eq_append] at h1
        rw [h1]
        exact append_singleton L b (ih L (by rw [h1, List.length_append, List.length_singleton] at h; omega))
  exact key l.length l rfl
/-- the last slash -/
theorem last_at (c : UInt8) : ∀ l : List UInt8, c ∈ l → ∃ a b, l = a ++ c :: b ∧ c ∉ b
  | [], h => by cases h
  | x :: l, h => by
    by_cases hm : c ∈ l
    · obtain ⟨a, b, h1, h2⟩ := last_at c l hm
      exact ⟨x :: a, b, by rw [h1]; rfl, h2⟩
    · have : c = x := (List.mem_cons.mp h).resolve_right hm
      exact ⟨[], l, by rw [this]; rfl, hm⟩
theorem lastI_l (c : UInt8) (ci : Int) (hc : ci = (c.toNat : Int)) (A T : List UInt8) : ∀ (M : List UInt8) (K : Nat), c ∉ M → (A ++ c :: M ++ T).length ≤ 100000 → M.length + 1 < K → bytealg_LastIndexByteString.l0 K (tx (A ++ c :: M ++ T)) ci (((A ++ c :: M).length : Int) - 1) = some (A.length : Int) := by
  intro M
  induction M using list_rev_ind generalizing T with
  | nil =>
    intro K hM hl hK
    cases K with
    | zero => omega
    | succ K =>
      have e : A ++ [c] ++ T = A ++ c :: T := by simp
      have e2 : (((A ++ [c]).length : Nat) : Int) - 1 = (A.length : Int) := by simp
      have hs : ((tx (A ++ c :: T)).size : Int) = (A.length : Int) + 1 + (T.length : Int) := by rw [tx_size]; simp; omega
      unfold bytealg_LastIndexByteString.l0
      rw [e, e2, hs, bt_at, if_pos (by omega), if_pos (by omega), if_pos (by omega), if_pos hc.symm]
  | append_singleton M x ih =>
    intro K hM hl hK
    cases K with
    | zero => omega
    | succ K =>
      have hx : x ≠ c := fun h => hM (by rw [h]; simp)
      have hM2 : c ∉ M := fun h => hM (List.mem_append_left _ h)
      have e : A ++ c :: (M ++ [x]) ++ T = (A ++ c :: M) ++ x :: T := by simp
      have e2 : (((A ++ c :: (M ++ [x])).length : Nat) : Int) - 1 = ((A ++ c :: M).length : Int) := by simp; omega
      have hs : ((tx ((A ++ c :: M) ++ x :: T)).size : Int) = ((A ++ c :: M).length : Int) + 1 + (T.length : Int) := by rw [tx_size]; simp; omega
      have e3 : A ++ c :: M ++ x :: T = A ++ c :: M ++ (x :: T) := rfl
      have ih2 := ih (x :: T) K hM2 (by rw [e] at hl; exact hl) (by simp at hK; omega)
      have hAl : ((A ++ c :: M).length : Int) ≤ 100000 := by
        rw [e, List.length_append] at hl; omega
      unfold bytealg_LastIndexByteString.l0
      rw [e, e2, hs, bt_at, if_pos (by omega), if_pos (by omega), if_pos (by omega), if_neg (fun hh => hx (UInt8.toNat_inj.mp (by omega))), w64 (by omega) (by omega)]
      exact ih2
theorem lastI (A M : List UInt8) (k : Nat) (hM : (47 : UInt8) ∉ M) (hl : (A ++ 47 :: M).length ≤ 1000) (hk : 1010 ≤ k) : strings_LastIndexByte.f k (tx (A ++ 47 :: M)) 47 = some (A.length : Int) := by
  unfold strings_LastIndexByte.f bytealg_LastIndexByteString.f
  have := lastI_l 47 47 rfl A [] M k hM (by rw [List.append_nil]; omega) (by simp at hl; omega)
  rw [List.append_nil] at this
  rw [tx_size, w64 (by omega) (by omega), this]; rfl
theorem lastS (A T R : List UInt8) (S H : List UInt8) (n : Int) (Q : List UInt8) (a : Bool) (X1 X2 : ByteArray) (X3 : Int) (X5 : ByteArray) (X6 : Bool) (hR : R.length ≤ 200) (hS : S.length ≤ 1000) (hH : H.length ≤ 1000) (hQ : Q.length ≤ 1000) (p : List UInt8) (hp : A ++ [47] ++ R = 47 :: p) : ∀ (M : List UInt8) (K : Nat), (47 : UInt8) ∉ M → (A ++ 47 :: M ++ T).length ≤ 600 → M.length + 5002 < K →
    spec_ResolveUrl.l0 K (tx R) ((A ++ 47 :: M).length : Int) X1 X2 X3 (tx (A ++ 47 :: M ++ T)) X5 X6 (tx S) (tx H) n (tx (A ++ 47 :: M ++ T)) (tx Q) a = some (gRes S H n (dropL p) Q a) := by
  intro M
  induction M using list_rev_ind generalizing T with
  | nil =>
    intro K hM hl hK
    cases K with
    | zero => omega
    | succ K =>
      have hAl : A.length ≤ 600 := by simp only [List.length_append] at hl; omega
      have e : A ++ [47] ++ T = A ++ 47 :: T := by simp
      have e2 : (((A ++ [47]).length : Nat) : Int) = (A.length : Int) + 1 := by simp
      have hs : ((tx (A ++ 47 :: T)).size : Int) = (A.length : Int) + 1 + (T.length : Int) := by rw [tx_size]; simp; omega
      have hc : (tx (A ++ 47 :: T)).extract 0 ((A.length : Int) + 1).toNat = tx (A ++ [47]) := by
        have h1 : ((A.length : Int) + 1).toNat = (A ++ [47]).length := by simp
        rw [tx_cut, h1, ← e, List.drop_zero, Nat.sub_zero, List.take_left]
      have hw : wrap64 ((A.length : Int) + 1 - 1) = (A.length : Int) := by rw [w64 (by omega) (by omega)]; omega
      unfold spec_ResolveUrl.l0
      rw [e, e2, hw, hs, bt_at, if_pos (by omega), if_pos (by omega), if_pos (show (((47 : UInt8).toNat : Nat) : Int) = 47 from rfl), if_pos (by omega), if_pos (by omega), hc, tx_size, tx_size, if_pos (by simp; omega), tx_app, hp]
      have hpl : p.length ≤ 900 := by
        have : (47 :: p).length = (A ++ [47] ++ R).length := by rw [hp]
        simp only [List.length_append, List.length_cons, List.length_nil] at this
        omega
      exact resolveS_end K S H n p Q a hS hH hpl hQ (by omega)
  | append_singleton M x ih =>
    intro K hM hl hK
    cases K with
    | zero => omega
    | succ K =>
      have hx : x ≠ 47 := fun h => hM (by rw [h]; simp)
      have hM2 : (47 : UInt8) ∉ M := fun h => hM (List.mem_append_left _ h)
      have e : A ++ 47 :: (M ++ [x]) ++ T = (A ++ 47 :: M) ++ x :: T := by simp
      have e2 : (((A ++ 47 :: (M ++ [x])).length : Nat) : Int) = ((A ++ 47 :: M).length : Int) + 1 := by simp; omega
      have hs : ((tx ((A ++ 47 :: M) ++ x :: T)).size : Int) = ((A ++ 47 :: M).length : Int) + 1 + (T.length : Int) := by rw [tx_size]; simp; omega
      have ih2 := ih (x :: T) K hM2 (by rw [e] at hl; exact hl) (by simp at hK; omega)
      have hAl : ((A ++ 47 :: M).length : Int) ≤ 600 := by
        rw [e, List.length_append] at hl; omega
      have hw : wrap64 (((A ++ 47 :: M).length : Int) + 1 - 1) = ((A ++ 47 :: M).length : Int) := by rw [w64 (by omega) (by omega)]; omega
      unfold spec_ResolveUrl.l0
      rw [e, e2, hw, hs, bt_at, if_pos (by omega), if_pos (by omega), if_neg (fun hh => hx (UInt8.toNat_inj.mp (by show x.toNat = 47; omega)))]
      exact ih2
/-- no colon: no scheme -/
theorem cut_colon (l : List UInt8) (h : (58 : UInt8) ∉ l) : Lib.cut l [58, 47, 47] = (l, [], false) := by
  have hi : Lib.index l [58, 47, 47] = -1 := by
    induction l with
    | nil => rfl
    | cons b r ih =>
      have hb : ((58 : UInt8) == b) = false := beq_eq_false_iff_ne.mpr fun e => h (e ▸ List.mem_cons_self ..)
      have ih := ih fun hh => h (List.mem_cons_of_mem _ hh)
      unfold Lib.index
      rw [ih]
      simp [List.isPrefixOf, hb]
  unfold Lib.cut
  rw [hi]; rfl
theorem readI_no (k : Nat) (l : List UInt8) (h : (58 : UInt8) ∉ l) (hl : l.length ≤ 1000) : impl_ReadUrl.f (k + 1) (tx l) = some zeroU := by
  unfold impl_ReadUrl.f
  have e1 : (⟨#[58, 47, 47]⟩ : ByteArray) = tx [58, 47, 47] := rfl
  rw [e1, cut_f _ _ l [] false (by omega) (cut_colon l h), Option.bind_some]
  dsimp only
  rw [if_neg (by decide)]
  unfold impl_ReadUrl.j0
  dsimp only
  rw [if_pos rfl]; rfl
theorem readS_no (k : Nat) (l : List UInt8) (h : (58 : UInt8) ∉ l) (hl : l.length ≤ 1000) : spec_l1Read.f (k + 3) (tx l) = some zeroU := by
  have step : ∀ (sch : List UInt8), sch.length ≤ 5 → 8 ≤ ((sch.length : Int) + 3).toNat + 8 → ¬ ((tx l).extract 0 ((sch.length : Int) + 3).toNat).toList = (tx sch ++ (⟨#[58, 47, 47]⟩ : ByteArray)).toList := fun sch _ _ hh => by
    have e1 : (⟨#[58, 47, 47]⟩ : ByteArray) = tx [58, 47, 47] := rfl
    rw [e1, tx_app, tx_cut, tx_toList, tx_toList] at hh
    have hm : (58 : UInt8) ∈ (l.drop 0).take (((sch.length : Int) + 3).toNat - 0) := by rw [hh]; simp
    exact h (List.mem_of_mem_drop (List.mem_of_mem_take hm))
  unfold spec_l1Read.f
  by_cases c : ((tx l).size : Int) > 200
  · rw [if_pos c]; rfl
  · rw [if_neg c, Option.bind_some]
    have hsl : ((tx l).size : Int) = (l.length : Int) := by rw [tx_size]
    have rd0 : rdOf ByteArray.empty ([(⟨#[104, 116, 116, 112]⟩ : ByteArray), (⟨#[104, 116, 116, 112, 115]⟩ : ByteArray)] : List ByteArray) 0 = tx [104, 116, 116, 112] := rfl
    have rd1 : rdOf ByteArray.empty ([(⟨#[104, 116, 116, 112]⟩ : ByteArray), (⟨#[104, 116, 116, 112, 115]⟩ : ByteArray)] : List ByteArray) 1 = tx [104, 116, 116, 112, 115] := rfl
    have w7 : wrap64 (((tx [104, 116, 116, 112]).size : Int) + 3) = (([104, 116, 116, 112] : List UInt8).length : Int) + 3 := by rw [tx_size]; exact w64 (by decide) (by decide)
    have w8 : wrap64 (((tx [104, 116, 116, 112, 115]).size : Int) + 3) = (([104, 116, 116, 112, 115] : List UInt8).length : Int) + 3 := by rw [tx_size]; exact w64 (by decide) (by decide)
    have w1 : wrap64 (0 + 1) = 1 := w64 (by decide) (by decide)
    have w2 : wrap64 (1 + 1) = 2 := w64 (by decide) (by decide)
    have fin : spec_l1Read.l0 (k + 1) (tx l) ([(⟨#[104, 116, 116, 112]⟩ : ByteArray), (⟨#[104, 116, 116, 112, 115]⟩ : ByteArray)] : List ByteArray) 2 2 = some zeroU := by
      unfold spec_l1Read.l0
      rw [if_neg (by decide)]; rfl
    have two : spec_l1Read.l0 (k + 2) (tx l) ([(⟨#[104, 116, 116, 112]⟩ : ByteArray), (⟨#[104, 116, 116, 112, 115]⟩ : ByteArray)] : List ByteArray) 2 1 = some zeroU := by
      unfold spec_l1Read.l0
      rw [if_pos (by decide), if_pos (by decide), if_pos (by decide), rd1, w8, w2]
      by_cases g : ((tx l).size : Int) > (([104, 116, 116, 112, 115] : List UInt8).length : Int) + 3
      · rw [if_pos g, if_pos (by decide), if_pos (by omega), if_pos (by decide), if_neg (step _ (by decide) (by decide))]
        exact fin
      · rw [if_neg g]
        exact fin
    show spec_l1Read.l0 (k + 3) (tx l) ([(⟨#[104, 116, 116, 112]⟩ : ByteArray), (⟨#[104, 116, 116, 112, 115]⟩ : ByteArray)] : List ByteArray) 2 0 = some zeroU
    unfold spec_l1Read.l0
    rw [if_pos (by decide), if_pos (by decide), if_pos (by decide), rd0, w7, w1]
    by_cases g : ((tx l).size : Int) > (([104, 116, 116, 112] : List UInt8).length : Int) + 3
    · rw [if_pos g, if_pos (by decide), if_pos (by omega), if_pos (by decide), if_neg (step _ (by decide) (by decide))]
      exact two
    · rw [if_neg g]
      exact two

/-! ### Both ways agree -/
def dbl (l : List UInt8) : Bool := l.take 2 == [47, 47]
theorem dbl_yes (l : List UInt8) (h : dbl l = true) : ∃ r, l = 47 :: 47 :: r := by
  unfold dbl at h
  have h2 := beq_iff_eq.mp h
  match l, h2 with
  | [], h2 => cases h2
  | [x], h2 => simp at h2
  | x :: y :: r, h2 => simp at h2; exact ⟨r, by rw [h2.1, h2.2]⟩
theorem prefix2_f (l : List UInt8) (h : l.length ≤ 1000) : strings_HasPrefix.f (tx l) (⟨#[47, 47]⟩ : ByteArray) = some (dbl l) := by
  unfold strings_HasPrefix.f stringslite_HasPrefix.f
  have e : (⟨#[47, 47]⟩ : ByteArray) = tx [47, 47] := rfl
  have e2 : ((tx [47, 47]).size : Int) = 2 := rfl
  rw [e, e2, tx_size, tx_toList [47, 47]]
  by_cases c : (l.length : Int) ≥ 2
  · have hx : (tx l).extract 0 (2 : Int).toNat = tx (l.take 2) := by rw [tx_cut]; rfl
    rw [if_pos c, if_pos (by decide), if_pos c, Option.bind_some, hx, tx_toList]; rfl
  · have : dbl l = false := by
      unfold dbl
      refine beq_eq_false_iff_ne.mpr fun hh => c ?_
      have : (l.take 2).length = 2 := by rw [hh]; rfl
      rw [List.length_take] at this
      omega
    rw [if_neg c, Option.bind_some, this]
theorem hpi (a b : ByteArray) : has_prefix_in.f a b = strings_HasPrefix.f a b := rfl
theorem gRes_flag (S H : List UInt8) (n : Int) (P Q : List UInt8) (a : Bool) : (goodL S H n P Q a = true ∧ gRes S H n P Q a = (tx S, tx H, n, tx P, tx Q, a, true)) ∨ (goodL S H n P Q a = false ∧ gRes S H n P Q a = zeroU) := by
  unfold gRes
  cases hg : goodL S H n P Q a with
  | true => exact Or.inl ⟨rfl, by rw [if_pos rfl]⟩
  | false => exact Or.inr ⟨rfl, by rw [if_neg (by decide)]⟩
/-- the answer of both -/
def Both (m : Nat) (S H : List UInt8) (n : Int) (P Q : List UInt8) (a : Bool) (r : List UInt8) (z : ByteArray × ByteArray × Int × ByteArray × ByteArray × Bool × Bool) : Prop :=
  impl_ResolveUrl.f (m + 10) (tx S) (tx H) n (tx P) (tx Q) a (tx r) = some z ∧ spec_ResolveUrl.f (m + 10) (tx S) (tx H) n (tx P) (tx Q) a (tx r) = some z
theorem rest_dec (l : List UInt8) (h58 : (58 : UInt8) ∉ l) : ∃ H P Q a, l = H ++ P ++ askL Q a ∧ (47 : UInt8) ∉ H ∧ (P = [] ∨ ∃ p, P = 47 :: p) ∧ (63 : UInt8) ∉ H ++ P ∧ (a = false → Q = []) ∧ (58 : UInt8) ∉ H := by
  obtain ⟨R, Q, a, h1, h2, h3⟩ := ask_dec l
  obtain ⟨H, P, g1, g2, g3⟩ := path_dec R
  refine ⟨H, P, Q, a, by rw [← g1]; exact h1, g2, g3, by rw [← g1]; exact h2, h3, fun h => h58 ?_⟩
  rw [h1, g1]
  exact List.mem_append_left _ (List.mem_append_left _ h)
theorem pathS_form (P : List UInt8) (h : P = [] ∨ ∃ p, P = 47 :: p) : ∃ p, pathS P = 47 :: p ∧ p.length ≤ P.length := by
  rcases h with h | ⟨p, h⟩
  · exact ⟨[], by rw [h]; rfl, by simp⟩
  · refine ⟨p, ?_, by rw [h]; simp⟩
    unfold pathS
    rw [h, if_neg (by simp)]
theorem fa (x y : Nat) : 0 ≤ (x : Int) + 1 ∧ (x : Int) + 1 ≤ (x : Int) + 1 + (y : Int) := by omega
theorem room3 (x y : Nat) (h1 : x ≤ 1000) (h2 : y ≤ 1000) : x + y ≤ 9223372036854775807 := by omega
theorem both_some (m : Nat) (hm : 6000 ≤ m) (S H : List UInt8) (n : Int) (P Q : List UInt8) (a : Bool) (r : List UInt8) (hg : goodL S H n P Q a = true) (hr : r ≠ []) (h58 : (58 : UInt8) ∉ r) (hl : r.length ≤ 101) :
    ∃ z, Both m S H n P Q a r z ∧ (z = zeroU ∨ ∃ S' H' n' p' Q' a', z = gRes S' H' n' (dropL p') Q' a') := by
  obtain ⟨hS, ⟨p, rfl⟩, hSl, hHl, hPl, hQl, hn0, hn1⟩ := okS S H n P Q a hg
  have gI := good_I (m + 10) S H n (47 :: p) Q a (by omega) (by omega) (by omega) (by omega) (by omega)
  have gS := good_S (m + 10) S H n (47 :: p) Q a (by omega) (by omega) (by omega) (by omega) (by omega)
  rw [hg] at gI gS
  have rI := readI_no (m + 9) r h58 (by omega)
  have rS := readS_no (m + 6) r h58 (by omega)
  have pf := prefix2_f r (by omega)
  have hsz : decide (((tx r).size : Int) > 200) = false := by rw [tx_size]; exact decide_eq_false (by omega)
  have h2sz : ((tx r).size : Int) = (r.length : Int) := by rw [tx_size]
  -- the specification, up to the two ways
  have sp : ∀ z, spec_ResolveUrl.j1 (m + 9) (tx r) (dbl r) (tx S) (tx H) n (tx (47 :: p)) (tx Q) a = some z → spec_ResolveUrl.f (m + 10) (tx S) (tx H) n (tx (47 :: p)) (tx Q) a (tx r) = some z := fun z hz => by
    unfold spec_ResolveUrl.f
    rw [gS, Option.bind_some, if_pos rfl, hsz]
    unfold spec_ResolveUrl.j0
    dsimp only
    rw [if_neg (by decide), tx_toList, if_neg hr, rS, Option.bind_some]
    show (if (false = true) then _ else _) = _
    rw [if_neg (by decide), h2sz]
    by_cases c : (r.length : Int) > 1
    · have hx : (tx r).extract 0 2 = tx (r.take 2) := by rw [tx_cut]; rfl
      rw [if_pos c, if_pos (by decide), if_pos (by omega), hx, tx_toList]
      exact hz
    · have : dbl r = false := by
        unfold dbl
        refine beq_eq_false_iff_ne.mpr fun hh => c ?_
        have : (r.take 2).length = 2 := by rw [hh]; rfl
        rw [List.length_take] at this
        omega
      rw [this] at hz
      rw [if_neg c]
      exact hz
  have im : ∀ w z, impl_resolved.f (m + 10) (tx S) (tx H) n (tx (47 :: p)) (tx Q) a (tx r) = some w → (if w.2.2.2.2.2.2 = true then ((impl_dropDots.f (m + 10) w.2.2.2.1).bind fun t318 => ((impl_GoodUrl.f (m + 10) w.1 w.2.1 w.2.2.1 t318 w.2.2.2.2.1 w.2.2.2.2.2.1).bind fun t319 => (if t319 = true then (some (w.1, w.2.1, w.2.2.1, t318, w.2.2.2.2.1, w.2.2.2.2.2.1, true)) else (some ((⟨#[]⟩ : ByteArray), (⟨#[]⟩ : ByteArray), 0, (⟨#[]⟩ : ByteArray), (⟨#[]⟩ : ByteArray), false, false))))) else (some ((⟨#[]⟩ : ByteArray), (⟨#[]⟩ : ByteArray), 0, (⟨#[]⟩ : ByteArray), (⟨#[]⟩ : ByteArray), false, false))) = some z → impl_ResolveUrl.f (m + 10) (tx S) (tx H) n (tx (47 :: p)) (tx Q) a (tx r) = some z := fun w z h1 h2 => by
    unfold impl_ResolveUrl.f
    rw [gI, Option.bind_some, if_pos rfl, tx_toList, if_neg hr, h1, Option.bind_some]
    exact h2
  by_cases hd : dbl r = true
  · obtain ⟨rest, rfl⟩ := dbl_yes r hd
    have h58r : (58 : UInt8) ∉ rest := fun h => h58 (List.mem_cons_of_mem _ (List.mem_cons_of_mem _ h))
    obtain ⟨H2, P2, Q2, a2, e, g47, gP, g63, gq, g58⟩ := rest_dec rest h58r
    have hrl : (H2 ++ P2 ++ askL Q2 a2).length ≤ 180 := by rw [← e]; simp at hl; omega
    have hH2 : H2.length ≤ 180 ∧ P2.length ≤ 180 ∧ Q2.length ≤ 180 := by
      have h0 := hrl
      rw [List.length_append, List.length_append] at h0
      refine ⟨by omega, by omega, ?_⟩
      cases a2 with
      | true => unfold askL at h0; rw [if_pos rfl, List.length_cons] at h0; omega
      | false => rw [gq rfl]; simp
    have A1 := readR (m + 10) S H2 P2 Q2 a2 hS hrl g47 gP g63 gq g58 (by omega)
    have A2 := authS (m + 8) S H2 P2 Q2 a2 hSl hrl g47 gP g63 gq g58 (by omega)
    have hx : (tx (47 :: 47 :: rest)).extract 2 (tx (47 :: 47 :: rest)).size = tx rest := by
      rw [tx_cut, tx_size]
      show tx (rest.take ((47 :: 47 :: rest).length - 2)) = _
      rw [List.take_of_length_le (by simp)]
    have ht : tx S ++ (⟨#[58]⟩ : ByteArray) ++ tx (47 :: 47 :: rest) = tx (S ++ ([58, 47, 47] ++ rest)) := by
      have e58 : (⟨#[58]⟩ : ByteArray) = tx [58] := rfl
      rw [e58, tx_app, tx_app]; simp
    have hrs : impl_resolved.f (m + 10) (tx S) (tx H) n (tx (47 :: p)) (tx Q) a (tx (47 :: 47 :: rest)) = some (gRes S H2 0 (pathS P2) Q2 a2) := by
      unfold impl_resolved.f
      rw [rI, Option.bind_some]
      show (if (false = true) then _ else _) = _
      have e1 : (tx S ++ (⟨#[58]⟩ : ByteArray)).size = S.length + 1 := by rw [show (⟨#[58]⟩ : ByteArray) = tx [58] from rfl, tx_app, tx_size]; simp
      rw [if_neg (by decide), hpi, pf, Option.bind_some, hd, if_pos rfl, e1, tx_size, tx_size, if_pos (by omega), if_pos (by omega), ht, e, A1, Option.bind_some]
    have hj1 : ∀ z, spec_ResolveUrl.j4 (m + 8) (gRes S H2 0 (pathS P2) Q2 a2).2.2.2.2.2.2 (gRes S H2 0 (pathS P2) Q2 a2).1 (gRes S H2 0 (pathS P2) Q2 a2).2.1 (gRes S H2 0 (pathS P2) Q2 a2).2.2.1 (gRes S H2 0 (pathS P2) Q2 a2).2.2.2.1 (gRes S H2 0 (pathS P2) Q2 a2).2.2.2.2.1 (gRes S H2 0 (pathS P2) Q2 a2).2.2.2.2.2.1 = some z → spec_ResolveUrl.j1 (m + 9) (tx (47 :: 47 :: rest)) (dbl (47 :: 47 :: rest)) (tx S) (tx H) n (tx (47 :: p)) (tx Q) a = some z := fun z hz => by
      unfold spec_ResolveUrl.j1
      dsimp only
      rw [hd, if_pos rfl, if_pos (by rw [tx_size]; simp; omega), hx, e, A2, Option.bind_some]
      exact hz
    obtain ⟨p2, hp2, hp2l⟩ := pathS_form P2 gP
    rcases gRes_flag S H2 0 (pathS P2) Q2 a2 with ⟨g1, g2⟩ | ⟨g1, g2⟩
    · refine ⟨gRes S H2 0 (dropL p2) Q2 a2, ⟨im _ _ hrs ?_, sp _ (hj1 _ ?_)⟩, Or.inr ⟨S, H2, 0, p2, Q2, a2, rfl⟩⟩
      · rw [g2, hp2]
        dsimp only
        rw [if_pos rfl]
        exact resolveI_end (m + 10) S H2 0 p2 Q2 a2 (by omega) (by omega) (by omega) (by omega) (by omega)
      · rw [g2, hp2]
        exact resolveS_end (m + 8) S H2 0 p2 Q2 a2 (by omega) (by omega) (by omega) (by omega) (by omega)
    · refine ⟨zeroU, ⟨im _ _ hrs ?_, sp _ (hj1 _ ?_)⟩, Or.inl rfl⟩
      · rw [g2]; rfl
      · rw [g2]; rfl
  · have hd' : dbl r = false := Bool.eq_false_iff.mpr hd
    obtain ⟨R, Q2, a2, e, h63, hq⟩ := ask_dec r
    have hRl : R.length ≤ 101 := by rw [e, List.length_append] at hl; omega
    have hQ2 : Q2.length ≤ 101 := by
      rw [e, List.length_append] at hl
      cases a2 with
      | true => unfold askL at hl; rw [if_pos rfl, List.length_cons] at hl; omega
      | false => rw [hq rfl]; simp
    have e63 : (⟨#[63]⟩ : ByteArray) = tx [63] := rfl
    have cI : strings_Cut.f (tx r) (⟨#[63]⟩ : ByteArray) = some (tx R, tx Q2, a2) := by
      rw [e63, cut_f r [63] R Q2 a2 (by omega) (by rw [e]; exact cut_ask R Q2 a2 h63 hq)]
    have cS : spec_l1Cut.f (m + 8) (tx r) 63 = some (tx R, tx Q2, a2) := by rw [e]; exact cutS_ask (m + 8) R Q2 a2 h63 hq (by omega) (by omega) (by omega)
    -- whatever the path is
    have fin : ∀ p2 : List UInt8, p2.length ≤ 900 → impl_resolved.f (m + 10) (tx S) (tx H) n (tx (47 :: p)) (tx Q) a (tx r) = some (tx S, tx H, n, tx (47 :: p2), tx Q2, a2, true) → spec_ResolveUrl.j1 (m + 9) (tx r) (dbl r) (tx S) (tx H) n (tx (47 :: p)) (tx Q) a = some (gRes S H n (dropL p2) Q2 a2) → ∃ z, Both m S H n (47 :: p) Q a r z ∧ (z = zeroU ∨ ∃ S' H' n' p' Q' a', z = gRes S' H' n' (dropL p') Q' a') := fun p2 hp2 h1 h2 => by
      refine ⟨_, ⟨im _ _ h1 ?_, sp _ h2⟩, Or.inr ⟨S, H, n, p2, Q2, a2, rfl⟩⟩
      dsimp only
      rw [if_pos rfl]
      exact resolveI_end (m + 10) S H n p2 Q2 a2 (by omega) (by omega) hp2 (by omega) (by omega)
    have sj1 : ∀ z, (if R = ([] : List UInt8) then (spec_ResolveUrl.j2 (m + 8) (tx R) false (tx S) (tx H) n (tx (47 :: p)) (tx Q) a (tx S) (tx H) n (tx (47 :: p)) (tx Q2) a2) else (if 0 < (R.length : Int) then (spec_ResolveUrl.j2 (m + 8) (tx R) ((bt (tx R) 0) == 47) (tx S) (tx H) n (tx (47 :: p)) (tx Q) a (tx S) (tx H) n (tx (47 :: p)) (tx Q2) a2) else (none))) = some z → spec_ResolveUrl.j1 (m + 9) (tx r) (dbl r) (tx S) (tx H) n (tx (47 :: p)) (tx Q) a = some z := fun z hz => by
      unfold spec_ResolveUrl.j1
      dsimp only
      rw [hd', if_neg (by decide), cS, Option.bind_some]
      dsimp only
      rw [tx_toList, tx_size]
      exact hz
    have irs : ∀ w, (if slash R = true then (some (tx S, tx H, n, tx R, tx Q2, a2, true)) else (if R = ([] : List UInt8) then (some (tx S, tx H, n, tx (47 :: p), tx Q2, a2, true)) else ((strings_LastIndexByte.f (m + 10) (tx (47 :: p)) 47).bind fun t289 => (if 0 ≤ (wrap64 (t289 + 1)) then (if (wrap64 (t289 + 1)) ≤ ((tx (47 :: p)).size : Int) then (if ((tx (47 :: p)).extract 0 ((wrap64 (t289 + 1)) : Int).toNat).size + (tx R).size ≤ 9223372036854775807 then (some (tx S, tx H, n, ((tx (47 :: p)).extract 0 ((wrap64 (t289 + 1)) : Int).toNat) ++ tx R, tx Q2, a2, true)) else (none)) else (none)) else (none))))) = some w → impl_resolved.f (m + 10) (tx S) (tx H) n (tx (47 :: p)) (tx Q) a (tx r) = some w := fun w hw => by
      unfold impl_resolved.f
      rw [rI, Option.bind_some]
      show (if (false = true) then _ else _) = _
      rw [if_neg (by decide), hpi, pf, Option.bind_some, hd', if_neg (by decide), cI, Option.bind_some]
      dsimp only
      rw [hpi, prefix_f R (by omega), Option.bind_some, tx_toList]
      exact hw
    by_cases cR : R = []
    · refine fin p (by simp at hPl; omega) (irs _ ?_) (sj1 _ ?_)
      · rw [cR, if_neg (by decide), if_pos rfl]
      · rw [if_pos cR, cR]
        unfold spec_ResolveUrl.j2
        dsimp only
        rw [if_neg (by decide), tx_toList, if_pos rfl]
        exact resolveS_end (m + 7) S H n p Q2 a2 (by omega) (by omega) (by simp at hPl; omega) (by omega) (by omega)
    · obtain ⟨b, R2, hb⟩ : ∃ b R2, R = b :: R2 := by
        cases R with
        | nil => exact absurd rfl cR
        | cons b R2 => exact ⟨b, R2, rfl⟩
      have e0 : bt (tx R) 0 = (b.toNat : Int) := by rw [hb]; exact bt_tx (b :: R2) 0 (by simp)
      have hpos : 0 < (R.length : Int) := by rw [hb, List.length_cons]; omega
      have hR2 : R2.length ≤ 101 := by rw [hb, List.length_cons] at hRl; omega
      by_cases cb : b = 47
      · subst cb
        refine fin R2 (by omega) (irs _ ?_) (sj1 _ ?_)
        · rw [hb, if_pos (by rfl)]
        · rw [if_neg cR, if_pos hpos, e0, show ((((47 : UInt8).toNat : Nat) : Int) == 47) = true by decide]
          unfold spec_ResolveUrl.j2
          dsimp only
          rw [if_pos rfl, hb]
          exact resolveS_end (m + 7) S H n R2 Q2 a2 (by omega) (by omega) (by omega) (by omega) (by omega)
      · obtain ⟨A, B, h1, h2⟩ := last_at 47 (47 :: p) List.mem_cons_self
        have hsl : slash R = false := by rw [hb]; exact beq_eq_false_iff_ne.mpr cb
        have hAB : A.length + (B.length + 1) ≤ 200 := by
          have : (47 :: p).length = A.length + (B.length + 1) := by rw [h1]; simp
          rw [← this]; exact hPl
        have hA1 : (A ++ [47]).length ≤ 1000 := by rw [List.length_append, List.length_singleton]; omega
        have hR1 : R.length ≤ 1000 := by omega
        obtain ⟨p2, hp2⟩ : ∃ p2, A ++ [47] ++ R = 47 :: p2 := by
          cases A with
          | nil => exact ⟨R, rfl⟩
          | cons x A2 =>
            have : x = 47 := by have := List.cons.inj h1; exact this.1.symm
            exact ⟨A2 ++ [47] ++ R, by rw [this]; rfl⟩
        have hp2l : p2.length ≤ 900 := by
          have : (47 :: p2).length = (A ++ [47] ++ R).length := by rw [hp2]
          simp only [List.length_append, List.length_cons, List.length_nil] at this
          omega
        refine fin p2 hp2l (irs _ ?_) (sj1 _ ?_)
        · have hli := lastI A B (m + 10) h2 (by simp; omega) (by omega)
          have hw : wrap64 ((A.length : Int) + 1) = (A.length : Int) + 1 := w64 (by omega) (by omega)
          have hx : (tx (A ++ 47 :: B)).extract 0 ((A.length : Int) + 1).toNat = tx (A ++ [47]) := by
            have h3 : ((A.length : Int) + 1).toNat = (A ++ [47]).length := by simp
            have h4 : A ++ 47 :: B = (A ++ [47]) ++ B := by simp
            rw [tx_cut, h3, h4, List.drop_zero, Nat.sub_zero, List.take_left]
          have hz : ((tx (A ++ 47 :: B)).size : Int) = (A.length : Int) + 1 + (B.length : Int) := by rw [tx_size]; simp; omega
          rw [hsl, if_neg (by decide), if_neg cR, h1, hli, Option.bind_some, hw, hz, if_pos (fa A.length B.length).1, if_pos (fa A.length B.length).2, hx, tx_size, tx_size, if_pos (room3 _ _ hA1 hR1), tx_app, hp2]
        · rw [if_neg cR, if_pos hpos, e0, beq_eq_false_iff_ne.mpr (fun hh => cb (UInt8.toNat_inj.mp (by show b.toNat = 47; omega)))]
          unfold spec_ResolveUrl.j2
          dsimp only
          rw [if_neg (by decide), tx_toList, if_neg cR]
          have := lastS A [] R S H n Q2 a2 (tx S) (tx H) n (tx Q) a (by omega) (by omega) (by omega) (by omega) p2 hp2 B (m + 7) h2 (by simp; omega) (by omega)
          rw [List.append_nil, ← h1] at this
          rw [tx_size]
          exact this

/-! ### The drawn reference, and the law -/
def kRef : List UInt8 := [104, 116, 116, 112, 58, 47, 47, 107, 47]
theorem partsC_all : (([(⟨#[97]⟩ : ByteArray), (⟨#[98]⟩ : ByteArray), (⟨#[46]⟩ : ByteArray), (⟨#[46, 46]⟩ : ByteArray), (⟨#[]⟩ : ByteArray), (⟨#[37, 52, 49]⟩ : ByteArray), (⟨#[37, 50, 102]⟩ : ByteArray), (⟨#[120, 46, 121]⟩ : ByteArray), (⟨#[99, 32, 100]⟩ : ByteArray), (⟨#[37, 55, 69]⟩ : ByteArray)] : List ByteArray).all fun t => decide (t.size ≤ 3) && !t.data.toList.contains 58) = true := by decide +kernel
theorem plusC (l : List UInt8) (h : (58 : UInt8) ∉ l) : (58 : UInt8) ∉ l.map plusB := fun hm => by
  obtain ⟨b, h1, h2⟩ := List.mem_map.mp hm
  unfold plusB at h2
  split at h2
  · cases h2
  · exact h (h2 ▸ h1)
theorem plusT (l : List UInt8) (h : l.length ≤ 1000) : spec_plus.f (tx l) = some (tx (l.map plusB)) := by
  unfold spec_plus.f
  rw [tx_size, if_pos (by omega)]
  congr 1
  apply ByteArray.ext
  simp [tx]
theorem pathC_l (code : List Int) (hc : ∀ x ∈ code, 0 ≤ x ∧ x ≤ 255) (hb : code.length < 4611686018427387904) :
    ∀ (n K : Nat) (l : List UInt8) (a s : Int), n < K → 0 ≤ a → a + 2 * n ≤ 4000 → l.length + 4 * n ≤ 100 → (58 : UInt8) ∉ l →
      ∃ P a' s', spec_l1Cur_path.l0 K (tx l) (n : Int) code a s = some (tx P, a', s') ∧ P.length ≤ 101 ∧ (58 : UInt8) ∉ P
  | n, 0, l, a, s, h, _, _, _, _ => absurd h (by omega)
  | 0, K + 1, l, a, s, h, h0, h1, h2, hn => by
    have close : ∀ (T : List UInt8) (hT : T.length ≤ 100) (hTn : (58 : UInt8) ∉ T) (a1 s1 : Int) (g0 : 0 ≤ a1) (g1 : a1 ≤ 4002), ∃ P a' s', (if (tx T).toList = ([] : List UInt8) then (if (tx T).size + 1 ≤ 9223372036854775807 then (some (tx T ++ (⟨#[47]⟩ : ByteArray), a1, s1)) else (none)) else ((spec_l1Cur_one.f code a1 s1 3).bind fun bt159 => (if bt159.1 = true then (if (tx T).size + 1 ≤ 9223372036854775807 then (some (tx T ++ (⟨#[47]⟩ : ByteArray), bt159.2.1, bt159.2.2)) else (none)) else (some (tx T, bt159.2.1, bt159.2.2))))) = some (tx P, a', s') ∧ P.length ≤ 101 ∧ (58 : UInt8) ∉ P := fun T hT hTn a1 s1 g0 g1 => by
      have e47 : tx T ++ (⟨#[47]⟩ : ByteArray) = tx (T ++ [47]) := tx_app T [47]
      have hz : (T ++ [47]).length ≤ 101 := by rw [List.length_append, List.length_singleton]; omega
      have hzn : (58 : UInt8) ∉ T ++ [47] := fun hm => by
        rcases List.mem_append.mp hm with hm | hm
        · exact hTn hm
        · exact absurd (List.mem_singleton.mp hm) (by decide)
      have hs : (tx T).size + 1 ≤ 9223372036854775807 := by rw [tx_size]; omega
      rw [e47]
      by_cases c : (tx T).toList = []
      · rw [if_pos c, if_pos hs]
        exact ⟨_, _, _, rfl, hz, hzn⟩
      · obtain ⟨v, a2, s2, e, p1, p2⟩ := one_ok code hc hb a1 s1 3 g0 (by omega)
        rw [if_neg c, e, Option.bind_some]
        try dsimp only
        cases v with
        | true =>
          rw [if_pos rfl, if_pos hs]
          exact ⟨_, _, _, rfl, hz, hzn⟩
        | false =>
          rw [if_neg (by decide)]
          exact ⟨_, _, _, rfl, by omega, hTn⟩
    have hl : l.length ≤ 100 := by omega
    unfold spec_l1Cur_path.l0
    rw [if_neg (by omega)]
    obtain ⟨v, a1, s1, e1, p1, p2⟩ := one_ok code hc hb a s 20 h0 (by omega)
    rw [e1, Option.bind_some]
    try dsimp only
    cases v with
    | true =>
      rw [if_pos rfl]
      exact close l hl hn a1 s1 (by omega) (by omega)
    | false =>
      rw [if_neg (by decide), plusT l (by omega), Option.bind_some]
      exact close (l.map plusB) (by rw [List.length_map]; exact hl) (plusC l hn) a1 s1 (by omega) (by omega)
  | n + 1, K + 1, l, a, s, h, h0, h1, h2, hn => by
    unfold spec_l1Cur_path.l0
    rw [if_pos (by omega)]
    obtain ⟨t, a1, s1, e1, q1, q2, q3⟩ := of_ok code hc hb _ (by decide : 0 < ([(⟨#[97]⟩ : ByteArray), (⟨#[98]⟩ : ByteArray), (⟨#[46]⟩ : ByteArray), (⟨#[46, 46]⟩ : ByteArray), (⟨#[]⟩ : ByteArray), (⟨#[37, 52, 49]⟩ : ByteArray), (⟨#[37, 50, 102]⟩ : ByteArray), (⟨#[120, 46, 121]⟩ : ByteArray), (⟨#[99, 32, 100]⟩ : ByteArray), (⟨#[37, 55, 69]⟩ : ByteArray)] : List ByteArray).length) a s h0 (by omega)
    have g := List.all_eq_true.mp partsC_all t q1
    simp only [Bool.and_eq_true, decide_eq_true_eq, Bool.not_eq_true'] at g
    rw [e1, Option.bind_some]
    obtain ⟨z, rfl⟩ : ∃ z, t = tx z := ⟨t.data.toList, rfl⟩
    have g1 : z.length ≤ 3 := by rw [← tx_size]; exact g.1
    have g2 : (58 : UInt8) ∉ z := fun hm => by
      have h2 : z.contains 58 = false := g.2
      have h3 := List.contains_iff_mem.mpr hm
      rw [h2] at h3; cases h3
    have e47 : (⟨#[47]⟩ : ByteArray) = tx [47] := rfl
    have hnn : (58 : UInt8) ∉ l ++ ([47] ++ z) := fun hm => by
      rcases List.mem_append.mp hm with hm | hm
      · exact hn hm
      · rcases List.mem_append.mp hm with hm | hm
        · exact absurd (List.mem_singleton.mp hm) (by decide)
        · exact g2 hm
    try dsimp only
    rw [e47, tx_app, tx_app, tx_size, tx_size, tx_size, if_pos (by omega), if_pos (by simp; omega), w64 (by omega) (by omega), show ((n + 1 : Nat) : Int) - 1 = (n : Int) by omega]
    exact pathC_l code hc hb n K (l ++ ([47] ++ z)) a1 s1 (by omega) (by omega) (by omega) (by simp; omega) hnn
theorem pathC_ok (code : List Int) (hc : ∀ x ∈ code, 0 ≤ x ∧ x ≤ 255) (hb : code.length < 4611686018427387904) (K : Nat) (hK : 10 ≤ K) (a s : Int) (h0 : 0 ≤ a) (h1 : a ≤ 3000) :
    ∃ P a' s', spec_l1Cur_path.f K code a s = some (tx P, a', s') ∧ P.length ≤ 101 ∧ (58 : UInt8) ∉ P := by
  unfold spec_l1Cur_path.f
  obtain ⟨v, a1, s1, e1, p1, p2, p3, p4⟩ := pick_ok code hc hb a s 5 h0 (by omega)
  rw [e1, Option.bind_some]
  try dsimp only
  obtain ⟨n, rfl⟩ : ∃ n : Nat, v = (n : Int) := ⟨v.toNat, by omega⟩
  exact pathC_l code hc hb n K [] a1 s1 (by omega) (by omega) (by omega) (by simp; omega) (by simp)
theorem refs_all : (([(⟨#[]⟩ : ByteArray), (⟨#[120]⟩ : ByteArray), (⟨#[46, 46, 47, 121]⟩ : ByteArray), (⟨#[63, 113]⟩ : ByteArray), (⟨#[47, 122]⟩ : ByteArray), (⟨#[47, 47, 111, 46, 99, 111, 109, 47, 112]⟩ : ByteArray), (⟨#[46, 47]⟩ : ByteArray), (⟨#[46, 46]⟩ : ByteArray), (⟨#[104, 116, 116, 112, 58, 47, 47, 107, 47]⟩ : ByteArray), (⟨#[97, 47, 46, 47, 98]⟩ : ByteArray), (⟨#[120, 63, 121, 61, 49]⟩ : ByteArray), (⟨#[47, 47]⟩ : ByteArray), (⟨#[37]⟩ : ByteArray)] : List ByteArray).all fun t => decide (t.data.toList.length ≤ 101) && (decide (t.data.toList = kRef) || !t.data.toList.contains 58)) = true := by decide +kernel
theorem drawR_ok (code : List Int) (hc : ∀ x ∈ code, 0 ≤ x ∧ x ≤ 255) (hb : code.length < 4611686018427387904) (k : Nat) (hk : 10 ≤ k) : ∃ S H n P Q b r, spec_DrawResolveUrl.f k code = some (tx S, tx H, n, tx P, tx Q, b, tx r) ∧ S.length ≤ 1000 ∧ H.length ≤ 1000 ∧ P.length ≤ 1000 ∧ Q.length ≤ 1000 ∧ r.length ≤ 101 ∧ (r = kRef ∨ (58 : UInt8) ∉ r) := by
  obtain ⟨S, H, n, P, Q, b, a, s, e, h1, h2, h3, h4, h5, h6⟩ := url_ok code hc hb k hk
  have sz : ∀ B : ByteArray, B.size ≤ 1000 → B.data.toList.length ≤ 1000 := fun B h => by rw [Array.length_toList]; exact h
  unfold spec_DrawResolveUrl.f
  rw [e, Option.bind_some]
  dsimp only
  obtain ⟨t, a1, s1, e1, q1, q2, q3⟩ := of_ok code hc hb _ (by decide : 0 < ([(⟨#[]⟩ : ByteArray), (⟨#[120]⟩ : ByteArray), (⟨#[46, 46, 47, 121]⟩ : ByteArray), (⟨#[63, 113]⟩ : ByteArray), (⟨#[47, 122]⟩ : ByteArray), (⟨#[47, 47, 111, 46, 99, 111, 109, 47, 112]⟩ : ByteArray), (⟨#[46, 47]⟩ : ByteArray), (⟨#[46, 46]⟩ : ByteArray), (⟨#[104, 116, 116, 112, 58, 47, 47, 107, 47]⟩ : ByteArray), (⟨#[97, 47, 46, 47, 98]⟩ : ByteArray), (⟨#[120, 63, 121, 61, 49]⟩ : ByteArray), (⟨#[47, 47]⟩ : ByteArray), (⟨#[37]⟩ : ByteArray)] : List ByteArray).length) a s h5 (by omega)
  rw [e1, Option.bind_some]
  dsimp only
  obtain ⟨v, a2, s2, e2, p1, p2⟩ := one_ok code hc hb a1 s1 3 (by omega) (by omega)
  rw [e2, Option.bind_some]
  dsimp only
  cases v with
  | true =>
    obtain ⟨R, a3, s3, e3, t1, t2⟩ := pathC_ok code hc hb k hk a2 s2 (by omega) (by omega)
    rw [if_pos rfl, e3, Option.bind_some]
    exact ⟨S.data.toList, H.data.toList, n, P.data.toList, Q.data.toList, b, R, rfl, sz S h1, sz H h2, sz P h3, sz Q h4, t1, Or.inr t2⟩
  | false =>
    rw [if_neg (by decide)]
    have g := List.all_eq_true.mp refs_all t q1
    simp only [Bool.and_eq_true, Bool.or_eq_true, decide_eq_true_eq, Bool.not_eq_true'] at g
    refine ⟨S.data.toList, H.data.toList, n, P.data.toList, Q.data.toList, b, t.data.toList, rfl, sz S h1, sz H h2, sz P h3, sz Q h4, g.1, g.2.imp id (fun h hm => ?_)⟩
    have h3 := List.contains_iff_mem.mpr hm
    rw [h] at h3; cases h3
theorem kGood : goodL [104, 116, 116, 112] [107] 0 [47] [] false = true := by decide +kernel
theorem kReadI (k : Nat) (hk : 1010 ≤ k) : impl_ReadUrl.f k (tx kRef) = some (tx [104, 116, 116, 112], tx [107], 0, tx [47], tx [], false, true) :=
  read_f k [104, 116, 116, 112] [107] 0 [47] [] false (by decide) (by decide) (by decide) (by decide) hk kGood
def kOK : Bool := match spec_l1Read.f 60 (tx kRef) with
  | some (A, B, n, C, D, a, f) => decide (A = tx [104, 116, 116, 112]) && decide (B = tx [107]) && decide (n = 0) && decide (C = tx [47]) && decide (D = tx []) && !a && f
  | none => false
theorem kOK_yes : kOK = true := by decide +kernel
theorem kReadS0 : spec_l1Read.f 60 (tx kRef) = some (tx [104, 116, 116, 112], tx [107], 0, tx [47], tx [], false, true) := by
  have h := kOK_yes
  unfold kOK at h
  split at h
  · rename_i A B n C D a f he
    simp only [Bool.and_eq_true, decide_eq_true_eq, Bool.not_eq_true'] at h
    obtain ⟨⟨⟨⟨⟨⟨h1, h2⟩, h3⟩, h4⟩, h5⟩, h6⟩, h7⟩ := h
    rw [he, h1, h2, h3, h4, h5, h6, h7]
  · cases h
theorem kReadS (k : Nat) (hk : 60 ≤ k) : spec_l1Read.f k (tx kRef) = some (tx [104, 116, 116, 112], tx [107], 0, tx [47], tx [], false, true) := mono_le (fun k => spec_l1Read.f k (tx kRef)) (fun k => spec_l1Read.mono _ k) 60 k hk _ kReadS0
theorem ne_self (b : Bool) : (b != b) = false := by cases b <;> rfl
theorem beq_l (l : List UInt8) : (l == l) = true := beq_iff_eq.mpr rfl
theorem beq_i (n : Int) : (n == n) = true := beq_iff_eq.mpr rfl
theorem beq_b (b : Bool) : (b == b) = true := beq_iff_eq.mpr rfl
/-- whatever the reference: the same of both, and what it is -/
theorem both_all (m : Nat) (hm : 6000 ≤ m) (S H : List UInt8) (n : Int) (P Q : List UInt8) (a : Bool) (r : List UInt8) (hg : goodL S H n P Q a = true) (hl : r.length ≤ 101) (hr : r = kRef ∨ (58 : UInt8) ∉ r) :
    ∃ z, Both m S H n P Q a r z ∧ (z = zeroU ∨ (r = [] ∧ z = (tx S, tx H, n, tx P, tx Q, a, true)) ∨ ∃ S' H' n' p' Q' a', goodL S' H' n' (dropL p') Q' a' = true ∧ z = (tx S', tx H', n', tx (dropL p'), tx Q', a', true)) := by
  obtain ⟨hS, ⟨p, rfl⟩, hSl, hHl, hPl, hQl, hn0, hn1⟩ := okS S H n P Q a hg
  have gI := good_I (m + 10) S H n (47 :: p) Q a (by omega) (by omega) (by omega) (by omega) (by omega)
  have gS := good_S (m + 10) S H n (47 :: p) Q a (by omega) (by omega) (by omega) (by omega) (by omega)
  rw [hg] at gI gS
  have hsz : decide (((tx r).size : Int) > 200) = false := by rw [tx_size]; exact decide_eq_false (by omega)
  by_cases c0 : r = []
  · refine ⟨_, ⟨?_, ?_⟩, Or.inr (Or.inl ⟨c0, rfl⟩)⟩
    · unfold impl_ResolveUrl.f
      rw [gI, Option.bind_some, if_pos rfl, tx_toList, if_pos c0]
    · unfold spec_ResolveUrl.f
      rw [gS, Option.bind_some, if_pos rfl, hsz]
      unfold spec_ResolveUrl.j0
      dsimp only
      rw [if_neg (by decide), tx_toList, if_pos c0]
  rcases hr with hr | hr
  · subst hr
    have hd : dropL [] = [47] := by decide +kernel
    have g2 : goodL [104, 116, 116, 112] [107] 0 (dropL []) [] false = true := by rw [hd]; exact kGood
    have gr : gRes [104, 116, 116, 112] [107] 0 (dropL []) [] false = (tx [104, 116, 116, 112], tx [107], 0, tx (dropL []), tx [], false, true) := by
      unfold gRes
      rw [g2, if_pos rfl]
    refine ⟨_, ⟨?_, ?_⟩, Or.inr (Or.inr ⟨[104, 116, 116, 112], [107], 0, [], [], false, g2, rfl⟩)⟩
    · unfold impl_ResolveUrl.f
      have hrs : impl_resolved.f (m + 10) (tx S) (tx H) n (tx (47 :: p)) (tx Q) a (tx kRef) = some (tx [104, 116, 116, 112], tx [107], 0, tx [47], tx [], false, true) := by
        unfold impl_resolved.f
        rw [kReadI (m + 10) (by omega), Option.bind_some]
        dsimp only
        rw [if_pos rfl]
      rw [gI, Option.bind_some, if_pos rfl, tx_toList, if_neg c0, hrs, Option.bind_some]
      dsimp only
      rw [if_pos rfl, ← gr]
      exact resolveI_end (m + 10) [104, 116, 116, 112] [107] 0 [] [] false (by decide) (by decide) (by decide) (by decide) (by omega)
    · unfold spec_ResolveUrl.f
      rw [gS, Option.bind_some, if_pos rfl, hsz]
      unfold spec_ResolveUrl.j0
      dsimp only
      rw [if_neg (by decide), tx_toList, if_neg c0, kReadS (m + 9) (by omega), Option.bind_some]
      dsimp only
      rw [if_pos rfl, ← gr]
      exact resolveS_end (m + 9) [104, 116, 116, 112] [107] 0 [] [] false (by decide) (by decide) (by decide) (by decide) (by omega)
  · obtain ⟨z, hz, h⟩ := both_some m hm S H n (47 :: p) Q a r hg c0 hr hl
    refine ⟨z, hz, ?_⟩
    rcases h with h | ⟨S', H', n', p', Q', a', h⟩
    · exact Or.inl h
    · rcases gRes_flag S' H' n' (dropL p') Q' a' with ⟨g1, g2⟩ | ⟨g1, g2⟩
      · exact Or.inr (Or.inr ⟨S', H', n', p', Q', a', g1, by rw [h, g2]⟩)
      · exact Or.inl (by rw [h, g2])
/-- a good address: its text leads back to it, but for dots -/
theorem again (m : Nat) (hm : 6000 ≤ m) (S H : List UInt8) (n : Int) (P Q : List UInt8) (a : Bool) (hg : goodL S H n P Q a = true) (S2 H2 : List UInt8) (n2 : Int) (p2 Q2 : List UInt8) (a2 : Bool) (hg2 : goodL S2 H2 n2 (47 :: p2) Q2 a2 = true) :
    impl_UrlText.f m (tx S2) (tx H2) n2 (tx (47 :: p2)) (tx Q2) a2 = some (tx (textL S2 H2 n2 (47 :: p2) Q2 a2), true) ∧
    impl_ResolveUrl.f m (tx S) (tx H) n (tx P) (tx Q) a (tx (textL S2 H2 n2 (47 :: p2) Q2 a2)) = some (tx S2, tx H2, n2, tx (dropL p2), tx Q2, a2, true) ∧
    impl_ResolveUrl.f m (tx S2) (tx H2) n2 (tx (47 :: p2)) (tx Q2) a2 (⟨#[]⟩ : ByteArray) = some (tx S2, tx H2, n2, tx (47 :: p2), tx Q2, a2, true) ∧
    impl_DropDots.f m (tx (47 :: p2)) = some (tx (dropL p2), true) := by
  obtain ⟨hS, _, hSl, hHl, hPl, hQl, hn0, hn1⟩ := okS S H n P Q a hg
  obtain ⟨zS, _, zSl, zHl, zPl, zQl, zn0, zn1⟩ := okS S2 H2 n2 (47 :: p2) Q2 a2 hg2
  have gI := good_I m S H n P Q a (by omega) (by omega) (by omega) (by omega) (by omega)
  have gZ := good_I m S2 H2 n2 (47 :: p2) Q2 a2 (by omega) (by omega) (by omega) (by omega) (by omega)
  rw [hg] at gI
  rw [hg2] at gZ
  have hp2 : p2.length ≤ 200 := by rw [List.length_cons] at zPl; omega
  obtain ⟨q, f1, f2⟩ := drop_twice p2
  have hgd : goodL S2 H2 n2 (dropL p2) Q2 a2 = true := by rw [f1]; exact good_drop S2 H2 n2 p2 q Q2 a2 hg2 f1
  have gr : gRes S2 H2 n2 (dropL p2) Q2 a2 = (tx S2, tx H2, n2, tx (dropL p2), tx Q2, a2, true) := by
    unfold gRes
    rw [hgd, if_pos rfl]
  have hne : textL S2 H2 n2 (47 :: p2) Q2 a2 ≠ [] := by
    unfold textL
    rcases zS with h | h <;> rw [h] <;> simp
  refine ⟨?_, ?_, ?_, ?_⟩
  · unfold impl_UrlText.f
    rw [gZ, Option.bind_some, if_pos rfl, text_I S2 H2 n2 (47 :: p2) Q2 a2 (by omega) (by omega) (by omega) (by omega) zn0 (by omega), Option.bind_some]
  · have hrs : impl_resolved.f m (tx S) (tx H) n (tx P) (tx Q) a (tx (textL S2 H2 n2 (47 :: p2) Q2 a2)) = some (tx S2, tx H2, n2, tx (47 :: p2), tx Q2, a2, true) := by
      unfold impl_resolved.f
      rw [read_f m S2 H2 n2 (47 :: p2) Q2 a2 (by omega) (by omega) (by omega) (by omega) (by omega) hg2, Option.bind_some]
      dsimp only
      rw [if_pos rfl]
    unfold impl_ResolveUrl.f
    rw [gI, Option.bind_some, if_pos rfl, tx_toList, if_neg hne, hrs, Option.bind_some]
    dsimp only
    rw [if_pos rfl, ← gr]
    exact resolveI_end m S2 H2 n2 p2 Q2 a2 (by omega) (by omega) (by omega) (by omega) (by omega)
  · unfold impl_ResolveUrl.f
    have e0 : (⟨#[]⟩ : ByteArray).toList = [] := tx_toList []
    rw [gZ, Option.bind_some, if_pos rfl, e0, if_pos rfl]
  · unfold impl_DropDots.f
    rw [prefix_f (47 :: p2) (by omega), Option.bind_some, if_pos (by rfl), tx_size, if_neg (by omega), drop_I p2 (by omega) m (by omega), Option.bind_some]
theorem FnResolved : laws_FnResolved.Pure := by
  intro code hlen hlen2 hwf
  have hc := bytes_of code hwf
  refine ⟨7010, ?_⟩
  unfold laws_FnResolved.f
  by_cases c : (code.length : Int) > 1048576
  · rw [if_pos c]
  rw [if_neg c]
  obtain ⟨S, H, n, P, Q, a, r, e, hS, hH, hP, hQ, hr, hk⟩ := drawR_ok code hc (by omega) 7010 (by decide)
  rw [e, Option.bind_some]
  dsimp only
  have zero : laws_FnResolved.j0 7010 (tx r) false false (tx S) (tx H) n (tx P) (tx Q) a (⟨#[]⟩ : ByteArray) (⟨#[]⟩ : ByteArray) 0 (⟨#[]⟩ : ByteArray) (⟨#[]⟩ : ByteArray) false = some true := by
    unfold laws_FnResolved.j0
    have e0 : (⟨#[]⟩ : ByteArray).toList = [] := tx_toList []
    dsimp only
    rw [if_neg (by decide), if_neg (by decide), e0]
    rfl
  cases hg : goodL S H n P Q a with
  | false =>
    have gI := good_I 7010 S H n P Q a hS hH hP hQ (by decide)
    have gS := good_S 7010 S H n P Q a hS hH hP hQ (by decide)
    rw [hg] at gI gS
    have e1 : impl_ResolveUrl.f 7010 (tx S) (tx H) n (tx P) (tx Q) a (tx r) = some zeroU := by
      unfold impl_ResolveUrl.f
      rw [gI, Option.bind_some, if_neg (by decide)]; rfl
    have e2 : spec_ResolveUrl.f 7010 (tx S) (tx H) n (tx P) (tx Q) a (tx r) = some zeroU := by
      unfold spec_ResolveUrl.f
      rw [gS, Option.bind_some, if_neg (by decide)]
      unfold spec_ResolveUrl.j0
      dsimp only
      rw [if_pos rfl]; rfl
    rw [e1, e2, Option.bind_some, Option.bind_some]
    unfold zeroU
    dsimp only
    rw [if_neg (by decide), beq_l, beq_i, beq_b]
    exact zero
  | true =>
    obtain ⟨z, ⟨e1, e2⟩, h⟩ := both_all 7000 (by decide) S H n P Q a r hg hr hk
    rw [e1, e2, Option.bind_some, Option.bind_some]
    rw [ne_self, if_neg (by decide), beq_l, beq_l, beq_l, beq_l, beq_i, beq_b]
    rcases h with h | ⟨hr0, h⟩ | ⟨S2, H2, n2, p', Q2, a2, hg2, h⟩
    · rw [h]
      exact zero
    · rw [h]
      obtain ⟨_, ⟨p, rfl⟩, _⟩ := okS S H n P Q a hg
      obtain ⟨a1, b1, c1, d1⟩ := again 7009 (by decide) S H n (47 :: p) Q a hg S H n p Q a hg
      unfold laws_FnResolved.j0
      dsimp only
      rw [if_neg (by decide), if_pos rfl, a1, Option.bind_some]
      dsimp only
      rw [b1, Option.bind_some, c1, Option.bind_some, d1, Option.bind_some]
      dsimp only
      rw [if_pos rfl, if_pos rfl, if_pos rfl, if_pos rfl, beq_l, beq_l, beq_l, beq_l, beq_i, beq_b, if_pos (by rfl), tx_toList, if_pos hr0]
    · rw [h]
      obtain ⟨q, f1, f2⟩ := drop_twice p'
      rw [f1] at hg2 ⊢
      obtain ⟨a1, b1, c1, d1⟩ := again 7009 (by decide) S H n P Q a hg S2 H2 n2 q Q2 a2 hg2
      rw [f2] at b1 d1
      unfold laws_FnResolved.j0
      dsimp only
      rw [if_neg (by decide), if_pos rfl, a1, Option.bind_some]
      dsimp only
      rw [b1, Option.bind_some, c1, Option.bind_some, d1, Option.bind_some]
      dsimp only
      rw [if_pos rfl, if_pos rfl, if_pos rfl, if_pos rfl, beq_l, beq_l, beq_l, beq_l, beq_i, beq_b, if_pos (by rfl)]
      by_cases c : (tx r).toList = []
      · rw [if_pos c]
      · rw [if_neg c, if_pos rfl]; rfl

end Go.Proofs.YtklicdjbihmbiaaGreatDoor.Pure
