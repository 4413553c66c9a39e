/- An address comes back from its text, and bytes from their percents: texts as lists of bytes. -/
import Derived.Test.YtklicdjbihmbiaaDoorPFnUrlsx11
import Derived.Lib.VarintBits
set_option linter.unusedVariables false
set_option linter.unusedSimpArgs false
namespace Go.Proofs.YtklicdjbihmbiaaDoor.Pure
open Go.RowKit Go.Proofs.YtklicdjbihmbiaaDoor.PFnUrls Go.Proofs.YtklicdjbihmbiaaDoorW.PrintWords Go.Proofs.YtklicdjbihmbiaaDoorW.PrintLast

/-! Whole numbers and rows of them -/
theorem w64 {x : Int} (h : -9223372036854775808 ≤ x) (h2 : x < 9223372036854775808) : wrap64 x = x := by unfold wrap64; omega
theorem rd_nat (l : List Int) (n : Nat) (h : n < l.length) : rd l (n : Int) = l[n] := by
  unfold rd; simp [List.getD_eq_getElem?_getD, h]
theorem succ_cast (n : Nat) : ((n : Int) + 1) = ((n + 1 : Nat) : Int) := by omega

theorem mono_le {α : Type} (F : Nat → Option α) (h : ∀ k, LeO (F k) (F (k + 1))) (a b : Nat) (hab : a ≤ b) (r : α) (e : F a = some r) : F b = some r := by
  obtain ⟨d, rfl⟩ := Nat.le.dest hab
  clear hab
  induction d with
  | zero => exact e
  | succ d ih => exact h (a + d) r ih

/-! ### Texts as lists of bytes -/
abbrev tx (l : List UInt8) : ByteArray := ⟨l.toArray⟩
theorem tx_size (l : List UInt8) : (tx l).size = l.length := by simp [ByteArray.size]
theorem tx_data (s : ByteArray) : tx s.data.toList = s := rfl
theorem tx_list (l : List UInt8) : (tx l).data.toList = l := rfl
theorem tx_app (a b : List UInt8) : tx a ++ tx b = tx (a ++ b) := by
  apply ByteArray.ext
  simp [tx]
theorem tx_cut (T : List UInt8) (a b : Nat) : (tx T).extract a b = tx ((T.drop a).take (b - a)) := by
  apply ByteArray.ext
  apply Array.toList_inj.mp
  simp [tx]
theorem tx_inj {a b : List UInt8} (h : tx a = tx b) : a = b := by
  have : (tx a).data.toList = (tx b).data.toList := by rw [h]
  exact this
theorem bt_tx (T : List UInt8) (i : Nat) (h : i < T.length) : bt (tx T) (i : Int) = (T[i].toNat : Int) := by
  have h1 : ((i : Int)).toNat < (tx T).size := by rw [tx_size]; omega
  unfold bt
  rw [dif_pos h1]
  simp [tx, ByteArray.getElem_eq_getElem_data]
theorem bt_at (pre rest : List UInt8) (b : UInt8) : bt (tx (pre ++ b :: rest)) (pre.length : Int) = (b.toNat : Int) := by
  rw [bt_tx _ pre.length (by simp)]
  simp
/-! ### Cut at a byte -/
theorem index_none (c : UInt8) : ∀ l : List UInt8, c ∉ l → Lib.index l [c] = -1
  | [], _ => rfl
  | b :: l, h => by
    have hb : (c == b) = false := beq_eq_false_iff_ne.mpr fun e => h (e ▸ List.mem_cons_self ..)
    have ih := index_none c l fun hh => h (List.mem_cons_of_mem _ hh)
    unfold Lib.index
    rw [ih]
    simp [List.isPrefixOf, hb]
theorem index_at (c : UInt8) (r : List UInt8) : ∀ l : List UInt8, c ∉ l → Lib.index (l ++ c :: r) [c] = (l.length : Int)
  | [], _ => by simp [Lib.index, List.isPrefixOf]
  | b :: l, h => by
    have hb : (c == b) = false := beq_eq_false_iff_ne.mpr fun e => h (e ▸ List.mem_cons_self ..)
    have ih := index_at c r l fun hh => h (List.mem_cons_of_mem _ hh)
    show Lib.index (b :: (l ++ c :: r)) [c] = _
    unfold Lib.index
    rw [ih]
    have : ((l.length : Int) == -1) = false := beq_eq_false_iff_ne.mpr (by omega)
    simp [List.isPrefixOf, hb, this]
theorem cut_none (c : UInt8) (l : List UInt8) (h : c ∉ l) : Lib.cut l [c] = (l, [], false) := by
  unfold Lib.cut
  rw [index_none c l h]; rfl
theorem cut_at (c : UInt8) (l r : List UInt8) (h : c ∉ l) : Lib.cut (l ++ c :: r) [c] = (l, r, true) := by
  unfold Lib.cut
  rw [index_at c r l h, if_pos (by omega), Int.toNat_natCast, List.take_left]
  have : l.length + [c].length = (l ++ [c]).length := by simp
  rw [this, show l ++ c :: r = (l ++ [c]) ++ r by simp, List.drop_left]
theorem cut_http (r : List UInt8) : Lib.cut ([104, 116, 116, 112] ++ ([58, 47, 47] ++ r)) [58, 47, 47] = ([104, 116, 116, 112], r, true) := by
  simp [Lib.cut, Lib.index, List.isPrefixOf]
theorem cut_https (r : List UInt8) : Lib.cut ([104, 116, 116, 112, 115] ++ ([58, 47, 47] ++ r)) [58, 47, 47] = ([104, 116, 116, 112, 115], r, true) := by
  simp [Lib.cut, Lib.index, List.isPrefixOf]
/-! ### Numerals -/
theorem decFrom_app : ∀ (l r : List UInt8) (a : Nat), Lib.decFrom a (l ++ r) = (Lib.decFrom a l).bind fun b => Lib.decFrom b r
  | [], _, _ => rfl
  | x :: l, r, a => by
    show (match Lib.digitVal x with | some d => Lib.decFrom (a * 10 + d) (l ++ r) | none => none) = (match Lib.digitVal x with | some d => Lib.decFrom (a * 10 + d) l | none => none).bind _
    cases Lib.digitVal x with
    | none => rfl
    | some d => exact decFrom_app l r _
theorem u8of (d : Nat) (h : d < 10) : (UInt8.ofNat (48 + d)).toNat = 48 + d := by rw [UInt8.toNat_ofNat']; omega
theorem dig_val (d : Nat) (h : d < 10) : Lib.digitVal (UInt8.ofNat (48 + d)) = some d := by
  unfold Lib.digitVal
  rw [u8of d h, if_pos (by omega)]
  congr 1; omega
theorem dec_back (u : Nat) : Lib.decFrom 0 (Lib.decDigits u) = some u := by
  induction u using Nat.strongRecOn with
  | ind u ih =>
    unfold Lib.decDigits
    by_cases h : u < 10
    · rw [dif_pos h]
      show (match Lib.digitVal (UInt8.ofNat (48 + u)) with | some d => Lib.decFrom (0 * 10 + d) [] | none => none) = _
      rw [dig_val u h]
      show some (0 * 10 + u) = _
      congr 1; omega
    · rw [dif_neg h, decFrom_app, ih (u / 10) (by omega), Option.bind_some]
      show (match Lib.digitVal (UInt8.ofNat (48 + u % 10)) with | some d => Lib.decFrom (u / 10 * 10 + d) [] | none => none) = _
      rw [dig_val _ (by omega)]
      show some (u / 10 * 10 + u % 10) = _
      congr 1; omega
theorem dec_digs (u : Nat) : ∀ b ∈ Lib.decDigits u, 48 ≤ b.toNat ∧ b.toNat ≤ 57 := by
  induction u using Nat.strongRecOn with
  | ind u ih =>
    intro b hb
    unfold Lib.decDigits at hb
    by_cases h : u < 10
    · rw [dif_pos h] at hb
      rw [List.mem_singleton.mp hb, u8of u h]; omega
    · rw [dif_neg h] at hb
      rcases List.mem_append.mp hb with h1 | h1
      · exact ih (u / 10) (by omega) b h1
      · rw [List.mem_singleton.mp h1, u8of _ (by omega)]; omega
theorem dec_len (u : Nat) : ∀ n, u < 10 ^ (n + 1) → (Lib.decDigits u).length ≤ n + 1 := by
  induction u using Nat.strongRecOn with
  | ind u ih =>
    intro n hn
    unfold Lib.decDigits
    by_cases h : u < 10
    · rw [dif_pos h]; simp
    · rw [dif_neg h, List.length_append]
      cases n with
      | zero => omega
      | succ m =>
        have := ih (u / 10) (by omega) m (by rw [Nat.pow_succ] at hn; omega)
        simp; omega
theorem dec_ne (u : Nat) : Lib.decDigits u ≠ [] := by
  unfold Lib.decDigits
  split <;> simp
theorem atoi_back (u : Nat) : Lib.atoi (Lib.decDigits u) = some (u : Int) := by
  cases e : Lib.decDigits u with
  | nil => exact absurd e (dec_ne u)
  | cons b r =>
    have hb := dec_digs u b (by rw [e]; exact List.mem_cons_self ..)
    show (if (b == 45) = true then (Lib.decNat r).map fun (m : Nat) => -(m : Int) else if (b == 43) = true then (Lib.decNat r).map fun (m : Nat) => (m : Int) else (Lib.decNat (b :: r)).map fun (m : Nat) => (m : Int)) = _
    have h1 : (b == 45) = false := beq_eq_false_iff_ne.mpr fun h => by subst h; simp at hb
    have h2 : (b == 43) = false := beq_eq_false_iff_ne.mpr fun h => by subst h; simp at hb
    rw [h1, h2]
    have : Lib.decNat (b :: r) = some u := by
      unfold Lib.decNat
      rw [← e, if_neg (by rw [e]; exact Bool.false_ne_true), dec_back]
    simp [this]

/-! ### The bytes' kinds, by reckoning over all 256 -/
theorem byte_all (p : UInt8 → Bool) (h : ((List.range 256).all fun n => p (UInt8.ofNat n)) = true) (b : UInt8) : p b = true := by
  have := List.all_eq_true.mp h b.toNat (List.mem_range.mpr b.toNat_lt)
  rwa [UInt8.ofNat_toNat] at this
def isLB (b : UInt8) : Bool := (97 ≤ b.toNat && b.toNat ≤ 122) || (65 ≤ b.toNat && b.toNat ≤ 90)
def isDB (b : UInt8) : Bool := 48 ≤ b.toNat && b.toNat ≤ 57
def pbase : List UInt8 := [45, 46, 95, 126, 33, 36, 38, 39, 40, 41, 42, 43, 44, 59, 61, 58, 64]
def okB (o : List UInt8) (b : UInt8) : Bool := isLB b || isDB b || pbase.contains b || o.contains b
def hostB (b : UInt8) : Bool := isLB b || isDB b || b == 45 || b == 46
def freeB (b : UInt8) : Bool := isLB b || isDB b || b == 45 || b == 46 || b == 95 || b == 126
def hv (b : UInt8) : Int := match impl_hexValue.f (b.toNat : Int) with | some v => v | none => -1
def hexP (b : UInt8) : Bool := decide (impl_hexValue.f (b.toNat : Int) = some (hv b)) && decide (spec_l1Hex.f 2 (b.toNat : Int) = some (hv b)) && decide (-1 ≤ hv b) && decide (hv b ≤ 15)
theorem hex_all : ((List.range 256).all fun n => hexP (UInt8.ofNat n)) = true := by decide +kernel
theorem hex_b (b : UInt8) : impl_hexValue.f (b.toNat : Int) = some (hv b) ∧ (∀ k, 2 ≤ k → spec_l1Hex.f k (b.toNat : Int) = some (hv b)) ∧ -1 ≤ hv b ∧ hv b ≤ 15 := by
  have g := byte_all hexP hex_all b
  unfold hexP at g
  simp only [Bool.and_eq_true, decide_eq_true_eq] at g
  exact ⟨g.1.1.1, fun k hk => mono_le (fun k => spec_l1Hex.f k (b.toNat : Int)) (fun k => spec_l1Hex.mono _ k) 2 k hk _ g.1.1.2, g.1.2, g.2⟩
theorem or_all : ((List.range 16).all fun a => (List.range 16).all fun b => decide ((Go.bits .or .i64 (wrap64 ((a : Int) * 16)) (b : Int)) % 256 = 16 * (a : Int) + b)) = true := by decide +kernel
theorem or_hex (a b : Int) (ha : 0 ≤ a) (ha2 : a ≤ 15) (hb : 0 ≤ b) (hb2 : b ≤ 15) : (Go.bits .or .i64 (wrap64 (a * 16)) b) % 256 = 16 * a + b := by
  have g := List.all_eq_true.mp (List.all_eq_true.mp or_all a.toNat (List.mem_range.mpr (by omega))) b.toNat (List.mem_range.mpr (by omega))
  simp only [decide_eq_true_eq] at g
  rwa [Int.toNat_of_nonneg ha, Int.toNat_of_nonneg hb] at g
def isT : Option Bool → Bool
  | some true => true
  | _ => false
/-- what is known of a list of further signs -/
structure Oth (o : List UInt8) : Prop where
  am : ∀ b : UInt8, impl_isAmong.f (b.toNat : Int) (tx (pbase ++ o)) = some (okB o b)
  sp : ∀ (b : UInt8) k, 20 ≤ k → ∃ f h1 h2, spec_l1Free.f (b.toNat : Int) = some f ∧ spec_l1Has.f k (⟨#[33, 36, 38, 39, 40, 41, 42, 43, 44, 59, 61, 58, 64]⟩ : ByteArray) (b.toNat : Int) = some h1 ∧ spec_l1Has.f k (tx o) (b.toNat : Int) = some h2 ∧ (f || h1 || h2) = okB o b
  pr : okB o 37 = false
  sm : o.length ≤ 2
def othB (o : List UInt8) (b : UInt8) : Bool := decide (impl_isAmong.f (b.toNat : Int) (tx (pbase ++ o)) = some (okB o b)) && decide (spec_l1Free.f (b.toNat : Int) = some (isT (spec_l1Free.f (b.toNat : Int)))) && decide (spec_l1Has.f 20 (⟨#[33, 36, 38, 39, 40, 41, 42, 43, 44, 59, 61, 58, 64]⟩ : ByteArray) (b.toNat : Int) = some (isT (spec_l1Has.f 20 (⟨#[33, 36, 38, 39, 40, 41, 42, 43, 44, 59, 61, 58, 64]⟩ : ByteArray) (b.toNat : Int)))) && decide (spec_l1Has.f 20 (tx o) (b.toNat : Int) = some (isT (spec_l1Has.f 20 (tx o) (b.toNat : Int)))) && decide ((isT (spec_l1Free.f (b.toNat : Int)) || isT (spec_l1Has.f 20 (⟨#[33, 36, 38, 39, 40, 41, 42, 43, 44, 59, 61, 58, 64]⟩ : ByteArray) (b.toNat : Int)) || isT (spec_l1Has.f 20 (tx o) (b.toNat : Int))) = okB o b)
theorem oth_of (o : List UInt8) (h : ((List.range 256).all fun n => othB o (UInt8.ofNat n)) = true) (hp : okB o 37 = false) (hs : o.length ≤ 2) : Oth o where
  am := fun b => by
    have g := byte_all (othB o) h b
    unfold othB at g
    simp only [Bool.and_eq_true, decide_eq_true_eq] at g
    exact g.1.1.1.1
  sp := fun b k hk => by
    have g := byte_all (othB o) h b
    unfold othB at g
    simp only [Bool.and_eq_true, decide_eq_true_eq] at g
    exact ⟨_, _, _, g.1.1.1.2, mono_le (fun k => spec_l1Has.f k _ (b.toNat : Int)) (fun k => spec_l1Has.mono _ _ k) 20 k hk _ g.1.1.2, mono_le (fun k => spec_l1Has.f k _ (b.toNat : Int)) (fun k => spec_l1Has.mono _ _ k) 20 k hk _ g.1.2, g.2⟩
  pr := hp
  sm := hs
theorem oth_path : Oth [47] := oth_of _ (by decide +kernel) (by decide +kernel) (by decide)
theorem oth_query : Oth [47, 63] := oth_of _ (by decide +kernel) (by decide +kernel) (by decide)
def hostP (b : UInt8) : Bool := decide (impl_GoodUrl_1.f (b.toNat : Int) = some (hostB b)) && decide (spec_l1Letter.f (b.toNat : Int) = some (isLB b)) && decide (spec_l1Digit.f (b.toNat : Int) = some (isDB b)) && decide (impl_isUnreserved.f (b.toNat : Int) = some (freeB b)) && decide (spec_l1Free.f (b.toNat : Int) = some (freeB b))
theorem host_all : ((List.range 256).all fun n => hostP (UInt8.ofNat n)) = true := by decide +kernel
theorem host_b (b : UInt8) : impl_GoodUrl_1.f (b.toNat : Int) = some (hostB b) ∧ spec_l1Letter.f (b.toNat : Int) = some (isLB b) ∧ spec_l1Digit.f (b.toNat : Int) = some (isDB b) ∧ impl_isUnreserved.f (b.toNat : Int) = some (freeB b) ∧ spec_l1Free.f (b.toNat : Int) = some (freeB b) := by
  have g := byte_all hostP host_all b
  unfold hostP at g
  simp only [Bool.and_eq_true, decide_eq_true_eq] at g
  exact ⟨g.1.1.1.1, g.1.1.1.2, g.1.1.2, g.1.2, g.2⟩
/-! ### Percents -/
theorem toNat_37 (b : UInt8) : ((b.toNat : Int) = 37) = (b = 37) := propext ⟨fun h => UInt8.toNat_inj.mp (by show b.toNat = 37; omega), fun h => by subst h; rfl⟩
theorem perc_short (k : Nat) (l : List UInt8) (h : l.length < 3) : impl_percent.f (k + 1) (tx l) = some (0, false) := by
  unfold impl_percent.f impl_percent.j0
  dsimp only
  rw [tx_size, if_pos (by omega), if_pos rfl]
theorem perc_I (k : Nat) (x y : UInt8) (z : List UInt8) : impl_percent.f (k + 1) (tx (37 :: x :: y :: z)) = some (if 0 ≤ hv x ∧ 0 ≤ hv y then (16 * hv x + hv y, true) else (0, false)) := by
  have e0 : bt (tx (37 :: x :: y :: z)) 0 = 37 := bt_tx (37 :: x :: y :: z) 0 (by simp)
  have e1 : bt (tx (37 :: x :: y :: z)) 1 = (x.toNat : Int) := bt_tx (37 :: x :: y :: z) 1 (by simp)
  have e2 : bt (tx (37 :: x :: y :: z)) 2 = (y.toNat : Int) := bt_tx (37 :: x :: y :: z) 2 (by simp)
  have hs : ((tx (37 :: x :: y :: z)).size : Int) = (z.length : Int) + 3 := by rw [tx_size]; simp; omega
  unfold impl_percent.f impl_percent.j0
  dsimp only
  rw [hs, e0, e1, e2, if_neg (by omega), if_pos (by omega), if_pos rfl, if_pos (by omega), (hex_b x).1, Option.bind_some]
  by_cases c : 0 ≤ hv x
  · rw [if_neg (by omega), if_pos (by omega), (hex_b y).1, Option.bind_some]
    by_cases c2 : 0 ≤ hv y
    · rw [decide_eq_false (show ¬ hv y < 0 by omega), if_neg (show ¬ false = true by decide), if_pos (by omega), Option.bind_some, if_pos (by omega), Option.bind_some, if_pos ⟨c, c2⟩, or_hex _ _ c (hex_b x).2.2.2 c2 (hex_b y).2.2.2]
    · rw [decide_eq_true (show hv y < 0 by omega), if_pos rfl, if_neg (fun h => c2 h.2)]
  · rw [if_pos (by omega), if_pos rfl, if_neg (fun h => c h.1)]
theorem tx_tail (pre M : List UInt8) : (tx (pre ++ M)).extract (pre.length : Int).toNat (tx (pre ++ M)).size = tx M := by
  rw [tx_cut, tx_size, Int.toNat_natCast, List.drop_left, List.take_of_length_le (by simp)]
theorem byte_S (k : Nat) (pre : List UInt8) (x y : UInt8) (z : List UInt8) (hl : (pre ++ 37 :: x :: y :: z).length ≤ 100000) : spec_l1Byte.f (k + 3) (tx (pre ++ 37 :: x :: y :: z)) (pre.length : Int) = some (if 0 ≤ hv x ∧ 0 ≤ hv y then 16 * hv x + hv y else -1) := by
  have e0 : bt (tx (pre ++ 37 :: x :: y :: z)) (pre.length : Int) = 37 := bt_at pre _ 37
  have e1 : bt (tx (pre ++ 37 :: x :: y :: z)) ((pre.length : Int) + 1) = (x.toNat : Int) := by
    have := bt_at (pre ++ [37]) (y :: z) x
    simpa using this
  have e2 : bt (tx (pre ++ 37 :: x :: y :: z)) ((pre.length : Int) + 2) = (y.toNat : Int) := by
    have := bt_at (pre ++ [37, x]) z y
    simpa using this
  have hs : ((tx (pre ++ 37 :: x :: y :: z)).size : Int) = (pre.length : Int) + 3 + (z.length : Int) := by rw [tx_size]; simp; omega
  simp only [List.length_append, List.length_cons] at hl
  have w1 : wrap64 ((pre.length : Int) + 1) = (pre.length : Int) + 1 := w64 (by omega) (by omega)
  have w2 : wrap64 ((pre.length : Int) + 2) = (pre.length : Int) + 2 := w64 (by omega) (by omega)
  unfold spec_l1Byte.f spec_l1Byte.j0
  dsimp only
  rw [w1, w2, hs, e0, e1, e2, if_neg (by omega), if_pos (by omega), if_pos (by omega), show ((37 : Int) != 37) = false by decide, if_neg (show ¬ false = true by decide), if_pos (by omega), if_pos (by omega), (hex_b x).2.1 _ (by omega), Option.bind_some, if_pos (by omega), if_pos (by omega), (hex_b y).2.1 _ (by omega), Option.bind_some]
  by_cases c : 0 ≤ hv x
  · rw [if_neg (by omega)]
    by_cases c2 : 0 ≤ hv y
    · have := (hex_b x).2.2.2
      have := (hex_b y).2.2.2
      rw [if_neg (by omega), if_pos ⟨c, c2⟩, w64 (x := 16 * hv x) (by omega) (by omega), w64 (by omega) (by omega)]
    · rw [if_pos (by omega), if_neg (fun h => c2 h.2)]
  · rw [if_pos (by omega), if_neg (fun h => c h.1)]
theorem byte_short (k : Nat) (pre : List UInt8) (r : List UInt8) (b : UInt8) (hl : (pre ++ b :: r).length ≤ 100000) (h : r.length < 2 ∨ b ≠ 37) : spec_l1Byte.f (k + 3) (tx (pre ++ b :: r)) (pre.length : Int) = some (-1) := by
  have e0 : bt (tx (pre ++ b :: r)) (pre.length : Int) = (b.toNat : Int) := bt_at pre _ b
  have hs : ((tx (pre ++ b :: r)).size : Int) = (pre.length : Int) + 1 + (r.length : Int) := by rw [tx_size]; simp; omega
  simp only [List.length_append, List.length_cons] at hl
  have w2 : wrap64 ((pre.length : Int) + 2) = (pre.length : Int) + 2 := w64 (by omega) (by omega)
  unfold spec_l1Byte.f
  rw [w2, hs]
  by_cases c : r.length < 2
  · rw [if_pos (by omega)]
    unfold spec_l1Byte.j0
    dsimp only
    rw [if_pos rfl]
  · have hb : b ≠ 37 := h.resolve_left c
    rw [if_neg (by omega), if_pos (by omega), if_pos (by omega), e0]
    unfold spec_l1Byte.j0
    dsimp only
    rw [if_pos (bne_iff_ne.mpr (fun hh => hb ((toNat_37 b).mp hh)))]
def pch (o : List UInt8) : List UInt8 → Bool
  | [] => true
  | b :: r => if b = 37 then (match r with | x :: y :: z => decide (0 ≤ hv x) && decide (0 ≤ hv y) && pch o z | _ => false) else okB o b && pch o r
theorem pch_ne (o : List UInt8) (b : UInt8) (r : List UInt8) (c : b ≠ 37) : pch o (b :: r) = (okB o b && pch o r) := by
  conv => lhs; unfold pch
  rw [if_neg c]
theorem pch_I (o : List UInt8) (ho : Oth o) : ∀ (n : Nat) (M pre : List UInt8) (K : Nat), M.length ≤ n → (pre ++ M).length ≤ 1000 → n + 2 ≤ K → impl_arePchars.l0 K (tx (pre ++ M)) (tx o) (pre.length : Int) = some (pch o M)
  | n, M, pre, 0, _, _, h => absurd h (by omega)
  | n, [], pre, K + 1, _, _, _ => by
    unfold impl_arePchars.l0 pch
    rw [tx_size, List.append_nil, if_neg (Int.lt_irrefl _)]
  | 0, b :: r, pre, K + 1, h, _, _ => absurd h (by simp)
  | n + 1, b :: r, pre, K + 1, h, hl, hK => by
    have hs : ((tx (pre ++ b :: r)).size : Int) = (pre.length : Int) + 1 + (r.length : Int) := by rw [tx_size]; simp; omega
    have e0 : bt (tx (pre ++ b :: r)) (pre.length : Int) = (b.toNat : Int) := bt_at pre _ b
    have hl2 : pre.length + (r.length + 1) ≤ 1000 := by simpa using hl
    have hr : r.length ≤ n := by simpa using h
    unfold impl_arePchars.l0
    rw [hs, e0, if_pos (by omega), if_pos (by omega)]
    by_cases c : b = 37
    · subst c
      rw [if_pos (show (((37 : UInt8).toNat : Nat) : Int) = 37 from rfl), if_pos (by omega), tx_tail]
      obtain ⟨K2, rfl⟩ : ∃ K2, K = K2 + 1 := ⟨K - 1, by omega⟩
      match r, h, hl, hl2, hr with
      | [], _, _, _, _ => rw [perc_short K2 _ (by simp), Option.bind_some, if_neg (by decide)]; rfl
      | [x], _, _, _, _ => rw [perc_short K2 _ (by simp), Option.bind_some, if_neg (by decide)]; rfl
      | x :: y :: z, _, hl, hl2, hr =>
        rw [perc_I, Option.bind_some]
        have e : pch o (37 :: x :: y :: z) = (decide (0 ≤ hv x) && decide (0 ≤ hv y) && pch o z) := rfl
        rw [e]
        by_cases c : 0 ≤ hv x ∧ 0 ≤ hv y
        · rw [if_pos c, if_pos rfl, decide_eq_true c.1, decide_eq_true c.2, Bool.true_and, Bool.true_and]
          simp only [List.length_cons] at hl2 hr
          rw [w64 (x := (pre.length : Int) + 2) (by omega) (by omega), w64 (by omega) (by omega)]
          have ih := pch_I o ho n z (pre ++ [37, x, y]) (K2 + 1) (by omega) (by simp; omega) (by omega)
          have e1 : pre ++ [37, x, y] ++ z = pre ++ 37 :: x :: y :: z := by simp
          have e2 : (((pre ++ [37, x, y]).length : Nat) : Int) = (pre.length : Int) + 2 + 1 := by simp; omega
          rw [e1, e2] at ih
          exact ih
        · rw [if_neg c, if_neg (by decide)]
          have : (decide (0 ≤ hv x) && decide (0 ≤ hv y)) = false := by
            rw [Bool.eq_false_iff]; simp only [ne_eq, Bool.and_eq_true, decide_eq_true_eq]; exact c
          rw [this, Bool.false_and]
    · have e : pch o (b :: r) = (okB o b && pch o r) := pch_ne o b r c
      rw [if_neg (fun hh => c ((toNat_37 b).mp hh)), e, tx_size, if_pos (by have := ho.sm; omega)]
      have ea : (⟨#[45, 46, 95, 126, 33, 36, 38, 39, 40, 41, 42, 43, 44, 59, 61, 58, 64]⟩ : ByteArray) ++ tx o = tx (pbase ++ o) := tx_app _ _
      rw [ea, ho.am b, Option.bind_some]
      cases okB o b with
      | false => rw [if_neg (by decide), Bool.false_and]
      | true =>
        rw [if_pos rfl, Bool.true_and, w64 (by omega) (by omega)]
        have ih := pch_I o ho n r (pre ++ [b]) K hr (by simp; omega) (by omega)
        have e1 : pre ++ [b] ++ r = pre ++ b :: r := by simp
        have e2 : (((pre ++ [b]).length : Nat) : Int) = (pre.length : Int) + 1 := by simp
        rw [e1, e2] at ih
        exact ih
theorem pch_S (o : List UInt8) (ho : Oth o) : ∀ (n : Nat) (M pre : List UInt8) (K : Nat), M.length ≤ n → (pre ++ M).length ≤ 1000 → 2 * n + 30 ≤ K → spec_l1Chars.l0 K (tx (pre ++ M)) (tx o) (pre.length : Int) = some (pch o M)
  | n, M, pre, 0, _, _, h => absurd h (by omega)
  | n, M, pre, 1, _, _, h => absurd h (by omega)
  | n, [], pre, K + 2, _, _, _ => by
    unfold spec_l1Chars.l0 pch
    rw [tx_size, List.append_nil, if_neg (Int.lt_irrefl _)]
  | 0, b :: r, pre, K + 2, h, _, _ => absurd h (by simp)
  | n + 1, b :: r, pre, K + 2, h, hl, hK => by
    have hs : ((tx (pre ++ b :: r)).size : Int) = (pre.length : Int) + 1 + (r.length : Int) := by rw [tx_size]; simp; omega
    have e0 : bt (tx (pre ++ b :: r)) (pre.length : Int) = (b.toNat : Int) := bt_at pre _ b
    have hl2 : pre.length + (r.length + 1) ≤ 1000 := by simpa using hl
    have hr : r.length ≤ n := by simpa using h
    obtain ⟨f, h1, h2, g1, g2, g3, g4⟩ := ho.sp b (K + 1) (by omega)
    have yes : okB o b = true → spec_l1Chars.j1 (K + 1) (tx (pre ++ b :: r)) (tx o) (pre.length : Int) true = some (pch o r) := fun hh => by
      unfold spec_l1Chars.j1
      rw [if_pos rfl, w64 (by omega) (by omega)]
      have ih := pch_S o ho n r (pre ++ [b]) K hr (by simp; omega) (by omega)
      have e1 : pre ++ [b] ++ r = pre ++ b :: r := by simp
      have e2 : (((pre ++ [b]).length : Nat) : Int) = (pre.length : Int) + 1 := by simp
      rw [e1, e2] at ih
      exact ih
    have no : okB o b = false → spec_l1Chars.j1 (K + 1) (tx (pre ++ b :: r)) (tx o) (pre.length : Int) false = some (pch o (b :: r)) := fun hh => by
      unfold spec_l1Chars.j1
      rw [if_neg (by decide)]
      obtain ⟨K3, rfl⟩ : ∃ K3, K = K3 + 3 := ⟨K - 3, by omega⟩
      by_cases c : b = 37
      · subst c
        match r, h, hl, hl2, hr with
        | [], _, hl, _, _ => rw [byte_short K3 pre _ 37 (by omega) (Or.inl (by simp)), Option.bind_some, if_pos (by decide)]; rfl
        | [x], _, hl, _, _ => rw [byte_short K3 pre _ 37 (by omega) (Or.inl (by simp)), Option.bind_some, if_pos (by decide)]; rfl
        | x :: y :: z, _, hl, hl2, hr =>
          rw [byte_S K3 pre x y z (by omega), Option.bind_some]
          have e : pch o (37 :: x :: y :: z) = (decide (0 ≤ hv x) && decide (0 ≤ hv y) && pch o z) := rfl
          rw [e]
          by_cases c : 0 ≤ hv x ∧ 0 ≤ hv y
          · rw [if_pos c, if_neg (by omega), decide_eq_true c.1, decide_eq_true c.2, Bool.true_and, Bool.true_and]
            simp only [List.length_cons] at hl2 hr
            rw [w64 (x := (pre.length : Int) + 2) (by omega) (by omega), w64 (by omega) (by omega)]
            have ih := pch_S o ho n z (pre ++ [37, x, y]) (K3 + 3) (by omega) (by simp; omega) (by omega)
            have e1 : pre ++ [37, x, y] ++ z = pre ++ 37 :: x :: y :: z := by simp
            have e2 : (((pre ++ [37, x, y]).length : Nat) : Int) = (pre.length : Int) + 2 + 1 := by simp; omega
            rw [e1, e2] at ih
            exact ih
          · rw [if_neg c, if_pos (by decide)]
            have : (decide (0 ≤ hv x) && decide (0 ≤ hv y)) = false := by
              rw [Bool.eq_false_iff]; simp only [ne_eq, Bool.and_eq_true, decide_eq_true_eq]; exact c
            rw [this, Bool.false_and]
      · have e : pch o (b :: r) = (okB o b && pch o r) := pch_ne o b r c
        rw [byte_short K3 pre r b (by omega) (Or.inr c), Option.bind_some, if_pos (by decide), e, hh, Bool.false_and]
    have key : ∀ v : Bool, v = okB o b → spec_l1Chars.j1 (K + 1) (tx (pre ++ b :: r)) (tx o) (pre.length : Int) v = some (pch o (b :: r)) := fun v hv' => by
      cases v with
      | true =>
        have c : b ≠ 37 := fun hh => by subst hh; rw [ho.pr] at hv'; cases hv'
        have e : pch o (b :: r) = (okB o b && pch o r) := pch_ne o b r c
        rw [yes hv'.symm, e, ← hv', Bool.true_and]
      | false => exact no hv'.symm
    unfold spec_l1Chars.l0
    rw [hs, e0, if_pos (by omega), if_pos (by omega), g1, Option.bind_some]
    cases f with
    | true => rw [if_pos rfl]; exact key true (by rw [← g4]; simp)
    | false =>
      rw [if_neg (by decide), g2, Option.bind_some]
      cases h1 with
      | true => rw [if_pos rfl]; exact key true (by rw [← g4]; simp)
      | false =>
        rw [if_neg (by decide), g3, Option.bind_some]
        exact key h2 (by rw [← g4]; simp)

/-! ### The address's text and whether it is good -/
theorem tx_toList (l : List UInt8) : (tx l).toList = l := by rw [ByteArray.toList_eq]
def portL (n : Int) : List UInt8 := if n = 0 then [] else 58 :: Lib.itoa n
def askL (q : List UInt8) (a : Bool) : List UInt8 := if a = true then 63 :: q else []
def textL (S H : List UInt8) (n : Int) (P Q : List UInt8) (a : Bool) : List UInt8 := S ++ ([58, 47, 47] ++ (H ++ (portL n ++ (P ++ askL Q a))))
theorem itoa_len (n : Int) (h0 : 0 ≤ n) (h1 : n < 1000000) : (Lib.itoa n).length ≤ 6 := by
  obtain ⟨u, rfl⟩ : ∃ u : Nat, n = (u : Int) := ⟨n.toNat, by omega⟩
  rw [Lib.itoa_nonneg]
  exact dec_len u 5 (by omega)
theorem itoa_f (n : Int) (h0 : 0 ≤ n) (h1 : n < 1000000) : strconv_Itoa.f n = some (tx (Lib.itoa n)) := by
  unfold strconv_Itoa.f
  rw [if_pos h0, if_pos h1]
theorem num_u : ∀ (k u : Nat), u < 10 ^ (k + 1) → u < 1000000 → spec_l1Num.f (k + 1) (u : Int) = some (tx (Lib.decDigits u))
  | k, u, h, h2 => by
    unfold spec_l1Num.f Lib.decDigits
    by_cases c : u < 10
    · rw [if_pos (by omega), dif_pos c, w64 (by omega) (by omega)]
      have : ((48 + (u : Int)) % 256).toNat = 48 + u := by omega
      show some (tx [UInt8.ofNat ((48 + (u : Int)) % 256).toNat]) = _
      rw [this]
    · rw [if_neg (by omega), dif_neg c]
      have e1 : Int.tdiv (u : Int) 10 = ((u / 10 : Nat) : Int) := by rw [Int.tdiv_eq_ediv_of_nonneg (by omega)]; omega
      have e2 : Int.tmod (u : Int) 10 = ((u % 10 : Nat) : Int) := by rw [Int.tmod_eq_emod_of_nonneg (by omega)]; omega
      rw [e1, e2, w64 (by omega) (by omega), w64 (by omega) (by omega)]
      match k, h with
      | 0, h => exact absurd h (by omega)
      | k + 1, h =>
        rw [num_u k (u / 10) (by rw [Nat.pow_succ] at h; omega) (by omega), Option.bind_some, Option.bind_some]
        have : ((48 + ((u % 10 : Nat) : Int)) % 256).toNat = 48 + u % 10 := by omega
        have e3 : strOfNums [(48 + ((u % 10 : Nat) : Int)) % 256] = tx [UInt8.ofNat (48 + u % 10)] := by
          show tx [UInt8.ofNat ((48 + ((u % 10 : Nat) : Int)) % 256).toNat] = _
          rw [this]
        have hl := dec_len (u / 10) 5 (by omega)
        rw [e3, tx_size, tx_size, if_pos (by simp; omega), tx_app]
theorem num_f (k : Nat) (n : Int) (h0 : 0 ≤ n) (h1 : n < 1000000) : spec_l1Num.f (k + 6) n = some (tx (Lib.itoa n)) := by
  obtain ⟨u, rfl⟩ : ∃ u : Nat, n = (u : Int) := ⟨n.toNat, by omega⟩
  rw [Lib.itoa_nonneg]
  exact num_u (k + 5) u (Nat.lt_of_lt_of_le (show u < 10 ^ 6 by omega) (Nat.pow_le_pow_right (by decide) (by omega))) (by omega)
theorem text_I (S H : List UInt8) (n : Int) (P Q : List UInt8) (a : Bool) (hS : S.length ≤ 1000) (hH : H.length ≤ 1000) (hP : P.length ≤ 1000) (hQ : Q.length ≤ 1000) (h0 : 0 ≤ n) (h1 : n < 1000000) : impl_urlText.f (tx S) (tx H) n (tx P) (tx Q) a = some (tx (textL S H n P Q a)) := by
  have hl := itoa_len n h0 h1
  have e1 : (⟨#[58, 47, 47]⟩ : ByteArray) = tx [58, 47, 47] := rfl
  have e2 : (⟨#[58]⟩ : ByteArray) = tx [58] := rfl
  have e3 : (⟨#[63]⟩ : ByteArray) = tx [63] := rfl
  unfold impl_urlText.f textL portL askL
  rw [e1, e2, e3, itoa_f n h0 h1]
  simp only [Option.bind_some]
  generalize Lib.itoa n = I at hl ⊢
  by_cases c : n = 0
  · rw [if_pos c, if_pos c]
    cases a <;> simp [tx_app, tx_size] <;> omega
  · rw [if_neg c, if_neg c]
    cases a <;> simp [tx_app, tx_size] <;> omega
theorem text_S (k : Nat) (S H : List UInt8) (n : Int) (P Q : List UInt8) (a : Bool) (hS : S.length ≤ 1000) (hH : H.length ≤ 1000) (hP : P.length ≤ 1000) (hQ : Q.length ≤ 1000) (h0 : 0 ≤ n) (h1 : n < 1000000) : spec_l1Text.f (k + 6) (tx S) (tx H) n (tx P) (tx Q) a = some (tx (textL S H n P Q a)) := by
  have hl := itoa_len n h0 h1
  have e1 : (⟨#[58, 47, 47]⟩ : ByteArray) = tx [58, 47, 47] := rfl
  have e2 : (⟨#[58]⟩ : ByteArray) = tx [58] := rfl
  have e3 : (⟨#[63]⟩ : ByteArray) = tx [63] := rfl
  unfold spec_l1Text.f textL portL askL
  rw [e1, e2, e3, num_f k n h0 h1]
  simp only [Option.bind_some]
  generalize Lib.itoa n = I at hl ⊢
  by_cases c : n = 0
  · rw [if_pos c, if_pos c]
    cases a <;> simp [tx_app, tx_size] <;> omega
  · rw [if_neg c, if_neg c]
    cases a <;> simp [tx_app, tx_size] <;> omega
theorem within_f (x a b : Int) : impl_within.f x a b = some (decide (a ≤ x) && decide (x ≤ b)) := by
  unfold impl_within.f
  by_cases c : a ≤ x
  · rw [if_pos c, decide_eq_true c, Bool.true_and]
  · rw [if_neg c, decide_eq_false c, Bool.false_and]
theorem in_f (x a b : Int) : spec_l1In.f x a b = some (decide (a ≤ x) && decide (x ≤ b)) := by
  unfold spec_l1In.f
  by_cases c : a ≤ x
  · rw [if_pos c, decide_eq_true c, Bool.true_and]
  · rw [if_neg c, decide_eq_false c, Bool.false_and]
theorem idxO_mem {α : Type} (p : α → Option Bool) (q : α → Bool) (l : List α) (h : ∀ x ∈ l, p x = some (!q x)) : ∀ (n : Int), 0 ≤ n → ∃ i, idxO p l n = some i ∧ (!decide (i ≥ 0)) = l.all q := by
  induction l with
  | nil => intro n hn; exact ⟨-1, rfl, rfl⟩
  | cons x xs ih =>
    intro n hn
    unfold idxO
    rw [h x List.mem_cons_self, Option.bind_some]
    cases hq : q x with
    | true =>
      obtain ⟨i, h1, h2⟩ := ih (fun y hy => h y (List.mem_cons_of_mem _ hy)) (n + 1) (by omega)
      exact ⟨i, h1, by rw [h2, List.all_cons, hq, Bool.true_and]⟩
    | false => exact ⟨n, rfl, by rw [List.all_cons, hq, Bool.false_and, decide_eq_true (show n ≥ 0 from hn)]; rfl⟩
theorem bytes_tx (l : List UInt8) : bytesOf (tx l) = l.map fun b => (b.toNat : Int) := rfl
theorem host_I (H : List UInt8) (h : H.length ≤ 1000) : xBytes_impl_GoodUrl_1.f (tx H) = some (H.all hostB) := by
  unfold xBytes_impl_GoodUrl_1.f xAll_u8_impl_GoodUrl_1.f
  rw [tx_size, if_pos (by omega), bytes_tx, if_pos (by rw [List.length_map]; omega)]
  obtain ⟨i, e, g⟩ := idxO_mem xAll_u8_impl_GoodUrl_1.z (fun x => hostB (UInt8.ofNat x.toNat)) (H.map fun b => (b.toNat : Int)) (fun x hx => by
    obtain ⟨b, _, rfl⟩ := List.mem_map.mp hx
    unfold xAll_u8_impl_GoodUrl_1.z
    rw [(host_b b).1, Option.bind_some, Int.toNat_natCast, UInt8.ofNat_toNat]) 0 (by decide)
  rw [e, Option.bind_some, g, List.all_map]
  have e2 : ((fun x : Int => hostB (UInt8.ofNat x.toNat)) ∘ fun b : UInt8 => (b.toNat : Int)) = hostB := by
    funext b
    show hostB (UInt8.ofNat ((b.toNat : Int)).toNat) = hostB b
    rw [Int.toNat_natCast, UInt8.ofNat_toNat]
  rw [e2]
theorem host_S : ∀ (M pre : List UInt8) (K : Nat), (pre ++ M).length ≤ 1000 → M.length < K → spec_l1Host.l0 K (tx (pre ++ M)) (pre.length : Int) = some (M.all hostB && (decide (1 ≤ (((pre ++ M).length : Nat) : Int)) && decide ((((pre ++ M).length : Nat) : Int) ≤ 60)))
  | M, pre, 0, _, h => absurd h (by omega)
  | [], pre, K + 1, hl, _ => by
    unfold spec_l1Host.l0
    rw [tx_size, List.append_nil, if_neg (Int.lt_irrefl _), in_f, Option.bind_some]
    rfl
  | b :: r, pre, K + 1, hl, hK => by
    have hs : ((tx (pre ++ b :: r)).size : Int) = (pre.length : Int) + 1 + (r.length : Int) := by rw [tx_size]; simp; omega
    have e0 : bt (tx (pre ++ b :: r)) (pre.length : Int) = (b.toNat : Int) := bt_at pre _ b
    have hl2 : pre.length + (r.length + 1) ≤ 1000 := by simpa using hl
    have ih := host_S r (pre ++ [b]) K (by simp; omega) (by simp at hK; omega)
    have e1 : pre ++ [b] ++ r = pre ++ b :: r := by simp
    have e2 : (((pre ++ [b]).length : Nat) : Int) = (pre.length : Int) + 1 := by simp
    rw [e1, e2] at ih
    unfold spec_l1Host.l0
    rw [hs, e0, if_pos (by omega), if_pos (by omega), (host_b b).2.1, (host_b b).2.2.1, Option.bind_some, Option.bind_some, w64 (by omega) (by omega), ih, List.all_cons]
    have n45 : ((b.toNat : Int) = 45) = (b = 45) := propext ⟨fun h => UInt8.toNat_inj.mp (by show b.toNat = 45; omega), fun h => by subst h; rfl⟩
    have n46 : ((b.toNat : Int) = 46) = (b = 46) := propext ⟨fun h => UInt8.toNat_inj.mp (by show b.toNat = 46; omega), fun h => by subst h; rfl⟩
    simp only [n45, n46]
    unfold hostB
    cases isLB b with
    | true => rw [if_pos rfl]; simp
    | false =>
      rw [if_neg (by decide)]
      cases isDB b with
      | true => rw [if_pos rfl]; simp
      | false =>
        rw [if_neg (by decide)]
        by_cases c : b = 45
        · rw [if_pos c, c]; simp
        · rw [if_neg c]
          by_cases c2 : b = 46
          · rw [if_pos c2, c2]; simp
          · rw [if_neg c2, beq_eq_false_iff_ne.mpr c, beq_eq_false_iff_ne.mpr c2]; rfl
theorem ite_and (A : Bool) (x : Option Bool) (B : Bool) (h : A = true → x = some B) : (if A = true then x else some false) = some (A && B) := by
  cases A with
  | true => rw [if_pos rfl, h rfl]; rfl
  | false => rfl
def slash (P : List UInt8) : Bool := match P with | b :: _ => b == 47 | [] => false
def tailB (S H : List UInt8) (n : Int) (P Q : List UInt8) (a : Bool) : Bool := pch [47] P && (pch [47, 63] Q && ((a || Q.isEmpty) && decide ((textL S H n P Q a).length ≤ 200)))
def schB (S : List UInt8) : Bool := decide (S = [104, 116, 116, 112]) || decide (S = [104, 116, 116, 112, 115])
def goodL (S H : List UInt8) (n : Int) (P Q : List UInt8) (a : Bool) : Bool := schB S && ((decide (1 ≤ (H.length : Int)) && decide ((H.length : Int) ≤ 60)) && (H.all hostB && ((decide (0 ≤ n) && decide (n ≤ 65535)) && (slash P && tailB S H n P Q a))))
theorem prefix_f (P : List UInt8) (h : P.length ≤ 1000) : strings_HasPrefix.f (tx P) (⟨#[47]⟩ : ByteArray) = some (slash P) := by
  unfold strings_HasPrefix.f stringslite_HasPrefix.f
  have e : (⟨#[47]⟩ : ByteArray) = tx [47] := rfl
  rw [e, tx_size, tx_size, tx_toList [47]]
  cases P with
  | nil => rw [if_neg (by decide), Option.bind_some]; rfl
  | cons b r =>
    rw [if_pos (by simp; omega), if_pos (by decide), if_pos (by simp; omega), Option.bind_some, tx_cut, tx_toList]
    have : ((b :: r).drop 0).take (((([47] : List UInt8).length : Nat) : Int).toNat - 0) = [b] := rfl
    rw [this]
    unfold slash
    dsimp only
    by_cases c : b = 47
    · rw [c]; rfl
    · rw [beq_eq_false_iff_ne.mpr c, beq_eq_false_iff_ne.mpr (fun hh => c (by injection hh))]
theorem good_tail (k : Nat) (S H : List UInt8) (n : Int) (P Q : List UInt8) (a : Bool) (x : Option ByteArray) (hx : x = some (tx (textL S H n P Q a))) : (if a = true then x.bind (fun t => some (decide ((t.size : Int) ≤ 200))) else if (tx Q).toList = [] then x.bind (fun t => some (decide ((t.size : Int) ≤ 200))) else some false) = some ((a || Q.isEmpty) && decide ((textL S H n P Q a).length ≤ 200)) := by
  subst hx
  rw [Option.bind_some, tx_size, tx_toList]
  have e : decide ((((textL S H n P Q a).length : Nat) : Int) ≤ 200) = decide ((textL S H n P Q a).length ≤ 200) := by congr 1; exact propext ⟨fun h => by omega, fun h => by omega⟩
  rw [e]
  cases a with
  | true => rw [if_pos rfl]; rfl
  | false =>
    rw [if_neg (by decide)]
    cases Q with
    | nil => rw [if_pos rfl]; rfl
    | cons b r => rw [if_neg (by simp)]; rfl
theorem good_I (k : Nat) (S H : List UInt8) (n : Int) (P Q : List UInt8) (a : Bool) (hS : S.length ≤ 1000) (hH : H.length ≤ 1000) (hP : P.length ≤ 1000) (hQ : Q.length ≤ 1000) (hk : 1002 ≤ k) : impl_GoodUrl.f k (tx S) (tx H) n (tx P) (tx Q) a = some (goodL S H n P Q a) := by
  have cP : impl_arePchars.f k (tx P) (⟨#[47]⟩ : ByteArray) = some (pch [47] P) := pch_I [47] oth_path P.length P [] k (Nat.le_refl _) hP (by omega)
  have cQ : impl_arePchars.f k (tx Q) (⟨#[47, 63]⟩ : ByteArray) = some (pch [47, 63] Q) := pch_I [47, 63] oth_query Q.length Q [] k (Nat.le_refl _) hQ (by omega)
  unfold impl_GoodUrl.f goodL
  rw [tx_toList, cP, cQ, host_I H hH, prefix_f P hP, within_f, within_f, tx_size]
  simp only [Option.bind_some]
  unfold schB
  by_cases c1 : S = [104, 116, 116, 112]
  · rw [if_pos c1, decide_eq_true c1, Bool.true_or, Bool.true_and]
    refine ite_and _ _ _ fun _ => ite_and _ _ _ fun _ => ite_and _ _ _ fun hn => ite_and _ _ _ fun _ => ite_and _ _ _ fun _ => ite_and _ _ _ fun _ => ?_
    simp only [Bool.and_eq_true, decide_eq_true_eq] at hn
    exact good_tail k S H n P Q a _ (text_I S H n P Q a hS hH hP hQ hn.1 (by omega))
  · rw [if_neg c1, decide_eq_false c1, Bool.false_or]
    by_cases c2 : S = [104, 116, 116, 112, 115]
    · rw [if_pos c2, decide_eq_true c2, Bool.true_and]
      refine ite_and _ _ _ fun _ => ite_and _ _ _ fun _ => ite_and _ _ _ fun hn => ite_and _ _ _ fun _ => ite_and _ _ _ fun _ => ite_and _ _ _ fun _ => ?_
      simp only [Bool.and_eq_true, decide_eq_true_eq] at hn
      exact good_tail k S H n P Q a _ (text_I S H n P Q a hS hH hP hQ hn.1 (by omega))
    · rw [if_neg c2, decide_eq_false c2, Bool.false_and]
theorem good_S (k : Nat) (S H : List UInt8) (n : Int) (P Q : List UInt8) (a : Bool) (hS : S.length ≤ 1000) (hH : H.length ≤ 1000) (hP : P.length ≤ 1000) (hQ : Q.length ≤ 1000) (hk : 3002 ≤ k) : spec_GoodUrl.f k (tx S) (tx H) n (tx P) (tx Q) a = some (goodL S H n P Q a) := by
  obtain ⟨m, rfl⟩ : ∃ m, k = m + 1 := ⟨k - 1, by omega⟩
  have cP : spec_l1Chars.f m (tx P) (⟨#[47]⟩ : ByteArray) = some (pch [47] P) := pch_S [47] oth_path P.length P [] m (Nat.le_refl _) hP (by omega)
  have cQ : spec_l1Chars.f m (tx Q) (⟨#[47, 63]⟩ : ByteArray) = some (pch [47, 63] Q) := pch_S [47, 63] oth_query Q.length Q [] m (Nat.le_refl _) hQ (by omega)
  have cH : spec_l1Host.f (m + 1) (tx H) = some (H.all hostB && (decide (1 ≤ (H.length : Int)) && decide ((H.length : Int) ≤ 60))) := host_S H [] (m + 1) hH (by omega)
  have jt : spec_GoodUrl.j0 (m + 1) true (tx S) (tx H) n (tx P) (tx Q) a = some false := rfl
  have jf : 0 ≤ n → n ≤ 65535 → spec_GoodUrl.j0 (m + 1) false (tx S) (tx H) n (tx P) (tx Q) a = some (tailB S H n P Q a) := fun h0 h1 => by
    unfold spec_GoodUrl.j0 tailB
    dsimp only
    rw [if_neg (by decide), cP, cQ]
    simp only [Option.bind_some]
    obtain ⟨m2, rfl⟩ : ∃ m2, m = m2 + 6 := ⟨m - 6, by omega⟩
    exact ite_and _ _ _ fun _ => ite_and _ _ _ fun _ => good_tail 0 S H n P Q a _ (text_S m2 S H n P Q a hS hH hP hQ h0 (by omega))
  unfold spec_GoodUrl.f goodL
  rw [tx_toList, cH, in_f]
  simp only [Option.bind_some]
  have slashV : (0 ≤ n → n ≤ 65535 → (if ((tx P).size : Int) = 0 then spec_GoodUrl.j0 (m + 1) true (tx S) (tx H) n (tx P) (tx Q) a else if 0 < ((tx P).size : Int) then spec_GoodUrl.j0 (m + 1) (bt (tx P) 0 != 47) (tx S) (tx H) n (tx P) (tx Q) a else none) = some (slash P && tailB S H n P Q a)) := fun h0 h1 => by
    cases P with
    | nil => rw [if_pos (by rfl), jt]; rfl
    | cons b r =>
      have e0 : bt (tx (b :: r)) 0 = (b.toNat : Int) := bt_tx (b :: r) 0 (by simp)
      rw [tx_size, if_neg (by rw [List.length_cons]; omega), if_pos (by rw [List.length_cons]; omega), e0]
      unfold slash
      dsimp only
      by_cases c : b = 47
      · subst c
        rw [show ((((47 : UInt8).toNat : Nat) : Int) != 47) = false by decide, jf h0 h1]; rfl
      · have : ((b.toNat : Int) != 47) = true := bne_iff_ne.mpr fun hh => c (UInt8.toNat_inj.mp (by show b.toNat = 47; omega))
        rw [this, jt]
        show _ = some ((b == 47) && _)
        rw [beq_eq_false_iff_ne.mpr c, Bool.false_and]
  have main : (if (H.all hostB && (decide (1 ≤ (H.length : Int)) && decide ((H.length : Int) ≤ 60))) = true then (if (decide (0 ≤ n) && decide (n ≤ 65535)) = true then (if ((tx P).size : Int) = 0 then spec_GoodUrl.j0 (m + 1) true (tx S) (tx H) n (tx P) (tx Q) a else if 0 < ((tx P).size : Int) then spec_GoodUrl.j0 (m + 1) (bt (tx P) 0 != 47) (tx S) (tx H) n (tx P) (tx Q) a else none) else spec_GoodUrl.j0 (m + 1) true (tx S) (tx H) n (tx P) (tx Q) a) else spec_GoodUrl.j0 (m + 1) true (tx S) (tx H) n (tx P) (tx Q) a) = some ((decide (1 ≤ (H.length : Int)) && decide ((H.length : Int) ≤ 60)) && (H.all hostB && ((decide (0 ≤ n) && decide (n ≤ 65535)) && (slash P && tailB S H n P Q a)))) := by
    rw [jt] at slashV ⊢
    rw [ite_and (decide (0 ≤ n) && decide (n ≤ 65535)) _ (slash P && tailB S H n P Q a) fun hn => by
      simp only [Bool.and_eq_true, decide_eq_true_eq] at hn
      exact slashV hn.1 hn.2, ite_and _ _ _ fun _ => rfl]
    generalize H.all hostB = A
    generalize (decide (1 ≤ (H.length : Int)) && decide ((H.length : Int) ≤ 60)) = B
    cases A <;> cases B <;> rfl
  unfold schB
  by_cases c1 : S = [104, 116, 116, 112]
  · rw [if_pos c1, decide_eq_true c1, Bool.true_or, Bool.true_and]
    exact main
  · rw [if_neg c1, decide_eq_false c1, Bool.false_or]
    by_cases c2 : S = [104, 116, 116, 112, 115]
    · rw [if_pos c2, decide_eq_true c2, Bool.true_and]
      exact main
    · rw [if_neg c2, decide_eq_false c2, Bool.false_and]
      exact jt

/-! ### The address out of its text -/
theorem pch_no (o : List UInt8) (c : UInt8) (h1 : okB o c = false) (h2 : c ≠ 37) (h3 : hv c < 0) : ∀ (n : Nat) (M : List UInt8), M.length ≤ n → pch o M = true → c ∉ M
  | _, [], _, _ => by simp
  | 0, b :: r, h, _ => absurd h (by simp)
  | n + 1, b :: r, h, hp => by
    by_cases e : b = 37
    · subst e
      match r, h, hp with
      | [], _, hp => cases hp
      | [x], _, hp => cases hp
      | x :: y :: z, h, hp =>
        have e : pch o (37 :: x :: y :: z) = (decide (0 ≤ hv x) && decide (0 ≤ hv y) && pch o z) := rfl
        rw [e] at hp
        simp only [Bool.and_eq_true, decide_eq_true_eq] at hp
        have ih := pch_no o c h1 h2 h3 n z (by simp at h; omega) hp.2
        intro hm
        rcases List.mem_cons.mp hm with hm | hm
        · exact h2 hm
        rcases List.mem_cons.mp hm with hm | hm
        · subst hm; omega
        rcases List.mem_cons.mp hm with hm | hm
        · subst hm; omega
        · exact ih hm
    · rw [pch_ne o b r e, Bool.and_eq_true] at hp
      have ih := pch_no o c h1 h2 h3 n r (by simp at h; omega) hp.2
      intro hm
      rcases List.mem_cons.mp hm with hm | hm
      · subst hm; rw [h1] at hp; cases hp.1
      · exact ih hm
theorem host_no (c : UInt8) (h1 : hostB c = false) (H : List UInt8) (h : H.all hostB = true) : c ∉ H := fun hm => by
  have := List.all_eq_true.mp h c hm
  rw [h1] at this; cases this
theorem itoa_no (c : UInt8) (hc : c.toNat < 48 ∨ 57 < c.toNat) (n : Int) (h0 : 0 ≤ n) : c ∉ Lib.itoa n := fun hm => by
  obtain ⟨u, rfl⟩ : ∃ u : Nat, n = (u : Int) := ⟨n.toNat, by omega⟩
  rw [Lib.itoa_nonneg] at hm
  have := dec_digs u c hm
  omega
theorem port_no (c : UInt8) (hc : c.toNat < 48 ∨ 57 < c.toNat) (h58 : c ≠ 58) (n : Int) (h0 : 0 ≤ n) : c ∉ portL n := by
  unfold portL
  split
  · simp
  · intro hm
    rcases List.mem_cons.mp hm with hm | hm
    · exact h58 hm
    · exact itoa_no c hc n h0 hm
theorem indexB_at (c : UInt8) (r : List UInt8) : ∀ l : List UInt8, c ∉ l → Lib.indexByte (l ++ c :: r) c = (l.length : Int)
  | [], _ => by simp [Lib.indexByte]
  | b :: l, h => by
    have hb : (b == c) = false := beq_eq_false_iff_ne.mpr fun e => h (e ▸ List.mem_cons_self ..)
    have ih := indexB_at c r l fun hh => h (List.mem_cons_of_mem _ hh)
    show Lib.indexByte (b :: (l ++ c :: r)) c = _
    unfold Lib.indexByte
    rw [ih, hb, if_neg (by decide)]
    have : ((l.length : Int) == -1) = false := beq_eq_false_iff_ne.mpr (by omega)
    rw [this, if_neg (by decide)]; simp
theorem cut_f (T sep a b : List UInt8) (f : Bool) (h : T.length ≤ 100000) (hc : Lib.cut T sep = (a, b, f)) : strings_Cut.f (tx T) (tx sep) = some (tx a, tx b, f) := by
  unfold strings_Cut.f
  rw [tx_size, if_pos (by omega), tx_list, tx_list, hc]
theorem number_f (n : Int) (h0 : 0 ≤ n) (h1 : n < 1000000) : impl_number.f (tx (Lib.itoa n)) = some (n, true) := by
  have hl := itoa_len n h0 h1
  have hb : Lib.atoi (Lib.itoa n) = some n := by
    obtain ⟨u, rfl⟩ : ∃ u : Nat, n = (u : Int) := ⟨n.toNat, by omega⟩
    rw [Lib.itoa_nonneg]
    exact atoi_back u
  unfold impl_number.f
  rw [tx_size, if_pos (by omega), tx_list, hb]
  dsimp only
  rw [if_pos h0, if_pos h1, decide_eq_true rfl]
theorem read_f (k : Nat) (S H : List UInt8) (n : Int) (P Q : List UInt8) (a : Bool) (hS : S.length ≤ 1000) (hH : H.length ≤ 1000) (hP : P.length ≤ 1000) (hQ : Q.length ≤ 1000) (hk : 1010 ≤ k) (hg : goodL S H n P Q a = true) :
    impl_ReadUrl.f k (tx (textL S H n P Q a)) = some (tx S, tx H, n, tx P, tx Q, a, true) := by
  have hgI := fun k hk => good_I k S H n P Q a hS hH hP hQ hk
  rw [hg] at hgI
  unfold goodL tailB at hg
  simp only [Bool.and_eq_true, decide_eq_true_eq] at hg
  obtain ⟨hsch, _, hH2, ⟨hn0, hn1⟩, hsl, hpP, hpQ, haq, hlen⟩ := hg
  have p63 : (63 : UInt8) ∉ H ++ portL n ++ P := by
    intro hm
    rcases List.mem_append.mp hm with hm | hm
    · rcases List.mem_append.mp hm with hm | hm
      · exact host_no 63 (by decide) H hH2 hm
      · exact port_no 63 (by decide) (by decide) n hn0 hm
    · exact pch_no [47] 63 (by decide) (by decide) (by decide +kernel) P.length P (Nat.le_refl _) hpP hm
  have p47 : (47 : UInt8) ∉ H ++ portL n := by
    intro hm
    rcases List.mem_append.mp hm with hm | hm
    · exact host_no 47 (by decide) H hH2 hm
    · exact port_no 47 (by decide) (by decide) n hn0 hm
  have p58 : (58 : UInt8) ∉ H := host_no 58 (by decide) H hH2
  obtain ⟨P2, rfl⟩ : ∃ P2, P = 47 :: P2 := by
    unfold slash at hsl
    cases P with
    | nil => cases hsl
    | cons b r => exact ⟨r, by rw [beq_iff_eq.mp hsl]⟩
  have hpl : (portL n).length ≤ 7 := by
    unfold portL
    have := itoa_len n hn0 (by omega)
    split
    · simp
    · simp; omega
  have hal : (askL Q a).length ≤ 1001 := by unfold askL; split <;> simp; omega
  obtain ⟨R, hR⟩ : ∃ R, R = H ++ (portL n ++ (47 :: P2 ++ askL Q a)) := ⟨_, rfl⟩
  have hRl : R.length ≤ 4000 := by rw [hR]; simp only [List.length_append]; omega
  have c1 : Lib.cut (textL S H n (47 :: P2) Q a) [58, 47, 47] = (S, R, true) := by
    have ht : textL S H n (47 :: P2) Q a = S ++ ([58, 47, 47] ++ R) := by rw [hR]; rfl
    rw [ht]
    unfold schB at hsch
    simp only [Bool.or_eq_true, decide_eq_true_eq] at hsch
    rcases hsch with rfl | rfl
    · exact cut_http R
    · exact cut_https R
  have c2 : Lib.cut R [63] = (H ++ portL n ++ 47 :: P2, Q, a) := by
    rw [hR]
    unfold askL
    cases a with
    | true =>
      rw [if_pos rfl]
      have : H ++ (portL n ++ (47 :: P2 ++ 63 :: Q)) = (H ++ portL n ++ 47 :: P2) ++ 63 :: Q := by simp
      rw [this]
      exact cut_at 63 _ _ p63
    | false =>
      rw [if_neg (by decide)]
      have hq : Q = [] := by simpa using haq
      have : H ++ (portL n ++ (47 :: P2 ++ [])) = (H ++ portL n ++ 47 :: P2) := by simp
      rw [this, hq]
      exact cut_none 63 _ p63
  have i1 : Lib.indexByte (H ++ portL n ++ 47 :: P2) 47 = ((H ++ portL n).length : Int) := indexB_at 47 P2 _ p47
  obtain ⟨m, rfl⟩ : ∃ m, k = m + 4 := ⟨k - 4, by omega⟩
  have hBl : (H ++ portL n ++ 47 :: P2).length ≤ 4000 := by simp only [List.length_append]; omega
  have j3 : impl_ReadUrl.j3 (m + 1) n false (tx S) (tx H) 0 (tx (47 :: P2)) (tx Q) a = some (tx S, tx H, n, tx (47 :: P2), tx Q, a, true) := by
    unfold impl_ReadUrl.j3
    dsimp only
    rw [if_neg (by decide), hgI m (by omega), Option.bind_some, if_pos rfl]
  have j2 : impl_ReadUrl.j2 (m + 2) (tx (H ++ portL n)) (tx S) (⟨#[]⟩ : ByteArray) 0 (tx (47 :: P2)) (tx Q) a = some (tx S, tx H, n, tx (47 :: P2), tx Q, a, true) := by
    unfold impl_ReadUrl.j2
    dsimp only
    have e58 : (⟨#[58]⟩ : ByteArray) = tx [58] := rfl
    rw [e58]
    by_cases c : n = 0
    · have : portL n = [] := by unfold portL; rw [if_pos c]
      rw [this, List.append_nil, cut_f H [58] H [] false (by omega) (cut_none 58 H p58), Option.bind_some]
      dsimp only
      rw [if_neg (by decide)]
      have := hgI (m + 1) (by omega)
      rw [c] at this ⊢
      rw [this, Option.bind_some, if_pos rfl]
    · have : portL n = 58 :: Lib.itoa n := by unfold portL; rw [if_neg c]
      have hl2 : (H ++ 58 :: Lib.itoa n).length ≤ 100000 := by rw [← this]; simp only [List.length_append]; omega
      rw [this, cut_f _ [58] H (Lib.itoa n) true hl2 (cut_at 58 H _ p58), Option.bind_some]
      dsimp only
      rw [if_pos rfl, number_f n hn0 (by omega), Option.bind_some]
      dsimp only
      rw [if_pos rfl, beq_eq_false_iff_ne.mpr c, j3]
  have j1 : impl_ReadUrl.j1 (m + 3) (tx (H ++ portL n)) (tx S) (⟨#[]⟩ : ByteArray) 0 (tx (47 :: P2)) (tx Q) a = some (tx S, tx H, n, tx (47 :: P2), tx Q, a, true) := by
    unfold impl_ReadUrl.j1
    dsimp only
    rw [tx_toList, if_neg (by simp), j2]
  unfold impl_ReadUrl.f
  have e1 : (⟨#[58, 47, 47]⟩ : ByteArray) = tx [58, 47, 47] := rfl
  have e63 : (⟨#[63]⟩ : ByteArray) = tx [63] := rfl
  rw [e1, cut_f _ _ S R true (by omega) c1, Option.bind_some]
  dsimp only
  rw [if_pos rfl, tx_size, decide_eq_false (by omega)]
  unfold impl_ReadUrl.j0
  dsimp only
  rw [if_neg (by decide), e63, cut_f R [63] _ _ _ (by omega) c2, Option.bind_some]
  dsimp only
  have i2 : index_byte_in.f (tx (H ++ portL n ++ 47 :: P2)) 47 = some ((H ++ portL n).length : Int) := by
    unfold index_byte_in.f strings_IndexByte.f
    rw [tx_list]
    have : ((47 : Int).toNat).toUInt8 = 47 := by decide
    rw [this, i1]
  rw [i2, Option.bind_some, if_pos (by omega), if_pos (by omega), tx_size, if_pos (by simp only [List.length_append]; omega), tx_cut, tx_cut]
  have t1 : ((H ++ portL n ++ 47 :: P2).drop 0).take (((H ++ portL n).length : Int).toNat - 0) = H ++ portL n := by
    rw [List.drop_zero, Int.toNat_natCast, Nat.sub_zero, List.take_left]
  have t2 : ((H ++ portL n ++ 47 :: P2).drop ((H ++ portL n).length : Int).toNat).take ((H ++ portL n ++ 47 :: P2).length - ((H ++ portL n).length : Int).toNat) = 47 :: P2 := by
    rw [Int.toNat_natCast, List.drop_left, List.take_of_length_le (by simp only [List.length_append]; omega)]
  rw [t1, t2]
  exact j1

/-! ### Bytes as percents, and back -/
abbrev nums (l : List UInt8) : List Int := l.map fun b => (b.toNat : Int)
theorem son_nums (l : List UInt8) : strOfNums (nums l) = tx l := by
  apply ByteArray.ext
  apply Array.toList_inj.mp
  simp [strOfNums]
  exact (List.map_congr_left (g := id) (fun b _ => by simp)).trans (List.map_id _)
def hexD (i : Nat) : UInt8 := ([48, 49, 50, 51, 52, 53, 54, 55, 56, 57, 65, 66, 67, 68, 69, 70] : List UInt8).getD i 48
def enc3 (b : UInt8) : List UInt8 := [37, hexD (b.toNat / 16), hexD (b.toNat % 16)]
def encP (b : UInt8) : Bool := decide (impl_encoded.f (b.toNat : Int) = some (tx (enc3 b))) && decide (spec_l1Percent.f (b.toNat : Int) = some (tx (enc3 b))) && decide (0 ≤ hv (hexD (b.toNat / 16))) && decide (0 ≤ hv (hexD (b.toNat % 16))) && decide (16 * hv (hexD (b.toNat / 16)) + hv (hexD (b.toNat % 16)) = (b.toNat : Int))
theorem enc_all : ((List.range 256).all fun n => encP (UInt8.ofNat n)) = true := by decide +kernel
theorem enc_b (b : UInt8) : impl_encoded.f (b.toNat : Int) = some (tx (enc3 b)) ∧ spec_l1Percent.f (b.toNat : Int) = some (tx (enc3 b)) ∧ (0 ≤ hv (hexD (b.toNat / 16)) ∧ 0 ≤ hv (hexD (b.toNat % 16))) ∧ 16 * hv (hexD (b.toNat / 16)) + hv (hexD (b.toNat % 16)) = (b.toNat : Int) := by
  have g := byte_all encP enc_all b
  unfold encP at g
  simp only [Bool.and_eq_true, decide_eq_true_eq] at g
  exact ⟨g.1.1.1.1, g.1.1.1.2, ⟨g.1.1.2, g.1.2⟩, g.2⟩
def enc : List UInt8 → List UInt8
  | [] => []
  | b :: r => (if freeB b = true then [b] else enc3 b) ++ enc r
theorem enc_len : ∀ l : List UInt8, l.length ≤ (enc l).length ∧ (enc l).length ≤ 3 * l.length
  | [] => by simp [enc]
  | b :: r => by
    have := enc_len r
    unfold enc
    rw [List.length_append]
    split <;> simp [enc3] <;> omega
theorem encI_l : ∀ (M pre A : List UInt8) (K : Nat), (pre ++ M).length ≤ 100 → A.length ≤ 3 * pre.length → M.length < K → impl_PercentEncode.l0 K (tx (pre ++ M)) (nums A) (((pre ++ M).length : Nat) : Int) (pre.length : Int) = some (tx (A ++ enc M), true)
  | M, pre, A, 0, _, _, h => absurd h (by omega)
  | [], pre, A, K + 1, hl, hA, _ => by
    unfold impl_PercentEncode.l0
    rw [List.append_nil, if_neg (Int.lt_irrefl _), son_nums]
    unfold enc
    rw [List.append_nil]
  | b :: r, pre, A, K + 1, hl, hA, hK => by
    have hs : (((pre ++ b :: r).length : Nat) : Int) = (pre.length : Int) + 1 + (r.length : Int) := by simp; omega
    have e0 : bt (tx (pre ++ b :: r)) (pre.length : Int) = (b.toNat : Int) := bt_at pre _ b
    have hl2 : pre.length + (r.length + 1) ≤ 100 := by simpa using hl
    have e1 : pre ++ [b] ++ r = pre ++ b :: r := by simp
    have e2 : (((pre ++ [b]).length : Nat) : Int) = (pre.length : Int) + 1 := by simp
    have ih := fun A' h' => encI_l r (pre ++ [b]) A' K (by simp; omega) h' (by simp at hK; omega)
    rw [e1, e2] at ih
    simp only [hs] at ih
    unfold impl_PercentEncode.l0
    rw [tx_size, hs, e0, if_pos (by omega), if_pos (by omega), if_pos (by omega), (host_b b).2.2.2.1, (enc_b b).1, Option.bind_some, Option.bind_some, w64 (by omega) (by omega)]
    unfold enc
    have hn : (nums A).length = A.length := List.length_map _
    cases freeB b with
    | true =>
      rw [if_pos rfl, if_pos rfl, hn, if_pos (by omega)]
      have := ih (A ++ [b]) (by simp; omega)
      have e3 : nums A ++ [(b.toNat : Int)] = nums (A ++ [b]) := by simp
      rw [e3, this, List.append_assoc]
    | false =>
      rw [if_neg (show ¬ false = true by decide), if_neg (show ¬ false = true by decide), hn, tx_size, if_pos (by simp [enc3]; omega)]
      have := ih (A ++ enc3 b) (by simp [enc3]; omega)
      have e3 : nums A ++ bytesOf (tx (enc3 b)) = nums (A ++ enc3 b) := by rw [bytes_tx]; simp
      rw [e3, this, List.append_assoc]
theorem encS_l : ∀ (M pre A : List UInt8) (K : Nat), (pre ++ M).length ≤ 100 → A.length ≤ 3 * pre.length → M.length < K → spec_PercentEncode.l0 K (tx (pre ++ M)) (tx A) (pre.length : Int) = some (tx (A ++ enc M), true)
  | M, pre, A, 0, _, _, h => absurd h (by omega)
  | [], pre, A, K + 1, hl, hA, _ => by
    unfold spec_PercentEncode.l0
    rw [tx_size, List.append_nil, if_neg (Int.lt_irrefl _)]
    unfold enc
    rw [List.append_nil]
  | b :: r, pre, A, K + 1, hl, hA, hK => by
    have hs : ((tx (pre ++ b :: r)).size : Int) = (pre.length : Int) + 1 + (r.length : Int) := by rw [tx_size]; simp; omega
    have e0 : bt (tx (pre ++ b :: r)) (pre.length : Int) = (b.toNat : Int) := bt_at pre _ b
    have hl2 : pre.length + (r.length + 1) ≤ 100 := by simpa using hl
    have e1 : pre ++ [b] ++ r = pre ++ b :: r := by simp
    have e2 : (((pre ++ [b]).length : Nat) : Int) = (pre.length : Int) + 1 := by simp
    have ih := fun A' h' => encS_l r (pre ++ [b]) A' K (by simp; omega) h' (by simp at hK; omega)
    rw [e1, e2] at ih
    unfold spec_PercentEncode.l0
    rw [hs, e0, if_pos (by omega), if_pos (by omega), (host_b b).2.2.2.2, (enc_b b).2.1, Option.bind_some, Option.bind_some, w64 (by omega) (by omega)]
    unfold enc
    cases freeB b with
    | true =>
      have ec : (tx (pre ++ b :: r)).extract (pre.length : Int).toNat ((pre.length : Int) + 1).toNat = tx [b] := by
        rw [tx_cut]
        have : ((pre.length : Int) + 1).toNat - (pre.length : Int).toNat = 1 := by omega
        rw [this, Int.toNat_natCast, List.drop_left]; rfl
      rw [if_pos rfl, if_pos rfl, if_pos (by omega), if_pos (by omega), ec, tx_size, tx_size, if_pos (by simp; omega), tx_app, ih (A ++ [b]) (by simp; omega), List.append_assoc]
    | false =>
      rw [if_neg (show ¬ false = true by decide), if_neg (show ¬ false = true by decide), tx_size, tx_size, if_pos (by simp [enc3]; omega), tx_app, ih (A ++ enc3 b) (by simp [enc3]; omega), List.append_assoc]
theorem dec_l : ∀ (M pre A : List UInt8) (K : Nat), (pre ++ enc M).length ≤ 1000 → A.length ≤ pre.length → M.length + 1 < K → impl_PercentDecode.l0 K (tx (pre ++ enc M)) (nums A) (pre.length : Int) = some (tx (A ++ M), true)
  | M, pre, A, 0, _, _, h => absurd h (by omega)
  | [], pre, A, K + 1, hl, hA, _ => by
    unfold impl_PercentDecode.l0 enc
    rw [tx_size, List.append_nil, if_neg (Int.lt_irrefl _), son_nums, List.append_nil]
  | b :: r, pre, A, K + 1, hl, hA, hK => by
    have hn : (nums A).length = A.length := List.length_map _
    have hK2 : r.length + 1 < K := by simp at hK; omega
    have he : enc (b :: r) = (if freeB b = true then [b] else enc3 b) ++ enc r := by
      conv => lhs; unfold enc
    rw [he] at hl ⊢
    cases hf : freeB b with
    | true =>
      rw [hf, if_pos rfl] at hl
      rw [if_pos rfl]
      have hb : b ≠ 37 := fun h => by subst h; revert hf; decide
      have hl2 : pre.length + ((enc r).length + 1) ≤ 1000 := by simpa using hl
      have eq1 : pre ++ ([b] ++ enc r) = pre ++ b :: enc r := by simp
      have e0 : bt (tx (pre ++ b :: enc r)) (pre.length : Int) = (b.toNat : Int) := bt_at pre _ b
      have e1 : pre ++ [b] ++ enc r = pre ++ b :: enc r := by simp
      have e2 : (((pre ++ [b]).length : Nat) : Int) = (pre.length : Int) + 1 := by simp
      have ih := dec_l r (pre ++ [b]) (A ++ [b]) K (by simp; omega) (by simp; omega) hK2
      rw [e1, e2] at ih
      have e3 : nums A ++ [(b.toNat : Int)] = nums (A ++ [b]) := by simp
      unfold impl_PercentDecode.l0
      rw [eq1, e0, tx_size, if_pos (by simp; omega), if_pos (by omega), if_neg (fun hh => hb ((toNat_37 b).mp hh)), hn, if_pos (by omega), w64 (by omega) (by omega), e3, ih, List.append_assoc]
      rfl
    | false =>
      rw [hf, if_neg (by decide)] at hl
      rw [if_neg (by decide)]
      have hl2 : pre.length + ((enc r).length + 1 + 1 + 1) ≤ 1000 := by simpa [enc3] using hl
      obtain ⟨x, hx⟩ : ∃ x, x = hexD (b.toNat / 16) := ⟨_, rfl⟩
      obtain ⟨y, hy⟩ : ∃ y, y = hexD (b.toNat % 16) := ⟨_, rfl⟩
      have g := enc_b b
      have ee : enc3 b = [37, x, y] := by rw [hx, hy]; rfl
      rw [← hx, ← hy] at g
      rw [ee]
      have eq1 : pre ++ ([37, x, y] ++ enc r) = pre ++ 37 :: x :: y :: enc r := by simp
      have e0 : bt (tx (pre ++ 37 :: x :: y :: enc r)) (pre.length : Int) = 37 := bt_at pre _ 37
      have e1 : pre ++ [37, x, y] ++ enc r = pre ++ 37 :: x :: y :: enc r := by simp
      have e2 : (((pre ++ [37, x, y]).length : Nat) : Int) = (pre.length : Int) + 2 + 1 := by simp; omega
      have ih := dec_l r (pre ++ [37, x, y]) (A ++ [b]) K (by simp; omega) (by simp; omega) hK2
      rw [e1, e2] at ih
      have e3 : nums A ++ [(b.toNat : Int)] = nums (A ++ [b]) := by simp
      obtain ⟨K2, rfl⟩ : ∃ K2, K = K2 + 1 := ⟨K - 1, by omega⟩
      have ht := tx_tail pre (37 :: x :: y :: enc r)
      unfold impl_PercentDecode.l0
      rw [eq1, e0, ht, tx_size, if_pos (by simp; omega), if_pos (by omega), if_pos rfl, if_pos (by simp; omega), perc_I, if_pos g.2.2.1, Option.bind_some]
      dsimp only
      rw [if_pos rfl, hn, if_pos (by omega), w64 (x := (pre.length : Int) + 2) (by omega) (by omega), w64 (by omega) (by omega), g.2.2.2, e3, ih, List.append_assoc]
      rfl
theorem percent_back (T : List UInt8) (h : T.length ≤ 60) (k : Nat) (hk : 100 ≤ k) : impl_PercentEncode.f k (tx T) = some (tx (enc T), true) ∧ spec_PercentEncode.f k (tx T) = some (tx (enc T), true) ∧ impl_PercentDecode.f k (tx (enc T)) = some (tx T, true) := by
  have hl := enc_len T
  refine ⟨?_, ?_, ?_⟩
  · unfold impl_PercentEncode.f
    rw [tx_size, if_neg (by omega)]
    exact encI_l T [] [] k (by simp; omega) (by simp) (by omega)
  · unfold spec_PercentEncode.f
    rw [tx_size, if_neg (by omega)]
    exact encS_l T [] [] k (by simp; omega) (by simp) (by omega)
  · unfold impl_PercentDecode.f
    rw [tx_size, if_neg (by omega)]
    exact dec_l T [] [] k (by simp; omega) (by simp) (by omega)
theorem percent_long (T : List UInt8) (h : 60 < T.length) (k : Nat) : impl_PercentEncode.f k (tx T) = some ((⟨#[]⟩ : ByteArray), false) ∧ spec_PercentEncode.f k (tx T) = some ((⟨#[]⟩ : ByteArray), false) := by
  constructor
  · unfold impl_PercentEncode.f
    rw [tx_size, if_pos (by omega)]
  · unfold spec_PercentEncode.f
    rw [tx_size, if_pos (by omega)]

theorem bytes_of (l : List Int) (h : ∀ x ∈ l, (Lit.int .u8 x).wf = true) : ∀ x ∈ l, 0 ≤ x ∧ x ≤ 255 := by
  intro x hx
  have := h x hx
  simp [Lit.wf, IntKind.min, IntKind.max, IntKind.bits, IntKind.signed] at this
  omega

/-! The cursor that draws an argument out of bytes -/
theorem and255 (y : Int) (h0 : 0 ≤ y) (h1 : y < 18446744073709551616) : bits .and .u64 y 255 = y % 256 := bits_mask .u64 64 (by decide) wraps_u64 8 (by decide) y h0 h1
theorem and255_range (s : Int) : 0 ≤ bits .and .u64 ((IntKind.u64.wrap s) / 1099511627776) 255 ∧ bits .and .u64 ((IntKind.u64.wrap s) / 1099511627776) 255 ≤ 255 := by
  have h : IntKind.u64.wrap s = s % 18446744073709551616 := IntKind.wrap_u64 s
  rw [h, and255 _ (by omega) (by omega)]
  omega
theorem rd_byte (l : List Int) (hc : ∀ x ∈ l, 0 ≤ x ∧ x ≤ 255) (i : Int) (h0 : 0 ≤ i) (h1 : i < l.length) : 0 ≤ rd l i ∧ rd l i ≤ 255 := by
  obtain ⟨n, rfl⟩ : ∃ n : Nat, i = (n : Int) := ⟨i.toNat, by omega⟩
  rw [rd_nat l n (by omega)]
  exact hc _ (List.getElem_mem _)
theorem next_ok (code : List Int) (hc : ∀ x ∈ code, 0 ≤ x ∧ x ≤ 255) (hb : code.length < 4611686018427387904) (a s : Int) (h0 : 0 ≤ a) (h1 : a < 4611686018427387904) :
    ∃ b s', spec_l1Cur_next.f code a s = some (b, a + 1, s') ∧ 0 ≤ b ∧ b ≤ 255 := by
  have hw : wrap64 (a + 1) = a + 1 := w64 (by omega) (by omega)
  unfold spec_l1Cur_next.f
  rw [hw]
  by_cases c : a < (code.length : Int)
  · have hr := rd_byte code hc a h0 c
    rw [if_pos c, if_pos h0, if_pos (by omega)]
    exact ⟨_, _, rfl, by rw [w64 (by omega) (by omega)]; exact hr⟩
  · rw [if_neg c, if_neg (by omega)]
    refine ⟨_, _, rfl, ?_⟩
    have hr := and255_range ((IntKind.u64.wrap (IntKind.u64.wrap (s * 6364136223846793005))) + 1442695040888963407)
    rw [w64 (by omega) (by omega)]
    exact hr
theorem tmod_range (x n : Int) (h : 0 ≤ x) (hn : 0 < n) : 0 ≤ Int.tmod x n ∧ Int.tmod x n < n := ⟨Int.tmod_nonneg n h, Int.tmod_lt_of_pos x hn⟩
theorem pick_ok (code : List Int) (hc : ∀ x ∈ code, 0 ≤ x ∧ x ≤ 255) (hb : code.length < 4611686018427387904) (a s n : Int) (h0 : 0 ≤ a) (h1 : a < 4611686018427380000) :
    ∃ v a' s', spec_l1Cur_pick.f code a s n = some (v, a', s') ∧ 0 ≤ v ∧ (v < n ∨ v = 0) ∧ a ≤ a' ∧ a' ≤ a + 2 := by
  unfold spec_l1Cur_pick.f
  by_cases c : n ≤ 1
  · rw [if_pos c]
    exact ⟨0, a, s, rfl, by omega, by omega, by omega, by omega⟩
  · rw [if_neg c]
    obtain ⟨b, s1, e1, hb0, hb1⟩ := next_ok code hc hb a s h0 (by omega)
    rw [e1, Option.bind_some]
    by_cases c2 : n > 200
    · rw [if_pos c2]
      obtain ⟨b2, s2, e2, hb2, hb3⟩ := next_ok code hc hb (a + 1) s1 (by omega) (by omega)
      try dsimp only
      rw [e2, Option.bind_some, if_neg (by omega)]
      have hw1 : wrap64 (b * 256) = b * 256 := w64 (by omega) (by omega)
      have hw2 : wrap64 (b * 256 + b2) = b * 256 + b2 := w64 (by omega) (by omega)
      have hr := tmod_range (b * 256 + b2) n (by omega) (by omega)
      refine ⟨_, _, _, rfl, ?_⟩
      simp only [hw1, hw2]
      exact ⟨hr.1, Or.inl hr.2, by omega, by omega⟩
    · rw [if_neg c2, if_neg (by omega)]
      have hr := tmod_range b n (by omega) (by omega)
      refine ⟨_, _, _, rfl, hr.1, Or.inl hr.2, ?_, ?_⟩ <;> dsimp only <;> omega
theorem one_ok (code : List Int) (hc : ∀ x ∈ code, 0 ≤ x ∧ x ≤ 255) (hb : code.length < 4611686018427387904) (a s n : Int) (h0 : 0 ≤ a) (h1 : a < 4611686018427380000) :
    ∃ v a' s', spec_l1Cur_one.f code a s n = some (v, a', s') ∧ a ≤ a' ∧ a' ≤ a + 2 := by
  unfold spec_l1Cur_one.f
  obtain ⟨v, a', s', e, h⟩ := pick_ok code hc hb a s n h0 h1
  rw [e, Option.bind_some]
  exact ⟨_, _, _, rfl, h.2.2⟩

/-! One of some texts -/
theorem of_ok (code : List Int) (hc : ∀ x ∈ code, 0 ≤ x ∧ x ≤ 255) (hb : code.length < 4611686018427387904) (l : List ByteArray) (hl : 0 < l.length) (a s : Int) (h0 : 0 ≤ a) (h1 : a < 4611686018427380000) :
    ∃ v a' s', spec_l1Cur_of.f code a s l = some (v, a', s') ∧ v ∈ l ∧ a ≤ a' ∧ a' ≤ a + 2 := by
  unfold spec_l1Cur_of.f
  obtain ⟨v, a', s', e, h⟩ := pick_ok code hc hb a s (l.length : Int) h0 h1
  rw [e, Option.bind_some, if_pos h.1]
  have c : v < (l.length : Int) := by omega
  try dsimp only
  rw [if_pos c]
  refine ⟨_, _, _, rfl, ?_, h.2.2⟩
  unfold rdOf
  rw [List.getD_eq_getElem?_getD, List.getElem?_eq_getElem (show v.toNat < l.length by omega)]
  exact List.getElem_mem _

/-! ### The drawn address -/
theorem among_ok (code : List Int) (hc : ∀ x ∈ code, 0 ≤ x ∧ x ≤ 255) (hb : code.length < 4611686018427387904) (l : List Int) (hl : 0 < l.length) (a s : Int) (h0 : 0 ≤ a) (h1 : a < 4611686018427380000) :
    ∃ v a' s', spec_l1Cur_among.f code a s l = some (v, a', s') ∧ v ∈ l ∧ a ≤ a' ∧ a' ≤ a + 2 := by
  unfold spec_l1Cur_among.f
  obtain ⟨v, a', s', e, h⟩ := pick_ok code hc hb a s (l.length : Int) h0 h1
  rw [e, Option.bind_some, if_pos h.1]
  have c : v < (l.length : Int) := by omega
  try dsimp only
  rw [if_pos c]
  refine ⟨_, _, _, rfl, ?_, h.2.2⟩
  unfold rd
  rw [List.getD_eq_getElem?_getD, List.getElem?_eq_getElem (show v.toNat < l.length by omega)]
  exact List.getElem_mem _
theorem parts_all : (([(⟨#[97]⟩ : ByteArray), (⟨#[98]⟩ : ByteArray), (⟨#[46]⟩ : ByteArray), (⟨#[46, 46]⟩ : ByteArray), (⟨#[]⟩ : ByteArray), (⟨#[37, 52, 49]⟩ : ByteArray), (⟨#[37, 50, 102]⟩ : ByteArray), (⟨#[120, 46, 121]⟩ : ByteArray), (⟨#[99, 32, 100]⟩ : ByteArray), (⟨#[37, 55, 69]⟩ : ByteArray)] : List ByteArray).all fun t => decide (t.size ≤ 3)) = true := by decide +kernel
theorem plus_f (s : ByteArray) (h : s.size ≤ 1000) : ∃ r, spec_plus.f s = some r ∧ r.size = s.size := by
  unfold spec_plus.f
  rw [if_pos (by omega)]
  refine ⟨_, rfl, ?_⟩
  show (s.data.map plusB).size = s.data.size
  simp
theorem path_l (code : List Int) (hc : ∀ x ∈ code, 0 ≤ x ∧ x ≤ 255) (hb : code.length < 4611686018427387904) :
    ∀ (n K : Nat) (l : List UInt8) (a s : Int), n < K → 0 ≤ a → a + 2 * n ≤ 1000 → l.length + 4 * n ≤ 100 →
      ∃ P a' s', spec_l1Cur_path.l0 K (tx l) (n : Int) code a s = some (P, a', s') ∧ P.size ≤ 101 ∧ 0 ≤ a' ∧ a' ≤ 1010
  | n, 0, l, a, s, h, _, _, _ => absurd h (by omega)
  | 0, K + 1, l, a, s, h, h0, h1, h2 => by
    have close : ∀ (T : ByteArray) (hT : T.size ≤ 100) (a1 s1 : Int) (g0 : 0 ≤ a1) (g1 : a1 ≤ 1002), ∃ P a' s', (if T.toList = ([] : List UInt8) then (if T.size + 1 ≤ 9223372036854775807 then (some (T ++ (⟨#[47]⟩ : ByteArray), a1, s1)) else (none)) else ((spec_l1Cur_one.f code a1 s1 3).bind fun bt159 => (if bt159.1 = true then (if T.size + 1 ≤ 9223372036854775807 then (some (T ++ (⟨#[47]⟩ : ByteArray), bt159.2.1, bt159.2.2)) else (none)) else (some (T, bt159.2.1, bt159.2.2))))) = some (P, a', s') ∧ P.size ≤ 101 ∧ 0 ≤ a' ∧ a' ≤ 1010 := fun T hT a1 s1 g0 g1 => by
      have hz : (T ++ (⟨#[47]⟩ : ByteArray)).size ≤ 101 := by rw [ByteArray.size_append]; show T.size + 1 ≤ 101; omega
      by_cases c : T.toList = []
      · rw [if_pos c, if_pos (by omega)]
        exact ⟨_, _, _, rfl, hz, g0, by omega⟩
      · obtain ⟨v, a2, s2, e, p1, p2⟩ := one_ok code hc hb a1 s1 3 g0 (by omega)
        rw [if_neg c, e, Option.bind_some]
        try dsimp only
        cases v with
        | true =>
          rw [if_pos rfl, if_pos (by omega)]
          exact ⟨_, _, _, rfl, hz, by omega, by omega⟩
        | false =>
          rw [if_neg (by decide)]
          exact ⟨_, _, _, rfl, by omega, by omega, by omega⟩
    have hl : (tx l).size ≤ 100 := by rw [tx_size]; omega
    unfold spec_l1Cur_path.l0
    rw [if_neg (by omega)]
    obtain ⟨v, a1, s1, e1, p1, p2⟩ := one_ok code hc hb a s 20 h0 (by omega)
    rw [e1, Option.bind_some]
    try dsimp only
    cases v with
    | true =>
      rw [if_pos rfl]
      exact close (tx l) hl a1 s1 (by omega) (by omega)
    | false =>
      obtain ⟨r, e2, hr⟩ := plus_f (tx l) (by omega)
      rw [if_neg (by decide), e2, Option.bind_some]
      exact close r (by omega) a1 s1 (by omega) (by omega)
  | n + 1, K + 1, l, a, s, h, h0, h1, h2 => by
    unfold spec_l1Cur_path.l0
    rw [if_pos (by omega)]
    obtain ⟨t, a1, s1, e1, q1, q2, q3⟩ := of_ok code hc hb _ (by decide : 0 < ([(⟨#[97]⟩ : ByteArray), (⟨#[98]⟩ : ByteArray), (⟨#[46]⟩ : ByteArray), (⟨#[46, 46]⟩ : ByteArray), (⟨#[]⟩ : ByteArray), (⟨#[37, 52, 49]⟩ : ByteArray), (⟨#[37, 50, 102]⟩ : ByteArray), (⟨#[120, 46, 121]⟩ : ByteArray), (⟨#[99, 32, 100]⟩ : ByteArray), (⟨#[37, 55, 69]⟩ : ByteArray)] : List ByteArray).length) a s h0 (by omega)
    have g := List.all_eq_true.mp parts_all t q1
    simp only [decide_eq_true_eq] at g
    rw [e1, Option.bind_some]
    obtain ⟨z, rfl⟩ : ∃ z, t = tx z := ⟨t.data.toList, rfl⟩
    rw [tx_size] at g
    have e47 : (⟨#[47]⟩ : ByteArray) = tx [47] := rfl
    try dsimp only
    rw [e47, tx_app, tx_app, tx_size, tx_size, tx_size, if_pos (by omega), if_pos (by simp; omega), w64 (by omega) (by omega), show ((n + 1 : Nat) : Int) - 1 = (n : Int) by omega]
    exact path_l code hc hb n K (l ++ ([47] ++ z)) a1 s1 (by omega) (by omega) (by omega) (by simp; omega)
theorem path_ok (code : List Int) (hc : ∀ x ∈ code, 0 ≤ x ∧ x ≤ 255) (hb : code.length < 4611686018427387904) (K : Nat) (hK : 10 ≤ K) (a s : Int) (h0 : 0 ≤ a) (h1 : a ≤ 100) :
    ∃ P a' s', spec_l1Cur_path.f K code a s = some (P, a', s') ∧ P.size ≤ 101 ∧ 0 ≤ a' ∧ a' ≤ 1010 := by
  unfold spec_l1Cur_path.f
  obtain ⟨v, a1, s1, e1, p1, p2, p3, p4⟩ := pick_ok code hc hb a s 5 h0 (by omega)
  rw [e1, Option.bind_some]
  try dsimp only
  obtain ⟨n, rfl⟩ : ∃ n : Nat, v = (n : Int) := ⟨v.toNat, by omega⟩
  exact path_l code hc hb n K [] a1 s1 (by omega) (by omega) (by omega) (by simp; omega)
def smallA (l : List ByteArray) : Bool := l.all fun t => decide (t.size ≤ 100)
theorem smallA_of {l : List ByteArray} (h : smallA l = true) {t : ByteArray} (ht : t ∈ l) : t.size ≤ 1000 := by
  have := List.all_eq_true.mp h t ht
  simp only [decide_eq_true_eq] at this
  omega
def UOK (r : Option (ByteArray × ByteArray × Int × ByteArray × ByteArray × Bool × Int × Int)) : Prop := ∃ S H n P Q b a' s', r = some (S, H, n, P, Q, b, a', s') ∧ S.size ≤ 1000 ∧ H.size ≤ 1000 ∧ P.size ≤ 1000 ∧ Q.size ≤ 1000
theorem url_j1 (code : List Int) (hc : ∀ x ∈ code, 0 ≤ x ∧ x ≤ 255) (hb : code.length < 4611686018427387904) (k : Nat) (a s : Int) (h0 : 0 ≤ a) (h1 : a ≤ 2000) (S H : ByteArray) (n : Int) (P Q : ByteArray) (b : Bool) (hS : S.size ≤ 1000) (hH : H.size ≤ 1000) (hP : P.size ≤ 1000) (hQ : Q.size ≤ 1000) :
    UOK (spec_l1Cur_url.j1 (k + 1) code a s S H n P Q b) := by
  unfold spec_l1Cur_url.j1
  dsimp only
  obtain ⟨v, a1, s1, e1, p1, p2, p3, p4⟩ := pick_ok code hc hb a s 40 h0 (by omega)
  rw [e1, Option.bind_some]
  dsimp only
  by_cases c0 : v = 0
  · rw [if_pos c0]
    obtain ⟨t, a2, s2, e2, q1, q2, q3⟩ := of_ok code hc hb _ (by decide : 0 < ([(⟨#[]⟩ : ByteArray), (⟨#[102, 116, 112]⟩ : ByteArray)] : List ByteArray).length) a1 s1 (by omega) (by omega)
    rw [e2, Option.bind_some]
    exact ⟨_, _, _, _, _, _, _, _, rfl, smallA_of (by decide +kernel) q1, hH, hP, hQ⟩
  rw [if_neg c0]
  by_cases c1 : v = 1
  · rw [if_pos c1]
    obtain ⟨t, a2, s2, e2, q1, q2, q3⟩ := among_ok code hc hb _ (by decide : 0 < ([(-1), 65535, 65536] : List Int).length) a1 s1 (by omega) (by omega)
    rw [e2, Option.bind_some]
    exact ⟨_, _, _, _, _, _, _, _, rfl, hS, hH, hP, hQ⟩
  rw [if_neg c1]
  by_cases c2 : v = 2
  · rw [if_pos c2]
    obtain ⟨t, a2, s2, e2, q1, q2, q3⟩ := of_ok code hc hb _ (by decide : 0 < ([(⟨#[]⟩ : ByteArray), (⟨#[97, 32, 98]⟩ : ByteArray)] : List ByteArray).length) a1 s1 (by omega) (by omega)
    rw [e2, Option.bind_some]
    exact ⟨_, _, _, _, _, _, _, _, rfl, hS, smallA_of (by decide +kernel) q1, hP, hQ⟩
  rw [if_neg c2]
  by_cases c3 : v = 3
  · rw [if_pos c3]
    exact ⟨_, _, _, _, _, _, _, _, rfl, hS, hH, hP, by decide⟩
  · rw [if_neg c3]
    exact ⟨_, _, _, _, _, _, _, _, rfl, hS, hH, hP, hQ⟩
theorem url_j0 (code : List Int) (hc : ∀ x ∈ code, 0 ≤ x ∧ x ≤ 255) (hb : code.length < 4611686018427387904) (k : Nat) (a s : Int) (h0 : 0 ≤ a) (h1 : a ≤ 1500) (S H : ByteArray) (n : Int) (P Q : ByteArray) (b : Bool) (hS : S.size ≤ 1000) (hH : H.size ≤ 1000) (hP : P.size ≤ 1000) (hQ : Q.size ≤ 1000) :
    UOK (spec_l1Cur_url.j0 (k + 2) code a s S H n P Q b) := by
  unfold spec_l1Cur_url.j0
  dsimp only
  obtain ⟨v, a1, s1, e1, p1, p2⟩ := one_ok code hc hb a s 3 h0 (by omega)
  rw [e1, Option.bind_some]
  dsimp only
  cases v with
  | true =>
    rw [if_pos rfl]
    obtain ⟨t, a2, s2, e2, q1, q2, q3⟩ := of_ok code hc hb _ (by decide : 0 < ([(⟨#[]⟩ : ByteArray), (⟨#[113, 61, 49]⟩ : ByteArray), (⟨#[37, 52, 49, 61, 47, 63]⟩ : ByteArray), (⟨#[97, 37, 50, 102, 98]⟩ : ByteArray)] : List ByteArray).length) a1 s1 (by omega) (by omega)
    rw [e2, Option.bind_some]
    exact url_j1 code hc hb k a2 s2 (by omega) (by omega) S H n P t true hS hH hP (smallA_of (by decide +kernel) q1)
  | false =>
    rw [if_neg (by decide)]
    exact url_j1 code hc hb k a1 s1 (by omega) (by omega) S H n P Q b hS hH hP hQ
theorem url_ok (code : List Int) (hc : ∀ x ∈ code, 0 ≤ x ∧ x ≤ 255) (hb : code.length < 4611686018427387904) (k : Nat) (hk : 10 ≤ k) : UOK (spec_l1Cur_url.f k code 0 0) := by
  obtain ⟨m, rfl⟩ : ∃ m, k = m + 2 := ⟨k - 2, by omega⟩
  unfold spec_l1Cur_url.f
  obtain ⟨S, a1, s1, e1, q1, q2, q3⟩ := of_ok code hc hb _ (by decide : 0 < ([(⟨#[104, 116, 116, 112]⟩ : ByteArray), (⟨#[104, 116, 116, 112, 115]⟩ : ByteArray)] : List ByteArray).length) 0 0 (by omega) (by omega)
  rw [e1, Option.bind_some]
  dsimp only
  obtain ⟨H, a2, s2, e2, r1, r2, r3⟩ := of_ok code hc hb _ (by decide : 0 < ([(⟨#[104]⟩ : ByteArray), (⟨#[69, 120, 46, 99, 111, 109]⟩ : ByteArray), (⟨#[101, 120, 46, 99, 111, 109]⟩ : ByteArray), (⟨#[97, 45, 98, 46, 99]⟩ : ByteArray)] : List ByteArray).length) a1 s1 (by omega) (by omega)
  rw [e2, Option.bind_some]
  dsimp only
  obtain ⟨P, a3, s3, e3, t1, t2, t3⟩ := path_ok code hc hb (m + 2) hk a2 s2 (by omega) (by omega)
  rw [e3, Option.bind_some]
  dsimp only
  obtain ⟨v, a4, s4, e4, p1, p2⟩ := one_ok code hc hb a3 s3 3 t2 (by omega)
  rw [e4, Option.bind_some]
  dsimp only
  have hS : S.size ≤ 1000 := smallA_of (by decide +kernel) q1
  have hH : H.size ≤ 1000 := smallA_of (by decide +kernel) r1
  cases v with
  | true =>
    rw [if_pos rfl]
    obtain ⟨t, a5, s5, e5, u1, u2, u3⟩ := among_ok code hc hb _ (by decide : 0 < ([80, 443, 8080] : List Int).length) a4 s4 (by omega) (by omega)
    rw [e5, Option.bind_some]
    exact url_j0 code hc hb m a5 s5 (by omega) (by omega) S H t P _ false hS hH (by omega) (by decide)
  | false =>
    rw [if_neg (by decide)]
    exact url_j0 code hc hb m a4 s4 (by omega) (by omega) S H 0 P _ false hS hH (by omega) (by decide)
theorem drawU_ok (code : List Int) (hc : ∀ x ∈ code, 0 ≤ x ∧ x ≤ 255) (hb : code.length < 4611686018427387904) (k : Nat) (hk : 10 ≤ k) : ∃ S H n P Q b, spec_DrawGoodUrl.f k code = some (tx S, tx H, n, tx P, tx Q, b) ∧ S.length ≤ 1000 ∧ H.length ≤ 1000 ∧ P.length ≤ 1000 ∧ Q.length ≤ 1000 := by
  obtain ⟨S, H, n, P, Q, b, a, s, e, h1, h2, h3, h4⟩ := url_ok code hc hb k hk
  unfold spec_DrawGoodUrl.f
  rw [e, Option.bind_some]
  refine ⟨S.data.toList, H.data.toList, n, P.data.toList, Q.data.toList, b, rfl, ?_, ?_, ?_, ?_⟩ <;> rw [Array.length_toList] <;> assumption

/-! ### The drawn bytes, and the law -/
theorem bytesU_l (code : List Int) (hc : ∀ x ∈ code, 0 ≤ x ∧ x ≤ 255) (hb : code.length < 4611686018427387904) :
    ∀ (n K : Nat) (l : List Int) (a s : Int), n < K → 0 ≤ a → a + n < 100000 → l.length + n ≤ 100 →
      ∃ l' a' s', spec_l1Cur_bytes.l0 K l (n : Int) code a s = some (l', a', s') ∧ l'.length = l.length + n
  | n, 0, l, a, s, h, _, _, _ => absurd h (by omega)
  | 0, K + 1, l, a, s, h, h0, h1, h2 => by
    unfold spec_l1Cur_bytes.l0
    rw [if_neg (by omega)]
    exact ⟨l, a, s, rfl, rfl⟩
  | n + 1, K + 1, l, a, s, h, h0, h1, h2 => by
    obtain ⟨b, s', e, b0, b1⟩ := next_ok code hc hb a s h0 (by omega)
    unfold spec_l1Cur_bytes.l0
    rw [if_pos (by omega), e, Option.bind_some]
    try dsimp only
    rw [if_pos (by omega), w64 (by omega) (by omega), show ((n + 1 : Nat) : Int) - 1 = (n : Int) by omega]
    obtain ⟨l', a2, s2, e2, r1⟩ := bytesU_l code hc hb n K (l ++ [b % 256]) (a + 1) s' (by omega) (by omega) (by omega) (by simp; omega)
    exact ⟨l', a2, s2, e2, by rw [r1, List.length_append, List.length_singleton]; omega⟩
theorem son_tx (L : List Int) : ∃ l, strOfNums L = tx l ∧ l.length = L.length := ⟨L.map fun x => UInt8.ofNat x.toNat, rfl, by simp⟩
theorem drawP_ok (code : List Int) (hc : ∀ x ∈ code, 0 ≤ x ∧ x ≤ 255) (hb : code.length < 4611686018427387904) (k : Nat) (hk : 100 ≤ k) : ∃ T, spec_DrawPercentEncode.f k code = some (tx T) ∧ T.length ≤ 100 := by
  unfold spec_DrawPercentEncode.f
  obtain ⟨v, a1, s1, e1, p1, p2⟩ := one_ok code hc hb 0 0 30 (by omega) (by omega)
  rw [e1, Option.bind_some]
  dsimp only
  cases v with
  | true =>
    rw [if_pos rfl]
    obtain ⟨v2, a2, s2, e2, q1, q2, q3, q4⟩ := pick_ok code hc hb a1 s1 2 (by omega) (by omega)
    rw [e2, Option.bind_some]
    dsimp only
    rw [w64 (by omega) (by omega), if_pos (by omega), if_pos (by omega)]
    obtain ⟨l, e, h⟩ := son_tx (List.replicate (60 + v2).toNat 0)
    exact ⟨l, by rw [e], by rw [h, List.length_replicate]; omega⟩
  | false =>
    rw [if_neg (by decide)]
    obtain ⟨v2, a2, s2, e2, q1, q2, q3, q4⟩ := pick_ok code hc hb a1 s1 9 (by omega) (by omega)
    rw [e2, Option.bind_some]
    dsimp only
    unfold spec_l1Cur_bytes.f
    rw [w64 (by omega) (by omega)]
    obtain ⟨v3, a3, s3, e3, t1, t2, t3, t4⟩ := pick_ok code hc hb a2 s2 (v2 + 1) (by omega) (by omega)
    rw [e3, Option.bind_some]
    dsimp only
    obtain ⟨n, rfl⟩ : ∃ n : Nat, v3 = (n : Int) := ⟨v3.toNat, by omega⟩
    obtain ⟨l, a4, s4, e4, r1⟩ := bytesU_l code hc hb n k [] a3 s3 (by omega) (by omega) (by omega) (by simp; omega)
    rw [e4, Option.bind_some]
    obtain ⟨z, e, h⟩ := son_tx l
    refine ⟨z, by rw [← e], ?_⟩
    rw [h, r1]; simp; omega
theorem law_j1 (more : List Int) (hc : ∀ x ∈ more, 0 ≤ x ∧ x ≤ 255) (hb : more.length < 4611686018427387904) (k : Nat) (hk : 100 ≤ k) : laws_FnUrls.j1 (k + 1) more = some true := by
  obtain ⟨T, e, hT⟩ := drawP_ok more hc hb k hk
  unfold laws_FnUrls.j1
  dsimp only
  rw [e, Option.bind_some]
  by_cases c : T.length ≤ 60
  · obtain ⟨g1, g2, g3⟩ := percent_back T c k hk
    have hl := enc_len T
    rw [g1, g2, Option.bind_some, Option.bind_some]
    dsimp only
    rw [if_neg (by decide), if_pos rfl, g3, Option.bind_some]
    dsimp only
    rw [if_pos rfl, if_pos rfl, tx_size, tx_size, decide_eq_true (by omega)]
  · obtain ⟨g1, g2⟩ := percent_long T (by omega) k
    rw [g1, g2, Option.bind_some, Option.bind_some]
    dsimp only
    rw [if_neg (by decide), if_neg (by decide)]
    exact congrArg some (beq_iff_eq.mpr (tx_toList []))
theorem w_len (a b : Nat) (ha : a ≤ 140737488351232) (hb : b ≤ 140737488351232) : wrap64 ((a : Int) + (b : Int)) = (a : Int) + (b : Int) := w64 (by omega) (by omega)
theorem FnUrls : laws_FnUrls.Pure := by
  intro code more hlen hlen2 hwf hlen3 hlen4 hwf2
  have hc := bytes_of code hwf
  have hc2 := bytes_of more hwf2
  refine ⟨5001, ?_⟩
  unfold laws_FnUrls.f
  rw [w_len _ _ (by omega) (by omega)]
  by_cases c : (code.length : Int) + (more.length : Int) > 1048576
  · rw [if_pos c]
  rw [if_neg c]
  obtain ⟨S, H, n, P, Q, a, e, hS, hH, hP, hQ⟩ := drawU_ok code hc (by omega) 5001 (by decide)
  unfold spec_DrawUrlText.f
  rw [e, Option.bind_some, Option.bind_some]
  dsimp only
  have gI := good_I 5001 S H n P Q a hS hH hP hQ (by decide)
  have gS := good_S 5001 S H n P Q a hS hH hP hQ (by decide)
  have ne : ∀ b : Bool, (b != b) = false := fun b => by cases b <;> rfl
  have hmb : more.length < 4611686018427387904 := by omega
  unfold impl_UrlText.f spec_UrlText.f
  rw [gI, gS, Option.bind_some, Option.bind_some]
  cases hg : goodL S H n P Q a with
  | false =>
    rw [if_neg (by decide), if_neg (by decide), Option.bind_some, Option.bind_some]
    dsimp only
    rw [if_neg (by decide), if_pos rfl, Option.bind_some, ne]
    unfold laws_FnUrls.j0
    dsimp only
    rw [if_neg (by decide), if_neg (by decide)]
    exact law_j1 more hc2 hmb 4999 (by decide)
  | true =>
    have hg2 := hg
    unfold goodL tailB at hg2
    simp only [Bool.and_eq_true, decide_eq_true_eq] at hg2
    obtain ⟨_, _, _, ⟨hn0, hn1⟩, _⟩ := hg2
    rw [if_pos rfl, if_pos rfl, text_I S H n P Q a hS hH hP hQ hn0 (by omega), text_S 4995 S H n P Q a hS hH hP hQ hn0 (by omega), Option.bind_some, Option.bind_some, Option.bind_some, Option.bind_some]
    dsimp only
    rw [if_neg (by decide), if_pos rfl, ne]
    unfold laws_FnUrls.j0
    dsimp only
    rw [if_neg (by decide), if_pos rfl, read_f 5000 S H n P Q a hS hH hP hQ (by decide) hg, Option.bind_some]
    dsimp only
    rw [if_pos rfl, beq_iff_eq.mpr rfl, beq_iff_eq.mpr rfl, beq_iff_eq.mpr rfl, beq_iff_eq.mpr rfl, beq_iff_eq.mpr rfl, beq_iff_eq.mpr rfl, if_neg (by decide)]
    exact law_j1 more hc2 hmb 4999 (by decide)

end Go.Proofs.YtklicdjbihmbiaaDoor.Pure
