/- The program's PickItem returns what the reference's returns, for all arguments; it leaves its arguments as they were. No conditions. -/
import Derived.Test.YtpggepjfhgalkaaGreatDoorPFnExactPickItemx23
set_option linter.unusedVariables false
set_option linter.unusedSimpArgs false
namespace Go.Proofs.YtpggepjfhgalkaaGreatDoor.Pure
open Go.RowKit Go.Proofs.YtpggepjfhgalkaaGreatDoor.PFnExactPickItem Go.Proofs.YtpggepjfhgalkaaGreatDoorW.PrintWords Go.Proofs.YtpggepjfhgalkaaGreatDoorW.PrintLast

/-! Whole numbers and rows of them -/
theorem w64 {x : Int} (h : -9223372036854775808 ≤ x) (h2 : x < 9223372036854775808) : wrap64 x = x := by unfold wrap64; omega
theorem rd_nat (l : List Int) (n : Nat) (h : n < l.length) : rd l (n : Int) = l[n] := by
  unfold rd; simp [List.getD_eq_getElem?_getD, h]
theorem succ_cast (n : Nat) : ((n : Int) + 1) = ((n + 1 : Nat) : Int) := by omega

theorem mono_le {α : Type} (F : Nat → Option α) (h : ∀ k, LeO (F k) (F (k + 1))) (a b : Nat) (hab : a ≤ b) (r : α) (e : F a = some r) : F b = some r := by
  obtain ⟨d, rfl⟩ := Nat.le.dest hab
  clear hab
  induction d with
  | zero => exact e
  | succ d ih => exact h (a + d) r ih

/-! ### Texts as lists of bytes -/
abbrev tx (l : List UInt8) : ByteArray := ⟨l.toArray⟩
theorem tx_size (l : List UInt8) : (tx l).size = l.length := by simp [ByteArray.size]
theorem tx_data (s : ByteArray) : tx s.data.toList = s := rfl
theorem tx_list (l : List UInt8) : (tx l).data.toList = l := rfl
theorem tx_app (a b : List UInt8) : tx a ++ tx b = tx (a ++ b) := by
  apply ByteArray.ext
  simp [tx]
theorem tx_cut (T : List UInt8) (a b : Nat) : (tx T).extract a b = tx ((T.drop a).take (b - a)) := by
  apply ByteArray.ext
  apply Array.toList_inj.mp
  simp [tx]
theorem tx_toList (l : List UInt8) : (tx l).toList = l := by rw [ByteArray.toList_eq]
theorem tx_inj {a b : List UInt8} (h : tx a = tx b) : a = b := by
  have : (tx a).data.toList = (tx b).data.toList := by rw [h]
  exact this
theorem bt_tx (T : List UInt8) (i : Nat) (h : i < T.length) : bt (tx T) (i : Int) = (T[i].toNat : Int) := by
  have h1 : ((i : Int)).toNat < (tx T).size := by rw [tx_size]; omega
  unfold bt
  rw [dif_pos h1]
  simp [tx, ByteArray.getElem_eq_getElem_data]
theorem bt_at (pre rest : List UInt8) (b : UInt8) : bt (tx (pre ++ b :: rest)) (pre.length : Int) = (b.toNat : Int) := by
  rw [bt_tx _ pre.length (by simp)]
  simp
/-! ### Cut at a byte -/
theorem index_none (c : UInt8) : ∀ l : List UInt8, c ∉ l → Lib.index l [c] = -1
  | [], _ => rfl
  | b :: l, h => by
    have hb : (c == b) = false := beq_eq_false_iff_ne.mpr fun e => h (e ▸ List.mem_cons_self ..)
    have ih := index_none c l fun hh => h (List.mem_cons_of_mem _ hh)
    unfold Lib.index
    rw [ih]
    simp [List.isPrefixOf, hb]
theorem index_at (c : UInt8) (r : List UInt8) : ∀ l : List UInt8, c ∉ l → Lib.index (l ++ c :: r) [c] = (l.length : Int)
  | [], _ => by simp [Lib.index, List.isPrefixOf]
  | b :: l, h => by
    have hb : (c == b) = false := beq_eq_false_iff_ne.mpr fun e => h (e ▸ List.mem_cons_self ..)
    have ih := index_at c r l fun hh => h (List.mem_cons_of_mem _ hh)
    show Lib.index (b :: (l ++ c :: r)) [c] = _
    unfold Lib.index
    rw [ih]
    have : ((l.length : Int) == -1) = false := beq_eq_false_iff_ne.mpr (by omega)
    simp [List.isPrefixOf, hb, this]
theorem cut_none (c : UInt8) (l : List UInt8) (h : c ∉ l) : Lib.cut l [c] = (l, [], false) := by
  unfold Lib.cut
  rw [index_none c l h]; rfl
theorem cut_at (c : UInt8) (l r : List UInt8) (h : c ∉ l) : Lib.cut (l ++ c :: r) [c] = (l, r, true) := by
  unfold Lib.cut
  rw [index_at c r l h, if_pos (by omega), Int.toNat_natCast, List.take_left]
  have : l.length + [c].length = (l ++ [c]).length := by simp
  rw [this, show l ++ c :: r = (l ++ [c]) ++ r by simp, List.drop_left]
theorem cut_http (r : List UInt8) : Lib.cut ([104, 116, 116, 112] ++ ([58, 47, 47] ++ r)) [58, 47, 47] = ([104, 116, 116, 112], r, true) := by
  simp [Lib.cut, Lib.index, List.isPrefixOf]
theorem cut_https (r : List UInt8) : Lib.cut ([104, 116, 116, 112, 115] ++ ([58, 47, 47] ++ r)) [58, 47, 47] = ([104, 116, 116, 112, 115], r, true) := by
  simp [Lib.cut, Lib.index, List.isPrefixOf]
/-! ### Numerals -/
theorem decFrom_app : ∀ (l r : List UInt8) (a : Nat), Lib.decFrom a (l ++ r) = (Lib.decFrom a l).bind fun b => Lib.decFrom b r
  | [], _, _ => rfl
  | x :: l, r, a => by
    show (match Lib.digitVal x with | some d => Lib.decFrom (a * 10 + d) (l ++ r) | none => none) = (match Lib.digitVal x with | some d => Lib.decFrom (a * 10 + d) l | none => none).bind _
    cases Lib.digitVal x with
    | none => rfl
    | some d => exact decFrom_app l r _
theorem u8of (d : Nat) (h : d < 10) : (UInt8.ofNat (48 + d)).toNat = 48 + d := by rw [UInt8.toNat_ofNat']; omega
theorem dig_val (d : Nat) (h : d < 10) : Lib.digitVal (UInt8.ofNat (48 + d)) = some d := by
  unfold Lib.digitVal
  rw [u8of d h, if_pos (by omega)]
  congr 1; omega
theorem dec_back (u : Nat) : Lib.decFrom 0 (Lib.decDigits u) = some u := by
  induction u using Nat.strongRecOn with
  | ind u ih =>
    unfold Lib.decDigits
    by_cases h : u < 10
    · rw [dif_pos h]
      show (match Lib.digitVal (UInt8.ofNat (48 + u)) with | some d => Lib.decFrom (0 * 10 + d) [] | none => none) = _
      rw [dig_val u h]
      show some (0 * 10 + u) = _
      congr 1; omega
    · rw [dif_neg h, decFrom_app, ih (u / 10) (by omega), Option.bind_some]
      show (match Lib.digitVal (UInt8.ofNat (48 + u % 10)) with | some d => Lib.decFrom (u / 10 * 10 + d) [] | none => none) = _
      rw [dig_val _ (by omega)]
      show some (u / 10 * 10 + u % 10) = _
      congr 1; omega
theorem dec_digs (u : Nat) : ∀ b ∈ Lib.decDigits u, 48 ≤ b.toNat ∧ b.toNat ≤ 57 := by
  induction u using Nat.strongRecOn with
  | ind u ih =>
    intro b hb
    unfold Lib.decDigits at hb
    by_cases h : u < 10
    · rw [dif_pos h] at hb
      rw [List.mem_singleton.mp hb, u8of u h]; omega
    · rw [dif_neg h] at hb
      rcases List.mem_append.mp hb with h1 | h1
      · exact ih (u / 10) (by omega) b h1
      · rw [List.mem_singleton.mp h1, u8of _ (by omega)]; omega
theorem dec_len (u : Nat) : ∀ n, u < 10 ^ (n + 1) → (Lib.decDigits u).length ≤ n + 1 := by
  induction u using Nat.strongRecOn with
  | ind u ih =>
    intro n hn
    unfold Lib.decDigits
    by_cases h : u < 10
    · rw [dif_pos h]; simp
    · rw [dif_neg h, List.length_append]
      cases n with
      | zero => omega
      | succ m =>
        have := ih (u / 10) (by omega) m (by rw [Nat.pow_succ] at hn; omega)
        simp; omega
theorem dec_ne (u : Nat) : Lib.decDigits u ≠ [] := by
  unfold Lib.decDigits
  split <;> simp
theorem atoi_back (u : Nat) : Lib.atoi (Lib.decDigits u) = some (u : Int) := by
  cases e : Lib.decDigits u with
  | nil => exact absurd e (dec_ne u)
  | cons b r =>
    have hb := dec_digs u b (by rw [e]; exact List.mem_cons_self ..)
    show (if (b == 45) = true then (Lib.decNat r).map fun (m : Nat) => -(m : Int) else if (b == 43) = true then (Lib.decNat r).map fun (m : Nat) => (m : Int) else (Lib.decNat (b :: r)).map fun (m : Nat) => (m : Int)) = _
    have h1 : (b == 45) = false := beq_eq_false_iff_ne.mpr fun h => by subst h; simp at hb
    have h2 : (b == 43) = false := beq_eq_false_iff_ne.mpr fun h => by subst h; simp at hb
    rw [h1, h2]
    have : Lib.decNat (b :: r) = some u := by
      unfold Lib.decNat
      rw [← e, if_neg (by rw [e]; exact Bool.false_ne_true), dec_back]
    simp [this]

/-! ### Blanks trimmed -/
abbrev bl (i : Nat) : List UInt8 := List.replicate i 32
theorem bl_succ (i : Nat) : bl (i + 1) = 32 :: bl i := rfl
theorem bl_end (i : Nat) : bl (i + 1) = bl i ++ [32] := List.replicate_succ'
/-- a core: nothing, or neither its first nor its last byte is a blank -/
def Core (c : List UInt8) : Prop := (∀ b r, c = b :: r → b ≠ 32) ∧ (∀ r b, c = r ++ [b] → b ≠ 32)
theorem core_ex (l : List UInt8) : ∃ i c j, l = bl i ++ c ++ bl j ∧ Core c ∧ (c = [] → j = 0) := by
  have left : ∀ l : List UInt8, ∃ i c, l = bl i ++ c ∧ (∀ b r, c = b :: r → b ≠ 32) := by
    intro l
    induction l with
    | nil => exact ⟨0, [], rfl, fun b r h => by cases h⟩
    | cons x l ih =>
      by_cases h : x = 32
      · obtain ⟨i, c, h1, h2⟩ := ih
        exact ⟨i + 1, c, by rw [h, h1]; rfl, h2⟩
      · exact ⟨0, x :: l, rfl, fun b r hb => by rw [← (List.cons.inj hb).1]; exact h⟩
  have right : ∀ c : List UInt8, (∀ b r, c = b :: r → b ≠ 32) → ∃ d j, c = d ++ bl j ∧ Core d ∧ (d = [] → j = 0) := by
    intro c
    have key : ∀ (n : Nat) (c : List UInt8), c.length = n → (∀ b r, c = b :: r → b ≠ 32) → ∃ d j, c = d ++ bl j ∧ Core d ∧ (d = [] → j = 0) := by
      intro n
      induction n with
      | zero =>
        intro c hc hb
        have : c = [] := List.eq_nil_of_length_eq_zero hc
        subst this
        exact ⟨[], 0, rfl, ⟨hb, fun r b h => by simp at h⟩, fun _ => rfl⟩
      | succ n ih =>
        intro c hc hb
        rcases List.eq_nil_or_concat c with h | ⟨L, x, h⟩
        · rw [h] at hc; cases hc
        · rw [List.concat_eq_append] at h
          by_cases hx : x = 32
          · have hL : ∀ b r, L = b :: r → b ≠ 32 := fun b r hbr => hb b (r ++ [x]) (by rw [h, hbr]; rfl)
            obtain ⟨d, j, h1, h2, h3⟩ := ih L (by rw [h, List.length_append, List.length_singleton] at hc; omega) hL
            by_cases hd : d = []
            · exfalso
              have hj := h3 hd
              rw [hd, hj] at h1
              have hc1 : c = [x] := by rw [h, h1]; rfl
              exact hb x [] hc1 hx
            · exact ⟨d, j + 1, by rw [h, h1, hx, List.append_assoc, ← bl_end], h2, fun hh => absurd hh hd⟩
          · refine ⟨c, 0, by simp, ⟨hb, fun r b hr => ?_⟩, fun _ => rfl⟩
            rw [h] at hr
            have := List.append_inj_right' hr rfl
            rw [← (List.cons.inj this).1]; exact hx
    exact key c.length c rfl
  obtain ⟨i, c, h1, h2⟩ := left l
  obtain ⟨d, j, h3, h4, h5⟩ := right c h2
  exact ⟨i, d, j, by rw [h1, h3, List.append_assoc], h4, h5⟩
theorem last_bt (T : List UInt8) (b : UInt8) (h : T.length ≤ 1000000000) : bt (tx (T ++ [b])) (wrap64 (((tx (T ++ [b])).size : Int) - 1)) = (b.toNat : Int) ∧ wrap64 (((tx (T ++ [b])).size : Int) - 1) = (T.length : Int) ∧ ((tx (T ++ [b])).size : Int) = (T.length : Int) + 1 := by
  have hs : ((tx (T ++ [b])).size : Int) = (T.length : Int) + 1 := by rw [tx_size]; simp
  have hw : wrap64 ((T.length : Int) + 1 - 1) = (T.length : Int) := by rw [w64 (by omega) (by omega)]; omega
  rw [hs, hw]
  exact ⟨bt_at T [] b, rfl, rfl⟩
theorem cut_last (T : List UInt8) (b : UInt8) : (tx (T ++ [b])).extract 0 (T.length : Int).toNat = tx T := by
  rw [tx_cut, List.drop_zero, Int.toNat_natCast, Nat.sub_zero, List.take_left]
theorem cut_first (b : UInt8) (T : List UInt8) : (tx (b :: T)).extract 1 (tx (b :: T)).size = tx T := by
  rw [tx_cut, tx_size]
  show tx (T.take ((b :: T).length - 1)) = _
  rw [List.take_of_length_le (by simp)]
theorem n32 (b : UInt8) (h : b ≠ 32) : ¬ (b.toNat : Int) = 32 := fun hh => h (UInt8.toNat_inj.mp (by show b.toNat = 32; omega))
theorem trimR_I (A : List UInt8) (hA : ∀ r b, A = r ++ [b] → b ≠ 32) : ∀ (j K : Nat), (A ++ bl j).length ≤ 1000000000 → j < K → strings_trimRightByte.l0 K (tx (A ++ bl j)) 32 = some (tx A)
  | j, 0, _, h => absurd h (by omega)
  | 0, K + 1, hl, h => by
    have e : A ++ bl 0 = A := by simp
    rw [e] at hl ⊢
    unfold strings_trimRightByte.l0
    rcases List.eq_nil_or_concat A with h0 | ⟨T, b, h0⟩
    · rw [h0, if_neg (by decide)]
    · rw [List.concat_eq_append] at h0
      have hb := hA T b h0
      subst h0
      have hT : T.length ≤ 1000000000 := by rw [List.length_append] at hl; omega
      obtain ⟨g1, g2, g3⟩ := last_bt T b hT
      rw [g1, g2, g3, if_pos (by omega), if_pos (by omega), if_pos (by omega), if_neg (n32 b hb)]
  | j + 1, K + 1, hl, h => by
    have e : A ++ bl (j + 1) = (A ++ bl j) ++ [32] := by rw [bl_end, List.append_assoc]
    rw [e] at hl ⊢
    have hT : (A ++ bl j).length ≤ 1000000000 := by rw [@List.length_append _ (A ++ bl j) _] at hl; omega
    obtain ⟨g1, g2, g3⟩ := last_bt (A ++ bl j) 32 hT
    unfold strings_trimRightByte.l0
    rw [g1, g2, g3, if_pos (by omega), if_pos (by omega), if_pos (by omega), if_pos (by rfl), if_pos (by omega), cut_last]
    exact trimR_I A hA j K hT (by omega)
theorem trimL_I (A : List UInt8) (hA : ∀ b r, A = b :: r → b ≠ 32) : ∀ (i K : Nat), i < K → strings_trimLeftByte.l0 K (tx (bl i ++ A)) 32 = some (tx A)
  | i, 0, h => absurd h (by omega)
  | 0, K + 1, h => by
    have e : bl 0 ++ A = A := rfl
    rw [e]
    unfold strings_trimLeftByte.l0
    cases A with
    | nil => rw [if_neg (by decide)]
    | cons b r =>
      have e0 : bt (tx (b :: r)) 0 = (b.toNat : Int) := bt_tx (b :: r) 0 (by simp)
      have hs : ((tx (b :: r)).size : Int) = (r.length : Int) + 1 := by rw [tx_size]; simp
      rw [e0, hs, if_pos (by omega), if_pos (by omega), if_neg (n32 b (hA b r rfl))]
  | i + 1, K + 1, h => by
    have e : bl (i + 1) ++ A = 32 :: (bl i ++ A) := rfl
    rw [e]
    have e0 : bt (tx (32 :: (bl i ++ A))) 0 = 32 := bt_tx (32 :: (bl i ++ A)) 0 (by simp)
    have hs : ((tx (32 :: (bl i ++ A))).size : Int) = ((bl i ++ A).length : Int) + 1 := by rw [tx_size]; simp
    have hc := cut_first 32 (bl i ++ A)
    unfold strings_trimLeftByte.l0
    rw [hc, e0, hs, if_pos (by omega), if_pos (by omega), if_pos rfl, if_pos (by omega)]
    exact trimL_I A hA i K (by omega)
theorem trim_I (i j K : Nat) (c : List UInt8) (hc : Core c) (hl : (bl i ++ c ++ bl j).length ≤ 1000000000) (hj : c = [] → j = 0) (hK : i + j + 3 ≤ K) : strings_Trim.f K (tx (bl i ++ c ++ bl j)) (⟨#[32]⟩ : ByteArray) = some (tx c) := by
  obtain ⟨m, rfl⟩ : ∃ m, K = m + 2 := ⟨K - 2, by omega⟩
  have e32 : (⟨#[32]⟩ : ByteArray) = tx [32] := rfl
  have b32 : bt (tx [32]) 0 = 32 := bt_tx [32] 0 (by simp)
  have s32 : ((tx [32]).size : Int) = 1 := rfl
  unfold strings_Trim.f
  rw [e32, tx_toList, tx_toList]
  by_cases c0 : bl i ++ c ++ bl j = []
  · have hc0 : c = [] := by
      have := List.append_eq_nil_iff.mp c0
      exact (List.append_eq_nil_iff.mp this.1).2
    rw [if_pos c0]
    unfold strings_Trim.j0
    dsimp only
    rw [if_pos rfl, c0, hc0]
  · rw [if_neg c0]
    unfold strings_Trim.j0
    dsimp only
    rw [if_neg (by decide), s32, b32, if_pos rfl, if_pos (by decide)]
    unfold strings_Trim.j1 strings_trimRightByte.f strings_trimLeftByte.f
    dsimp only
    have hA : ∀ r b, bl i ++ c = r ++ [b] → c ≠ [] → b ≠ 32 := fun r b h hn => by
      rcases List.eq_nil_or_concat c with h0 | ⟨T, x, h0⟩
      · exact absurd h0 hn
      · rw [List.concat_eq_append] at h0
        rw [h0, ← List.append_assoc] at h
        have := List.append_inj_right' h rfl
        rw [← (List.cons.inj this).1]
        exact hc.2 T x h0
    rw [if_pos (by decide), s32, if_pos (by decide), b32]
    by_cases hn : c = []
    · have hj0 := hj hn
      subst hn
      subst hj0
      have e0 : bl i ++ [] ++ bl 0 = [] ++ bl i := by simp
      rw [e0]
      rw [trimR_I [] (fun r b h => by simp at h) i m (by rw [e0] at hl; exact hl) (by omega), Option.bind_some]
      have e1 := trimL_I [] (fun b r h => by cases h) 0 m (by omega)
      have e2 : bl 0 ++ [] = ([] : List UInt8) := rfl
      rw [e2] at e1
      rw [e1]; rfl
    · rw [trimR_I (bl i ++ c) (fun r b h => hA r b h hn) j m hl (by omega), Option.bind_some, trimL_I c hc.1 i m (by omega)]; rfl
theorem trimS_r (c : List UInt8) (hc : Core c) : ∀ (j K : Nat), (c ++ bl j).length ≤ 1000000000 → j < K → spec_l3Trim.l1 K (tx (c ++ bl j)) = some (tx c)
  | j, 0, _, h => absurd h (by omega)
  | 0, K + 1, hl, h => by
    have e : c ++ bl 0 = c := by simp
    rw [e] at hl ⊢
    unfold spec_l3Trim.l1
    rcases List.eq_nil_or_concat c with h0 | ⟨T, b, h0⟩
    · rw [h0, if_neg (by decide)]
    · rw [List.concat_eq_append] at h0
      have hb := hc.2 T b h0
      subst h0
      have hT : T.length ≤ 1000000000 := by rw [List.length_append] at hl; omega
      obtain ⟨g1, g2, g3⟩ := last_bt T b hT
      rw [g1, g2, g3, if_pos (by omega), if_pos (by omega), if_pos (by omega), if_neg (n32 b hb)]
  | j + 1, K + 1, hl, h => by
    have e : c ++ bl (j + 1) = (c ++ bl j) ++ [32] := by rw [bl_end, List.append_assoc]
    rw [e] at hl ⊢
    have hT : (c ++ bl j).length ≤ 1000000000 := by rw [@List.length_append _ (c ++ bl j) _] at hl; omega
    obtain ⟨g1, g2, g3⟩ := last_bt (c ++ bl j) 32 hT
    unfold spec_l3Trim.l1
    rw [g1, g2, g3, if_pos (by omega), if_pos (by omega), if_pos (by omega), if_pos (by rfl), if_pos (by omega), cut_last]
    exact trimS_r c hc j K hT (by omega)
theorem trim_S (c : List UInt8) (hc : Core c) (j : Nat) (hj : c = [] → j = 0) : ∀ (i K : Nat), (bl i ++ c ++ bl j).length ≤ 1000000000 → i + j + 3 ≤ K → spec_l3Trim.l0 K (tx (bl i ++ c ++ bl j)) = some (tx c)
  | i, 0, _, h => absurd h (by omega)
  | 0, K + 1, hl, h => by
    have e : bl 0 ++ c ++ bl j = c ++ bl j := rfl
    rw [e] at hl ⊢
    obtain ⟨m, rfl⟩ : ∃ m, K = m + 1 := ⟨K - 1, by omega⟩
    have fin : spec_l3Trim.j1 (m + 1) (tx (c ++ bl j)) = some (tx c) := by
      unfold spec_l3Trim.j1
      dsimp only
      exact trimS_r c hc j m hl (by omega)
    unfold spec_l3Trim.l0
    cases c with
    | nil =>
      have := hj rfl
      subst this
      rw [if_neg (by decide)]
      exact fin
    | cons b r =>
      have e0 : bt (tx (b :: r ++ bl j)) 0 = (b.toNat : Int) := bt_tx (b :: r ++ bl j) 0 (by simp)
      have hs : ((tx (b :: r ++ bl j)).size : Int) = ((r ++ bl j).length : Int) + 1 := by rw [tx_size]; simp
      rw [e0, hs, if_pos (by omega), if_pos (by omega), if_neg (n32 b (hc.1 b r rfl))]
      exact fin
  | i + 1, K + 1, hl, h => by
    have e : bl (i + 1) ++ c ++ bl j = 32 :: (bl i ++ c ++ bl j) := rfl
    rw [e] at hl ⊢
    have e0 : bt (tx (32 :: (bl i ++ c ++ bl j))) 0 = 32 := bt_tx (32 :: (bl i ++ c ++ bl j)) 0 (by simp)
    have hs : ((tx (32 :: (bl i ++ c ++ bl j))).size : Int) = ((bl i ++ c ++ bl j).length : Int) + 1 := by rw [tx_size]; simp
    have hcf := cut_first 32 (bl i ++ c ++ bl j)
    unfold spec_l3Trim.l0
    rw [hcf, e0, hs, if_pos (by omega), if_pos (by omega), if_pos rfl, if_pos (by omega)]
    exact trim_S c hc j hj i K (by rw [List.length_cons] at hl; omega) (by omega)

/-! ### A list's parts -/
noncomputable def trimB (l : List UInt8) : List UInt8 := (core_ex l).choose_spec.choose
theorem trimB_form (l : List UInt8) : ∃ i j, l = bl i ++ trimB l ++ bl j ∧ Core (trimB l) ∧ (trimB l = [] → j = 0) :=
  ⟨(core_ex l).choose, (core_ex l).choose_spec.choose_spec.choose, (core_ex l).choose_spec.choose_spec.choose_spec⟩
theorem form_len (i j : Nat) (c : List UInt8) : (bl i ++ c ++ bl j).length = i + c.length + j := by simp; omega
theorem trimI (K : Nat) (l : List UInt8) (hl : l.length ≤ 1000000000) (hK : l.length + 3 ≤ K) : strings_Trim.f K (tx l) (⟨#[32]⟩ : ByteArray) = some (tx (trimB l)) := by
  obtain ⟨i, j, h1, h2, h3⟩ := trimB_form l
  have hn : l.length = i + (trimB l).length + j := by
    have := form_len i j (trimB l)
    rw [← h1] at this; exact this
  have := trim_I i j K (trimB l) h2 (by rw [← h1]; exact hl) h3 (by omega)
  rw [← h1] at this
  exact this
theorem trimS (K : Nat) (l : List UInt8) (hl : l.length ≤ 1000000000) (hK : l.length + 3 ≤ K) : spec_l3Trim.f K (tx l) = some (tx (trimB l)) := by
  obtain ⟨i, j, h1, h2, h3⟩ := trimB_form l
  have hn : l.length = i + (trimB l).length + j := by
    have := form_len i j (trimB l)
    rw [← h1] at this; exact this
  have := trim_S (trimB l) h2 j h3 i K (by rw [← h1]; exact hl) (by omega)
  rw [← h1] at this
  exact this
theorem trimB_none (l : List UInt8) (h : (32 : UInt8) ∉ l) : trimB l = l := by
  obtain ⟨i, j, h1, _, _⟩ := trimB_form l
  have hi : i = 0 := by
    cases i with
    | zero => rfl
    | succ i => exact absurd (by rw [h1]; simp) h
  have hj : j = 0 := by
    cases j with
    | zero => rfl
    | succ j => exact absurd (by rw [h1]; simp) h
  subst hi hj
  have : bl 0 ++ trimB l ++ bl 0 = trimB l := by simp
  rw [this] at h1
  exact h1.symm
theorem trimB_len (l : List UInt8) : (trimB l).length ≤ l.length := by
  obtain ⟨i, j, h1, _, _⟩ := trimB_form l
  have := form_len i j (trimB l)
  rw [← h1] at this; omega
noncomputable def addP (cur : List UInt8) : List (List UInt8) := if trimB cur = [] then [] else [trimB cur]
noncomputable def lst : List UInt8 → List UInt8 → List (List UInt8)
  | cur, [] => addP cur
  | cur, b :: r => if b = 44 then addP cur ++ lst [] r else lst (cur ++ [b]) r
theorem lenI (A : List UInt8) (b : UInt8) : (((A ++ [b]).length : Nat) : Int) = (A.length : Int) + 1 := by simp
theorem mid_cut (pre cur M : List UInt8) : (tx (pre ++ cur ++ M)).extract (pre.length : Int).toNat ((pre ++ cur).length : Int).toNat = tx cur := by
  rw [tx_cut, Int.toNat_natCast, Int.toNat_natCast, List.append_assoc, List.drop_left]
  have : (pre ++ cur).length - pre.length = cur.length := by rw [List.length_append]; omega
  rw [this, List.take_left]
/-! the sums, with no text in sight -/
theorem ar1 (q n : Nat) (h : q < n) : (q : Int) ≤ (n : Int) ∧ ¬ (q : Int) = (n : Int) ∧ (0 : Int) ≤ (q : Int) ∧ (q : Int) < (n : Int) := by omega
theorem ar2 (p q : Nat) (h : p ≤ q) : (0 : Int) ≤ (p : Int) ∧ (p : Int) ≤ (q : Int) := by omega
theorem ar3 (q : Nat) : ¬ (q : Int) + 1 ≤ (q : Int) := by omega
theorem ar4 (q n : Nat) (h : q ≤ n) (h2 : n ≤ 100000000) : wrap64 ((q : Int) + 1) = (q : Int) + 1 := w64 (by omega) (by omega)
theorem ar5 (a n k : Nat) (hn : n ≤ 100000000) (ha : a ≤ n) : a ≤ 1000000000 := by omega
theorem ar6 (m n a k : Nat) (h : 3 * m + n + 20 ≤ k + 3) (ha : a ≤ n) : a + 3 ≤ k + 1 := by omega
theorem ar7 (m n k : Nat) (h : 3 * (m + 1) + n + 20 ≤ k + 3) : 3 * m + n + 20 ≤ k + 1 ∧ 3 * m + n + 20 ≤ k := by omega
theorem mapRoom (O : List (List UInt8)) (n : Nat) (h : O.length ≤ n) (hn : n ≤ 100000000) : (O.map tx).length < 8796093022208 := by rw [List.length_map]; omega
theorem leA (A B : List UInt8) : A.length ≤ (A ++ B).length ∧ B.length ≤ (A ++ B).length := by rw [List.length_append]; omega
theorem ltA (A : List UInt8) (b : UInt8) (M : List UInt8) : A.length < (A ++ b :: M).length := by rw [List.length_append, List.length_cons]; omega
theorem nbv (b v : UInt8) (h : b ≠ v) : ¬ (b.toNat : Int) = (v.toNat : Int) := fun hh => h (UInt8.toNat_inj.mp (by omega))
theorem lst_44 (cur M : List UInt8) : lst cur (44 :: M) = addP cur ++ lst [] M := by
  conv => lhs; unfold lst
  rw [if_pos rfl]
theorem lst_ne (cur M : List UInt8) (b : UInt8) (c : b ≠ 44) : lst cur (b :: M) = lst (cur ++ [b]) M := by
  conv => lhs; unfold lst
  rw [if_neg c]
theorem listI (T : List UInt8) (hT : T.length ≤ 100000000) : ∀ (M cur pre : List UInt8) (O : List (List UInt8)) (K : Nat), T = pre ++ cur ++ M → (34 : UInt8) ∉ M → (92 : UInt8) ∉ M → O.length ≤ pre.length → 3 * M.length + T.length + 20 ≤ K →
    impl_listOf.l0 K (tx T) (O.map tx) (pre.length : Int) false ((pre ++ cur).length : Int) = some ((O ++ lst cur M).map tx, true)
  | M, cur, pre, O, 0, _, _, _, _, h => absurd h (by omega)
  | M, cur, pre, O, 1, _, _, _, _, h => absurd h (by omega)
  | M, cur, pre, O, 2, _, _, _, _, h => absurd h (by omega)
  | [], cur, pre, O, m + 3, hx, h34, h92, hO, hK => by
    have hpc : T.length = (pre ++ cur).length := by rw [hx, List.append_nil]
    have hcut := mid_cut pre cur []
    rw [← hx] at hcut
    have hw := ar4 (pre ++ cur).length T.length (by rw [hpc]; exact Nat.le_refl _) hT
    have hroom := mapRoom O T.length (Nat.le_trans hO (by rw [hpc]; exact (leA pre cur).1)) hT
    have htr := trimI (m + 1) cur (ar5 _ _ 0 hT (by rw [hpc]; exact (leA pre cur).2)) (ar6 _ _ _ _ hK (by rw [hpc]; exact (leA pre cur).2))
    have hp := ar2 pre.length (pre ++ cur).length (leA pre cur).1
    have fin : ∀ X : List ByteArray, impl_listOf.l0 (m + 1) (tx T) X (((pre ++ cur).length : Int) + 1) false (((pre ++ cur).length : Int) + 1) = some (X, true) := fun X => by
      unfold impl_listOf.l0
      rw [tx_size, hpc, if_neg (ar3 _)]; rfl
    have e : lst cur [] = addP cur := rfl
    clear hx hK hT h34 h92 hO
    unfold impl_listOf.l0
    rw [tx_size, hpc, if_pos (Int.le_refl _), if_pos rfl]
    unfold impl_listOf.j1
    rw [if_pos rfl, if_pos hp.1, if_pos hp.2, tx_size, hpc, if_pos (Int.le_refl _), hcut, htr, Option.bind_some, tx_toList, hw, e]
    unfold addP
    by_cases c : trimB cur = []
    · rw [if_pos c, if_pos c, fin, List.append_nil]
    · rw [if_neg c, if_neg c, if_pos hroom, fin]; simp
  | b :: M, cur, pre, O, m + 3, hx, h34, h92, hO, hK => by
    have hlt : (pre ++ cur).length < T.length := by rw [hx]; exact ltA (pre ++ cur) b M
    have hbt : bt (tx T) ((pre ++ cur).length : Int) = (b.toNat : Int) := by rw [hx]; exact bt_at (pre ++ cur) M b
    have hcut := mid_cut pre cur (b :: M)
    rw [← hx] at hcut
    have hw := ar4 (pre ++ cur).length T.length (Nat.le_of_lt hlt) hT
    have hroom := mapRoom O T.length (Nat.le_trans hO (Nat.le_trans (leA pre cur).1 (Nat.le_of_lt hlt))) hT
    have hcl := Nat.le_trans (leA pre cur).2 (Nat.le_of_lt hlt)
    have htr := trimI (m + 1) cur (ar5 _ _ 0 hT hcl) (ar6 _ _ _ _ hK hcl)
    have hp := ar2 pre.length (pre ++ cur).length (leA pre cur).1
    have hq := ar1 (pre ++ cur).length T.length hlt
    rw [List.length_cons] at hK
    have hf := ar7 _ _ _ hK
    have h34' : (34 : UInt8) ∉ M := fun h => h34 (List.mem_cons_of_mem _ h)
    have h92' : (92 : UInt8) ∉ M := fun h => h92 (List.mem_cons_of_mem _ h)
    unfold impl_listOf.l0
    rw [tx_size, if_pos hq.1, if_neg hq.2.1, if_pos hq.2.2.1, if_pos hq.2.2.2, hbt]
    by_cases c : b = 44
    · have e1 : (((pre ++ cur ++ [44]).length : Nat) : Int) = ((pre ++ cur).length : Int) + 1 := lenI (pre ++ cur) 44
      have e2 : T = (pre ++ cur ++ [44]) ++ [] ++ M := by rw [hx, c]; simp
      have e3 : (pre ++ cur ++ [44]) ++ [] = pre ++ cur ++ [44] := List.append_nil _
      have hO1 : O.length + 1 ≤ (pre ++ cur ++ [44]).length := by
        rw [List.length_append, List.length_singleton]
        exact Nat.succ_le_succ (Nat.le_trans hO (leA pre cur).1)
      have ih := fun (O' : List (List UInt8)) (hO' : O'.length ≤ (pre ++ cur ++ [44]).length) => listI T hT M [] (pre ++ cur ++ [44]) O' (m + 1) e2 h34' h92' hO' hf.1
      rw [e3] at ih
      simp only [e1] at ih
      rw [if_pos (show (b.toNat : Int) = 44 by rw [c]; rfl)]
      unfold impl_listOf.j1
      rw [if_pos (by rfl), if_pos hp.1, if_pos hp.2, tx_size, if_pos hq.1, hcut, htr, Option.bind_some, tx_toList, hw, c, lst_44]
      unfold addP
      by_cases c2 : trimB cur = []
      · rw [if_pos c2, if_pos c2, ih O (Nat.le_of_succ_le hO1), List.nil_append]
      · have em : O.map tx ++ [tx (trimB cur)] = (O ++ [trimB cur]).map tx := by simp
        rw [if_neg c2, if_neg c2, if_pos hroom, em, ih (O ++ [trimB cur]) (by rw [List.length_append, List.length_singleton]; exact hO1), List.append_assoc]
    · have hb34 : b ≠ 34 := fun h => h34 (h ▸ List.mem_cons_self)
      have hb92 : b ≠ 92 := fun h => h92 (h ▸ List.mem_cons_self)
      have e2 : T = pre ++ (cur ++ [b]) ++ M := by rw [hx]; simp
      have e1 : (((pre ++ (cur ++ [b])).length : Nat) : Int) = ((pre ++ cur).length : Int) + 1 := by rw [← List.append_assoc]; exact lenI (pre ++ cur) b
      have ih := listI T hT M (cur ++ [b]) pre O m e2 h34' h92' hO hf.2
      rw [e1] at ih
      rw [if_neg (show ¬ (b.toNat : Int) = 44 from nbv b 44 c)]
      unfold impl_listOf.j1
      rw [if_neg (show ¬ false = true by decide), if_pos hq.2.2.1, tx_size, if_pos hq.2.2.2, hbt, if_neg (show ¬ (b.toNat : Int) = 34 from nbv b 34 hb34), if_neg (show ¬ (b.toNat : Int) = 92 from nbv b 92 hb92)]
      unfold impl_listOf.j2
      rw [if_neg (show ¬ false = true by decide), hw, lst_ne cur M b c]
      exact ih
theorem addP_mem (cur T : List UInt8) (h : T ∈ addP cur) : T = trimB cur := by
  unfold addP at h
  split at h
  · cases h
  · exact List.mem_singleton.mp h
theorem trimB_infix (l : List UInt8) : ∃ x y, l = x ++ trimB l ++ y := by
  obtain ⟨i, j, h, _⟩ := trimB_form l
  exact ⟨_, _, h⟩

/-! ### Lists with quotes, in plain words: states 0 (without quotes), 1 (within), 2 (behind a backslash within) -/
def nx (q : Nat) (b : UInt8) : Nat := if q = 0 then (if b = 34 then 1 else 0) else if q = 1 then (if b = 34 then 0 else if b = 92 then 2 else 1) else 1
def pr : Nat → List UInt8 → Option Nat
  | q, [] => some q
  | q, b :: T => if q = 0 ∧ b = 44 then none else pr (nx q b) T
noncomputable def lq (cur : List UInt8) (q : Nat) : List UInt8 → Option (List (List UInt8))
  | [] => if q = 0 then some (addP cur) else none
  | b :: M => if q = 0 ∧ b = 44 then (lq [] 0 M).map (addP cur ++ ·) else lq (cur ++ [b]) (nx q b) M
theorem lq_nil (cur : List UInt8) (q : Nat) : lq cur q [] = (if q = 0 then some (addP cur) else none) := by unfold lq; rfl
theorem lq_cons (cur : List UInt8) (q : Nat) (b : UInt8) (M : List UInt8) : lq cur q (b :: M) = (if q = 0 ∧ b = 44 then (lq [] 0 M).map (addP cur ++ ·) else lq (cur ++ [b]) (nx q b) M) := by rw [lq]
theorem pr_cons (q : Nat) (b : UInt8) (T : List UInt8) : pr q (b :: T) = (if q = 0 ∧ b = 44 then none else pr (nx q b) T) := rfl
theorem pr_app : ∀ (A B : List UInt8) (q : Nat), pr q (A ++ B) = (pr q A).bind (fun q2 => pr q2 B)
  | [], B, q => rfl
  | b :: A, B, q => by
    rw [List.cons_append, pr_cons, pr_cons]
    split
    · rfl
    · exact pr_app A B (nx q b)
theorem lq_run : ∀ (T M cur : List UInt8) (q q2 : Nat), pr q T = some q2 → lq cur q (T ++ M) = lq (cur ++ T) q2 M
  | [], M, cur, q, q2, h => by
    cases h
    rw [List.append_nil]; rfl
  | b :: T, M, cur, q, q2, h => by
    rw [pr_cons] at h
    by_cases c : q = 0 ∧ b = 44
    · rw [if_pos c] at h; cases h
    · rw [if_neg c] at h
      rw [List.cons_append, lq_cons, if_neg c, lq_run T M (cur ++ [b]) (nx q b) q2 h, List.append_assoc]; rfl
theorem pr_bl0 : ∀ i : Nat, pr 0 (bl i) = some 0
  | 0 => rfl
  | i + 1 => by
    rw [bl_succ, pr_cons, if_neg (by decide)]
    exact pr_bl0 i
theorem pr_bl1 : ∀ i : Nat, pr 1 (bl i) = some 1
  | 0 => rfl
  | i + 1 => by
    rw [bl_succ, pr_cons, if_neg (by decide)]
    exact pr_bl1 i
theorem pr_bl (q j : Nat) (h : pr q (bl j) = some 0) : q = 0 := by
  match j with
  | 0 => exact Option.some.inj h
  | j + 1 =>
    by_cases c : q = 0
    · exact c
    · have e : nx q 32 = 1 := by unfold nx; rw [if_neg c]; split <;> rfl
      rw [bl_succ, pr_cons, if_neg (fun hh => c hh.1), e, pr_bl1] at h
      cases h
theorem pr_trim (cur : List UInt8) (h : pr 0 cur = some 0) : pr 0 (trimB cur) = some 0 := by
  obtain ⟨i, j, e, _, _⟩ := trimB_form cur
  rw [e, pr_app, pr_app, pr_bl0, Option.bind_some] at h
  cases h2 : pr 0 (trimB cur) with
  | none => rw [h2] at h; cases h
  | some q =>
    rw [h2, Option.bind_some] at h
    rw [pr_bl q j h]
theorem core_trim (c : List UInt8) (h : Core c) : trimB c = c := by
  obtain ⟨i, j, e, _, h3⟩ := trimB_form c
  cases i with
  | succ i => exact absurd rfl (h.1 32 (bl i ++ trimB c ++ bl j) e)
  | zero =>
    cases j with
    | succ j => exact absurd rfl (h.2 (trimB c ++ bl j) 32 (e.trans (by rw [bl_end]; simp)))
    | zero => exact (e.trans (by simp)).symm
/-- a part: no comma without quotes, no quote left open, no blanks around it, not empty -/
def Pt (T : List UInt8) : Prop := pr 0 T = some 0 ∧ T ≠ [] ∧ Core T
theorem addP_pt (cur : List UInt8) (h : pr 0 cur = some 0) : ∀ T ∈ addP cur, Pt T := by
  intro T hT
  unfold addP at hT
  split at hT
  · cases hT
  · rename_i c
    rw [List.mem_singleton.mp hT]
    obtain ⟨i, j, _, hc, _⟩ := trimB_form cur
    exact ⟨pr_trim cur h, c, hc⟩
theorem addP_core (T : List UInt8) (h : Pt T) : addP T = [T] := by
  unfold addP
  rw [core_trim T h.2.2, if_neg h.2.1]
theorem lq_parts : ∀ (M cur : List UInt8) (q : Nat) (L : List (List UInt8)), pr 0 cur = some q → lq cur q M = some L → ∀ T ∈ L, Pt T
  | [], cur, q, L, hq, h => by
    rw [lq_nil] at h
    by_cases c : q = 0
    · rw [if_pos c] at h
      cases h
      exact addP_pt cur (c ▸ hq)
    · rw [if_neg c] at h; cases h
  | b :: M, cur, q, L, hq, h => by
    rw [lq_cons] at h
    by_cases c : q = 0 ∧ b = 44
    · rw [if_pos c] at h
      obtain ⟨L2, h2, e⟩ := Option.map_eq_some_iff.mp h
      have ih := lq_parts M [] 0 L2 rfl h2
      have ha := addP_pt cur (c.1 ▸ hq)
      intro T hT
      rw [← e] at hT
      rcases List.mem_append.mp hT with hT | hT
      · exact ha T hT
      · exact ih T hT
    · rw [if_neg c] at h
      refine lq_parts M (cur ++ [b]) (nx q b) L ?_ h
      rw [pr_app, hq, Option.bind_some, pr_cons, if_neg c]; rfl
theorem lq_tail : ∀ (L : List (List UInt8)) (T : List UInt8), Pt T → (∀ X ∈ L, Pt X) → lq T 0 (Lib.joinTail [44] L) = some (T :: L)
  | [], T, hT, _ => by
    show lq T 0 [] = _
    rw [lq_nil, if_pos rfl, addP_core T hT]
  | X :: L, T, hT, h => by
    have hX := h X List.mem_cons_self
    have ih := lq_tail L X hX (fun Y hY => h Y (List.mem_cons_of_mem _ hY))
    have e : Lib.joinTail [44] (X :: L) = 44 :: (X ++ Lib.joinTail [44] L) := by simp [Lib.joinTail]
    rw [e, lq_cons, if_pos ⟨rfl, rfl⟩, lq_run X _ [] 0 0 hX.1, List.nil_append, ih, addP_core T hT]; rfl
/-- read again: the parts, joined by commas, are read as they are -/
theorem lq_again (L : List (List UInt8)) (h : ∀ X ∈ L, Pt X) : lq [] 0 (Lib.join L [44]) = some L := by
  cases L with
  | nil =>
    show lq [] 0 [] = _
    rw [lq_nil, if_pos rfl]
    unfold addP
    rw [core_trim [] ⟨fun b r h => (by cases h), fun r b h => (by simp at h)⟩, if_pos rfl]
  | cons T L =>
    have hT := h T List.mem_cons_self
    rw [Lib.join_cons, lq_run T _ [] 0 0 hT.1, List.nil_append]
    exact lq_tail L T hT (fun Y hY => h Y (List.mem_cons_of_mem _ hY))
def lenS (L : List (List UInt8)) : Nat := (L.map (fun T => T.length + 1)).foldr (· + ·) 0
theorem lenS_cons (T : List UInt8) (L : List (List UInt8)) : lenS (T :: L) = T.length + 1 + lenS L := rfl
theorem lenS_app : ∀ (A B : List (List UInt8)), lenS (A ++ B) = lenS A + lenS B
  | [], B => by show lenS B = 0 + lenS B; omega
  | T :: A, B => by rw [List.cons_append, lenS_cons, lenS_cons, lenS_app A B]; omega
theorem lenS_addP (cur : List UInt8) : lenS (addP cur) ≤ cur.length + 1 := by
  unfold addP
  split
  · exact Nat.zero_le _
  · show (trimB cur).length + 1 + 0 ≤ _
    have := trimB_len cur
    omega
theorem lq_len : ∀ (M cur : List UInt8) (q : Nat) (L : List (List UInt8)), lq cur q M = some L → lenS L ≤ cur.length + M.length + 1
  | [], cur, q, L, h => by
    rw [lq_nil] at h
    split at h
    · cases h
      exact lenS_addP cur
    · cases h
  | b :: M, cur, q, L, h => by
    rw [lq_cons] at h
    by_cases c : q = 0 ∧ b = 44
    · rw [if_pos c] at h
      obtain ⟨L2, h2, e⟩ := Option.map_eq_some_iff.mp h
      have ih := lq_len M [] 0 L2 h2
      have ha := lenS_addP cur
      rw [List.length_nil] at ih
      rw [← e, lenS_app, List.length_cons]
      omega
    · rw [if_neg c] at h
      have ih := lq_len M (cur ++ [b]) (nx q b) L h
      rw [List.length_append, List.length_singleton] at ih
      rw [List.length_cons]
      omega
theorem addP_sub (cur : List UInt8) : ∀ T ∈ addP cur, ∀ b ∈ T, b ∈ cur := by
  intro T hT b hb
  rw [addP_mem cur T hT] at hb
  obtain ⟨x, y, e⟩ := trimB_infix cur
  rw [e]
  exact List.mem_append_left _ (List.mem_append_right _ hb)
theorem lq_sub : ∀ (M cur : List UInt8) (q : Nat) (L : List (List UInt8)), lq cur q M = some L → ∀ T ∈ L, ∀ b ∈ T, b ∈ cur ++ M
  | [], cur, q, L, h => by
    rw [lq_nil] at h
    split at h
    · cases h
      intro T hT b hb
      rw [List.append_nil]
      exact addP_sub cur T hT b hb
    · cases h
  | b :: M, cur, q, L, h => by
    rw [lq_cons] at h
    by_cases c : q = 0 ∧ b = 44
    · rw [if_pos c] at h
      obtain ⟨L2, h2, e⟩ := Option.map_eq_some_iff.mp h
      have ih := lq_sub M [] 0 L2 h2
      intro T hT x hx
      rw [← e] at hT
      rcases List.mem_append.mp hT with hT | hT
      · exact List.mem_append_left _ (addP_sub cur T hT x hx)
      · have := ih T hT x hx
        rw [List.nil_append] at this
        exact List.mem_append_right _ (List.mem_cons_of_mem _ this)
    · rw [if_neg c] at h
      have ih := lq_sub M (cur ++ [b]) (nx q b) L h
      intro T hT x hx
      have := ih T hT x hx
      rw [List.append_assoc] at this
      exact this
theorem join_mem (L : List (List UInt8)) (b : UInt8) (h : b ∈ Lib.join L [44]) : b = 44 ∨ ∃ T ∈ L, b ∈ T := by
  have tail : ∀ L : List (List UInt8), b ∈ Lib.joinTail [44] L → b = 44 ∨ ∃ T ∈ L, b ∈ T := fun L => by
    induction L with
    | nil => intro h; cases h
    | cons T L ih =>
      have e : Lib.joinTail [44] (T :: L) = 44 :: (T ++ Lib.joinTail [44] L) := by simp [Lib.joinTail]
      rw [e]
      intro h
      rcases List.mem_cons.mp h with h | h
      · exact Or.inl h
      · rcases List.mem_append.mp h with h | h
        · exact Or.inr ⟨T, List.mem_cons_self, h⟩
        · rcases ih h with h | ⟨X, h1, h2⟩
          · exact Or.inl h
          · exact Or.inr ⟨X, List.mem_cons_of_mem _ h1, h2⟩
  cases L with
  | nil => cases h
  | cons T L =>
    rw [Lib.join_cons] at h
    rcases List.mem_append.mp h with h | h
    · exact Or.inr ⟨T, List.mem_cons_self, h⟩
    · rcases tail L h with h | ⟨X, h1, h2⟩
      · exact Or.inl h
      · exact Or.inr ⟨X, List.mem_cons_of_mem _ h1, h2⟩
theorem join_lenS1 (L : List (List UInt8)) : (Lib.join L [44]).length ≤ lenS L - 1 := by
  have tail : ∀ L : List (List UInt8), (Lib.joinTail [44] L).length = lenS L := fun L => by
    induction L with
    | nil => rfl
    | cons T L ih =>
      have e : Lib.joinTail [44] (T :: L) = 44 :: (T ++ Lib.joinTail [44] L) := by simp [Lib.joinTail]
      rw [e, List.length_cons, List.length_append, ih, lenS_cons]; omega
  cases L with
  | nil => exact Nat.zero_le _
  | cons T L => rw [Lib.join_cons, List.length_append, tail, lenS_cons]; omega

/-! ### Both read a list with quotes alike -/
def Res (O : List (List UInt8)) (r : Option (List (List UInt8))) (v : Option (List ByteArray × Bool)) : Prop :=
  match r with
  | some L => v = some ((O ++ L).map tx, true)
  | none => ∃ X, v = some (X, false)
theorem res_add (O A : List (List UInt8)) (r : Option (List (List UInt8))) (v : Option (List ByteArray × Bool)) (h : Res (O ++ A) r v) : Res O (r.map (A ++ ·)) v := by
  cases r with
  | none => exact h
  | some L =>
    have h2 : v = some ((O ++ A ++ L).map tx, true) := h
    show v = some ((O ++ (A ++ L)).map tx, true)
    rw [h2, List.append_assoc]
theorem qz1 : ((1 : Nat) == 1) = true := rfl
theorem qz0 : ((0 : Nat) == 1) = false := rfl
theorem br8 (m n k : Nat) (h : 4 * (m + 2) + n + 20 ≤ k + 4) : 4 * m + n + 20 ≤ k := by omega
theorem br7 (m n k : Nat) (h : 4 * (m + 1) + n + 20 ≤ k + 4) : 4 * m + n + 20 ≤ k + 2 ∧ 4 * m + n + 20 ≤ k ∧ 4 * m + n + 20 ≤ k + 1 := by omega
theorem len2' (A : List UInt8) (b c : UInt8) : (((A ++ [b, c]).length : Nat) : Int) = (A.length : Int) + 1 + 1 := by rw [List.length_append, List.length_cons, List.length_cons, List.length_nil]; omega
theorem ar4' (q n : Nat) (h : q ≤ n) (h2 : n ≤ 100000000) : wrap64 (wrap64 ((q : Int) + 1) + 1) = (q : Int) + 1 + 1 := by rw [w64 (x := (q : Int) + 1) (by omega) (by omega), w64 (by omega) (by omega)]
theorem ltA2 (A : List UInt8) (b c : UInt8) (M : List UInt8) : A.length + 1 < (A ++ b :: c :: M).length := by rw [List.length_append, List.length_cons, List.length_cons]; omega
theorem ne_end (q n : Nat) (h : q + 1 < n) : ¬ (q : Int) + 1 = (n : Int) := by omega
theorem nx_other (q : Nat) (b : UInt8) (hq : q = 0 ∨ q = 1) (h34 : b ≠ 34) (h92 : b = 92 → q = 0) : nx q b = q := by
  unfold nx
  rcases hq with rfl | rfl
  · rw [if_pos rfl, if_neg h34]
  · rw [if_neg (by decide), if_pos rfl, if_neg h34, if_neg (fun h => absurd (h92 h) (by decide))]
theorem lqI (T : List UInt8) (hT : T.length ≤ 100000000) : ∀ (M cur pre : List UInt8) (O : List (List UInt8)) (q K : Nat), T = pre ++ cur ++ M → (q = 0 ∨ q = 1) → O.length ≤ pre.length → 4 * M.length + T.length + 20 ≤ K →
    Res O (lq cur q M) (impl_listOf.l0 K (tx T) (O.map tx) (pre.length : Int) (q == 1) ((pre ++ cur).length : Int))
  | M, cur, pre, O, q, 0, _, _, _, h => absurd h (by omega)
  | M, cur, pre, O, q, 1, _, _, _, h => absurd h (by omega)
  | M, cur, pre, O, q, 2, _, _, _, h => absurd h (by omega)
  | M, cur, pre, O, q, 3, _, _, _, h => absurd h (by omega)
  | [], cur, pre, O, q, m + 4, hx, hq, hO, hK => by
    have hpc : T.length = (pre ++ cur).length := by rw [hx, List.append_nil]
    have hcut := mid_cut pre cur []
    rw [← hx] at hcut
    have hw := ar4 (pre ++ cur).length T.length (by rw [hpc]; exact Nat.le_refl _) hT
    have hroom := mapRoom O T.length (Nat.le_trans hO (by rw [hpc]; exact (leA pre cur).1)) hT
    have htr := trimI (m + 2) cur (ar5 _ _ 0 hT (by rw [hpc]; exact (leA pre cur).2)) (ar6 0 T.length cur.length (m + 1) (by rw [List.length_nil] at hK; omega) (by rw [hpc]; exact (leA pre cur).2))
    have hp := ar2 pre.length (pre ++ cur).length (leA pre cur).1
    have fin : ∀ X : List ByteArray, impl_listOf.l0 (m + 2) (tx T) X (((pre ++ cur).length : Int) + 1) (q == 1) (((pre ++ cur).length : Int) + 1) = some (X, !(q == 1)) := fun X => by
      unfold impl_listOf.l0
      rw [tx_size, hpc, if_neg (ar3 _)]
    have hr : ∀ X : List ByteArray, X = (O ++ addP cur).map tx → Res O (lq cur q []) (some (X, !(q == 1))) := fun X hX => by
      rw [lq_nil]
      rcases hq with rfl | rfl
      · rw [if_pos rfl, hX]; rfl
      · rw [if_neg (by decide)]; exact ⟨X, rfl⟩
    clear hx hK hT hO
    unfold impl_listOf.l0
    rw [tx_size, hpc, if_pos (Int.le_refl _), if_pos rfl]
    unfold impl_listOf.j1
    rw [if_pos rfl, if_pos hp.1, if_pos hp.2, tx_size, hpc, if_pos (Int.le_refl _), hcut, htr, Option.bind_some, tx_toList, hw]
    by_cases c : trimB cur = []
    · rw [if_pos c, fin]
      refine hr _ ?_
      unfold addP
      rw [if_pos c, List.append_nil]
    · rw [if_neg c, if_pos hroom, fin]
      refine hr _ ?_
      unfold addP
      rw [if_neg c]; simp
  | b :: M, cur, pre, O, q, m + 4, hx, hq, hO, hK => by
    have hlt : (pre ++ cur).length < T.length := by rw [hx]; exact ltA (pre ++ cur) b M
    have hbt : bt (tx T) ((pre ++ cur).length : Int) = (b.toNat : Int) := by rw [hx]; exact bt_at (pre ++ cur) M b
    have hcut := mid_cut pre cur (b :: M)
    rw [← hx] at hcut
    have hw := ar4 (pre ++ cur).length T.length (Nat.le_of_lt hlt) hT
    have hroom := mapRoom O T.length (Nat.le_trans hO (Nat.le_trans (leA pre cur).1 (Nat.le_of_lt hlt))) hT
    have hcl := Nat.le_trans (leA pre cur).2 (Nat.le_of_lt hlt)
    have htr := trimI (m + 2) cur (ar5 _ _ 0 hT hcl) (ar6 0 T.length cur.length (m + 1) (by rw [List.length_cons] at hK; omega) hcl)
    have hp := ar2 pre.length (pre ++ cur).length (leA pre cur).1
    have hqq := ar1 (pre ++ cur).length T.length hlt
    rw [List.length_cons] at hK
    have hf := br7 _ _ _ hK
    -- the step to a next byte
    have step : ∀ (q2 : Nat), (q2 = 0 ∨ q2 = 1) → nx q b = q2 → ¬ (q = 0 ∧ b = 44) → ∀ k, 4 * M.length + T.length + 20 ≤ k → Res O (lq cur q (b :: M)) (impl_listOf.l0 k (tx T) (O.map tx) (pre.length : Int) (q2 == 1) (((pre ++ cur).length : Int) + 1)) := fun q2 hq2 hn hc k hk => by
      have e2 : T = pre ++ (cur ++ [b]) ++ M := by rw [hx]; simp
      have e1 : (((pre ++ (cur ++ [b])).length : Nat) : Int) = ((pre ++ cur).length : Int) + 1 := by rw [← List.append_assoc]; exact lenI (pre ++ cur) b
      have ih := lqI T hT M (cur ++ [b]) pre O q2 k e2 hq2 hO hk
      rw [e1] at ih
      rw [lq_cons, if_neg hc, hn]
      exact ih
    unfold impl_listOf.l0
    rw [tx_size, if_pos hqq.1, if_neg hqq.2.1, if_pos hqq.2.2.1, if_pos hqq.2.2.2, hbt]
    by_cases c : q = 0 ∧ b = 44
    · have e1 : (((pre ++ cur ++ [44]).length : Nat) : Int) = ((pre ++ cur).length : Int) + 1 := lenI (pre ++ cur) 44
      have e2 : T = (pre ++ cur ++ [44]) ++ [] ++ M := by rw [hx, c.2]; simp
      have e3 : (pre ++ cur ++ [44]) ++ [] = pre ++ cur ++ [44] := List.append_nil _
      have hO1 : O.length + 1 ≤ (pre ++ cur ++ [44]).length := by
        rw [List.length_append, List.length_singleton]
        exact Nat.succ_le_succ (Nat.le_trans hO (leA pre cur).1)
      have ih := fun (O' : List (List UInt8)) (hO' : O'.length ≤ (pre ++ cur ++ [44]).length) => lqI T hT M [] (pre ++ cur ++ [44]) O' 0 (m + 2) e2 (Or.inl rfl) hO' hf.1
      rw [e3] at ih
      simp only [e1] at ih
      rw [if_pos (show (b.toNat : Int) = 44 by rw [c.2]; rfl), c.1]
      unfold impl_listOf.j1
      rw [if_pos (by rfl), if_pos hp.1, if_pos hp.2, tx_size, if_pos hqq.1, hcut, htr, Option.bind_some, tx_toList, hw, lq_cons, if_pos ⟨rfl, c.2⟩]
      refine res_add O (addP cur) _ _ ?_
      unfold addP
      by_cases c2 : trimB cur = []
      · rw [if_pos c2, if_pos c2, List.append_nil]
        exact ih O (Nat.le_of_succ_le hO1)
      · have em : O.map tx ++ [tx (trimB cur)] = (O ++ [trimB cur]).map tx := by simp
        rw [if_neg c2, if_neg c2, if_pos hroom, em]
        exact ih (O ++ [trimB cur]) (by rw [List.length_append, List.length_singleton]; exact hO1)
    · have rest : Res O (lq cur q (b :: M)) (impl_listOf.j1 (m + 3) (tx T) (O.map tx) (pre.length : Int) (q == 1) ((pre ++ cur).length : Int) false) := by
        unfold impl_listOf.j1
        rw [if_neg (show ¬ false = true by decide), if_pos hqq.2.2.1, tx_size, if_pos hqq.2.2.2, hbt]
        by_cases c34 : b = 34
        · rw [if_pos (show (b.toNat : Int) = 34 by rw [c34]; rfl), hw]
          rcases hq with rfl | rfl
          · exact step 1 (Or.inr rfl) (by rw [c34]; rfl) c (m + 2) hf.1
          · exact step 0 (Or.inl rfl) (by rw [c34]; rfl) c (m + 2) hf.1
        · rw [if_neg (show ¬ (b.toNat : Int) = 34 from nbv b 34 c34)]
          by_cases c92 : b = 92
          · rw [if_pos (show (b.toNat : Int) = 92 by rw [c92]; rfl)]
            rcases hq with rfl | rfl
            · unfold impl_listOf.j2
              rw [if_neg (show ¬ ((0 : Nat) == 1) = true by decide), hw]
              exact step 0 (Or.inl rfl) (nx_other 0 b (Or.inl rfl) c34 (fun _ => rfl)) c (m + 1) hf.2.2
            · unfold impl_listOf.j2
              rw [if_pos (show ((1 : Nat) == 1) = true from rfl), tx_size]
              have n2 : nx 1 b = 2 := by rw [c92]; rfl
              cases M with
              | nil =>
                have hend : T.length = (pre ++ cur).length + 1 := by rw [hx, List.length_append, List.length_singleton]
                rw [hw, if_pos (by rw [hend]; omega), lq_cons, if_neg c, n2, lq_nil, if_neg (by decide)]
                exact ⟨[], rfl⟩
              | cons d M =>
                have hl2 := ltA2 (pre ++ cur) b d M
                rw [← hx] at hl2
                have e2 : T = pre ++ (cur ++ [b, d]) ++ M := by rw [hx]; simp
                have e1 : (((pre ++ (cur ++ [b, d])).length : Nat) : Int) = ((pre ++ cur).length : Int) + 1 + 1 := by rw [← List.append_assoc]; exact len2' (pre ++ cur) b d
                have ih := lqI T hT M (cur ++ [b, d]) pre O 1 (m + 1) e2 (Or.inr rfl) hO (by rw [List.length_cons] at hK; omega)
                rw [e1] at ih
                have n3 : nx 2 d = 1 := rfl
                have e3 : cur ++ [b] ++ [d] = cur ++ [b, d] := by simp
                rw [ar4' _ _ (Nat.le_of_lt hlt) hT, hw, if_neg (ne_end _ _ hl2), lq_cons, if_neg c, n2, lq_cons, if_neg (fun h => absurd h.1 (by decide)), n3, e3]
                exact ih
          · rw [if_neg (show ¬ (b.toNat : Int) = 92 from nbv b 92 c92)]
            unfold impl_listOf.j2
            rw [if_neg (show ¬ false = true by decide), hw]
            exact step q hq (nx_other q b hq c34 (fun h => absurd h c92)) c (m + 1) hf.2.2
      by_cases c44 : b = 44
      · have q1 : q = 1 := hq.resolve_left (fun h => c ⟨h, c44⟩)
        rw [if_pos (show (b.toNat : Int) = 44 by rw [c44]; rfl)]
        have e : (!(q == 1)) = false := by rw [q1]; rfl
        rw [e]
        exact rest
      · rw [if_neg (show ¬ (b.toNat : Int) = 44 from nbv b 44 c44)]
        exact rest
  termination_by M => M.length

/-! ### The reference reads it so, too -/
theorem lqS (T : List UInt8) (hT : T.length ≤ 100000000) : ∀ (M cur pre : List UInt8) (O : List (List UInt8)) (q K : Nat), T = pre ++ cur ++ M → (q = 0 ∨ q = 1) → O.length ≤ pre.length → 4 * M.length + T.length + 20 ≤ K →
    Res O (lq cur q M) (spec_l3List.l0 K (tx T) (O.map tx) (pre.length : Int) (q == 1) ((pre ++ cur).length : Int))
  | M, cur, pre, O, q, 0, _, _, _, h => absurd h (by omega)
  | M, cur, pre, O, q, 1, _, _, _, h => absurd h (by omega)
  | M, cur, pre, O, q, 2, _, _, _, h => absurd h (by omega)
  | M, cur, pre, O, q, 3, _, _, _, h => absurd h (by omega)
  | [], cur, pre, O, q, m + 4, hx, hq, hO, hK => by
    have hpc : T.length = (pre ++ cur).length := by rw [hx, List.append_nil]
    have hcut := mid_cut pre cur []
    rw [← hx] at hcut
    have hw := ar4 (pre ++ cur).length T.length (by rw [hpc]; exact Nat.le_refl _) hT
    have hroom := mapRoom O T.length (Nat.le_trans hO (by rw [hpc]; exact (leA pre cur).1)) hT
    have htr := trimS (m + 2) cur (ar5 _ _ 0 hT (by rw [hpc]; exact (leA pre cur).2)) (ar6 0 T.length cur.length (m + 1) (by rw [List.length_nil] at hK; omega) (by rw [hpc]; exact (leA pre cur).2))
    have hp := ar2 pre.length (pre ++ cur).length (leA pre cur).1
    have fin : ∀ X : List ByteArray, spec_l3List.l0 (m + 2) (tx T) X (((pre ++ cur).length : Int) + 1) (q == 1) (((pre ++ cur).length : Int) + 1) = some (X, !(q == 1)) := fun X => by
      unfold spec_l3List.l0
      rw [tx_size, hpc, if_neg (ar3 _)]
    have hr : ∀ X : List ByteArray, X = (O ++ addP cur).map tx → Res O (lq cur q []) (some (X, !(q == 1))) := fun X hX => by
      rw [lq_nil]
      rcases hq with rfl | rfl
      · rw [if_pos rfl, hX]; rfl
      · rw [if_neg (by decide)]; exact ⟨X, rfl⟩
    clear hx hK hT hO
    unfold spec_l3List.l0
    rw [tx_size, hpc, if_pos (Int.le_refl _), if_pos rfl]
    unfold spec_l3List.j1
    rw [if_pos rfl, if_pos hp.1, if_pos hp.2, tx_size, hpc, if_pos (Int.le_refl _), hcut, htr, Option.bind_some, tx_toList, hw]
    by_cases c : trimB cur = []
    · rw [if_pos c, fin]
      refine hr _ ?_
      unfold addP
      rw [if_pos c, List.append_nil]
    · rw [if_neg c, if_pos hroom, fin]
      refine hr _ ?_
      unfold addP
      rw [if_neg c]; simp
  | b :: M, cur, pre, O, q, m + 4, hx, hq, hO, hK => by
    have hlt : (pre ++ cur).length < T.length := by rw [hx]; exact ltA (pre ++ cur) b M
    have hbt : bt (tx T) ((pre ++ cur).length : Int) = (b.toNat : Int) := by rw [hx]; exact bt_at (pre ++ cur) M b
    have hcut := mid_cut pre cur (b :: M)
    rw [← hx] at hcut
    have hw := ar4 (pre ++ cur).length T.length (Nat.le_of_lt hlt) hT
    have hroom := mapRoom O T.length (Nat.le_trans hO (Nat.le_trans (leA pre cur).1 (Nat.le_of_lt hlt))) hT
    have hcl := Nat.le_trans (leA pre cur).2 (Nat.le_of_lt hlt)
    have htr := trimS (m + 2) cur (ar5 _ _ 0 hT hcl) (ar6 0 T.length cur.length (m + 1) (by rw [List.length_cons] at hK; omega) hcl)
    have hp := ar2 pre.length (pre ++ cur).length (leA pre cur).1
    have hqq := ar1 (pre ++ cur).length T.length hlt
    rw [List.length_cons] at hK
    have hf := br7 _ _ _ hK
    -- the step to a next byte
    have step : ∀ (q2 : Nat), (q2 = 0 ∨ q2 = 1) → nx q b = q2 → ¬ (q = 0 ∧ b = 44) → ∀ k, 4 * M.length + T.length + 20 ≤ k → Res O (lq cur q (b :: M)) (spec_l3List.l0 k (tx T) (O.map tx) (pre.length : Int) (q2 == 1) (((pre ++ cur).length : Int) + 1)) := fun q2 hq2 hn hc k hk => by
      have e2 : T = pre ++ (cur ++ [b]) ++ M := by rw [hx]; simp
      have e1 : (((pre ++ (cur ++ [b])).length : Nat) : Int) = ((pre ++ cur).length : Int) + 1 := by rw [← List.append_assoc]; exact lenI (pre ++ cur) b
      have ih := lqS T hT M (cur ++ [b]) pre O q2 k e2 hq2 hO hk
      rw [e1] at ih
      rw [lq_cons, if_neg hc, hn]
      exact ih
    unfold spec_l3List.l0
    rw [tx_size, if_pos hqq.1, if_neg hqq.2.1, if_pos hqq.2.2.1, if_pos hqq.2.2.2, hbt]
    by_cases c : q = 0 ∧ b = 44
    · have e1 : (((pre ++ cur ++ [44]).length : Nat) : Int) = ((pre ++ cur).length : Int) + 1 := lenI (pre ++ cur) 44
      have e2 : T = (pre ++ cur ++ [44]) ++ [] ++ M := by rw [hx, c.2]; simp
      have e3 : (pre ++ cur ++ [44]) ++ [] = pre ++ cur ++ [44] := List.append_nil _
      have hO1 : O.length + 1 ≤ (pre ++ cur ++ [44]).length := by
        rw [List.length_append, List.length_singleton]
        exact Nat.succ_le_succ (Nat.le_trans hO (leA pre cur).1)
      have ih := fun (O' : List (List UInt8)) (hO' : O'.length ≤ (pre ++ cur ++ [44]).length) => lqS T hT M [] (pre ++ cur ++ [44]) O' 0 (m + 2) e2 (Or.inl rfl) hO' hf.1
      rw [e3] at ih
      simp only [e1] at ih
      rw [if_pos (show (b.toNat : Int) = 44 by rw [c.2]; rfl), c.1]
      unfold spec_l3List.j1
      rw [if_pos (by rfl), if_pos hp.1, if_pos hp.2, tx_size, if_pos hqq.1, hcut, htr, Option.bind_some, tx_toList, hw, lq_cons, if_pos ⟨rfl, c.2⟩]
      refine res_add O (addP cur) _ _ ?_
      unfold addP
      by_cases c2 : trimB cur = []
      · rw [if_pos c2, if_pos c2, List.append_nil]
        exact ih O (Nat.le_of_succ_le hO1)
      · have em : O.map tx ++ [tx (trimB cur)] = (O ++ [trimB cur]).map tx := by simp
        rw [if_neg c2, if_neg c2, if_pos hroom, em]
        exact ih (O ++ [trimB cur]) (by rw [List.length_append, List.length_singleton]; exact hO1)
    · have rest : Res O (lq cur q (b :: M)) (spec_l3List.j1 (m + 3) (tx T) (O.map tx) (pre.length : Int) (q == 1) ((pre ++ cur).length : Int) false) := by
        unfold spec_l3List.j1
        rw [if_neg (show ¬ false = true by decide), if_pos hqq.2.2.1, tx_size, if_pos hqq.2.2.2, hbt]
        by_cases c34 : b = 34
        · have h92 : ¬ (b.toNat : Int) = 92 := by rw [c34]; decide
          rw [if_pos (show (b.toNat : Int) = 34 by rw [c34]; rfl)]
          unfold spec_l3List.j2
          rw [if_pos hqq.2.2.1, tx_size, if_pos hqq.2.2.2, hbt, if_neg h92]
          unfold spec_l3List.j3
          rw [if_neg (show ¬ false = true by decide), hw]
          rcases hq with rfl | rfl
          · exact step 1 (Or.inr rfl) (by rw [c34]; rfl) c m hf.2.1
          · exact step 0 (Or.inl rfl) (by rw [c34]; rfl) c m hf.2.1
        · rw [if_neg (show ¬ (b.toNat : Int) = 34 from nbv b 34 c34)]
          unfold spec_l3List.j2
          rw [if_pos hqq.2.2.1, tx_size, if_pos hqq.2.2.2, hbt]
          by_cases c92 : b = 92
          · rw [if_pos (show (b.toNat : Int) = 92 by rw [c92]; rfl)]
            rcases hq with rfl | rfl
            · unfold spec_l3List.j3
              rw [if_neg (show ¬ ((0 : Nat) == 1) = true by decide), hw]
              exact step 0 (Or.inl rfl) (nx_other 0 b (Or.inl rfl) c34 (fun _ => rfl)) c m hf.2.1
            · unfold spec_l3List.j3
              rw [if_pos (show ((1 : Nat) == 1) = true from rfl), tx_size]
              have n2 : nx 1 b = 2 := by rw [c92]; rfl
              cases M with
              | nil =>
                have hend : T.length = (pre ++ cur).length + 1 := by rw [hx, List.length_append, List.length_singleton]
                rw [hw, if_pos (by rw [hend]; omega), lq_cons, if_neg c, n2, lq_nil, if_neg (by decide)]
                exact ⟨[], rfl⟩
              | cons d M =>
                have hl2 := ltA2 (pre ++ cur) b d M
                rw [← hx] at hl2
                have e2 : T = pre ++ (cur ++ [b, d]) ++ M := by rw [hx]; simp
                have e1 : (((pre ++ (cur ++ [b, d])).length : Nat) : Int) = ((pre ++ cur).length : Int) + 1 + 1 := by rw [← List.append_assoc]; exact len2' (pre ++ cur) b d
                have ih := lqS T hT M (cur ++ [b, d]) pre O 1 m e2 (Or.inr rfl) hO (by rw [List.length_cons] at hK; omega)
                rw [e1] at ih
                have n3 : nx 2 d = 1 := rfl
                have e3 : cur ++ [b] ++ [d] = cur ++ [b, d] := by simp
                rw [ar4' _ _ (Nat.le_of_lt hlt) hT, hw, if_neg (ne_end _ _ hl2), lq_cons, if_neg c, n2, lq_cons, if_neg (fun h => absurd h.1 (by decide)), n3, e3]
                exact ih
          · rw [if_neg (show ¬ (b.toNat : Int) = 92 from nbv b 92 c92)]
            unfold spec_l3List.j3
            rw [if_neg (show ¬ false = true by decide), hw]
            exact step q hq (nx_other q b hq c34 (fun h => absurd h c92)) c m hf.2.1
      by_cases c44 : b = 44
      · have q1 : q = 1 := hq.resolve_left (fun h => c ⟨h, c44⟩)
        rw [if_pos (show (b.toNat : Int) = 44 by rw [c44]; rfl)]
        have e : (!(q == 1)) = false := by rw [q1]; rfl
        rw [e]
        exact rest
      · rw [if_neg (show ¬ (b.toNat : Int) = 44 from nbv b 44 c44)]
        exact rest
  termination_by M => M.length

/-! ### A text of a row of texts -/
theorem rdS_nat (l : List ByteArray) (n : Nat) (h : n < l.length) : rdOf ByteArray.empty l (n : Int) = l[n] := by
  unfold rdOf; simp [List.getD_eq_getElem?_getD, h]

/-! ### Bytes: digits, printed ones, those of a token -/
def isDB (b : UInt8) : Bool := 48 ≤ b.toNat && b.toNat ≤ 57
def digP (b : UInt8) : Bool := decide (impl_isDigit.f (b.toNat : Int) = some (isDB b)) && decide (spec_l1Digit.f (b.toNat : Int) = some (isDB b)) && decide (Lib.digitVal b = (if isDB b = true then some (b.toNat - 48) else none))
theorem byte_all (p : UInt8 → Bool) (h : ((List.range 256).all fun n => p (UInt8.ofNat n)) = true) (b : UInt8) : p b = true := by
  have := List.all_eq_true.mp h b.toNat (List.mem_range.mpr b.toNat_lt)
  rwa [UInt8.ofNat_toNat] at this
theorem dig_all : ((List.range 256).all fun n => digP (UInt8.ofNat n)) = true := by decide +kernel
theorem dig_b (b : UInt8) : impl_isDigit.f (b.toNat : Int) = some (isDB b) ∧ spec_l1Digit.f (b.toNat : Int) = some (isDB b) ∧ Lib.digitVal b = (if isDB b = true then some (b.toNat - 48) else none) := by
  have g := byte_all digP dig_all b
  unfold digP at g
  simp only [Bool.and_eq_true, decide_eq_true_eq] at g
  exact ⟨g.1.1, g.1.2, g.2⟩
theorem dec_cons (a : Nat) (b : UInt8) (r : List UInt8) : Lib.decFrom a (b :: r) = (if isDB b = true then Lib.decFrom (a * 10 + (b.toNat - 48)) r else none) := by
  show (match Lib.digitVal b with | some d => Lib.decFrom (a * 10 + d) r | none => none) = _
  rw [(dig_b b).2.2]
  by_cases h : isDB b = true
  · rw [if_pos h, if_pos h]
  · rw [if_neg h, if_neg h]
theorem dec_some : ∀ (l : List UInt8) (a : Nat), l.all isDB = true → ∃ v, Lib.decFrom a l = some v ∧ v < (a + 1) * 10 ^ l.length
  | [], a, _ => ⟨a, rfl, by simp⟩
  | b :: r, a, h => by
    rw [List.all_cons, Bool.and_eq_true] at h
    obtain ⟨v, h1, h2⟩ := dec_some r (a * 10 + (b.toNat - 48)) h.2
    have hb : b.toNat ≤ 57 := by have := h.1; unfold isDB at this; simp at this; exact this.2
    refine ⟨v, by rw [dec_cons, if_pos h.1, h1], Nat.lt_of_lt_of_le h2 ?_⟩
    have e : (a + 1) * 10 ^ (b :: r).length = ((a + 1) * 10) * 10 ^ r.length := by
      rw [List.length_cons, Nat.pow_succ, Nat.mul_comm (10 ^ r.length) 10, ← Nat.mul_assoc]
    rw [e]
    exact Nat.mul_le_mul_right _ (by omega)
theorem dec_none : ∀ (l : List UInt8) (a : Nat), l.all isDB = false → Lib.decFrom a l = none
  | [], a, h => by cases h
  | b :: r, a, h => by
    rw [dec_cons]
    by_cases c : isDB b = true
    · rw [List.all_cons, c, Bool.true_and] at h
      rw [if_pos c, dec_none r _ h]
    · rw [if_neg c]
theorem bytes_tx (l : List UInt8) : bytesOf (tx l) = l.map fun b => (b.toNat : Int) := rfl
theorem idxO_mem {α : Type} (p : α → Option Bool) (q : α → Bool) (l : List α) (h : ∀ x ∈ l, p x = some (!q x)) : ∀ (n : Int), 0 ≤ n → ∃ i, idxO p l n = some i ∧ (!decide (i ≥ 0)) = l.all q := by
  induction l with
  | nil => intro n hn; exact ⟨-1, rfl, rfl⟩
  | cons x xs ih =>
    intro n hn
    unfold idxO
    rw [h x List.mem_cons_self, Option.bind_some]
    cases hq : q x with
    | true =>
      obtain ⟨i, h1, h2⟩ := ih (fun y hy => h y (List.mem_cons_of_mem _ hy)) (n + 1) (by omega)
      exact ⟨i, h1, by rw [h2, List.all_cons, hq, Bool.true_and]⟩
    | false => exact ⟨n, rfl, by rw [List.all_cons, hq, Bool.false_and, decide_eq_true (show n ≥ 0 from hn)]; rfl⟩
theorem lenC (A : List UInt8) (b : UInt8) (M : List UInt8) : (((A ++ b :: M).length : Nat) : Int) = (A.length : Int) + ((M.length : Int) + 1) := by rw [List.length_append, List.length_cons]; omega
theorem digits_I (l : List UInt8) (h : l.length < 100000000) : xBytes_impl_isDigit.f (tx l) = some (l.all isDB) := by
  unfold xBytes_impl_isDigit.f xAll_u8_impl_isDigit.f
  rw [tx_size, if_pos (by omega), bytes_tx, if_pos (by rw [List.length_map]; omega)]
  obtain ⟨i, e, g⟩ := idxO_mem xAll_u8_impl_isDigit.z (fun x => isDB (UInt8.ofNat x.toNat)) (l.map fun b => (b.toNat : Int)) (fun x hx => by
    obtain ⟨b, _, rfl⟩ := List.mem_map.mp hx
    unfold xAll_u8_impl_isDigit.z
    rw [(dig_b b).1, Option.bind_some, Int.toNat_natCast, UInt8.ofNat_toNat]) 0 (by decide)
  rw [e, Option.bind_some, g, List.all_map]
  have e2 : ((fun x : Int => isDB (UInt8.ofNat x.toNat)) ∘ fun b : UInt8 => (b.toNat : Int)) = isDB := by
    funext b
    show isDB (UInt8.ofNat ((b.toNat : Int)).toNat) = isDB b
    rw [Int.toNat_natCast, UInt8.ofNat_toNat]
  rw [e2]
theorem withinR (x a b : Int) : impl_within.f x a b = some (decide (a ≤ x) && decide (x ≤ b)) := by
  unfold impl_within.f
  by_cases c : a ≤ x
  · rw [if_pos c, decide_eq_true c, Bool.true_and]
  · rw [if_neg c, decide_eq_false c, Bool.false_and]
theorem inR (x a b : Int) : spec_l1In.f x a b = some (decide (a ≤ x) && decide (x ≤ b)) := by
  unfold spec_l1In.f
  by_cases c : a ≤ x
  · rw [if_pos c, decide_eq_true c, Bool.true_and]
  · rw [if_neg c, decide_eq_false c, Bool.false_and]
def prB (b : UInt8) : Bool := 32 ≤ b.toNat && b.toNat ≤ 126
theorem printed_b (b : UInt8) : impl_isPrinted_1.f (b.toNat : Int) = some (prB b) := by
  unfold impl_isPrinted_1.f prB
  by_cases c : 32 ≤ b.toNat
  · rw [if_pos (by omega), decide_eq_true c, Bool.true_and]
    congr 1
    by_cases d : b.toNat ≤ 126
    · rw [decide_eq_true d, decide_eq_true (by omega)]
    · rw [decide_eq_false d, decide_eq_false (by omega)]
  · rw [if_neg (by omega), decide_eq_false c, Bool.false_and]
theorem printed_I (l : List UInt8) (h : l.length < 100000000) : xBytes_impl_isPrinted_1.f (tx l) = some (l.all prB) := by
  unfold xBytes_impl_isPrinted_1.f xAll_u8_impl_isPrinted_1.f
  rw [tx_size, if_pos (by omega), bytes_tx, if_pos (by rw [List.length_map]; omega)]
  obtain ⟨i, e, g⟩ := idxO_mem xAll_u8_impl_isPrinted_1.z (fun x => prB (UInt8.ofNat x.toNat)) (l.map fun b => (b.toNat : Int)) (fun x hx => by
    obtain ⟨b, _, rfl⟩ := List.mem_map.mp hx
    unfold xAll_u8_impl_isPrinted_1.z
    rw [printed_b b, Option.bind_some, Int.toNat_natCast, UInt8.ofNat_toNat]) 0 (by decide)
  rw [e, Option.bind_some, g, List.all_map]
  have e2 : ((fun x : Int => prB (UInt8.ofNat x.toNat)) ∘ fun b : UInt8 => (b.toNat : Int)) = prB := by
    funext b
    show prB (UInt8.ofNat ((b.toNat : Int)).toNat) = prB b
    rw [Int.toNat_natCast, UInt8.ofNat_toNat]
  rw [e2]
theorem pb_pos (p m : Nat) (h : p + (m + 1) ≤ 100000000) : (p : Int) < (p : Int) + ((m : Int) + 1) ∧ (0 : Int) ≤ (p : Int) ∧ wrap64 ((p : Int) + 1) = (p : Int) + 1 := ⟨by omega, by omega, w64 (by omega) (by omega)⟩
theorem printed_l : ∀ (M pre : List UInt8) (K : Nat), (pre ++ M).length ≤ 100000000 → M.length < K → spec_l3Printed.l0 K (tx (pre ++ M)) (pre.length : Int) = some (M.all prB)
  | M, pre, 0, _, h => absurd h (Nat.not_lt_zero _)
  | [], pre, K + 1, _, _ => by
    unfold spec_l3Printed.l0
    rw [tx_size, List.append_nil, if_neg (Int.lt_irrefl _)]; rfl
  | b :: M, pre, K + 1, hl, hK => by
    have hl2 : pre.length + (M.length + 1) ≤ 100000000 := by rw [List.length_append, List.length_cons] at hl; exact hl
    obtain ⟨q1, q2, q3⟩ := pb_pos pre.length M.length hl2
    have hlen := lenC pre b M
    have hbt := bt_at pre M b
    have e1 : pre ++ [b] ++ M = pre ++ b :: M := by simp
    have e2 : (((pre ++ [b]).length : Nat) : Int) = (pre.length : Int) + 1 := by simp
    have ih := printed_l M (pre ++ [b]) K (by rw [e1]; exact hl) (Nat.lt_of_succ_lt_succ hK)
    rw [e1, e2] at ih
    unfold spec_l3Printed.l0
    rw [tx_size, hlen, if_pos q1, if_pos q2, hbt, q3, List.all_cons]
    unfold prB
    by_cases c : 32 ≤ b.toNat
    · rw [if_neg (by omega), decide_eq_true c, Bool.true_and]
      by_cases d : b.toNat ≤ 126
      · rw [if_neg (by omega), decide_eq_true d, Bool.true_and]
        exact ih
      · rw [if_pos (by omega), decide_eq_false d, Bool.false_and]
    · rw [if_pos (by omega), decide_eq_false c, Bool.false_and, Bool.false_and]
def isT : Option Bool → Bool
  | some true => true
  | _ => false
def tokB (b : UInt8) : Bool := isT (impl_isToken_1.f (b.toNat : Int))
def tokP (b : UInt8) : Bool := decide (impl_isToken_1.f (b.toNat : Int) = some (tokB b)) && decide (spec_l3TokenByte.f 40 (b.toNat : Int) = some (tokB b))
theorem tok_all : ((List.range 256).all fun n => tokP (UInt8.ofNat n)) = true := by decide +kernel
theorem tok_b (b : UInt8) : impl_isToken_1.f (b.toNat : Int) = some (tokB b) ∧ ∀ K, 40 ≤ K → spec_l3TokenByte.f K (b.toNat : Int) = some (tokB b) := by
  have g := byte_all tokP tok_all b
  unfold tokP at g
  simp only [Bool.and_eq_true, decide_eq_true_eq] at g
  exact ⟨g.1, fun K hK => mono_le (fun k => spec_l3TokenByte.f k (b.toNat : Int)) (fun k => spec_l3TokenByte.mono _ k) 40 K hK _ g.2⟩
def tokL (l : List UInt8) : Bool := (decide ((1 : Int) ≤ (l.length : Int)) && decide ((l.length : Int) ≤ 60)) && l.all tokB
theorem tokb_I (l : List UInt8) (h : l.length < 100000000) : xBytes_impl_isToken_1.f (tx l) = some (l.all tokB) := by
  unfold xBytes_impl_isToken_1.f xAll_u8_impl_isToken_1.f
  rw [tx_size, if_pos (by omega), bytes_tx, if_pos (by rw [List.length_map]; omega)]
  obtain ⟨i, e, g⟩ := idxO_mem xAll_u8_impl_isToken_1.z (fun x => tokB (UInt8.ofNat x.toNat)) (l.map fun b => (b.toNat : Int)) (fun x hx => by
    obtain ⟨b, _, rfl⟩ := List.mem_map.mp hx
    unfold xAll_u8_impl_isToken_1.z
    rw [(tok_b b).1, Option.bind_some, Int.toNat_natCast, UInt8.ofNat_toNat]) 0 (by decide)
  rw [e, Option.bind_some, g, List.all_map]
  have e2 : ((fun x : Int => tokB (UInt8.ofNat x.toNat)) ∘ fun b : UInt8 => (b.toNat : Int)) = tokB := by
    funext b
    show tokB (UInt8.ofNat ((b.toNat : Int)).toNat) = tokB b
    rw [Int.toNat_natCast, UInt8.ofNat_toNat]
  rw [e2]
theorem token_l : ∀ (M pre : List UInt8) (K : Nat), (pre ++ M).length ≤ 100000000 → M.length + 50 ≤ K → spec_l3Token.l0 K (tx (pre ++ M)) (pre.length : Int) = some (M.all tokB && (decide ((1 : Int) ≤ ((pre ++ M).length : Int)) && decide (((pre ++ M).length : Int) ≤ 60)))
  | M, pre, 0, _, h => absurd h (by omega)
  | [], pre, K + 1, _, _ => by
    unfold spec_l3Token.l0
    rw [tx_size, List.append_nil, if_neg (Int.lt_irrefl _), inR, Option.bind_some]; rfl
  | b :: M, pre, K + 1, hl, hK => by
    have hl2 : pre.length + (M.length + 1) ≤ 100000000 := by rw [List.length_append, List.length_cons] at hl; exact hl
    obtain ⟨q1, q2, q3⟩ := pb_pos pre.length M.length hl2
    have hlen := lenC pre b M
    have hbt := bt_at pre M b
    have e1 : pre ++ [b] ++ M = pre ++ b :: M := by simp
    have e2 : (((pre ++ [b]).length : Nat) : Int) = (pre.length : Int) + 1 := by simp
    have ih := token_l M (pre ++ [b]) K (by rw [e1]; exact hl) (by rw [List.length_cons] at hK; omega)
    rw [e1, e2] at ih
    have ht := (tok_b b).2 K (by omega)
    unfold spec_l3Token.l0
    rw [tx_size, if_pos (by rw [hlen]; exact q1), if_pos q2, hbt, ht, Option.bind_some, List.all_cons, q3]
    cases hb : tokB b with
    | true => rw [if_pos rfl, Bool.true_and]; exact ih
    | false => rw [if_neg (by decide), Bool.false_and, Bool.false_and]

/-! ### Fields handed over, told alike, told of their size, written over -/
def toE (p : S97) : S105 := ⟨p.f0, p.f1⟩
theorem rdP_nat (l : List S105) (n : Nat) (h : n < l.length) : rd_T105 l (n : Int) = l[n] := by
  unfold rd_T105; simp [List.getD_eq_getElem?_getD, h]
theorem rdQ_nat (l : List S97) (n : Nat) (h : n < l.length) : rd_T97 l (n : Int) = l[n] := by
  unfold rd_T97; simp [List.getD_eq_getElem?_getD, h]
theorem toFields_loop (xs : List S97) (hb : xs.length < 4611686018427387904) (d : Nat) : ∀ (k n : Nat) (ys : List S105), ys.length = xs.length → n + d = xs.length → d < k →
    laws_toFieldS.l0 k xs ys (n : Int) = some (ys.take n ++ (xs.drop n).map toE) := by
  induction d with
  | zero =>
    intro k n ys hl hn hk
    obtain ⟨k, rfl⟩ : ∃ m, k = m + 1 := ⟨k - 1, by omega⟩
    have c : ¬ (n : Int) < (xs.length : Int) := by omega
    simp only [laws_toFieldS.l0]; rw [if_neg c, List.take_of_length_le (by omega), List.drop_of_length_le (by omega), List.map_nil, List.append_nil]
  | succ d ih =>
    intro k n ys hl hn hk
    obtain ⟨k, rfl⟩ : ∃ m, k = m + 1 := ⟨k - 1, by omega⟩
    have h1 : n < xs.length := by omega
    have h2 : n < ys.length := by omega
    have c1 : (n : Int) < (xs.length : Int) := by omega
    have c2 : (n : Int) < (ys.length : Int) := by omega
    have c0 : (0 : Int) ≤ (n : Int) := by omega
    simp only [laws_toFieldS.l0, laws_toField.f]
    rw [if_pos c1, if_pos c0, Option.bind_some, if_pos c2, rdQ_nat xs n h1, w64 (by omega) (by omega), succ_cast, Int.toNat_natCast, ih k (n + 1) _ (by simp [hl]) (by omega) (by omega), List.drop_eq_getElem_cons h1, List.map_cons]
    congr 1
    rw [List.take_add_one, List.take_set_of_le (by omega)]
    simp [h2, toE]
theorem toFields_f (xs : List S97) (hb : xs.length ≤ 1048576) (k : Nat) (hk : xs.length < k) : laws_toFieldS.f k xs = some (xs.map toE) := by
  unfold laws_toFieldS.f
  rw [if_pos (by omega), if_pos (by omega)]
  have h := toFields_loop xs (by omega) xs.length k 0 (List.replicate ((xs.length : Int) : Int).toNat z105) (by simp) (by omega) hk
  simpa using h
theorem eqFields_loop (xs : List S105) (hb : xs.length < 4611686018427387904) (d : Nat) : ∀ (k n : Nat), n + d = xs.length → d < k →
    laws_eqFieldS.l0 k xs xs (n : Int) = some true := by
  induction d with
  | zero =>
    intro k n hn hk
    obtain ⟨k, rfl⟩ : ∃ m, k = m + 1 := ⟨k - 1, by omega⟩
    have c : ¬ (n : Int) < (xs.length : Int) := by omega
    simp only [laws_eqFieldS.l0]; rw [if_neg c]
  | succ d ih =>
    intro k n hn hk
    obtain ⟨k, rfl⟩ : ∃ m, k = m + 1 := ⟨k - 1, by omega⟩
    have c1 : (n : Int) < (xs.length : Int) := by omega
    have c0 : (0 : Int) ≤ (n : Int) := by omega
    simp only [laws_eqFieldS.l0, laws_eqField.f]
    rw [if_pos c1, if_pos c0, if_pos c1]
    simp only [if_true, Option.bind_some]
    rw [w64 (by omega) (by omega), succ_cast]
    exact ih k (n + 1) (by omega) (by omega)
theorem eqFields_f (xs : List S105) (hb : xs.length ≤ 1048576) (k : Nat) (hk : xs.length < k) : laws_eqFieldS.f k xs xs = some true := by
  unfold laws_eqFieldS.f
  rw [if_pos rfl]
  exact eqFields_loop xs (by omega) xs.length k 0 (by omega) hk
def szL : List S97 → Nat
  | [] => 0
  | x :: xs => x.f0.size + x.f1.size + szL xs
theorem szFields_loop (l : List S97) (hb : l.length < 4611686018427387904) (hw : ∀ x ∈ l, x.f0.size ≤ maxLen ∧ x.f1.size ≤ maxLen) (d : Nat) : ∀ (k n : Nat) (a : Int), n + d = l.length → d < k → 0 ≤ a → a ≤ 1048576 →
    ∃ r, laws_szFieldS.l0 k l a (n : Int) = some r ∧ (0 ≤ r → r + (szL (l.drop n) : Nat) ≤ a) := by
  induction d with
  | zero =>
    intro k n a hn hk h0 h1
    obtain ⟨k, rfl⟩ : ∃ m, k = m + 1 := ⟨k - 1, by omega⟩
    have c : ¬ (n : Int) < (l.length : Int) := by omega
    exact ⟨a, by simp only [laws_szFieldS.l0]; rw [if_neg c], fun _ => by rw [List.drop_of_length_le (by omega)]; show a + ((0 : Nat) : Int) ≤ a; omega⟩
  | succ d ih =>
    intro k n a hn hk h0 h1
    obtain ⟨k, rfl⟩ : ∃ m, k = m + 1 := ⟨k - 1, by omega⟩
    have hlt : n < l.length := by omega
    have c1 : (n : Int) < (l.length : Int) := by omega
    have c0 : (0 : Int) ≤ (n : Int) := by omega
    obtain ⟨g0, g1⟩ := hw l[n] (List.getElem_mem hlt)
    have hmx : maxLen = 9223372036854775807 := by decide
    have hsz : szL (l.drop n) = l[n].f0.size + l[n].f1.size + szL (l.drop (n + 1)) := by rw [List.drop_eq_getElem_cons hlt]; rfl
    simp only [laws_szFieldS.l0, laws_szField.f]
    rw [if_pos c1, if_pos c0, rdQ_nat l n hlt, w64 (x := a - (l[n].f0.size : Int)) (by omega) (by omega)]
    by_cases e0 : a - (l[n].f0.size : Int) < 0
    · rw [if_pos e0, Option.bind_some, if_pos (by omega)]
      exact ⟨-1, rfl, fun h => by omega⟩
    · rw [if_neg e0, w64 (x := a - (l[n].f0.size : Int) - (l[n].f1.size : Int)) (by omega) (by omega)]
      by_cases e1 : a - (l[n].f0.size : Int) - (l[n].f1.size : Int) < 0
      · rw [if_pos e1, Option.bind_some, if_pos (by omega)]
        exact ⟨-1, rfl, fun h => by omega⟩
      · rw [if_neg e1, Option.bind_some, if_neg e1, w64 (x := (n : Int) + 1) (by omega) (by omega), succ_cast]
        obtain ⟨r, hr, hr2⟩ := ih k (n + 1) (a - (l[n].f0.size : Int) - (l[n].f1.size : Int)) (by omega) (by omega) (by omega) (by omega)
        exact ⟨r, hr, fun h => by have := hr2 h; rw [hsz]; omega⟩
theorem szFields_f (l : List S97) (hm : l.length ≤ maxLen) (hw : ∀ x ∈ l, x.f0.size ≤ maxLen ∧ x.f1.size ≤ maxLen) (a : Int) (h0 : 0 ≤ a) (h1 : a ≤ 1048576) :
    ∃ r, (∀ k, 1048576 < k → laws_szFieldS.f k l a = some r) ∧ (0 ≤ r → r + (l.length : Nat) + (szL l : Nat) ≤ a) := by
  have hmx : maxLen = 9223372036854775807 := by decide
  unfold laws_szFieldS.f
  rw [w64 (x := a - (l.length : Int)) (by omega) (by omega)]
  by_cases c : a - (l.length : Int) < 0
  · exact ⟨-1, fun k _ => by rw [if_pos c], fun h => by omega⟩
  · obtain ⟨r, hr, hr2⟩ := szFields_loop l (by omega) hw l.length (l.length + 1) 0 (a - (l.length : Int)) (by omega) (by omega) (by omega) (by omega)
    rw [List.drop_zero] at hr2
    refine ⟨r, fun k hk => ?_, fun h => by have := hr2 h; omega⟩
    rw [if_neg c]
    exact at_rounds (g := fun k => laws_szFieldS.l0 k l (a - (l.length : Int)) 0) (fun k => laws_szFieldS.mono_l k _ _ _) (k := l.length + 1) (by omega) hr
theorem szL_mem : ∀ (l : List S97), ∀ x ∈ l, x.f0.size + x.f1.size ≤ szL l
  | [], x, h => absurd h List.not_mem_nil
  | y :: ys, x, h => by
    unfold szL
    rcases List.mem_cons.mp h with rfl | h
    · omega
    · have := szL_mem ys x h; omega

/-! ### Numerals of at most seven digits -/
theorem itoa_f (n : Int) (h0 : 0 ≤ n) (h1 : n < 10000000) : strconv_Itoa.f n = some (tx (Lib.itoa n)) := by
  unfold strconv_Itoa.f
  rw [if_pos (by omega), if_pos (by omega)]
theorem itoa_len (n : Int) (h0 : 0 ≤ n) (h1 : n < 10000000) : (Lib.itoa n).length ≤ 7 := by
  obtain ⟨u, rfl⟩ : ∃ u : Nat, n = (u : Int) := ⟨n.toNat, by omega⟩
  rw [Lib.itoa_nonneg]
  exact dec_len u 6 (by omega)
theorem num_u : ∀ (k u : Nat), u < 10 ^ (k + 1) → u < 10000000 → spec_l1Num.f (k + 1) (u : Int) = some (tx (Lib.decDigits u))
  | k, u, h, h2 => by
    unfold spec_l1Num.f Lib.decDigits
    by_cases c : u < 10
    · rw [if_pos (by omega), dif_pos c, w64 (by omega) (by omega)]
      have : ((48 + (u : Int)) % 256).toNat = 48 + u := by omega
      show some (tx [UInt8.ofNat ((48 + (u : Int)) % 256).toNat]) = _
      rw [this]
    · rw [if_neg (by omega), dif_neg c]
      have e1 : Int.tdiv (u : Int) 10 = ((u / 10 : Nat) : Int) := by rw [Int.tdiv_eq_ediv_of_nonneg (by omega)]; omega
      have e2 : Int.tmod (u : Int) 10 = ((u % 10 : Nat) : Int) := by rw [Int.tmod_eq_emod_of_nonneg (by omega)]; omega
      rw [e1, e2, w64 (by omega) (by omega), w64 (by omega) (by omega)]
      match k, h with
      | 0, h => exact absurd h (by omega)
      | k + 1, h =>
        rw [num_u k (u / 10) (by rw [Nat.pow_succ] at h; omega) (by omega), Option.bind_some, Option.bind_some]
        have : ((48 + ((u % 10 : Nat) : Int)) % 256).toNat = 48 + u % 10 := by omega
        have e3 : strOfNums [(48 + ((u % 10 : Nat) : Int)) % 256] = tx [UInt8.ofNat (48 + u % 10)] := by
          show tx [UInt8.ofNat ((48 + ((u % 10 : Nat) : Int)) % 256).toNat] = _
          rw [this]
        have hl := dec_len (u / 10) 6 (by omega)
        rw [e3, tx_size, tx_size, if_pos (by simp; omega), tx_app]
theorem num_f (k : Nat) (n : Int) (hk : 7 ≤ k) (h0 : 0 ≤ n) (h1 : n < 10000000) : spec_l1Num.f k n = some (tx (Lib.itoa n)) := by
  obtain ⟨u, rfl⟩ : ∃ u : Nat, n = (u : Int) := ⟨n.toNat, by omega⟩
  obtain ⟨m, rfl⟩ : ∃ m, k = m + 1 := ⟨k - 1, by omega⟩
  rw [Lib.itoa_nonneg]
  exact num_u m u (Nat.lt_of_lt_of_le (show u < 10 ^ 7 by omega) (Nat.pow_le_pow_right (by decide) (by omega))) (by omega)

/-! ### Good fields, in plain words -/
theorem len_int (l : List UInt8) (n : Nat) : (decide ((l.length : Int) ≤ (n : Int))) = decide (l.length ≤ n) := by
  by_cases c : l.length ≤ n
  · rw [decide_eq_true c, decide_eq_true (by omega)]
  · rw [decide_eq_false c, decide_eq_false (by omega)]
theorem token_I (l : List UInt8) : impl_isToken.f (tx l) = some (tokL l) := by
  unfold impl_isToken.f tokL
  rw [tx_size, withinR, Option.bind_some]
  cases hw : (decide ((1 : Int) ≤ (l.length : Int)) && decide ((l.length : Int) ≤ 60)) with
  | true =>
    have h2 : l.length ≤ 60 := by
      rw [Bool.and_eq_true] at hw
      have := of_decide_eq_true hw.2
      omega
    rw [if_pos rfl, tokb_I l (by omega), Option.bind_some, Bool.true_and]
  | false => rw [if_neg (by decide), Bool.false_and]
theorem token_S (l : List UInt8) (h : l.length ≤ 100000000) (K : Nat) (hK : l.length + 50 ≤ K) : spec_l3Token.f K (tx l) = some (tokL l) := by
  have := token_l l [] K h hK
  unfold tokL
  rw [Bool.and_comm]
  exact this
theorem tokL_len (l : List UInt8) (h : tokL l = true) : l.length ≤ 60 := by
  unfold tokL at h
  rw [Bool.and_eq_true, Bool.and_eq_true] at h
  have := of_decide_eq_true h.1.2
  omega
theorem isPrinted_I (l : List UInt8) (n : Nat) (hn : n ≤ 100000) : impl_isPrinted.f (tx l) (n : Int) = some (decide (l.length ≤ n) && l.all prB) := by
  unfold impl_isPrinted.f
  rw [tx_size]
  by_cases c : l.length ≤ n
  · rw [if_pos (by omega), printed_I l (by omega), decide_eq_true c, Bool.true_and]; rfl
  · rw [if_neg (by omega), decide_eq_false c, Bool.false_and]
noncomputable def gdL (n v : List UInt8) : Bool := tokL n && (v.all prB && (decide (v.length ≤ 300) && decide (trimB v = v)))
theorem beq_tx (a b : List UInt8) : ((tx a).toList == (tx b).toList) = decide (a = b) := by
  rw [tx_toList, tx_toList, Bool.eq_iff_iff, beq_iff_eq, decide_eq_true_iff]
theorem good_I (n v : List UInt8) (K : Nat) (hK : 400 ≤ K) : impl_GoodField.f K (tx n) (tx v) = some (gdL n v) := by
  unfold impl_GoodField.f gdL
  rw [token_I, Option.bind_some]
  cases tokL n with
  | false => rfl
  | true =>
    have e := isPrinted_I v 300 (by decide)
    rw [if_pos rfl, show (300 : Int) = ((300 : Nat) : Int) from rfl, e, Option.bind_some, Bool.true_and]
    by_cases c : v.length ≤ 300
    · rw [decide_eq_true c, Bool.true_and, Bool.true_and]
      cases v.all prB with
      | false => rfl
      | true =>
        rw [if_pos rfl, trimI K v (by omega) (by omega), Option.bind_some, beq_tx, Bool.true_and]
    · rw [decide_eq_false c, Bool.false_and, Bool.false_and, Bool.and_false]; rfl
/-- a text's ends are no blanks, as the reference says it -/
theorem ends_core (v : List UInt8) (hl : v.length ≤ 100000000) : (if ((tx v).size : Int) = 0 then (some true) else (if 0 < ((tx v).size : Int) then (if (bt (tx v) 0) = 32 then (some false) else (if 0 ≤ (wrap64 (((tx v).size : Int) - 1)) then (if (wrap64 (((tx v).size : Int) - 1)) < ((tx v).size : Int) then (some ((bt (tx v) (wrap64 (((tx v).size : Int) - 1))) != 32)) else (none)) else (none))) else (none))) = some (decide (trimB v = v)) := by
  rw [tx_size]
  cases v with
  | nil =>
    have : trimB [] = [] := by
      obtain ⟨i, j, e, hc, hz⟩ := trimB_form []
      have := (List.append_eq_nil_iff.mp e.symm).1
      exact (List.append_eq_nil_iff.mp this).2
    rw [this]; rfl
  | cons b r =>
    have h1 : ¬ (((b :: r).length : Nat) : Int) = 0 := by rw [List.length_cons]; omega
    have h2 : (0 : Int) < (((b :: r).length : Nat) : Int) := by rw [List.length_cons]; omega
    have hb : bt (tx (b :: r)) 0 = (b.toNat : Int) := bt_tx (b :: r) 0 (by simp)
    rw [if_neg h1, if_pos h2, hb]
    by_cases c : b = 32
    · subst c
      rw [if_pos (by decide), decide_eq_false]
      intro he
      obtain ⟨i, j, e, hc, hz⟩ := trimB_form ((32 : UInt8) :: r)
      rw [he] at hc
      exact hc.1 32 r rfl rfl
    · rw [if_neg (fun hh => c (UInt8.toNat_inj.mp (by show b.toNat = 32; omega)))]
      obtain ⟨T, d, hT⟩ : ∃ T d, b :: r = T ++ [d] := ⟨(b :: r).dropLast, (b :: r).getLast (by simp), (List.dropLast_concat_getLast (by simp)).symm⟩
      have hlen : (b :: r).length = T.length + 1 := by rw [hT]; simp
      have hw : wrap64 ((((b :: r).length : Nat) : Int) - 1) = (T.length : Int) := by rw [w64 (by omega) (by omega)]; omega
      have hd : bt (tx (b :: r)) (T.length : Int) = (d.toNat : Int) := by rw [hT]; exact bt_at T [] d
      rw [hw, if_pos (by omega), if_pos (by omega), hd]
      congr 1
      rw [Bool.eq_iff_iff, bne_iff_ne, decide_eq_true_iff]
      constructor
      · intro h
        apply core_trim
        refine ⟨fun b' r' e => ?_, fun r' b' e => ?_⟩
        · injection e with e1 e2
          rw [← e1]; exact c
        · rw [hT] at e
          have := (List.append_inj' e rfl).2
          injection this with e1 e2
          rw [← e1]
          intro h3; apply h; rw [h3]; rfl
      · intro he h
        obtain ⟨i, j, e, hc, hz⟩ := trimB_form (b :: r)
        rw [he] at hc
        exact hc.2 T d hT (UInt8.toNat_inj.mp (by show d.toNat = 32; omega))
theorem goodF_S (n v : List UInt8) (hn : n.length ≤ 100000000) (hv : v.length ≤ 100000000) (K : Nat) (hK : n.length + v.length + 60 ≤ K) : spec_GoodField.f K (tx n) (tx v) = some (gdL n v) := by
  unfold spec_GoodField.f gdL
  rw [token_S n hn K (by omega), Option.bind_some]
  cases tokL n with
  | false => rfl
  | true =>
    have e : spec_l3Printed.f K (tx v) = some (v.all prB) := printed_l v [] K hv (by omega)
    rw [if_pos rfl, e, Option.bind_some, Bool.true_and]
    cases v.all prB with
    | false => rfl
    | true =>
      rw [if_pos rfl, Bool.true_and, ends_core v hv, tx_size]
      by_cases c : v.length ≤ 300
      · rw [if_pos (by omega), decide_eq_true c, Bool.true_and]
      · rw [if_neg (by omega), decide_eq_false c, Bool.false_and]

/-! ### Rows of good fields, their values -/
noncomputable def gd (x : S105) : Bool := gdL x.f0.data.toList x.f1.data.toList
noncomputable def gdAll (l : List S105) : Bool := decide (l.length ≤ 40) && l.all gd
/-- what all texts of fields are at most -/
def Fits (l : List S105) : Prop := ∀ x ∈ l, x.f0.data.toList.length ≤ 100000000 ∧ x.f1.data.toList.length ≤ 100000000
theorem rd_at (l : List S105) (i : Nat) (h : i < l.length) : rd_T105 l (i : Int) = l[i] := rdP_nat l i h
theorem c_lt (i n : Nat) (h : i < n) : (i : Int) < (n : Int) := Int.ofNat_lt.mpr h
theorem w_i (i n : Nat) (h : i < n) (h2 : n ≤ 1000000000000) : wrap64 ((i : Int) + 1) = ((i + 1 : Nat) : Int) := by rw [w64 (by omega) (by omega)]; omega
theorem areF_I (l : List S105) (K : Nat) (hK : 400 ≤ K) : impl_areFields.f K l = some (gdAll l) := by
  unfold impl_areFields.f gdAll
  by_cases c : (l.length : Int) ≤ 40
  · rw [if_pos c, decide_eq_true (show l.length ≤ 40 by omega), Bool.true_and]
    unfold xAll_T105_impl_GoodField.f
    rw [if_pos (by omega)]
    obtain ⟨i, e, g⟩ := idxO_mem (xAll_T105_impl_GoodField.z K) gd l (fun x hx => by
      unfold xAll_T105_impl_GoodField.z gd
      have := good_I x.f0.data.toList x.f1.data.toList K hK
      rw [tx_data, tx_data] at this
      rw [this]; rfl) 0 (by decide)
    rw [e, Option.bind_some, Option.bind_some, g]
  · rw [if_neg c, decide_eq_false (show ¬ l.length ≤ 40 by omega), Bool.false_and]
theorem areF_Sl (l : List S105) (hb : l.length ≤ 1000000000000) (hf : Fits l) : ∀ (m K i : Nat), i + m = l.length → m + 200000100 < K → spec_l3Fields.l0 K l l (l.length : Int) (i : Int) = some ((l.drop i).all gd && decide (l.length ≤ 40))
  | m, 0, i, _, hK => absurd hK (Nat.not_lt_zero _)
  | 0, K + 1, i, hi, hK => by
    have e : i = l.length := hi
    subst e
    unfold spec_l3Fields.l0
    rw [if_neg (Int.lt_irrefl _), List.drop_length]
    by_cases c : l.length ≤ 40
    · rw [decide_eq_true c, decide_eq_true (by omega)]; rfl
    · rw [decide_eq_false c, decide_eq_false (by omega)]; rfl
  | m + 1, K + 1, i, hi, hK => by
    have hlt : i < l.length := by omega
    have hx := hf _ (List.getElem_mem hlt)
    have hg := goodF_S l[i].f0.data.toList l[i].f1.data.toList hx.1 hx.2 K (by omega)
    rw [tx_data, tx_data] at hg
    unfold spec_l3Fields.l0
    rw [if_pos (c_lt _ _ hlt), if_pos (Int.natCast_nonneg i), if_pos (c_lt _ _ hlt), rd_at l i hlt, hg, Option.bind_some, List.drop_eq_getElem_cons hlt, List.all_cons]
    have hgd : gdL l[i].f0.data.toList l[i].f1.data.toList = gd l[i] := rfl
    rw [hgd]
    cases gd l[i] with
    | true => rw [if_pos rfl, w_i i _ hlt hb, areF_Sl l hb hf m K (i + 1) (by omega) (by omega), Bool.true_and]
    | false => rw [if_neg (show ¬ false = true by decide)]; rfl
theorem areF_S (l : List S105) (hb : l.length ≤ 100000000) (hf : Fits l) (K : Nat) (hK : 400000000 ≤ K) : spec_l3Fields.f K l = some (gdAll l) := by
  unfold spec_l3Fields.f gdAll
  rw [Bool.and_comm]
  exact areF_Sl l (by omega) hf l.length K 0 (Nat.zero_add _) (by omega)
def low (s : ByteArray) : ByteArray := ⟨s.data.map lowB⟩
def eqn (a b : ByteArray) : Bool := (low a).toList == (low b).toList
theorem eqn_iff (a b : ByteArray) : eqn a b = true ↔ (low a).toList = (low b).toList := by unfold eqn; exact beq_iff_eq
def valsL (n : ByteArray) : List S105 → List ByteArray
  | [] => []
  | x :: xs => if eqn x.f0 n then x.f1 :: valsL n xs else valsL n xs
def Names (l : List S105) : Prop := ∀ x ∈ l, x.f0.size < 100000000
theorem smallI (n : ByteArray) (h : n.size < 100000000) : impl_small.f n = some (low n) := by
  unfold impl_small.f
  rw [if_pos h]; rfl
theorem lowS (n : ByteArray) (h : n.size < 100000000) : spec_l1Lower.f n = some (low n) := by
  unfold spec_l1Lower.f
  rw [if_pos h]; rfl
theorem isS (a b n : ByteArray) (ha : a.size < 100000000) (hn : n.size < 100000000) : spec_l3Is.f a b n = some (eqn a n) := by
  unfold spec_l3Is.f
  rw [lowS a ha, Option.bind_some, lowS n hn]; rfl
theorem valsI_l (l : List S105) (n : ByteArray) (h : Names l) (hn : n.size < 100000000) (hl : l.length ≤ 100000000) : ∀ (m K i : Nat) (acc : List ByteArray), i + m = l.length → m < K → acc.length ≤ i → impl_valuesOf.l0 K n acc l (l.length : Int) (i : Int) = some (acc ++ valsL n (l.drop i))
  | m, 0, i, acc, _, hK, _ => absurd hK (Nat.not_lt_zero _)
  | 0, K + 1, i, acc, hi, hK, ha => by
    have e : i = l.length := hi
    subst e
    unfold impl_valuesOf.l0
    rw [if_neg (Int.lt_irrefl _), List.drop_length]
    show _ = some (acc ++ [])
    rw [List.append_nil]
  | m + 1, K + 1, i, acc, hi, hK, ha => by
    have hlt : i < l.length := by omega
    have hx := h _ (List.getElem_mem hlt)
    have hla : acc.length < 8796093022208 := by omega
    have e2 : valsL n (l[i] :: l.drop (i + 1)) = if eqn l[i].f0 n then l[i].f1 :: valsL n (l.drop (i + 1)) else valsL n (l.drop (i + 1)) := rfl
    unfold impl_valuesOf.l0
    rw [if_pos (c_lt _ _ hlt), if_pos (Int.natCast_nonneg i), if_pos (c_lt _ _ hlt), rd_at l i hlt, smallI _ hx, Option.bind_some, smallI n hn, Option.bind_some, w_i i _ hlt (by omega), List.drop_eq_getElem_cons hlt, e2]
    by_cases c : (low l[i].f0).toList = (low n).toList
    · rw [if_pos c, if_pos ((eqn_iff _ _).mpr c), if_pos hla, valsI_l l n h hn hl m K (i + 1) _ (by omega) (by omega) (by simp; omega), List.append_assoc]; rfl
    · rw [if_neg c, if_neg (fun z => c ((eqn_iff _ _).mp z))]
      exact valsI_l l n h hn hl m K (i + 1) acc (by omega) (by omega) (by omega)
theorem valsS_l (l : List S105) (n : ByteArray) (h : Names l) (hn : n.size < 100000000) (hl : l.length ≤ 100000000) : ∀ (m K i : Nat) (acc : List ByteArray), i + m = l.length → m < K → acc.length ≤ i → spec_l3Values.l0 K n acc l (l.length : Int) (i : Int) = some (acc ++ valsL n (l.drop i))
  | m, 0, i, acc, _, hK, _ => absurd hK (Nat.not_lt_zero _)
  | 0, K + 1, i, acc, hi, hK, ha => by
    have e : i = l.length := hi
    subst e
    unfold spec_l3Values.l0
    rw [if_neg (Int.lt_irrefl _), List.drop_length]
    show _ = some (acc ++ [])
    rw [List.append_nil]
  | m + 1, K + 1, i, acc, hi, hK, ha => by
    have hlt : i < l.length := by omega
    have hx := h _ (List.getElem_mem hlt)
    have hla : acc.length < 8796093022208 := by omega
    have e2 : valsL n (l[i] :: l.drop (i + 1)) = if eqn l[i].f0 n then l[i].f1 :: valsL n (l.drop (i + 1)) else valsL n (l.drop (i + 1)) := rfl
    unfold spec_l3Values.l0
    rw [if_pos (c_lt _ _ hlt), if_pos (Int.natCast_nonneg i), if_pos (c_lt _ _ hlt), rd_at l i hlt, isS _ _ n hx hn, Option.bind_some, w_i i _ hlt (by omega), List.drop_eq_getElem_cons hlt, e2]
    cases eqn l[i].f0 n with
    | true => rw [if_pos rfl, if_pos rfl, if_pos hla, valsS_l l n h hn hl m K (i + 1) _ (by omega) (by omega) (by simp; omega), List.append_assoc]; rfl
    | false =>
      rw [if_neg (show ¬ false = true by decide), if_neg (show ¬ false = true by decide)]
      exact valsS_l l n h hn hl m K (i + 1) acc (by omega) (by omega) (by omega)
theorem valsI (l : List S105) (n : ByteArray) (h : Names l) (hn : n.size < 100000000) (hl : l.length ≤ 100000000) (K : Nat) (hK : l.length < K) : impl_valuesOf.f K l n = some (valsL n l) := by
  have e := valsI_l l n h hn hl l.length K 0 [] (Nat.zero_add _) hK (Nat.le_refl _)
  exact e
theorem valsS (l : List S105) (n : ByteArray) (h : Names l) (hn : n.size < 100000000) (hl : l.length ≤ 100000000) (K : Nat) (hK : l.length < K) : spec_l3Values.f K l n = some (valsL n l) := by
  have e := valsS_l l n h hn hl l.length K 0 [] (Nat.zero_add _) hK (Nat.le_refl _)
  exact e
theorem vals_mem (n : ByteArray) : ∀ (l : List S105), ∀ v ∈ valsL n l, ∃ x ∈ l, x.f1 = v
  | [], v, h => absurd h (List.not_mem_nil)
  | x :: xs, v, h => by
    unfold valsL at h
    split at h
    · rcases List.mem_cons.mp h with h | h
      · exact ⟨x, List.mem_cons_self, h.symm⟩
      · obtain ⟨y, h1, h2⟩ := vals_mem n xs v h
        exact ⟨y, List.mem_cons_of_mem _ h1, h2⟩
    · obtain ⟨y, h1, h2⟩ := vals_mem n xs v h
      exact ⟨y, List.mem_cons_of_mem _ h1, h2⟩
theorem vals_len (n : ByteArray) : ∀ l : List S105, (valsL n l).length ≤ l.length
  | [] => Nat.le_refl _
  | x :: xs => by
    have ih := vals_len n xs
    unfold valsL
    rw [List.length_cons]
    split
    · rw [List.length_cons]; omega
    · omega
theorem gdAll_fit (l : List S105) (h : gdAll l = true) : l.length ≤ 40 ∧ ∀ x ∈ l, x.f0.size ≤ 60 ∧ x.f1.size ≤ 300 := by
  unfold gdAll at h
  rw [Bool.and_eq_true] at h
  refine ⟨of_decide_eq_true h.1, fun x hx => ?_⟩
  have hg := List.all_eq_true.mp h.2 x hx
  unfold gd gdL at hg
  rw [Bool.and_eq_true, Bool.and_eq_true, Bool.and_eq_true] at hg
  exact ⟨by have := tokL_len _ hg.1; rw [Array.length_toList] at this; exact this, by have := of_decide_eq_true hg.2.2.1; rw [Array.length_toList] at this; exact this⟩

/-! ### Heads; lengths that fields tell -/
theorem numstep (a n : Nat) (ha : a < 1000000000) (h1 : 48 ≤ n) (h2 : n ≤ 57) : wrap64 (wrap64 (10 * (a : Int)) + (((n : Int) - 48) % 256)) = ((a * 10 + (n - 48) : Nat) : Int) := by
  rw [w64 (x := 10 * (a : Int)) (by omega) (by omega), w64 (by omega) (by omega)]; omega
theorem powstep (a n x : Nat) (ha : a < x) (h2 : n ≤ 57) : a * 10 + (n - 48) < x * 10 := by omega
theorem p9 (p a : Nat) (h : a < 10 ^ p) (hp : p ≤ 9) : a < 1000000000 := Nat.lt_of_lt_of_le h (Nat.pow_le_pow_right (n := 10) (by decide) hp)
theorem pos9 (p m : Nat) (h : p + (m + 1) ≤ 9) : (p : Int) < (p : Int) + ((m : Int) + 1) ∧ (0 : Int) ≤ (p : Int) ∧ wrap64 (0 + ((p : Int) + ((m : Int) + 1))) = (p : Int) + ((m : Int) + 1) ∧ wrap64 ((p : Int) + 1) = (p : Int) + 1 ∧ p ≤ 9 := by
  refine ⟨by omega, by omega, ?_, w64 (by omega) (by omega), by omega⟩
  rw [w64 (by omega) (by omega)]; omega
theorem pos0 (p : Nat) (h : p ≤ 9) : wrap64 (0 + (p : Int)) = (p : Int) := by rw [w64 (by omega) (by omega)]; omega
theorem number_l : ∀ (M pre : List UInt8) (K a : Nat), (pre ++ M).length ≤ 9 → a < 10 ^ pre.length → M.length < K → spec_l2Number.l0 K (tx (pre ++ M)) 0 (((pre ++ M).length : Nat) : Int) (a : Int) (pre.length : Int) = some (match Lib.decFrom a M with | some v => (v : Int) | none => -1)
  | M, pre, 0, a, _, _, h => absurd h (Nat.not_lt_zero _)
  | [], pre, K + 1, a, hl, ha, h => by
    rw [List.append_nil] at hl ⊢
    unfold spec_l2Number.l0
    rw [pos0 _ hl, if_neg (Int.lt_irrefl _)]; rfl
  | b :: M, pre, K + 1, a, hl, ha, h => by
    have hl2 : pre.length + (M.length + 1) ≤ 9 := by rw [List.length_append, List.length_cons] at hl; exact hl
    obtain ⟨q1, q2, q3, q4, q5⟩ := pos9 pre.length M.length hl2
    have hlen := lenC pre b M
    have hs : ((tx (pre ++ b :: M)).size : Int) = (pre.length : Int) + ((M.length : Int) + 1) := by rw [tx_size]; exact hlen
    have hbt := bt_at pre M b
    have hp9 := p9 _ _ ha q5
    have e1 : pre ++ [b] ++ M = pre ++ b :: M := by simp
    have e2 := lenI pre b
    unfold spec_l2Number.l0
    rw [hlen, q3, hs, hbt, if_pos q1, if_pos q2, if_pos q1, (dig_b b).2.1, Option.bind_some, dec_cons, q4]
    by_cases hb : isDB b = true
    · have hb2 : 48 ≤ b.toNat ∧ b.toNat ≤ 57 := by unfold isDB at hb; simpa using hb
      have ih := number_l M (pre ++ [b]) K (a * 10 + (b.toNat - 48)) (by rw [e1]; exact hl) (by rw [List.length_append, List.length_singleton, Nat.pow_succ]; exact powstep _ _ _ ha hb2.2) (Nat.lt_of_succ_lt_succ h)
      rw [e1, e2, hlen] at ih
      rw [if_pos hb, if_pos hb, numstep a b.toNat hp9 hb2.1 hb2.2, ih]
    · rw [if_neg hb, if_neg hb]
def crlf : ByteArray := ⟨#[13, 10]⟩
def lineH (x : S105) : ByteArray := ((x.f0 ++ (⟨#[58, 32]⟩ : ByteArray)) ++ x.f1) ++ (⟨#[13, 10]⟩ : ByteArray)
def headL (a : ByteArray) (l : List S105) : ByteArray := (l.foldl (fun s x => s ++ lineH x) (a ++ crlf)) ++ crlf
theorem line_size (x : S105) : (lineH x).size = x.f0.size + 2 + x.f1.size + 2 := by
  unfold lineH
  rw [ByteArray.size_append, ByteArray.size_append, ByteArray.size_append]; rfl
theorem three_fit (a b : ByteArray) (s : Nat) (ha : a.size ≤ 60) (hb : b.size ≤ 300) (hs : s ≤ 2000000000) : a.size + 2 ≤ 9223372036854775807 ∧ (a ++ (⟨#[58, 32]⟩ : ByteArray)).size + b.size ≤ 9223372036854775807 ∧ ((a ++ (⟨#[58, 32]⟩ : ByteArray)) ++ b).size + 2 ≤ 9223372036854775807 ∧ s + (((a ++ (⟨#[58, 32]⟩ : ByteArray)) ++ b) ++ (⟨#[13, 10]⟩ : ByteArray)).size ≤ 9223372036854775807 := by
  simp only [ByteArray.size_append]
  have h2 : (⟨#[58, 32]⟩ : ByteArray).size = 2 := rfl
  have h3 : (⟨#[13, 10]⟩ : ByteArray).size = 2 := rfl
  rw [h2, h3]
  generalize a.size = x at *
  generalize b.size = y at *
  omega
theorem acc_fit (a : ByteArray) (x : S105) (m : Nat) (h0 : x.f0.size ≤ 60) (h1 : x.f1.size ≤ 300) (h : a.size + 364 * (m + 1) ≤ 1000000000) : (a ++ lineH x).size + 364 * m ≤ 1000000000 := by
  rw [ByteArray.size_append, line_size]
  generalize a.size = n at *
  generalize x.f0.size = y at *
  generalize x.f1.size = z at *
  omega
theorem headI_l (l : List S105) (hx : ∀ x ∈ l, x.f0.size ≤ 60 ∧ x.f1.size ≤ 300) (hl : l.length ≤ 40) : ∀ (m K i : Nat) (acc : ByteArray), i + m = l.length → m < K → acc.size + 364 * m ≤ 1000000000 → impl_headText.l0 K acc l (l.length : Int) (i : Int) = some ((l.drop i).foldl (fun s x => s ++ lineH x) acc ++ crlf)
  | m, 0, i, acc, _, hK, _ => absurd hK (Nat.not_lt_zero _)
  | 0, K + 1, i, acc, hi, hK, ha => by
    have e : i = l.length := hi
    subst e
    unfold impl_headText.l0
    rw [if_neg (Int.lt_irrefl _), List.drop_length, if_pos (by omega)]; rfl
  | m + 1, K + 1, i, acc, hi, hK, ha => by
    have hlt : i < l.length := by omega
    have hz := hx _ (List.getElem_mem hlt)
    obtain ⟨q1, q2, q3, q4⟩ := three_fit l[i].f0 l[i].f1 acc.size hz.1 hz.2 (by omega)
    have ih := headI_l l hx hl m K (i + 1) (acc ++ lineH l[i]) (by omega) (by omega) (acc_fit acc l[i] m hz.1 hz.2 ha)
    unfold impl_headText.l0
    rw [if_pos (c_lt _ _ hlt), if_pos (Int.natCast_nonneg i), if_pos (c_lt _ _ hlt), rd_at l i hlt, if_pos q1, if_pos q2, if_pos q3, if_pos q4, w_i i _ hlt (by omega), List.drop_eq_getElem_cons hlt, List.foldl_cons]
    exact ih
theorem headS_l (l : List S105) (hx : ∀ x ∈ l, x.f0.size ≤ 60 ∧ x.f1.size ≤ 300) (hl : l.length ≤ 40) : ∀ (m K i : Nat) (acc : ByteArray), i + m = l.length → m < K → acc.size + 364 * m ≤ 1000000000 → spec_l4Head.l0 K acc l (l.length : Int) (i : Int) = some ((l.drop i).foldl (fun s x => s ++ lineH x) acc ++ crlf)
  | m, 0, i, acc, _, hK, _ => absurd hK (Nat.not_lt_zero _)
  | 0, K + 1, i, acc, hi, hK, ha => by
    have e : i = l.length := hi
    subst e
    unfold spec_l4Head.l0
    rw [if_neg (Int.lt_irrefl _), List.drop_length, if_pos (by omega)]; rfl
  | m + 1, K + 1, i, acc, hi, hK, ha => by
    have hlt : i < l.length := by omega
    have hz := hx _ (List.getElem_mem hlt)
    obtain ⟨q1, q2, q3, q4⟩ := three_fit l[i].f0 l[i].f1 acc.size hz.1 hz.2 (by omega)
    have ih := headS_l l hx hl m K (i + 1) (acc ++ lineH l[i]) (by omega) (by omega) (acc_fit acc l[i] m hz.1 hz.2 ha)
    unfold spec_l4Head.l0
    rw [if_pos (c_lt _ _ hlt), if_pos (Int.natCast_nonneg i), if_pos (c_lt _ _ hlt), rd_at l i hlt, if_pos q1, if_pos q2, if_pos q3, if_pos q4, w_i i _ hlt (by omega), List.drop_eq_getElem_cons hlt, List.foldl_cons]
    exact ih
theorem head_I (a : ByteArray) (l : List S105) (ha : a.size ≤ 500000000) (hx : ∀ x ∈ l, x.f0.size ≤ 60 ∧ x.f1.size ≤ 300) (hl : l.length ≤ 40) (K : Nat) (hK : 50 ≤ K) : impl_headText.f K a l = some (headL a l) := by
  unfold impl_headText.f
  rw [if_pos (by omega)]
  have hs : (a ++ crlf).size = a.size + 2 := by rw [ByteArray.size_append]; rfl
  exact headI_l l hx hl l.length K 0 (a ++ crlf) (Nat.zero_add _) (by omega) (by rw [hs]; omega)
theorem head_S (a : ByteArray) (l : List S105) (ha : a.size ≤ 500000000) (hx : ∀ x ∈ l, x.f0.size ≤ 60 ∧ x.f1.size ≤ 300) (hl : l.length ≤ 40) (K : Nat) (hK : 50 ≤ K) : spec_l4Head.f K a l = some (headL a l) := by
  unfold spec_l4Head.f
  rw [if_pos (by omega)]
  have hs : (a ++ crlf).size = a.size + 2 := by rw [ByteArray.size_append]; rfl
  exact headS_l l hx hl l.length K 0 (a ++ crlf) (Nat.zero_add _) (by omega) (by rw [hs]; omega)
/-- a number of a length: one to nine digits -/
def numP (p : List UInt8) : Option Nat := if p.length ≤ 9 ∧ p.all isDB = true ∧ p ≠ [] then Lib.decFrom 0 p else none
theorem parse_ok : ∀ (l : List UInt8) (a v : Nat), l.all isDB = true → Lib.decFrom a l = some v → (a + 1) * 10 ^ l.length ≤ 10000000000 → Lib.parseUint10 a l = .ok v
  | [], a, v, _, h, _ => by
    have : a = v := Option.some.inj h
    rw [this]; rfl
  | b :: r, a, v, hd, h, hb => by
    rw [List.all_cons, Bool.and_eq_true] at hd
    have h2 : 48 ≤ b.toNat ∧ b.toNat ≤ 57 := by have := hd.1; unfold isDB at this; simpa using this
    rw [dec_cons, if_pos hd.1] at h
    have hle : (a * 10 + (b.toNat - 48) + 1) * 10 ^ r.length ≤ 10000000000 := by
      refine Nat.le_trans ?_ hb
      have e : (a + 1) * 10 ^ (b :: r).length = ((a + 1) * 10) * 10 ^ r.length := by
        rw [List.length_cons, Nat.pow_succ, Nat.mul_comm (10 ^ r.length) 10, ← Nat.mul_assoc]
      rw [e]
      exact Nat.mul_le_mul_right _ (by omega)
    have hpos : 0 < 10 ^ r.length := Nat.pow_pos (by decide)
    have hsm : a * 10 + (b.toNat - 48) + 1 ≤ 10000000000 := Nat.le_trans (Nat.le_mul_of_pos_right _ hpos) hle
    unfold Lib.parseUint10
    rw [if_pos h2, if_neg (by omega), if_neg (by omega)]
    exact parse_ok r _ v hd.2 h hle
theorem atoi_dig (p : List UInt8) (v : Nat) (h : numP p = some v) : strconv_Atoi.f (tx p) = some ((v : Int), none) ∧ v < 1000000000 := by
  unfold numP at h
  split at h
  · rename_i hc
    obtain ⟨h1, h2, h3⟩ := hc
    obtain ⟨v', e, hv⟩ := dec_some p 0 h2
    rw [h] at e
    obtain rfl := Option.some.inj e
    have hpw : 10 ^ p.length ≤ 10 ^ 9 := Nat.pow_le_pow_right (by decide) h1
    have hv2 : v < 1000000000 := by omega
    refine ⟨?_, hv2⟩
    cases p with
    | nil => exact absurd rfl h3
    | cons c r =>
      have hd := h2
      rw [List.all_cons, Bool.and_eq_true] at hd
      have hc2 : 48 ≤ c.toNat ∧ c.toNat ≤ 57 := by have := hd.1; unfold isDB at this; simpa using this
      have hp := parse_ok (c :: r) 0 v h2 h (by omega)
      unfold strconv_Atoi.f
      rw [tx_size, if_pos (by omega), tx_list]
      unfold Lib.atoiAll Lib.parseMag
      simp only []
      have hn : ¬ (c.toNat = 43 ∨ c.toNat = 45) := by omega
      have hn2 : ¬ c.toNat = 45 := by omega
      rw [if_neg hn, if_neg (by simp), hp]
      simp only []
      rw [if_neg (fun hh => by omega), if_neg (fun hh => hn2 hh.1), if_neg hn2]
  · cases h
theorem atoi_some (p : List UInt8) (hl : p.length ≤ 100000000) : ∃ a b, strconv_Atoi.f (tx p) = some (a, b) := by
  unfold strconv_Atoi.f
  rw [tx_size, if_pos (by omega)]
  cases Lib.atoiAll (tx p).data.toList with
  | ok v => exact ⟨_, _, rfl⟩
  | «syntax» => exact ⟨_, _, rfl⟩
  | range => exact ⟨_, _, rfl⟩
theorem bigpos (p m : Nat) (h : p + (m + 1) ≤ 100000000) : (p : Int) < (p : Int) + ((m : Int) + 1) ∧ (0 : Int) ≤ (p : Int) ∧ wrap64 (0 + ((p : Int) + ((m : Int) + 1))) = (p : Int) + ((m : Int) + 1) ∧ wrap64 ((p : Int) + 1) = (p : Int) + 1 := by
  refine ⟨by omega, by omega, ?_, w64 (by omega) (by omega)⟩
  rw [w64 (by omega) (by omega)]; omega
theorem number_any : ∀ (M pre : List UInt8) (K : Nat) (a : Int), (pre ++ M).length ≤ 100000000 → M.length < K → ∃ t, spec_l2Number.l0 K (tx (pre ++ M)) 0 (((pre ++ M).length : Nat) : Int) a (pre.length : Int) = some t
  | M, pre, 0, a, _, h => absurd h (Nat.not_lt_zero _)
  | [], pre, K + 1, a, hl, h => by
    rw [List.append_nil] at hl ⊢
    unfold spec_l2Number.l0
    rw [show wrap64 (0 + (pre.length : Int)) = (pre.length : Int) by rw [w64 (by omega) (by omega)]; omega, if_neg (Int.lt_irrefl _)]
    exact ⟨_, rfl⟩
  | b :: M, pre, K + 1, a, hl, h => by
    have hl2 : pre.length + (M.length + 1) ≤ 100000000 := by rw [List.length_append, List.length_cons] at hl; exact hl
    obtain ⟨q1, q2, q3, q4⟩ := bigpos pre.length M.length hl2
    have hlen := lenC pre b M
    have hs : ((tx (pre ++ b :: M)).size : Int) = (pre.length : Int) + ((M.length : Int) + 1) := by rw [tx_size]; exact hlen
    have hbt := bt_at pre M b
    have e1 : pre ++ [b] ++ M = pre ++ b :: M := by simp
    have e2 := lenI pre b
    unfold spec_l2Number.l0
    rw [hlen, q3, hs, hbt, if_pos q1, if_pos q2, if_pos q1, (dig_b b).2.1, Option.bind_some, q4]
    by_cases hb : isDB b = true
    · obtain ⟨t, ih⟩ := number_any M (pre ++ [b]) K (wrap64 (wrap64 (10 * a) + (((b.toNat : Int) - 48) % 256))) (by rw [e1]; exact hl) (Nat.lt_of_succ_lt_succ h)
      rw [e1, e2, hlen] at ih
      rw [if_pos hb]
      exact ⟨t, ih⟩
    · rw [if_neg hb]
      exact ⟨_, rfl⟩
/-- what the reference makes of one part: the number, or something that it refuses -/
theorem number_P (p : List UInt8) (hl : p.length ≤ 100000000) (hne : p ≠ []) (K : Nat) (hK : p.length < K) : ∃ t, spec_l2Number.f K (tx p) 0 ((tx p).size : Int) = some t ∧ (∀ v, numP p = some v → t = (v : Int)) ∧ (numP p = none → t < 0 ∨ p.length > 9) := by
  have hw : wrap64 (0 + (((tx p).size : Nat) : Int)) = (((tx p).size : Nat) : Int) := by rw [tx_size, w64 (by omega) (by omega)]; omega
  unfold spec_l2Number.f
  rw [hw, if_neg (Int.lt_irrefl _), tx_size]
  by_cases c : p.length ≤ 9
  · have h := number_l p [] K 0 c (by simp) hK
    refine ⟨_, h, fun v hv => ?_, fun hn => ?_⟩
    · unfold numP at hv
      split at hv
      · rw [hv]
      · cases hv
    · left
      have hd : p.all isDB = false := by
        cases hq : p.all isDB with
        | false => rfl
        | true =>
          obtain ⟨v, e, _⟩ := dec_some p 0 hq
          unfold numP at hn
          rw [if_pos ⟨c, hq, hne⟩, e] at hn
          cases hn
      rw [dec_none p 0 hd]
      decide
  · obtain ⟨t, h⟩ := number_any p [] K 0 hl hK
    refine ⟨t, h, fun v hv => ?_, fun _ => .inr (by omega)⟩
    unfold numP at hv
    rw [if_neg (fun hh => c hh.1)] at hv
    cases hv

/-! ### What length fields tell, in plain words -/
def lenParts : Option Nat → List (List UInt8) → Option (Option Nat)
  | st, [] => some st
  | st, p :: ps => match numP p with
    | none => none
    | some v => if st = none ∨ st = some v then lenParts (some v) ps else none
noncomputable def lenVals : Option Nat → List (List UInt8) → Option (Option Nat)
  | st, [] => some st
  | st, v :: vs => match lq [] 0 v with
    | none => none
    | some [] => none
    | some (p :: ps) => match lenParts st (p :: ps) with
      | none => none
      | some st2 => lenVals st2 vs
def stV : Option Nat → Int
  | none => 0
  | some v => (v : Int)
def stN : Option Nat → Int
  | none => -1
  | some v => (v : Int)
def ansI : Option (Option Nat) → Int × Bool × Bool
  | none => (0, false, false)
  | some st => (stV st, st.isSome, true)
def ansS : Option (Option Nat) → Int
  | none => -2
  | some st => stN st
theorem rdT (P : List (List UInt8)) (j : Nat) (h : j < P.length) : rdOf ByteArray.empty (P.map tx) (j : Int) = tx P[j] := by
  rw [rdS_nat (P.map tx) j (by rw [List.length_map]; exact h)]
  simp
theorem numP_some (p : List UInt8) (v : Nat) (h : numP p = some v) : p.length ≤ 9 ∧ p.all isDB = true := by
  unfold numP at h
  split at h
  · rename_i hc; exact ⟨hc.1, hc.2.1⟩
  · cases h
theorem numP_none (p : List UInt8) (hne : p ≠ []) (h : numP p = none) (hl : p.length ≤ 9) : p.all isDB = false := by
  cases hq : p.all isDB with
  | false => rfl
  | true =>
    obtain ⟨v, e, _⟩ := dec_some p 0 hq
    unfold numP at h
    rw [if_pos ⟨hl, hq, hne⟩, e] at h
    cases h
def PartsOk (P : List (List UInt8)) : Prop := (∀ p ∈ P, p ≠ [] ∧ p.length ≤ 100000000) ∧ P.length ≤ 100000000
theorem lenI_in (vs : List ByteArray) (i : Nat) (hi : i < 100000000) (R : Option Nat → Int × Bool × Bool) (Hout : ∀ st, Ev (fun K => impl_lengthOf.l0 K (stV st) st.isSome vs (vs.length : Int) ((i + 1 : Nat) : Int)) (R st)) (P : List (List UInt8)) (hP : PartsOk P) : ∀ (m j : Nat) (st : Option Nat), j + m = P.length →
    Ev (fun K => impl_lengthOf.l1 K (stV st) st.isSome vs (vs.length : Int) (i : Int) (P.map tx) ((P.map tx).length : Int) (j : Int)) (match lenParts st (P.drop j) with | none => (0, false, false) | some st2 => R st2)
  | 0, j, st, hj => by
    obtain ⟨N, hN⟩ := Hout st
    refine ⟨N + 1, fun K hK => ?_⟩
    obtain ⟨k, rfl⟩ : ∃ k, K = k + 1 := ⟨K - 1, by omega⟩
    dsimp only
    have e : j = P.length := hj
    subst e
    have hw : wrap64 ((i : Int) + 1) = ((i + 1 : Nat) : Int) := by rw [w64 (by omega) (by omega)]; omega
    unfold impl_lengthOf.l1
    rw [List.length_map, if_neg (Int.lt_irrefl _), hw, List.drop_length]
    exact hN k (by omega)
  | m + 1, j, st, hj => by
    have hlt : j < P.length := by omega
    have hp := hP.1 _ (List.getElem_mem hlt)
    have hL := hP.2
    have e0 : ((P.map tx).length : Int) = (P.length : Int) := by rw [List.length_map]
    have hs : ((tx P[j]).size : Int) = (P[j].length : Int) := by rw [tx_size]
    have e2 : lenParts st (P[j] :: P.drop (j + 1)) = (match numP P[j] with
      | none => none
      | some v => if st = none ∨ st = some v then lenParts (some v) (P.drop (j + 1)) else none) := by rw [lenParts]
    rw [List.drop_eq_getElem_cons hlt, e2, e0]
    cases hn : numP P[j] with
    | none =>
      obtain ⟨a, b, hab⟩ := atoi_some P[j] hp.2
      refine ⟨1, fun K hK => ?_⟩
      obtain ⟨k, rfl⟩ : ∃ k, K = k + 1 := ⟨K - 1, by omega⟩
      dsimp only
      unfold impl_lengthOf.l1
      rw [if_pos (c_lt _ _ hlt), if_pos (Int.natCast_nonneg j), e0, if_pos (c_lt _ _ hlt), rdT P j hlt, hab, Option.bind_some]
      cases b with
      | some q => rfl
      | none =>
        rw [if_pos (show (a, (none : Option Int)).2.isNone = true from rfl), hs]
        by_cases c : P[j].length ≤ 9
        · rw [if_neg (by omega), digits_I _ (by omega), Option.bind_some, numP_none _ hp.1 hn c]; rfl
        · rw [if_pos (by omega)]
    | some v =>
      obtain ⟨ha, hv⟩ := atoi_dig _ _ hn
      obtain ⟨h9, hd⟩ := numP_some _ _ hn
      have ih := lenI_in vs i hi R Hout P hP m (j + 1) (some v) (by omega)
      obtain ⟨N, hN⟩ := ih
      refine ⟨N + 1, fun K hK => ?_⟩
      obtain ⟨k, rfl⟩ : ∃ k, K = k + 1 := ⟨K - 1, by omega⟩
      dsimp only
      have hk := hN k (by omega)
      dsimp only at hk
      rw [e0] at hk
      unfold impl_lengthOf.l1
      rw [if_pos (c_lt _ _ hlt), if_pos (Int.natCast_nonneg j), e0, if_pos (c_lt _ _ hlt), rdT P j hlt, ha, Option.bind_some, if_pos (show ((v : Int), (none : Option Int)).2.isNone = true from rfl), hs, if_neg (by omega), digits_I _ (by omega), Option.bind_some, hd, if_pos rfl, w_i j _ hlt (by omega)]
      cases st with
      | none =>
        rw [if_neg (by decide), if_pos (.inl rfl)]
        exact hk
      | some u =>
        have hsu : (some u : Option Nat).isSome = true := rfl
        rw [hsu, if_pos rfl]
        by_cases c : u = v
        · subst c
          rw [if_pos (show ((u : Int) = stV (some u)) from rfl), if_pos (.inr rfl)]
          exact hk
        · rw [if_neg (show ¬ ((v : Int) = stV (some u)) from fun hh => c (by have : (v : Int) = (u : Int) := hh; omega)), if_neg (fun hh => by rcases hh with hh | hh; cases hh; exact c (Option.some.inj hh))]
theorem parts_ok (T : List UInt8) (hT : T.length ≤ 50000000) (L : List (List UInt8)) (h : lq [] 0 T = some L) : PartsOk L := by
  have h1 := lq_parts T [] 0 L rfl h
  have h2 := lq_len T [] 0 L h
  have h3 : ∀ (L : List (List UInt8)), L.length ≤ lenS L ∧ ∀ p ∈ L, p.length ≤ lenS L := by
    intro L
    induction L with
    | nil => exact ⟨Nat.zero_le _, fun p hp => absurd hp List.not_mem_nil⟩
    | cons x xs ih =>
      rw [lenS_cons, List.length_cons]
      refine ⟨by have := ih.1; omega, fun p hp => ?_⟩
      rcases List.mem_cons.mp hp with rfl | hp
      · omega
      · have := ih.2 p hp; omega
  have h4 := h3 L
  rw [List.length_nil] at h2
  exact ⟨fun p hp => ⟨(h1 p hp).2.1, by have := h4.2 p hp; omega⟩, by have := h4.1; omega⟩
theorem plI (T : List UInt8) (hT : T.length ≤ 50000000) (K : Nat) (hK : 5 * T.length + 20 ≤ K) : Res [] (lq [] 0 T) (impl_listOf.f K (tx T)) :=
  lqI T (by omega) T [] [] [] 0 K rfl (.inl rfl) (Nat.le_refl _) (by omega)
theorem plS (T : List UInt8) (hT : T.length ≤ 50000000) (K : Nat) (hK : 5 * T.length + 20 ≤ K) : Res [] (lq [] 0 T) (spec_l3List.f K (tx T)) :=
  lqS T (by omega) T [] [] [] 0 K rfl (.inl rfl) (Nat.le_refl _) (by omega)
theorem lenI_out (V : List (List UInt8)) (hV : ∀ v ∈ V, v.length ≤ 50000000) (hl : V.length ≤ 10000000) : ∀ (m i : Nat) (st : Option Nat), i + m = V.length →
    Ev (fun K => impl_lengthOf.l0 K (stV st) st.isSome (V.map tx) ((V.map tx).length : Int) (i : Int)) (ansI (lenVals st (V.drop i)))
  | 0, i, st, hi => by
    refine ⟨1, fun K hK => ?_⟩
    obtain ⟨k, rfl⟩ : ∃ k, K = k + 1 := ⟨K - 1, by omega⟩
    dsimp only
    have e : i = V.length := hi
    subst e
    unfold impl_lengthOf.l0
    rw [List.length_map, if_neg (Int.lt_irrefl _), List.drop_length]; rfl
  | m + 1, i, st, hi => by
    have hlt : i < V.length := by omega
    have hv := hV _ (List.getElem_mem hlt)
    have e0 : ((V.map tx).length : Int) = (V.length : Int) := by rw [List.length_map]
    have e2 : lenVals st (V[i] :: V.drop (i + 1)) = (match lq [] 0 V[i] with
      | none => none
      | some [] => none
      | some (p :: ps) => match lenParts st (p :: ps) with
        | none => none
        | some st2 => lenVals st2 (V.drop (i + 1))) := by rw [lenVals]
    rw [List.drop_eq_getElem_cons hlt, e2]
    cases hq : lq [] 0 V[i] with
    | none =>
      refine ⟨5 * V[i].length + 30, fun K hK => ?_⟩
      obtain ⟨k, rfl⟩ : ∃ k, K = k + 2 := ⟨K - 2, by omega⟩
      dsimp only
      have hr := plI V[i] hv (k + 1) (by omega)
      rw [hq] at hr
      obtain ⟨X, hX⟩ := hr
      unfold impl_lengthOf.l0
      rw [e0, if_pos (c_lt _ _ hlt), if_pos (Int.natCast_nonneg i), if_pos (c_lt _ _ hlt), rdT V i hlt, hX, Option.bind_some, if_neg (show ¬ ((X, false).2 = true) from Bool.false_ne_true)]
      unfold impl_lengthOf.j1
      rfl
    | some L =>
      have hpo := parts_ok V[i] hv L hq
      have hin := lenI_in (V.map tx) i (by omega) (fun st2 => ansI (lenVals st2 (V.drop (i + 1)))) (fun st2 => lenI_out V hV hl m (i + 1) st2 (by omega)) L hpo L.length 0 st (Nat.zero_add _)
      obtain ⟨N, hN⟩ := hin
      refine ⟨N + 5 * V[i].length + 30, fun K hK => ?_⟩
      obtain ⟨k, rfl⟩ : ∃ k, K = k + 2 := ⟨K - 2, by omega⟩
      dsimp only
      have hr := plI V[i] hv (k + 1) (by omega)
      rw [hq] at hr
      have hX : impl_listOf.f (k + 1) (tx V[i]) = some (([] ++ L).map tx, true) := hr
      rw [List.nil_append] at hX
      have hk := hN k (by omega)
      dsimp only at hk
      unfold impl_lengthOf.l0
      rw [e0, if_pos (c_lt _ _ hlt), if_pos (Int.natCast_nonneg i), if_pos (c_lt _ _ hlt), rdT V i hlt, hX, Option.bind_some, if_pos rfl]
      cases L with
      | nil =>
        unfold impl_lengthOf.j1
        rfl
      | cons p ps =>
        unfold impl_lengthOf.j1
        rw [if_neg (by rw [beq_iff_eq, List.length_map, List.length_cons]; omega)]
        rw [e0] at hk
        have e3 : ((0 : Nat) : Int) = 0 := rfl
        rw [e3, List.drop_zero] at hk
        rw [hk]
        dsimp only
        cases lenParts st (p :: ps) with
        | none => rfl
        | some st2 => rfl

theorem lenS_in (vs : List ByteArray) (i : Nat) (hi : i < 100000000) (R : Option Nat → Int) (Hout : ∀ st, Ev (fun K => spec_l4Length.l0 K (stN st) vs (vs.length : Int) ((i + 1 : Nat) : Int)) (R st)) (P : List (List UInt8)) (hP : PartsOk P) : ∀ (m j : Nat) (st : Option Nat), j + m = P.length →
    Ev (fun K => spec_l4Length.l1 K (stN st) vs (vs.length : Int) (i : Int) (P.map tx) ((P.map tx).length : Int) (j : Int)) (match lenParts st (P.drop j) with | none => -2 | some st2 => R st2)
  | 0, j, st, hj => by
    obtain ⟨N, hN⟩ := Hout st
    refine ⟨N + 1, fun K hK => ?_⟩
    obtain ⟨k, rfl⟩ : ∃ k, K = k + 1 := ⟨K - 1, by omega⟩
    dsimp only
    have e : j = P.length := hj
    subst e
    have hw : wrap64 ((i : Int) + 1) = ((i + 1 : Nat) : Int) := by rw [w64 (by omega) (by omega)]; omega
    unfold spec_l4Length.l1
    rw [List.length_map, if_neg (Int.lt_irrefl _), hw, List.drop_length]
    exact hN k (by omega)
  | m + 1, j, st, hj => by
    have hlt : j < P.length := by omega
    have hp := hP.1 _ (List.getElem_mem hlt)
    have hL := hP.2
    have e0 : ((P.map tx).length : Int) = (P.length : Int) := by rw [List.length_map]
    have hs : ((tx P[j]).size : Int) = (P[j].length : Int) := by rw [tx_size]
    have e2 : lenParts st (P[j] :: P.drop (j + 1)) = (match numP P[j] with
      | none => none
      | some v => if st = none ∨ st = some v then lenParts (some v) (P.drop (j + 1)) else none) := by rw [lenParts]
    rw [List.drop_eq_getElem_cons hlt, e2, e0]
    cases hn : numP P[j] with
    | none =>
      refine ⟨P[j].length + 2, fun K hK => ?_⟩
      obtain ⟨k, rfl⟩ : ∃ k, K = k + 1 := ⟨K - 1, by omega⟩
      obtain ⟨t, ht, _, h2⟩ := number_P P[j] hp.2 hp.1 k (by omega)
      dsimp only
      unfold spec_l4Length.l1
      rw [if_pos (c_lt _ _ hlt), if_pos (Int.natCast_nonneg j), e0, if_pos (c_lt _ _ hlt), rdT P j hlt, ht, Option.bind_some, hs]
      by_cases c : t < 0
      · rw [if_pos c]
      · rw [if_neg c, if_pos (by rcases h2 hn with h | h; exact absurd h c; omega)]
    | some v =>
      obtain ⟨_, hv⟩ := atoi_dig _ _ hn
      obtain ⟨h9, hd⟩ := numP_some _ _ hn
      have ih := lenS_in vs i hi R Hout P hP m (j + 1) (some v) (by omega)
      obtain ⟨N, hN⟩ := ih
      refine ⟨N + P[j].length + 2, fun K hK => ?_⟩
      obtain ⟨k, rfl⟩ : ∃ k, K = k + 1 := ⟨K - 1, by omega⟩
      obtain ⟨t, ht, h1, _⟩ := number_P P[j] hp.2 hp.1 k (by omega)
      obtain rfl := h1 v hn
      dsimp only
      have hk := hN k (by omega)
      dsimp only at hk
      rw [e0] at hk
      unfold spec_l4Length.l1
      rw [if_pos (c_lt _ _ hlt), if_pos (Int.natCast_nonneg j), e0, if_pos (c_lt _ _ hlt), rdT P j hlt, ht, Option.bind_some, hs, if_neg (by omega), if_neg (by omega), tx_toList, if_neg hp.1, w_i j _ hlt (by omega)]
      cases st with
      | none =>
        rw [if_neg (show ¬ (stN none ≥ 0) from by decide), if_pos (.inl rfl)]
        exact hk
      | some u =>
        rw [if_pos (show stN (some u) ≥ 0 from Int.natCast_nonneg u)]
        by_cases c : u = v
        · subst c
          rw [if_pos (show (stN (some u) = (u : Int)) from rfl), if_pos (.inr rfl)]
          exact hk
        · rw [if_neg (show ¬ (stN (some u) = (v : Int)) from fun hh => c (by have : (u : Int) = (v : Int) := hh; omega)), if_neg (fun hh => by rcases hh with hh | hh; cases hh; exact c (Option.some.inj hh))]
theorem lenS_out (V : List (List UInt8)) (hV : ∀ v ∈ V, v.length ≤ 50000000) (hl : V.length ≤ 10000000) : ∀ (m i : Nat) (st : Option Nat), i + m = V.length →
    Ev (fun K => spec_l4Length.l0 K (stN st) (V.map tx) ((V.map tx).length : Int) (i : Int)) (ansS (lenVals st (V.drop i)))
  | 0, i, st, hi => by
    refine ⟨1, fun K hK => ?_⟩
    obtain ⟨k, rfl⟩ : ∃ k, K = k + 1 := ⟨K - 1, by omega⟩
    dsimp only
    have e : i = V.length := hi
    subst e
    unfold spec_l4Length.l0
    rw [List.length_map, if_neg (Int.lt_irrefl _), List.drop_length]; rfl
  | m + 1, i, st, hi => by
    have hlt : i < V.length := by omega
    have hv := hV _ (List.getElem_mem hlt)
    have e0 : ((V.map tx).length : Int) = (V.length : Int) := by rw [List.length_map]
    have e2 : lenVals st (V[i] :: V.drop (i + 1)) = (match lq [] 0 V[i] with
      | none => none
      | some [] => none
      | some (p :: ps) => match lenParts st (p :: ps) with
        | none => none
        | some st2 => lenVals st2 (V.drop (i + 1))) := by rw [lenVals]
    rw [List.drop_eq_getElem_cons hlt, e2]
    cases hq : lq [] 0 V[i] with
    | none =>
      refine ⟨5 * V[i].length + 30, fun K hK => ?_⟩
      obtain ⟨k, rfl⟩ : ∃ k, K = k + 2 := ⟨K - 2, by omega⟩
      dsimp only
      have hr := plS V[i] hv (k + 1) (by omega)
      rw [hq] at hr
      obtain ⟨X, hX⟩ := hr
      unfold spec_l4Length.l0
      rw [e0, if_pos (c_lt _ _ hlt), if_pos (Int.natCast_nonneg i), if_pos (c_lt _ _ hlt), rdT V i hlt, hX, Option.bind_some, if_neg (show ¬ ((X, false).2 = true) from Bool.false_ne_true)]
      unfold spec_l4Length.j1
      rfl
    | some L =>
      have hpo := parts_ok V[i] hv L hq
      have hin := lenS_in (V.map tx) i (by omega) (fun st2 => ansS (lenVals st2 (V.drop (i + 1)))) (fun st2 => lenS_out V hV hl m (i + 1) st2 (by omega)) L hpo L.length 0 st (Nat.zero_add _)
      obtain ⟨N, hN⟩ := hin
      refine ⟨N + 5 * V[i].length + 30, fun K hK => ?_⟩
      obtain ⟨k, rfl⟩ : ∃ k, K = k + 2 := ⟨K - 2, by omega⟩
      dsimp only
      have hr := plS V[i] hv (k + 1) (by omega)
      rw [hq] at hr
      have hX : spec_l3List.f (k + 1) (tx V[i]) = some (([] ++ L).map tx, true) := hr
      rw [List.nil_append] at hX
      have hk := hN k (by omega)
      dsimp only at hk
      unfold spec_l4Length.l0
      rw [e0, if_pos (c_lt _ _ hlt), if_pos (Int.natCast_nonneg i), if_pos (c_lt _ _ hlt), rdT V i hlt, hX, Option.bind_some, if_pos rfl]
      cases L with
      | nil =>
        unfold spec_l4Length.j1
        rfl
      | cons p ps =>
        unfold spec_l4Length.j1
        rw [if_neg (by rw [beq_iff_eq, List.length_map, List.length_cons]; omega)]
        rw [e0] at hk
        have e3 : ((0 : Nat) : Int) = 0 := rfl
        rw [e3, List.drop_zero] at hk
        rw [hk]
        dsimp only
        cases lenParts st (p :: ps) with
        | none => rfl
        | some st2 => rfl

/-! ### Messages: framed, and good -/
def nmCL : ByteArray := ⟨#[99, 111, 110, 116, 101, 110, 116, 45, 108, 101, 110, 103, 116, 104]⟩
def nmTE : ByteArray := ⟨#[116, 114, 97, 110, 115, 102, 101, 114, 45, 101, 110, 99, 111, 100, 105, 110, 103]⟩
def asL (vs : List ByteArray) : List (List UInt8) := vs.map fun s => s.data.toList
theorem asL_back (vs : List ByteArray) : (asL vs).map tx = vs := by
  unfold asL
  rw [List.map_map]
  exact List.map_id'' (fun s => rfl) vs
noncomputable def lenB (l : List S105) : Option (Option Nat) := lenVals none (asL (valsL nmCL l))
noncomputable def framedB (l : List S105) (body : ByteArray) : Bool := (match lenB l with | none => false | some none => decide (body.size = 0) | some (some v) => decide (v = body.size)) && decide ((valsL nmTE l).length = 0)
noncomputable def goodMsg (line : ByteArray) (l : List S105) (body : ByteArray) : Bool := gdAll l && (decide (body.size ≤ 300) && (framedB l body && decide ((headL line l).size ≤ 2000)))
theorem Ev.fix {α : Type} {g : Nat → Option α} {r : α} (N : Nat) (h : ∀ k, N ≤ k → g k = some r) : Ev g r := ⟨N, h⟩
structure GoodL (l : List S105) : Prop where
  len : l.length ≤ 40
  fit : ∀ x ∈ l, x.f0.size ≤ 60 ∧ x.f1.size ≤ 300
theorem GoodL.names {l : List S105} (h : GoodL l) : Names l := fun x hx => by have := (h.fit x hx).1; omega
theorem gdAll_L (l : List S105) (h : gdAll l = true) : GoodL l := ⟨(gdAll_fit l h).1, (gdAll_fit l h).2⟩
theorem asL_fit (l : List S105) (h : GoodL l) (n : ByteArray) : (∀ v ∈ asL (valsL n l), v.length ≤ 50000000) ∧ (asL (valsL n l)).length ≤ 10000000 := by
  have h1 := vals_len n l
  have h2 := h.len
  refine ⟨fun v hv => ?_, by unfold asL; rw [List.length_map]; omega⟩
  unfold asL at hv
  obtain ⟨s, hs, rfl⟩ := List.mem_map.mp hv
  obtain ⟨x, hx, rfl⟩ := vals_mem n l s hs
  have := (h.fit x hx).2
  rw [Array.length_toList]
  exact Nat.le_trans this (by decide)
theorem length_I (l : List S105) (h : GoodL l) : Ev (fun K => impl_lengthOf.f K l) (ansI (lenB l)) := by
  have hv := fun K (hK : 50 ≤ K) => valsI l nmCL h.names (by decide) (by have := h.len; omega) K (by have := h.len; omega)
  obtain ⟨f1, f2⟩ := asL_fit l h nmCL
  have ho := lenI_out (asL (valsL nmCL l)) f1 f2 _ 0 none (Nat.zero_add _)
  rw [asL_back, List.drop_zero] at ho
  refine Ev.bind (a := valsL nmCL l) ⟨50, hv⟩ ?_
  exact ho
theorem length_S (l : List S105) (h : GoodL l) : Ev (fun K => spec_l4Length.f K l) (ansS (lenB l)) := by
  have hv := fun K (hK : 50 ≤ K) => valsS l nmCL h.names (by decide) (by have := h.len; omega) K (by have := h.len; omega)
  obtain ⟨f1, f2⟩ := asL_fit l h nmCL
  have ho := lenS_out (asL (valsL nmCL l)) f1 f2 _ 0 none (Nat.zero_add _)
  rw [asL_back, List.drop_zero] at ho
  refine Ev.bind (a := valsL nmCL l) ⟨50, hv⟩ ?_
  exact ho
theorem len_dec (n : Nat) : decide ((n : Int) ≤ 2000) = decide (n ≤ 2000) := by
  by_cases c : n ≤ 2000
  · rw [decide_eq_true c, decide_eq_true (by omega)]
  · rw [decide_eq_false c, decide_eq_false (by omega)]
theorem dec_int (a b : Nat) : decide ((a : Int) = (b : Int)) = decide (a = b) := by
  by_cases c : a = b
  · subst c; rw [decide_eq_true rfl, decide_eq_true rfl]
  · rw [decide_eq_false c, decide_eq_false (by omega)]
theorem empty_b (s : ByteArray) : (s.toList == ([] : List UInt8)) = decide (s.size = 0) := by
  rw [Bool.eq_iff_iff, beq_iff_eq, decide_eq_true_iff, ByteArray.toList_eq]
  constructor
  · intro h
    have := congrArg List.length h
    rw [Array.length_toList] at this
    exact this
  · intro h
    exact List.eq_nil_of_length_eq_zero (by rw [Array.length_toList]; exact h)
theorem framed_I (l : List S105) (body : ByteArray) (h : GoodL l) : Ev (fun K => impl_isFramed.f K l body) (framedB l body) := by
  have hv := fun K (hK : 50 ≤ K) => valsI l nmTE h.names (by decide) (by have := h.len; omega) K (by have := h.len; omega)
  have hl := length_I l h
  unfold framedB
  cases hq : lenB l with
  | none =>
    rw [hq] at hl
    have hl' : Ev (fun K => impl_lengthOf.f K l) ((0 : Int), false, false) := hl
    exact Ev.bind hl' ⟨0, fun K _ => rfl⟩
  | some st =>
    rw [hq] at hl
    have he : ∀ (r : Int) (b : Bool) (x : Bool), (if b = true then (if r = (body.size : Int) then (some true) else (some false)) else (some (body.toList == ([] : List UInt8)))) = some x → Ev (fun K => impl_lengthOf.f K l) (r, b, true) → Ev (fun K => impl_isFramed.f K l body) (x && decide ((valsL nmTE l).length = 0)) := by
      intro r b x hx hl'
      refine Ev.bind hl' ?_
      simp only [if_true]
      refine Ev.bind (a := valsL nmTE l) ⟨50, hv⟩ ?_
      by_cases c : (valsL nmTE l).length = 0
      · simp only [if_pos (show ((valsL nmTE l).length : Int) = 0 by omega), decide_eq_true c, Bool.and_true]
        exact ⟨0, fun K _ => hx⟩
      · simp only [if_neg (show ¬ ((valsL nmTE l).length : Int) = 0 by omega), decide_eq_false c, Bool.and_false]
        exact ⟨0, fun K _ => rfl⟩
    cases st with
    | none => exact he 0 false (decide (body.size = 0)) (by rw [if_neg (by decide), empty_b]) hl
    | some v =>
      refine he (v : Int) true (decide (v = body.size)) ?_ hl
      rw [if_pos rfl]
      by_cases c2 : v = body.size
      · rw [if_pos (by omega), decide_eq_true c2]
      · rw [if_neg (by omega), decide_eq_false c2]
theorem framed_S (l : List S105) (body : ByteArray) (h : GoodL l) : Ev (fun K => spec_l4Framed.f K l body) (decide (body.size ≤ 300) && framedB l body) := by
  have hv := fun K (hK : 50 ≤ K) => valsS l nmTE h.names (by decide) (by have := h.len; omega) K (by have := h.len; omega)
  have hz : ((((valsL nmTE l).length : Nat) : Int) == 0) = decide ((valsL nmTE l).length = 0) := by
    rw [Bool.eq_iff_iff, beq_iff_eq, decide_eq_true_iff]; omega
  have hl := length_S l h
  unfold framedB
  cases hq : lenB l with
  | none =>
    rw [hq] at hl
    have hl' : Ev (fun K => spec_l4Length.f K l) (-2 : Int) := hl
    refine Ev.bind hl' ?_
    simp only [if_neg (show ¬ ((-2 : Int) = -1) by decide), if_neg (show ¬ ((-2 : Int) = (body.size : Int)) by omega), Bool.false_and, Bool.and_false]
    exact ⟨0, fun K _ => rfl⟩
  | some st =>
    rw [hq] at hl
    cases st with
    | none =>
      have hl' : Ev (fun K => spec_l4Length.f K l) (-1 : Int) := hl
      refine Ev.bind hl' ?_
      simp only [if_true]
      by_cases c : body.size = 0
      · simp only [if_pos (show (0 : Int) = (body.size : Int) by omega), if_pos (show (body.size : Int) ≤ 300 by omega), decide_eq_true c, decide_eq_true (show body.size ≤ 300 by omega), Bool.true_and]
        exact Ev.bind (a := valsL nmTE l) ⟨50, hv⟩ ⟨0, fun K _ => by rw [hz]⟩
      · simp only [if_neg (show ¬ (0 : Int) = (body.size : Int) by omega), decide_eq_false c, Bool.false_and, Bool.and_false]
        exact ⟨0, fun K _ => rfl⟩
    | some v =>
      have hl' : Ev (fun K => spec_l4Length.f K l) (v : Int) := hl
      refine Ev.bind hl' ?_
      simp only [if_neg (show ¬ ((v : Int) = -1) by omega)]
      by_cases c : v = body.size
      · subst c
        by_cases c2 : body.size ≤ 300
        · simp only [if_true, if_pos (show (body.size : Int) ≤ 300 by omega), decide_eq_true c2, decide_true, Bool.true_and]
          exact Ev.bind (a := valsL nmTE l) ⟨50, hv⟩ ⟨0, fun K _ => by rw [hz]⟩
        · simp only [if_true, if_neg (show ¬ (body.size : Int) ≤ 300 by omega), decide_eq_false c2, Bool.false_and]
          exact ⟨0, fun K _ => rfl⟩
      · simp only [if_neg (show ¬ (v : Int) = (body.size : Int) by omega), decide_eq_false c, Bool.false_and, Bool.and_false]
        exact ⟨0, fun K _ => rfl⟩
theorem message_I (line : ByteArray) (l : List S105) (body : ByteArray) (hs : line.size ≤ 500000000) : Ev (fun K => impl_isMessage.f K line l body) (goodMsg line l body) := by
  refine Ev.bind (a := gdAll l) ⟨400, fun K hK => areF_I l K hK⟩ ?_
  unfold goodMsg
  cases hg : gdAll l with
  | false => exact ⟨0, fun K _ => rfl⟩
  | true =>
    have hL := gdAll_L l hg
    simp only [if_true, Bool.true_and]
    by_cases c : body.size ≤ 300
    · simp only [if_pos (show (body.size : Int) ≤ 300 by omega), decide_eq_true c, Bool.true_and]
      refine Ev.bind (a := headL line l) ⟨50, fun K hK => head_I line l hs hL.fit hL.len K hK⟩ ?_
      by_cases c2 : (headL line l).size ≤ 2000
      · simp only [if_pos (show ((headL line l).size : Int) ≤ 2000 by omega), decide_eq_true c2, Bool.and_true]
        exact Ev.bind (framed_I l body hL) ⟨0, fun K _ => rfl⟩
      · simp only [if_neg (show ¬ ((headL line l).size : Int) ≤ 2000 by omega), decide_eq_false c2, Bool.and_false]
        exact ⟨0, fun K _ => rfl⟩
    · simp only [if_neg (show ¬ (body.size : Int) ≤ 300 by omega), decide_eq_false c, Bool.false_and]
      exact ⟨0, fun K _ => rfl⟩
/-- the reference's last tests, behind the first line's own -/
theorem message_S (line : ByteArray) (l : List S105) (body : ByteArray) (hs : line.size ≤ 500000000) (hb : l.length ≤ 100000000) (hf : Fits l) (L : Nat → Option ByteArray) (hL : Ev L line) :
    Ev (fun K => (spec_l3Fields.f K l).bind fun t => (if t = true then ((spec_l4Framed.f K l body).bind fun t2 => (if t2 = true then ((L K).bind fun t3 => ((spec_l4Head.f K t3 l).bind fun t4 => (some (decide ((t4.size : Int) ≤ 2000))))) else (some false))) else (some false))) (goodMsg line l body) := by
  refine Ev.bind (a := gdAll l) ⟨400000000, fun K hK => areF_S l hb hf K hK⟩ ?_
  unfold goodMsg
  cases hg : gdAll l with
  | false => exact ⟨0, fun K _ => rfl⟩
  | true =>
    have hG := gdAll_L l hg
    simp only [if_true, Bool.true_and]
    refine Ev.bind (framed_S l body hG) ?_
    rw [← Bool.and_assoc]
    cases (decide (body.size ≤ 300) && framedB l body) with
    | false => exact ⟨0, fun K _ => rfl⟩
    | true =>
      simp only [if_true, Bool.true_and]
      refine Ev.bind hL ?_
      refine Ev.bind (a := headL line l) ⟨50, fun K hK => head_S line l hs hG.fit hG.len K hK⟩ ⟨0, fun K _ => congrArg some (len_dec _)⟩

/-! ### Good answers -/
def respLine (n : Int) (reason : ByteArray) : ByteArray := (((⟨#[72, 84, 84, 80, 47, 49, 46, 49, 32]⟩ : ByteArray) ++ tx (Lib.itoa n)) ++ (⟨#[32]⟩ : ByteArray)) ++ reason
noncomputable def goodResp (n : Int) (reason : ByteArray) (l : List S105) (body : ByteArray) : Bool := (decide (100 ≤ n) && decide (n ≤ 599)) && ((decide (reason.size ≤ 40) && reason.data.toList.all prB) && goodMsg (respLine n reason) l body)
theorem in_rng (n : Int) (h : (decide (100 ≤ n) && decide (n ≤ 599)) = true) : 100 ≤ n ∧ n ≤ 599 := by
  rw [Bool.and_eq_true] at h
  exact ⟨of_decide_eq_true h.1, of_decide_eq_true h.2⟩
theorem resp_fit (n : Int) (h : 100 ≤ n ∧ n ≤ 599) (r : ByteArray) (hr : r.size ≤ 40) : 9 + (tx (Lib.itoa n)).size ≤ 9223372036854775807 ∧ ((⟨#[72, 84, 84, 80, 47, 49, 46, 49, 32]⟩ : ByteArray) ++ tx (Lib.itoa n)).size + 1 ≤ 9223372036854775807 ∧ (((⟨#[72, 84, 84, 80, 47, 49, 46, 49, 32]⟩ : ByteArray) ++ tx (Lib.itoa n)) ++ (⟨#[32]⟩ : ByteArray)).size + r.size ≤ 9223372036854775807 ∧ (respLine n r).size ≤ 500000000 := by
  have h1 := itoa_len n (by omega) (by omega)
  have h2 : (tx (Lib.itoa n)).size ≤ 7 := by rw [tx_size]; exact h1
  unfold respLine
  simp only [ByteArray.size_append]
  have h3 : (⟨#[72, 84, 84, 80, 47, 49, 46, 49, 32]⟩ : ByteArray).size = 9 := rfl
  have h4 : (⟨#[32]⟩ : ByteArray).size = 1 := rfl
  rw [h3, h4]
  generalize (tx (Lib.itoa n)).size = x at *
  generalize r.size = y at *
  omega
theorem respLine_I (n : Int) (h : 100 ≤ n ∧ n ≤ 599) (r : ByteArray) (hr : r.size ≤ 40) (l : List S105) (b : ByteArray) : impl_responseLine.f n r l b = some (respLine n r) := by
  obtain ⟨q1, q2, q3, _⟩ := resp_fit n h r hr
  unfold impl_responseLine.f
  rw [itoa_f n (by omega) (by omega), Option.bind_some, if_pos q1, if_pos q2, if_pos q3]; rfl
theorem respLine_S (n : Int) (h : 100 ≤ n ∧ n ≤ 599) (r : ByteArray) (hr : r.size ≤ 40) (l : List S105) (b : ByteArray) (K : Nat) (hK : 7 ≤ K) : spec_l4Status.f K n r l b = some (respLine n r) := by
  obtain ⟨q1, q2, q3, _⟩ := resp_fit n h r hr
  unfold spec_l4Status.f
  rw [num_f K n hK (by omega) (by omega), Option.bind_some, if_pos q1, if_pos q2, if_pos q3]; rfl
theorem resp_I (n : Int) (r : ByteArray) (l : List S105) (b : ByteArray) : Ev (fun K => impl_GoodResponse.f K n r l b) (goodResp n r l b) := by
  have hp : impl_isPrinted.f r 40 = some (decide (r.size ≤ 40) && r.data.toList.all prB) := by
    have := isPrinted_I r.data.toList 40 (by decide)
    rw [tx_data, Array.length_toList] at this
    exact this
  have hl : impl_isResponseLine.f n r l b = some ((decide (100 ≤ n) && decide (n ≤ 599)) && (decide (r.size ≤ 40) && r.data.toList.all prB)) := by
    unfold impl_isResponseLine.f
    rw [withinR, Option.bind_some]
    cases (decide (100 ≤ n) && decide (n ≤ 599)) with
    | false => rfl
    | true => rw [if_pos rfl, hp]; rfl
  refine Ev.bind (a := _) ⟨0, fun K _ => hl⟩ ?_
  unfold goodResp
  cases hn : (decide (100 ≤ n) && decide (n ≤ 599)) with
  | false => exact ⟨0, fun K _ => rfl⟩
  | true =>
    simp only [Bool.true_and]
    cases hq : (decide (r.size ≤ 40) && r.data.toList.all prB) with
    | false => exact ⟨0, fun K _ => rfl⟩
    | true =>
      simp only [if_true, Bool.true_and]
      have hr : r.size ≤ 40 := by rw [Bool.and_eq_true] at hq; exact of_decide_eq_true hq.1
      have hi := in_rng n hn
      refine Ev.bind (a := respLine n r) ⟨0, fun K _ => respLine_I n hi r hr l b⟩ ?_
      exact Ev.bind (message_I (respLine n r) l b (resp_fit n hi r hr).2.2.2) ⟨0, fun K _ => rfl⟩
theorem resp_S (n : Int) (r : ByteArray) (l : List S105) (b : ByteArray) (hr : r.size ≤ 100000000) (hb : l.length ≤ 100000000) (hf : Fits l) : Ev (fun K => spec_GoodResponse.f K n r l b) (goodResp n r l b) := by
  have hp : Ev (fun K => spec_l4Reason.f K r) (decide (r.size ≤ 40) && r.data.toList.all prB) := by
    refine Ev.bind (a := r.data.toList.all prB) ⟨r.data.toList.length + 1, fun K hK => ?_⟩ ?_
    · have := printed_l r.data.toList [] K (by rw [List.nil_append, Array.length_toList]; exact hr) (by omega)
      exact this
    · cases r.data.toList.all prB with
      | false => exact ⟨0, fun K _ => by rw [if_neg (by decide), Bool.and_false]⟩
      | true =>
        refine ⟨0, fun K _ => ?_⟩
        rw [if_pos rfl, Bool.and_true]
        congr 1
        by_cases c : r.size ≤ 40
        · rw [decide_eq_true c, decide_eq_true (by omega)]
        · rw [decide_eq_false c, decide_eq_false (by omega)]
  refine Ev.bind (a := _) ⟨0, fun K _ => inR n 100 599⟩ ?_
  unfold goodResp
  cases hn : (decide (100 ≤ n) && decide (n ≤ 599)) with
  | false => exact ⟨0, fun K _ => rfl⟩
  | true =>
    simp only [if_true, Bool.true_and]
    refine Ev.bind hp ?_
    cases hq : (decide (r.size ≤ 40) && r.data.toList.all prB) with
    | false => exact ⟨0, fun K _ => rfl⟩
    | true =>
      simp only [if_true, Bool.true_and]
      have hr : r.size ≤ 40 := by rw [Bool.and_eq_true] at hq; exact of_decide_eq_true hq.1
      have hi := in_rng n hn
      exact message_S (respLine n r) l b (resp_fit n hi r hr).2.2.2 hb hf _ ⟨7, fun K hK => respLine_S n hi r hr l b K hK⟩

/-! ### Texts in order: sorted and told once, or put in one by one -/
abbrev bl_ (a b : List UInt8) : Bool := Op.bytesLess a b
theorem bl_cons (a b : UInt8) (x y : List UInt8) : Op.bytesLess (a :: x) (b :: y) = (decide (a < b) || (a == b && Op.bytesLess x y)) := rfl
theorem bl_nil (x : List UInt8) : Op.bytesLess x [] = false := by cases x <;> rfl
theorem bl_lt : ∀ (x y : List UInt8), (Op.bytesLess x y = true) ↔ x < y
  | x, [] => by rw [bl_nil]; simp
  | [], b :: y => by
    rw [show Op.bytesLess [] (b :: y) = true from rfl]; simp
  | a :: x, b :: y => by
    rw [bl_cons, Bool.or_eq_true, decide_eq_true_iff, Bool.and_eq_true, beq_iff_eq, bl_lt x y, List.cons_lt_cons_iff]
theorem bl_irr (x : List UInt8) : Op.bytesLess x x = false := by
  induction x with
  | nil => rfl
  | cons a x ih => rw [bl_cons, ih, Bool.and_false, Bool.or_false]; exact decide_eq_false (by rw [UInt8.lt_iff_toNat_lt]; omega)
theorem bl_tri : ∀ (x y : List UInt8), Op.bytesLess x y = true ∨ x = y ∨ Op.bytesLess y x = true
  | [], [] => .inr (.inl rfl)
  | [], b :: y => .inl rfl
  | a :: x, [] => .inr (.inr rfl)
  | a :: x, b :: y => by
    rw [bl_cons, bl_cons]
    by_cases c : a < b
    · left; rw [decide_eq_true c]; rfl
    · by_cases c2 : b < a
      · right; right; rw [decide_eq_true c2]; rfl
      · have e : a = b := by
          rw [UInt8.lt_iff_toNat_lt] at c c2
          exact UInt8.toNat_inj.mp (by omega)
        subst e
        rcases bl_tri x y with h | h | h
        · left; rw [h]; simp
        · right; left; rw [h]
        · right; right; rw [h]; simp
theorem bl_trans : ∀ (x y z : List UInt8), Op.bytesLess x y = true → Op.bytesLess y z = true → Op.bytesLess x z = true
  | x, y, [], _, h => by rw [bl_nil] at h; cases h
  | x, [], c :: z, h, _ => by rw [bl_nil] at h; cases h
  | [], b :: y, c :: z, _, _ => rfl
  | a :: x, b :: y, c :: z, h1, h2 => by
    rw [bl_cons, Bool.or_eq_true, decide_eq_true_iff, Bool.and_eq_true, beq_iff_eq, UInt8.lt_iff_toNat_lt] at h1 h2 ⊢
    rcases h1 with h1 | ⟨h1, h1'⟩
    · rcases h2 with h2 | ⟨h2, h2'⟩
      · left; omega
      · left; rw [← h2]; exact h1
    · rcases h2 with h2 | ⟨h2, h2'⟩
      · left; rw [h1]; exact h2
      · right; exact ⟨h1.trans h2, bl_trans x y z h1' h2'⟩
theorem bl_asym (x y : List UInt8) (h : Op.bytesLess x y = true) : Op.bytesLess y x = false := by
  cases h2 : Op.bytesLess y x with
  | false => rfl
  | true => have := bl_trans x y x h h2; rw [bl_irr] at this; cases this
theorem le_bl (x y : List UInt8) : decide (x ≤ y) = !Op.bytesLess y x := by
  rw [Bool.eq_iff_iff, decide_eq_true_iff, Bool.not_eq_true', ← List.not_lt]
  rw [← bl_lt]
  exact Bool.not_eq_true _ ▸ Iff.rfl
def ins (x : List UInt8) : List (List UInt8) → List (List UInt8)
  | [] => [x]
  | y :: ys => if Op.bytesLess y x = true then y :: ins x ys else if y = x then y :: ys else x :: y :: ys
def SS (l : List (List UInt8)) : Prop := l.Pairwise fun a b => Op.bytesLess a b = true
theorem ins_mem (x z : List UInt8) : ∀ l, z ∈ ins x l ↔ z = x ∨ z ∈ l
  | [] => by simp [ins]
  | y :: ys => by
    unfold ins
    by_cases c : Op.bytesLess y x = true
    · rw [if_pos c, List.mem_cons, ins_mem x z ys, List.mem_cons]
      constructor
      · rintro (h | h | h)
        · exact .inr (.inl h)
        · exact .inl h
        · exact .inr (.inr h)
      · rintro (h | h | h)
        · exact .inr (.inl h)
        · exact .inl h
        · exact .inr (.inr h)
    · rw [if_neg c]
      by_cases c2 : y = x
      · rw [if_pos c2, List.mem_cons]
        constructor
        · exact fun h => .inr h
        · rintro (h | h)
          · exact .inl (h.trans c2.symm)
          · exact h
      · rw [if_neg c2, List.mem_cons]
theorem ins_SS (x : List UInt8) : ∀ l, SS l → SS (ins x l)
  | [], _ => List.pairwise_singleton _ _
  | y :: ys, h => by
    have h2 := List.pairwise_cons.mp h
    unfold ins
    by_cases c : Op.bytesLess y x = true
    · rw [if_pos c]
      refine List.pairwise_cons.mpr ⟨fun z hz => ?_, ins_SS x ys h2.2⟩
      rcases (ins_mem x z ys).mp hz with rfl | hz
      · exact c
      · exact h2.1 z hz
    · rw [if_neg c]
      by_cases c2 : y = x
      · rw [if_pos c2]; exact h
      · rw [if_neg c2]
        have hxy : Op.bytesLess x y = true := by
          rcases bl_tri x y with h3 | h3 | h3
          · exact h3
          · exact absurd h3.symm c2
          · exact absurd h3 c
        refine List.pairwise_cons.mpr ⟨fun z hz => ?_, h⟩
        rcases List.mem_cons.mp hz with rfl | hz
        · exact hxy
        · exact bl_trans x y z hxy (h2.1 z hz)
theorem SS_one : ∀ (a b : List (List UInt8)), SS a → SS b → (∀ x, x ∈ a ↔ x ∈ b) → a = b
  | [], [], _, _, _ => rfl
  | [], y :: ys, _, _, h => absurd ((h y).mpr List.mem_cons_self) List.not_mem_nil
  | x :: xs, [], _, _, h => absurd ((h x).mp List.mem_cons_self) List.not_mem_nil
  | x :: xs, y :: ys, ha, hb, h => by
    have ha2 := List.pairwise_cons.mp ha
    have hb2 := List.pairwise_cons.mp hb
    have e : x = y := by
      rcases List.mem_cons.mp ((h x).mp List.mem_cons_self) with h1 | h1
      · exact h1
      · rcases List.mem_cons.mp ((h y).mpr List.mem_cons_self) with h3 | h3
        · exact h3.symm
        · have q1 := hb2.1 x h1
          have q2 := ha2.1 y h3
          rw [bl_asym _ _ q1] at q2
          cases q2
    subst e
    congr 1
    refine SS_one xs ys ha2.2 hb2.2 (fun z => ⟨fun hz => ?_, fun hz => ?_⟩)
    · rcases List.mem_cons.mp ((h z).mp (List.mem_cons_of_mem _ hz)) with h1 | h1
      · have := ha2.1 z hz
        rw [h1, bl_irr] at this; cases this
      · exact h1
    · rcases List.mem_cons.mp ((h z).mpr (List.mem_cons_of_mem _ hz)) with h1 | h1
      · have := hb2.1 z hz
        rw [h1, bl_irr] at this; cases this
      · exact h1
def insAll (out : List (List UInt8)) (l : List (List UInt8)) : List (List UInt8) := l.foldl (fun o p => ins p o) out
theorem insAll_SS : ∀ (l out : List (List UInt8)), SS out → SS (insAll out l)
  | [], out, h => h
  | x :: xs, out, h => insAll_SS xs (ins x out) (ins_SS x out h)
theorem insAll_mem (z : List UInt8) : ∀ (l out : List (List UInt8)), z ∈ insAll out l ↔ z ∈ out ∨ z ∈ l
  | [], out => by simp [insAll]
  | x :: xs, out => by
    have := insAll_mem z xs (ins x out)
    have e : insAll out (x :: xs) = insAll (ins x out) xs := rfl
    rw [e, this, ins_mem, List.mem_cons]
    constructor
    · rintro ((h | h) | h)
      · exact .inr (.inl h)
      · exact .inl h
      · exact .inr (.inr h)
    · rintro (h | h | h)
      · exact .inl (.inr h)
      · exact .inl (.inl h)
      · exact .inr h
/-- what a sorted row leaves where runs are told once -/
theorem comp_up (S : List (List UInt8)) (hS : S.Pairwise fun a b => decide (a ≤ b) = true) : ∀ n, n ≤ S.length → SS (Lib.compactUpTo S.toArray n) ∧ ∀ z, z ∈ Lib.compactUpTo S.toArray n ↔ z ∈ S.take n
  | 0, _ => ⟨List.Pairwise.nil, fun z => by simp [Lib.compactUpTo]⟩
  | n + 1, hn => by
    obtain ⟨ih1, ih2⟩ := comp_up S hS n (by omega)
    have g1 : S.toArray[n]! = S[n] := by simp [show n < S.length by omega]
    have hle : ∀ i (hi : i < n), Op.bytesLess S[n] (S[i]'(by omega)) = false := fun i hi => by
      have := List.pairwise_iff_getElem.mp hS i n (by omega) (by omega) hi
      rw [le_bl, Bool.not_eq_true'] at this
      exact this
    have htk : S.take (n + 1) = S.take n ++ [S[n]] := by rw [List.take_append_getElem]
    rw [Lib.compactUpTo_succ, g1, htk]
    cases hk : Lib.keeps S.toArray n with
    | true =>
      rw [if_pos rfl]
      refine ⟨List.pairwise_append.mpr ⟨ih1, List.pairwise_singleton _ _, fun a ha b hb => ?_⟩, fun z => by rw [List.mem_append, List.mem_append, ih2]⟩
      obtain rfl := List.mem_singleton.mp hb
      obtain ⟨i, hi, e⟩ := List.getElem_of_mem ((ih2 a).mp ha)
      have hi2 : i < n := by rw [List.length_take] at hi; omega
      rw [List.getElem_take] at e
      subst e
      rcases bl_tri (S[i]'(by omega)) S[n] with h | h | h
      · exact h
      · exfalso
        unfold Lib.keeps at hk
        have hk2 := of_decide_eq_true hk
        have g2 : S.toArray[n - 1]! = S[n - 1] := by simp [show n - 1 < S.length by omega]
        rw [g1, g2] at hk2
        rcases hk2 with hk2 | hk2
        · omega
        · apply hk2
          by_cases ci : i = n - 1
          · subst ci; exact h.symm
          · have q1 := List.pairwise_iff_getElem.mp hS i (n - 1) (by omega) (by omega) (by omega)
            rw [le_bl, Bool.not_eq_true', h] at q1
            have q2 := hle (n - 1) (by omega)
            rcases bl_tri S[n] S[n - 1] with h3 | h3 | h3
            · rw [q2] at h3; cases h3
            · exact h3
            · rw [q1] at h3; cases h3
      · rw [hle i hi2] at h; cases h
    | false =>
      rw [if_neg (by decide), List.append_nil]
      refine ⟨ih1, fun z => ?_⟩
      rw [ih2, List.mem_append, List.mem_singleton]
      constructor
      · exact fun h => .inl h
      · rintro (h | h)
        · exact h
        · have hk2 := of_decide_eq_false hk
          have h0 : n ≠ 0 := fun e => hk2 (.inl e)
          have g2 : S.toArray[n - 1]! = S[n - 1] := by simp [show n - 1 < S.length by omega]
          have h3 : S[n] = S[n - 1] := by
            refine Classical.byContradiction fun hne => hk2 (.inr ?_)
            rw [g1, g2]; exact hne
          rw [h, h3]
          have : S[n - 1] = (S.take n)[n - 1]'(by rw [List.length_take]; omega) := by rw [List.getElem_take]
          rw [this]
          exact List.getElem_mem _
theorem comp_ins (l : List (List UInt8)) : Lib.compact (l.mergeSort fun x y => decide (x ≤ y)) = insAll [] l := by
  have hS : (l.mergeSort fun x y => decide (x ≤ y)).Pairwise (fun x y => decide (x ≤ y) = true) :=
    List.pairwise_mergeSort (fun a b c h1 h2 => by
      rw [le_bl, Bool.not_eq_true'] at *
      cases h3 : Op.bytesLess c a with
      | false => rfl
      | true =>
        rcases bl_tri b a with h | h | h
        · rw [h1] at h; cases h
        · subst h; rw [h2] at h3; cases h3
        · have := bl_trans c a b h3 h; rw [h2] at this; cases this) (fun a b => by
      rw [Bool.or_eq_true, le_bl, le_bl, Bool.not_eq_true', Bool.not_eq_true']
      cases h : Op.bytesLess b a with
      | false => exact .inl rfl
      | true => exact .inr (bl_asym _ _ h)) l
  have h := comp_up _ hS _ (Nat.le_refl _)
  unfold Lib.compact
  refine SS_one _ _ h.1 (insAll_SS l [] List.Pairwise.nil) (fun x => ?_)
  rw [h.2, insAll_mem, List.take_length, List.mem_mergeSort]
  simp

/-! ### Values joined; the names that an answer depends on -/
noncomputable def joinV (vs : List ByteArray) : List UInt8 := Lib.join (asL vs) [44, 32]
theorem joinV_cons (v : ByteArray) (vs : List ByteArray) : joinV (v :: vs) = v.data.toList ++ Lib.joinTail [44, 32] (asL vs) := by
  unfold joinV asL
  rw [List.map_cons, Lib.join_cons]
theorem joinT_cons (v : ByteArray) (vs : List ByteArray) : Lib.joinTail [44, 32] (asL (v :: vs)) = [44, 32] ++ v.data.toList ++ Lib.joinTail [44, 32] (asL vs) := by
  unfold Lib.joinTail asL
  rw [List.map_cons, List.map_cons, List.flatten_cons]
theorem join_I (vs : List ByteArray) (h1 : vs.length < 1000000) (h2 : (joinV vs).length < 1000000000) : strings_Join.f vs (⟨#[44, 32]⟩ : ByteArray) = some (tx (joinV vs)) := by
  unfold strings_Join.f
  rw [if_pos (by omega)]
  show (if (joinV vs).length < 1000000000 then some (tx (joinV vs)) else none) = _
  rw [if_pos h2]
theorem size_app (a b : ByteArray) : (a ++ b).size = a.size + b.size := ByteArray.size_append
theorem app_tx (a : ByteArray) (l : List UInt8) (v : ByteArray) (h : l = v.data.toList) : a ++ v = tx (a.data.toList ++ l) := by
  subst h
  rw [← tx_app, tx_data, tx_data]
theorem joined_t (vs : List ByteArray) (hl : vs.length ≤ 100000000) : ∀ (m K i : Nat) (acc : List UInt8), i + m = vs.length → 0 < i → m < K → acc.length + (Lib.joinTail [44, 32] (asL (vs.drop i))).length ≤ 1000000000 →
    spec_l3Joined.l0 K (tx acc) vs vs (vs.length : Int) (i : Int) = some (tx (acc ++ Lib.joinTail [44, 32] (asL (vs.drop i))), decide ((vs.length : Int) > 0))
  | m, 0, i, acc, _, _, hK, _ => absurd hK (Nat.not_lt_zero _)
  | 0, K + 1, i, acc, hi, h0, hK, hs => by
    have e : i = vs.length := hi
    subst e
    unfold spec_l3Joined.l0
    rw [if_neg (Int.lt_irrefl _), List.drop_length]
    show _ = some (tx (acc ++ []), _)
    rw [List.append_nil]
  | m + 1, K + 1, i, acc, hi, h0, hK, hs => by
    have hlt : i < vs.length := by omega
    rw [List.drop_eq_getElem_cons hlt, joinT_cons] at hs ⊢
    have hs2 : acc.length + (2 + vs[i].data.toList.length + (Lib.joinTail [44, 32] (asL (vs.drop (i + 1)))).length) ≤ 1000000000 := by
      rw [List.length_append, List.length_append] at hs; exact hs
    have e1 : tx acc ++ (⟨#[44, 32]⟩ : ByteArray) = tx (acc ++ [44, 32]) := tx_app acc [44, 32]
    have e2 : tx (acc ++ [44, 32]) ++ vs[i] = tx (acc ++ [44, 32] ++ vs[i].data.toList) := tx_app (acc ++ [44, 32]) vs[i].data.toList
    have e3 : (vs[i]).size = vs[i].data.toList.length := by rw [Array.length_toList]; rfl
    have ih := joined_t vs hl m K (i + 1) (acc ++ [44, 32] ++ vs[i].data.toList) (by omega) (by omega) (by omega) (by
      rw [List.length_append, List.length_append]
      show acc.length + 2 + _ + _ ≤ _
      omega)
    unfold spec_l3Joined.l0
    rw [if_pos (c_lt _ _ hlt), if_pos (Int.natCast_nonneg i), if_pos (c_lt _ _ hlt), rdS_nat vs i hlt, if_pos (by omega), tx_size, if_pos (by omega), e1, tx_size, e3, if_pos (by rw [List.length_append]; show acc.length + 2 + _ ≤ _; omega), e2, w_i i _ hlt (by omega), ih]
    simp only [List.append_assoc]
theorem joined_S (l : List S105) (n : ByteArray) (h : Names l) (hn : n.size < 100000000) (hl : l.length ≤ 100000000) (hj : (joinV (valsL n l)).length ≤ 1000000000) (K : Nat) (hK : l.length + 2 < K) : spec_l3Joined.f K l n = some (tx (joinV (valsL n l)), decide (((valsL n l).length : Int) > 0)) := by
  have hlen := vals_len n l
  unfold spec_l3Joined.f
  rw [valsS l n h hn hl K (by omega), Option.bind_some]
  obtain ⟨k, rfl⟩ : ∃ k, K = k + 1 := ⟨K - 1, by omega⟩
  cases hv : valsL n l with
  | nil => rfl
  | cons v vs =>
    rw [hv, joinV_cons, List.length_append] at hj
    rw [hv, List.length_cons] at hlen
    have e3 : v.size = v.data.toList.length := by rw [Array.length_toList]; rfl
    have e1 : (⟨#[]⟩ : ByteArray) ++ v = tx v.data.toList := by
      have := tx_app [] v.data.toList
      rw [List.nil_append] at this
      exact this
    have ih := joined_t (v :: vs) (by rw [List.length_cons]; omega) vs.length k 1 v.data.toList (by rw [List.length_cons]; omega) (by omega) (by omega) (by
      rw [List.drop_one, List.tail_cons]; exact hj)
    rw [List.drop_one, List.tail_cons] at ih
    have r0 : rdOf ByteArray.empty (v :: vs) 0 = v := rfl
    unfold spec_l3Joined.l0
    rw [if_pos (by rw [List.length_cons]; omega), if_pos (by decide), if_pos (by rw [List.length_cons]; omega), r0, if_neg (by decide), if_pos (by show (0 : Nat) + v.size ≤ _; rw [e3]; omega), e1, joinV_cons]
    have w0 : wrap64 ((0 : Int) + 1) = ((1 : Nat) : Int) := by rw [w64 (by omega) (by omega)]; rfl
    rw [w0]
    exact ih
def star : List UInt8 := [42]
def nmsL : List (List UInt8) → List (List UInt8)
  | [] => []
  | p :: ps => if p = [42] then nmsL ps else (p.map lowB) :: nmsL ps
def starL (L : List (List UInt8)) : Bool := L.any fun p => decide (p = [42])
noncomputable def varyL (L : List (List UInt8)) : List ByteArray × Bool × Bool := if L.all tokL = true then ((insAll [] (nmsL L)).map tx, starL L, true) else ([], false, false)
def nmVary : ByteArray := ⟨#[118, 97, 114, 121]⟩
noncomputable def varyB (l : List S105) : List ByteArray × Bool × Bool := match lq [] 0 (joinV (valsL nmVary l)) with
  | none => ([], false, false)
  | some L => varyL L
theorem low_tx (p : List UInt8) : low (tx p) = tx (p.map lowB) := by
  unfold low
  simp [tx]
theorem tx_eq42 (p : List UInt8) : ((tx p).toList = ([42] : List UInt8)) = (p = [42]) := by rw [tx_toList]
theorem nms_len : ∀ L : List (List UInt8), (nmsL L).length ≤ L.length
  | [] => Nat.le_refl _
  | p :: ps => by
    have ih := nms_len ps
    unfold nmsL
    rw [List.length_cons]
    split
    · omega
    · rw [List.length_cons]; omega
theorem toks_I (L : List (List UInt8)) (hl : L.length ≤ 100000000) : xAll_str_impl_isToken.f (L.map tx) = some (L.all tokL) := by
  unfold xAll_str_impl_isToken.f
  rw [if_pos (by rw [List.length_map]; omega)]
  obtain ⟨i, e, g⟩ := idxO_mem xAll_str_impl_isToken.z (fun s => tokL s.data.toList) (L.map tx) (fun s hs => by
    unfold xAll_str_impl_isToken.z
    have := token_I s.data.toList
    rw [tx_data] at this
    rw [this]; rfl) 0 (by decide)
  rw [e, Option.bind_some, g, List.all_map]
  rfl
theorem sortC_f (l : List (List UInt8)) (hl : l.length ≤ 100000000) : xSortC.f (l.map tx) = some ((insAll [] l).map tx) := by
  unfold xSortC.f
  rw [if_pos (by rw [List.length_map]; omega)]
  congr 1
  unfold compT sortT
  have e1 : (l.map tx).map (fun s => s.data.toList) = l := by
    rw [List.map_map]
    exact List.map_id'' (fun s => rfl) l
  have e2 : ∀ X : List (List UInt8), (X.map unT).map (fun s => s.data.toList) = X := fun X => by
    rw [List.map_map]
    exact List.map_id'' (fun s => rfl) X
  rw [e1, e2, comp_ins]
  rfl
theorem varyI_l (L : List (List UInt8)) (hL : PartsOk L) (hs : ∀ p ∈ L, p.length < 100000000) : ∀ (m K i : Nat) (acc : List (List UInt8)) (st : Bool), i + m = L.length → m < K → acc.length ≤ i →
    impl_vary.l0 K (acc.map tx) st (L.map tx) ((L.map tx).length : Int) (i : Int) = some ((insAll [] (acc ++ nmsL (L.drop i))).map tx, st || starL (L.drop i), true)
  | m, 0, i, acc, st, _, hK, _ => absurd hK (Nat.not_lt_zero _)
  | 0, K + 1, i, acc, st, hi, hK, ha => by
    have e : i = L.length := hi
    subst e
    have hl := hL.2
    unfold impl_vary.l0
    rw [List.length_map, if_neg (Int.lt_irrefl _), List.drop_length, sortC_f acc (by omega), Option.bind_some]
    show _ = some ((insAll [] (acc ++ [])).map tx, st || false, true)
    rw [List.append_nil, Bool.or_false]
  | m + 1, K + 1, i, acc, st, hi, hK, ha => by
    have hlt : i < L.length := by omega
    have hl := hL.2
    have e0 : ((L.map tx).length : Int) = (L.length : Int) := by rw [List.length_map]
    have e4 : starL (L[i] :: L.drop (i + 1)) = (decide (L[i] = [42]) || starL (L.drop (i + 1))) := rfl
    have e5 : nmsL (L[i] :: L.drop (i + 1)) = if L[i] = [42] then nmsL (L.drop (i + 1)) else (L[i].map lowB) :: nmsL (L.drop (i + 1)) := rfl
    unfold impl_vary.l0
    rw [e0, if_pos (c_lt _ _ hlt), if_pos (Int.natCast_nonneg i), if_pos (c_lt _ _ hlt), rdT L i hlt, w_i i _ hlt (by omega), List.drop_eq_getElem_cons hlt, e4, e5]
    by_cases c : L[i] = [42]
    · have ih := varyI_l L hL hs m K (i + 1) acc true (by omega) (by omega) (by omega)
      rw [e0] at ih
      rw [if_pos (by rw [tx_eq42]; exact c), if_pos c, decide_eq_true c, ih, Bool.true_or, Bool.or_true]
    · have ih := varyI_l L hL hs m K (i + 1) (acc ++ [L[i].map lowB]) st (by omega) (by omega) (by rw [List.length_append, List.length_singleton]; omega)
      rw [e0] at ih
      have hsm := hs _ (List.getElem_mem hlt)
      rw [if_neg (by rw [tx_eq42]; exact c), if_neg c, decide_eq_false c, smallI _ (by rw [tx_size]; exact hsm), Option.bind_some, if_pos (by rw [List.length_map]; omega), low_tx, Bool.false_or]
      have e6 : acc.map tx ++ [tx (L[i].map lowB)] = (acc ++ [L[i].map lowB]).map tx := by rw [List.map_append]; rfl
      rw [e6, ih, List.append_assoc, List.singleton_append]
theorem ins_skip (p : List UInt8) (B : List (List UInt8)) : ∀ A : List (List UInt8), (∀ q ∈ A, Op.bytesLess q p = true) → ins p (A ++ B) = A ++ ins p B
  | [], _ => rfl
  | a :: A, h => by
    have h1 := h a List.mem_cons_self
    rw [List.cons_append]
    unfold ins
    rw [if_pos h1, ins_skip p B A (fun q hq => h q (List.mem_cons_of_mem _ hq))]
    cases B <;> rfl
theorem bl_tx (a b : List UInt8) : (Op.bytesLess ((tx a).toList) (tx b).toList) = Op.bytesLess a b := by rw [tx_toList, tx_toList]
theorem put_mid (O : List (List UInt8)) (p : List UInt8) (j : Nat) (hj : j ≤ O.length) (hl : O.length ≤ 100000000) (F : List ByteArray → Option (List ByteArray × Bool × Bool)) :
    (if 0 ≤ (j : Int) then (if (j : Int) ≤ ((O.map tx).length : Int) then ((some ((O.map tx).take (j : Int).toNat : List ByteArray)).bind fun y200 => (if ([] : List ByteArray).length + y200.length < 8796093022208 then ((some (([] : List ByteArray) ++ y200 : List ByteArray)).bind fun y204 => (if y204.length < 8796093022208 then ((some (y204 ++ [tx p] : List ByteArray)).bind fun y207 => ((some ((O.map tx).drop (j : Int).toNat : List ByteArray)).bind fun y210 => (if y207.length + y210.length < 8796093022208 then (F (y207 ++ y210)) else (none)))) else (none))) else (none))) else (none)) else (none)) = F ((O.take j ++ p :: O.drop j).map tx) := by
  have e0 : ((O.map tx).length : Int) = (O.length : Int) := by rw [List.length_map]
  have e1 : (j : Int).toNat = j := Int.toNat_natCast j
  rw [if_pos (Int.natCast_nonneg j), e0, if_pos (by omega), e1, Option.bind_some, ← List.map_take, ← List.map_drop]
  have h1 : ((O.take j).map tx).length ≤ 100000000 := by rw [List.length_map, List.length_take]; omega
  have h2 : ((O.drop j).map tx).length ≤ 100000000 := by rw [List.length_map, List.length_drop]; omega
  rw [if_pos (by rw [List.length_nil]; omega), Option.bind_some, List.nil_append, if_pos (by omega), Option.bind_some, Option.bind_some, if_pos (by rw [List.length_append, List.length_singleton]; omega)]
  congr 1
  rw [List.map_append, List.map_cons, List.append_assoc]; rfl
theorem varyS_in (parts : List ByteArray) (i : Nat) (hi : i < 100000000) (st : Bool) (O : List (List UInt8)) (hO : O.length ≤ 100000000) (p : List UInt8) (r : List ByteArray × Bool × Bool) (Hout : Ev (fun K => spec_l9Vary.l0 K st ((ins p O).map tx) parts (parts.length : Int) ((i + 1 : Nat) : Int)) r) : ∀ (m j : Nat), j + m = O.length → (∀ q ∈ O.take j, Op.bytesLess q p = true) →
    Ev (fun K => spec_l9Vary.l1 K st (O.map tx) (tx p) (j : Int) parts (parts.length : Int) (i : Int)) r
  | 0, j, hj, hq => by
    obtain ⟨N, hN⟩ := Hout
    refine ⟨N + 1, fun K hK => ?_⟩
    obtain ⟨k, rfl⟩ : ∃ k, K = k + 1 := ⟨K - 1, by omega⟩
    have e : j = O.length := hj
    subst e
    have hw : wrap64 ((i : Int) + 1) = ((i + 1 : Nat) : Int) := by rw [w64 (by omega) (by omega)]; omega
    have e2 : ins p O = O.take O.length ++ p :: O.drop O.length := by
      have := ins_skip p [] O (by rw [List.take_length] at hq; exact hq)
      rw [List.append_nil] at this
      rw [this, List.take_length, List.drop_length]; rfl
    dsimp only
    unfold spec_l9Vary.l1
    rw [if_neg (by rw [List.length_map]; exact Int.lt_irrefl _), hw, put_mid O p O.length (Nat.le_refl _) hO (fun y => spec_l9Vary.l0 k st y parts (parts.length : Int) ((i + 1 : Nat) : Int)), ← e2]
    exact hN k (by omega)
  | m + 1, j, hj, hq => by
    have hlt : j < O.length := by omega
    have hw : wrap64 ((i : Int) + 1) = ((i + 1 : Nat) : Int) := by rw [w64 (by omega) (by omega)]; omega
    have hsplit : O = O.take j ++ O[j] :: O.drop (j + 1) := by rw [← List.drop_eq_getElem_cons hlt, List.take_append_drop]
    have hins : ins p O = O.take j ++ ins p (O[j] :: O.drop (j + 1)) := by
      conv => lhs; rw [hsplit]
      exact ins_skip p _ _ hq
    have e0 : ((O.map tx).length : Int) = (O.length : Int) := by rw [List.length_map]
    by_cases c : Op.bytesLess O[j] p = true
    · have ih := varyS_in parts i hi st O hO p r Hout m (j + 1) (by omega) (fun q hq2 => by
        rw [← List.take_append_getElem hlt] at hq2
        rcases List.mem_append.mp hq2 with h | h
        · exact hq q h
        · rw [List.mem_singleton.mp h]; exact c)
      obtain ⟨N, hN⟩ := ih
      refine ⟨N + 1, fun K hK => ?_⟩
      obtain ⟨k, rfl⟩ : ∃ k, K = k + 1 := ⟨K - 1, by omega⟩
      dsimp only
      unfold spec_l9Vary.l1
      rw [if_pos (by rw [e0]; exact c_lt _ _ hlt), if_pos (Int.natCast_nonneg j), rdT O j hlt, bl_tx, if_pos c, w_i j _ hlt (by omega)]
      exact hN k (by omega)
    · obtain ⟨N, hN⟩ := Hout
      refine ⟨N + 1, fun K hK => ?_⟩
      obtain ⟨k, rfl⟩ : ∃ k, K = k + 1 := ⟨K - 1, by omega⟩
      have hk := hN k (by omega)
      dsimp only at hk
      dsimp only
      unfold spec_l9Vary.l1
      rw [if_pos (by rw [e0]; exact c_lt _ _ hlt), if_pos (Int.natCast_nonneg j), rdT O j hlt, bl_tx, if_neg c, tx_toList, tx_toList, hw]
      by_cases c2 : O[j] = p
      · have e3 : ins p O = O := by
          rw [hins]
          unfold ins
          rw [if_neg c, if_pos c2]
          exact hsplit.symm
        rw [e3] at hk
        rw [if_pos c2]
        exact hk
      · have e3 : ins p O = O.take j ++ p :: O.drop j := by
          rw [hins, List.drop_eq_getElem_cons hlt]
          unfold ins
          rw [if_neg c, if_neg c2]
        rw [e3] at hk
        rw [if_neg c2]
        have hpm := put_mid O p j (by omega) hO (fun y => spec_l9Vary.l0 k st y parts (parts.length : Int) ((i + 1 : Nat) : Int))
        rw [if_pos (Int.natCast_nonneg j)] at hpm
        rw [hpm]
        exact hk
theorem ins_len (p : List UInt8) : ∀ O : List (List UInt8), (ins p O).length ≤ O.length + 1
  | [] => Nat.le_refl _
  | y :: ys => by
    have ih := ins_len p ys
    unfold ins
    split
    · rw [List.length_cons, List.length_cons]; omega
    · split
      · omega
      · simp
theorem varyS_l (L : List (List UInt8)) (hL : PartsOk L) : ∀ (m i : Nat) (O : List (List UInt8)) (st : Bool), i + m = L.length → O.length ≤ i →
    Ev (fun K => spec_l9Vary.l0 K st (O.map tx) (L.map tx) ((L.map tx).length : Int) (i : Int)) (if (L.drop i).all tokL = true then ((insAll O (nmsL (L.drop i))).map tx, st || starL (L.drop i), true) else ([], false, false))
  | 0, i, O, st, hi, hO => by
    refine ⟨1, fun K hK => ?_⟩
    obtain ⟨k, rfl⟩ : ∃ k, K = k + 1 := ⟨K - 1, by omega⟩
    have e : i = L.length := hi
    subst e
    dsimp only
    unfold spec_l9Vary.l0
    rw [List.length_map, if_neg (Int.lt_irrefl _), List.drop_length]
    show _ = some (if ([] : List (List UInt8)).all tokL = true then ((insAll O []).map tx, st || false, true) else ([], false, false))
    rw [if_pos (show ([] : List (List UInt8)).all tokL = true from rfl), Bool.or_false]; rfl
  | m + 1, i, O, st, hi, hO => by
    have hlt : i < L.length := by omega
    have hl := hL.2
    have hp := hL.1 _ (List.getElem_mem hlt)
    have e0 : ((L.map tx).length : Int) = (L.length : Int) := by rw [List.length_map]
    have e4 : starL (L[i] :: L.drop (i + 1)) = (decide (L[i] = [42]) || starL (L.drop (i + 1))) := rfl
    have e5 : nmsL (L[i] :: L.drop (i + 1)) = if L[i] = [42] then nmsL (L.drop (i + 1)) else (L[i].map lowB) :: nmsL (L.drop (i + 1)) := rfl
    rw [List.drop_eq_getElem_cons hlt, List.all_cons, e4, e5]
    by_cases c : L[i] = [42]
    · obtain ⟨N, hN⟩ := varyS_l L hL m (i + 1) O true (by omega) (by omega)
      refine ⟨N + 1, fun K hK => ?_⟩
      obtain ⟨k, rfl⟩ : ∃ k, K = k + 1 := ⟨K - 1, by omega⟩
      have hk := hN k (by omega)
      dsimp only at hk
      rw [e0] at hk
      have ht : tokL L[i] = true := by rw [c]; decide +kernel
      dsimp only
      unfold spec_l9Vary.l0
      rw [e0, if_pos (c_lt _ _ hlt), if_pos (Int.natCast_nonneg i), if_pos (c_lt _ _ hlt), rdT L i hlt, w_i i _ hlt (by omega), if_pos (by rw [tx_eq42]; exact c), hk, ht, Bool.true_and, if_pos c, decide_eq_true c, Bool.true_or, Bool.or_true]
    · cases ht : tokL L[i] with
      | false =>
        refine ⟨L[i].length + 60, fun K hK => ?_⟩
        obtain ⟨k, rfl⟩ : ∃ k, K = k + 1 := ⟨K - 1, by omega⟩
        dsimp only
        unfold spec_l9Vary.l0
        rw [e0, if_pos (c_lt _ _ hlt), if_pos (Int.natCast_nonneg i), if_pos (c_lt _ _ hlt), rdT L i hlt, if_neg (by rw [tx_eq42]; exact c), token_S _ hp.2 k (by omega), Option.bind_some, ht]
        rfl
      | true =>
        have hlen := tokL_len _ ht
        have hil := ins_len (L[i].map lowB) O
        have ih := varyS_l L hL m (i + 1) (ins (L[i].map lowB) O) st (by omega) (by omega)
        have hin := varyS_in (L.map tx) i (by omega) st O (by omega) (L[i].map lowB) _ ih O.length 0 (Nat.zero_add _) (fun q hq => by rw [List.take_zero] at hq; exact absurd hq List.not_mem_nil)
        obtain ⟨N, hN⟩ := hin
        refine ⟨N + L[i].length + 60, fun K hK => ?_⟩
        obtain ⟨k, rfl⟩ : ∃ k, K = k + 1 := ⟨K - 1, by omega⟩
        have hk := hN k (by omega)
        dsimp only at hk
        rw [e0] at hk
        have e7 : ((0 : Nat) : Int) = 0 := rfl
        rw [e7] at hk
        dsimp only
        unfold spec_l9Vary.l0
        rw [e0, if_pos (c_lt _ _ hlt), if_pos (Int.natCast_nonneg i), if_pos (c_lt _ _ hlt), rdT L i hlt, if_neg (by rw [tx_eq42]; exact c), token_S _ hp.2 k (by omega), Option.bind_some, ht, if_pos rfl, lowS _ (by rw [tx_size]; omega), Option.bind_some, low_tx, hk, if_neg c, decide_eq_false c, Bool.false_or, Bool.true_and]
        rfl

/-! ### The names that an answer depends on: both alike; the law -/
theorem vary_S (n : Int) (r : ByteArray) (l : List S105) (b : ByteArray) (h : Names l) (hl : l.length ≤ 100000000) (hj : (joinV (valsL nmVary l)).length ≤ 50000000) : Ev (fun K => spec_l9Vary.f K n r l b) (varyB l) := by
  refine Ev.bind (a := (tx (joinV (valsL nmVary l)), decide (((valsL nmVary l).length : Int) > 0))) ⟨l.length + 3, fun K hK => joined_S l nmVary h (by decide) hl (by omega) K (by omega)⟩ ?_
  dsimp only
  unfold varyB
  cases hq : lq [] 0 (joinV (valsL nmVary l)) with
  | none =>
    refine ⟨5 * (joinV (valsL nmVary l)).length + 20, fun K hK => ?_⟩
    have hr := plS _ hj K hK
    rw [hq] at hr
    obtain ⟨X, hX⟩ := hr
    dsimp only
    rw [hX]
    rfl
  | some L =>
    have hpo := parts_ok _ hj L hq
    have hv := varyS_l L hpo L.length 0 [] false (Nat.zero_add _) (Nat.le_refl _)
    rw [List.drop_zero] at hv
    refine Ev.bind (a := (L.map tx, true)) ⟨5 * (joinV (valsL nmVary l)).length + 20, fun K hK => ?_⟩ ?_
    · have hr := plS _ hj K hK
      rw [hq] at hr
      have hX : spec_l3List.f K (tx (joinV (valsL nmVary l))) = some (([] ++ L).map tx, true) := hr
      rw [List.nil_append] at hX
      exact hX
    · simp only [if_true]
      unfold varyL
      simp only [Bool.false_or] at hv
      exact hv
theorem joinT_len (vs : List ByteArray) (c : Nat) (h : ∀ v ∈ vs, v.data.toList.length ≤ c) : (Lib.joinTail [44, 32] (asL vs)).length ≤ (c + 2) * vs.length := by
  induction vs with
  | nil => exact Nat.zero_le _
  | cons v vs ih =>
    have h1 := h v List.mem_cons_self
    have h2 := ih (fun x hx => h x (List.mem_cons_of_mem _ hx))
    have e : (v :: vs).length = vs.length + 1 := rfl
    rw [joinT_cons, List.length_append, List.length_append, e, Nat.mul_succ]
    show 2 + _ + _ ≤ _
    omega
theorem joinV_len (vs : List ByteArray) (c : Nat) (h : ∀ v ∈ vs, v.data.toList.length ≤ c) : (joinV vs).length ≤ (c + 2) * vs.length := by
  cases vs with
  | nil => exact Nat.zero_le _
  | cons v vs =>
    have h1 := h v List.mem_cons_self
    have h2 := joinT_len vs c (fun x hx => h x (List.mem_cons_of_mem _ hx))
    rw [joinV_cons, List.length_append, List.length_cons, Nat.mul_succ]
    omega
theorem good_join (l : List S105) (h : GoodL l) (n : ByteArray) : (joinV (valsL n l)).length ≤ 20000 ∧ (valsL n l).length ≤ 40 := by
  have h1 := vals_len n l
  have h2 := h.len
  have h3 := joinV_len (valsL n l) 300 (fun v hv => by
    obtain ⟨x, hx, rfl⟩ := vals_mem n l v hv
    rw [Array.length_toList]
    exact (h.fit x hx).2)
  refine ⟨?_, by omega⟩
  have : (300 + 2) * (valsL n l).length ≤ 302 * 40 := Nat.mul_le_mul_left _ (by omega)
  omega
theorem parts_sub (T : List UInt8) (L : List (List UInt8)) (h : lq [] 0 T = some L) : ∀ p ∈ L, p.length ≤ T.length := by
  have h2 := lq_len T [] 0 L h
  have h3 : ∀ (L : List (List UInt8)), ∀ p ∈ L, p.length + 1 ≤ lenS L := by
    intro L
    induction L with
    | nil => exact fun p hp => absurd hp List.not_mem_nil
    | cons x xs ih =>
      rw [lenS_cons]
      intro p hp
      rcases List.mem_cons.mp hp with rfl | hp
      · omega
      · have := ih p hp; omega
  intro p hp
  have := h3 L p hp
  rw [List.length_nil] at h2
  omega
theorem vary_I (n : Int) (r : ByteArray) (l : List S105) (b : ByteArray) (h : GoodL l) : Ev (fun K => impl_vary.f K n r l b) (varyB l) := by
  obtain ⟨hj, hvl⟩ := good_join l h nmVary
  have hl := h.len
  refine Ev.bind (a := valsL nmVary l) ⟨50, fun K hK => valsI l nmVary h.names (by decide) (by omega) K (by omega)⟩ ?_
  refine Ev.bind (a := tx (joinV (valsL nmVary l))) ⟨0, fun K _ => join_I _ (by omega) (by omega)⟩ ?_
  unfold varyB
  cases hq : lq [] 0 (joinV (valsL nmVary l)) with
  | none =>
    refine ⟨5 * (joinV (valsL nmVary l)).length + 20, fun K hK => ?_⟩
    have hr := plI _ (by omega) K hK
    rw [hq] at hr
    obtain ⟨X, hX⟩ := hr
    obtain ⟨k, rfl⟩ : ∃ k, K = k + 1 := ⟨K - 1, by omega⟩
    dsimp only
    rw [hX, Option.bind_some, if_neg (show ¬ ((X, false).2 = true) from Bool.false_ne_true)]
    unfold impl_vary.j0
    rfl
  | some L =>
    have hpo := parts_ok _ (by omega) L hq
    have hps := parts_sub _ L hq
    refine Ev.bind (a := (L.map tx, true)) ⟨5 * (joinV (valsL nmVary l)).length + 20, fun K hK => ?_⟩ ?_
    · have hr := plI _ (by omega) K hK
      rw [hq] at hr
      have hX : impl_listOf.f K (tx (joinV (valsL nmVary l))) = some (([] ++ L).map tx, true) := hr
      rw [List.nil_append] at hX
      exact hX
    · simp only [if_true, toks_I L hpo.2, Option.bind_some]
      unfold varyL
      cases ht : L.all tokL with
      | false =>
        refine ⟨1, fun K hK => ?_⟩
        obtain ⟨k, rfl⟩ : ∃ k, K = k + 1 := ⟨K - 1, by omega⟩
        dsimp only
        unfold impl_vary.j0
        rfl
      | true =>
        refine ⟨L.length + 3, fun K hK => ?_⟩
        obtain ⟨k, rfl⟩ : ∃ k, K = k + 1 := ⟨K - 1, by omega⟩
        have hv := varyI_l L hpo (fun p hp => by have := hps p hp; omega) L.length k 0 [] false (Nat.zero_add _) (by omega) (Nat.le_refl _)
        rw [List.drop_zero, List.nil_append, Bool.false_or] at hv
        dsimp only
        unfold impl_vary.j0
        exact hv

/-! ### Responses: sizes, copies, alike -/
theorem toE_fit (l : List S97) (c : Nat) (h : szL l ≤ c) : ∀ x ∈ l.map toE, x.f0.size ≤ c ∧ x.f1.size ≤ c := by
  intro x hx
  obtain ⟨y, hy, rfl⟩ := List.mem_map.mp hx
  have := szL_mem l y hy
  show y.f0.size ≤ c ∧ y.f1.size ≤ c
  omega
theorem szResp_f (n : Int) (r : ByteArray) (l : List S97) (b : ByteArray) (hr : r.size ≤ maxLen) (hm : l.length ≤ maxLen) (hw : ∀ x ∈ l, x.f0.size ≤ maxLen ∧ x.f1.size ≤ maxLen) (hb : b.size ≤ maxLen) (a : Int) (h0 : 0 ≤ a) (h1 : a ≤ 1048576) :
    ∃ z, (∀ k, 1048576 < k → laws_szResponse.f k n r l b a = some z) ∧ (0 ≤ z → z + (r.size : Nat) + (l.length : Nat) + (szL l : Nat) + (b.size : Nat) ≤ a) := by
  have hmx : maxLen = 9223372036854775807 := by decide
  unfold laws_szResponse.f
  rw [w64 (x := a - (r.size : Int)) (by omega) (by omega)]
  by_cases c : a - (r.size : Int) < 0
  · exact ⟨-1, fun k _ => by rw [if_pos c], fun h => by omega⟩
  · obtain ⟨z, hz, hz2⟩ := szFields_f l hm hw (a - (r.size : Int)) (by omega) (by omega)
    by_cases c2 : z < 0
    · exact ⟨-1, fun k hk => by rw [if_neg c, hz k hk, Option.bind_some, if_pos c2], fun h => by omega⟩
    · have hz3 := hz2 (by omega)
      by_cases c3 : z - (b.size : Int) < 0
      · exact ⟨-1, fun k hk => by rw [if_neg c, hz k hk, Option.bind_some, if_neg c2, w64 (x := z - (b.size : Int)) (by omega) (by omega), if_pos c3], fun h => by omega⟩
      · exact ⟨z - (b.size : Int), fun k hk => by rw [if_neg c, hz k hk, Option.bind_some, if_neg c2, w64 (x := z - (b.size : Int)) (by omega) (by omega), if_neg c3], fun h => by omega⟩
theorem toResp_f (n : Int) (r : ByteArray) (l : List S97) (b : ByteArray) (hl : l.length ≤ 1048576) (k : Nat) (hk : l.length < k) : laws_toResponse.f k n r l b = some (n, r, l.map toE, b) := by
  unfold laws_toResponse.f
  rw [toFields_f l hl k hk]; rfl
theorem eqResp_f (n : Int) (r : ByteArray) (l : List S105) (b : ByteArray) (hl : l.length ≤ 1048576) (k : Nat) (hk : l.length < k) : laws_eqResponse.f k n r l b n r l b = some true := by
  unfold laws_eqResponse.f
  rw [if_pos rfl, if_pos rfl, eqFields_f l hl k hk, Option.bind_some, if_pos rfl, if_pos rfl]
theorem goodResp_L (n : Int) (r : ByteArray) (l : List S105) (b : ByteArray) (h : goodResp n r l b = true) : GoodL l := by
  unfold goodResp goodMsg at h
  simp only [Bool.and_eq_true] at h
  exact gdAll_L l h.2.2.1

/-! ### Good requests -/
def tgB (b : UInt8) : Bool := 33 ≤ b.toNat && b.toNat ≤ 126
theorem target_b (b : UInt8) : impl_isTarget_1.f (b.toNat : Int) = some (tgB b) := by
  unfold impl_isTarget_1.f tgB
  by_cases c : 33 ≤ b.toNat
  · rw [if_pos (by omega), decide_eq_true c, Bool.true_and]
    congr 1
    by_cases d : b.toNat ≤ 126
    · rw [decide_eq_true d, decide_eq_true (by omega)]
    · rw [decide_eq_false d, decide_eq_false (by omega)]
  · rw [if_neg (by omega), decide_eq_false c, Bool.false_and]
theorem targetb_I (l : List UInt8) (h : l.length < 100000000) : xBytes_impl_isTarget_1.f (tx l) = some (l.all tgB) := by
  unfold xBytes_impl_isTarget_1.f xAll_u8_impl_isTarget_1.f
  rw [tx_size, if_pos (by omega), bytes_tx, if_pos (by rw [List.length_map]; omega)]
  obtain ⟨i, e, g⟩ := idxO_mem xAll_u8_impl_isTarget_1.z (fun x => tgB (UInt8.ofNat x.toNat)) (l.map fun b => (b.toNat : Int)) (fun x hx => by
    obtain ⟨b, _, rfl⟩ := List.mem_map.mp hx
    unfold xAll_u8_impl_isTarget_1.z
    rw [target_b b, Option.bind_some, Int.toNat_natCast, UInt8.ofNat_toNat]) 0 (by decide)
  rw [e, Option.bind_some, g, List.all_map]
  have e2 : ((fun x : Int => tgB (UInt8.ofNat x.toNat)) ∘ fun b : UInt8 => (b.toNat : Int)) = tgB := by
    funext b
    show tgB (UInt8.ofNat ((b.toNat : Int)).toNat) = tgB b
    rw [Int.toNat_natCast, UInt8.ofNat_toNat]
  rw [e2]
def tgL (l : List UInt8) : Bool := (decide ((1 : Int) ≤ (l.length : Int)) && decide ((l.length : Int) ≤ 200)) && l.all tgB
theorem target_I (l : List UInt8) : impl_isTarget.f (tx l) = some (tgL l) := by
  unfold impl_isTarget.f tgL
  rw [tx_size, withinR, Option.bind_some]
  cases hw : (decide ((1 : Int) ≤ (l.length : Int)) && decide ((l.length : Int) ≤ 200)) with
  | true =>
    have h2 : l.length ≤ 200 := by
      rw [Bool.and_eq_true] at hw
      have := of_decide_eq_true hw.2
      omega
    rw [if_pos rfl, targetb_I l (by omega), Option.bind_some, Bool.true_and]
  | false => rw [if_neg (by decide), Bool.false_and]
theorem target_l : ∀ (M pre : List UInt8) (K : Nat), (pre ++ M).length ≤ 100000000 → M.length < K → spec_l4Target.l0 K (tx (pre ++ M)) (pre.length : Int) = some (M.all tgB && (decide ((1 : Int) ≤ ((pre ++ M).length : Int)) && decide (((pre ++ M).length : Int) ≤ 200)))
  | M, pre, 0, _, h => absurd h (Nat.not_lt_zero _)
  | [], pre, K + 1, _, _ => by
    unfold spec_l4Target.l0
    rw [tx_size, List.append_nil, if_neg (Int.lt_irrefl _), inR, Option.bind_some]; rfl
  | b :: M, pre, K + 1, hl, hK => by
    have hl2 : pre.length + (M.length + 1) ≤ 100000000 := by rw [List.length_append, List.length_cons] at hl; exact hl
    obtain ⟨q1, q2, q3⟩ := pb_pos pre.length M.length hl2
    have hlen := lenC pre b M
    have hbt := bt_at pre M b
    have e1 : pre ++ [b] ++ M = pre ++ b :: M := by simp
    have e2 : (((pre ++ [b]).length : Nat) : Int) = (pre.length : Int) + 1 := by simp
    have ih := target_l M (pre ++ [b]) K (by rw [e1]; exact hl) (Nat.lt_of_succ_lt_succ hK)
    rw [e1, e2] at ih
    unfold spec_l4Target.l0
    rw [tx_size, if_pos (by rw [hlen]; exact q1), if_pos q2, hbt, q3, List.all_cons]
    unfold tgB
    by_cases c : 33 ≤ b.toNat
    · rw [if_neg (by omega), decide_eq_true c, Bool.true_and]
      by_cases d : b.toNat ≤ 126
      · rw [if_neg (by omega), decide_eq_true d, Bool.true_and]
        exact ih
      · rw [if_pos (by omega), decide_eq_false d, Bool.false_and, Bool.false_and]
    · rw [if_pos (by omega), decide_eq_false c, Bool.false_and, Bool.false_and, Bool.false_and]
theorem target_S (l : List UInt8) (h : l.length ≤ 100000000) (K : Nat) (hK : l.length < K) : spec_l4Target.f K (tx l) = some (tgL l) := by
  have := target_l l [] K h hK
  unfold tgL
  rw [Bool.and_comm]
  exact this
def reqLine (m t : ByteArray) : ByteArray := ((m ++ (⟨#[32]⟩ : ByteArray)) ++ t) ++ (⟨#[32, 72, 84, 84, 80, 47, 49, 46, 49]⟩ : ByteArray)
noncomputable def goodReq (m t : ByteArray) (l : List S105) (b : ByteArray) : Bool := (tokL m.data.toList && decide (m.size ≤ 10)) && (tgL t.data.toList && goodMsg (reqLine m t) l b)
theorem tgL_len (l : List UInt8) (h : tgL l = true) : l.length ≤ 200 := by
  unfold tgL at h
  rw [Bool.and_eq_true, Bool.and_eq_true] at h
  have := of_decide_eq_true h.1.2
  omega
theorem req_fit (m t : ByteArray) (hm : m.size ≤ 10) (ht : t.size ≤ 200) : m.size + 1 ≤ 9223372036854775807 ∧ (m ++ (⟨#[32]⟩ : ByteArray)).size + t.size ≤ 9223372036854775807 ∧ ((m ++ (⟨#[32]⟩ : ByteArray)) ++ t).size + 9 ≤ 9223372036854775807 ∧ (reqLine m t).size ≤ 500000000 := by
  unfold reqLine
  simp only [ByteArray.size_append]
  have h3 : (⟨#[32, 72, 84, 84, 80, 47, 49, 46, 49]⟩ : ByteArray).size = 9 := rfl
  have h4 : (⟨#[32]⟩ : ByteArray).size = 1 := rfl
  rw [h3, h4]
  generalize m.size = x at *
  generalize t.size = y at *
  omega
theorem reqLine_I (m t : ByteArray) (hm : m.size ≤ 10) (ht : t.size ≤ 200) (l : List S105) (b : ByteArray) : impl_requestLine.f m t l b = some (reqLine m t) := by
  obtain ⟨q1, q2, q3, _⟩ := req_fit m t hm ht
  unfold impl_requestLine.f
  rw [if_pos q1, if_pos q2, if_pos q3]; rfl
theorem reqLine_S (m t : ByteArray) (hm : m.size ≤ 10) (ht : t.size ≤ 200) (l : List S105) (b : ByteArray) : spec_l4First.f m t l b = some (reqLine m t) := by
  obtain ⟨q1, q2, q3, _⟩ := req_fit m t hm ht
  unfold spec_l4First.f
  rw [if_pos q1, if_pos q2, if_pos q3]; rfl
theorem size_dec (m : ByteArray) (n : Nat) : decide ((m.size : Int) ≤ (n : Int)) = decide (m.size ≤ n) := by
  by_cases c : m.size ≤ n
  · rw [decide_eq_true c, decide_eq_true (by omega)]
  · rw [decide_eq_false c, decide_eq_false (by omega)]
theorem req_I (m t : ByteArray) (l : List S105) (b : ByteArray) : Ev (fun K => impl_GoodRequest.f K m t l b) (goodReq m t l b) := by
  have htk := token_I m.data.toList
  rw [tx_data] at htk
  have htg := target_I t.data.toList
  rw [tx_data] at htg
  have hl : impl_isRequestLine.f m t l b = some ((tokL m.data.toList && decide (m.size ≤ 10)) && tgL t.data.toList) := by
    unfold impl_isRequestLine.f
    rw [htk, Option.bind_some]
    cases tokL m.data.toList with
    | false => rfl
    | true =>
      rw [if_pos rfl, Bool.true_and]
      by_cases c : m.size ≤ 10
      · rw [if_pos (by omega), decide_eq_true c, Bool.true_and, htg]; rfl
      · rw [if_neg (by omega), decide_eq_false c, Bool.false_and]
  refine Ev.bind (a := _) ⟨0, fun K _ => hl⟩ ?_
  unfold goodReq
  rw [← Bool.and_assoc]
  cases hq : ((tokL m.data.toList && decide (m.size ≤ 10)) && tgL t.data.toList) with
  | false => exact ⟨0, fun K _ => rfl⟩
  | true =>
    simp only [if_true, Bool.true_and]
    rw [Bool.and_eq_true, Bool.and_eq_true] at hq
    have hm := of_decide_eq_true hq.1.2
    have ht := tgL_len _ hq.2
    rw [Array.length_toList] at ht
    refine Ev.bind (a := reqLine m t) ⟨0, fun K _ => reqLine_I m t hm ht l b⟩ ?_
    exact Ev.bind (message_I (reqLine m t) l b (req_fit m t hm ht).2.2.2) ⟨0, fun K _ => rfl⟩
theorem req_S (m t : ByteArray) (l : List S105) (b : ByteArray) (hm : m.size ≤ 100000000) (ht : t.size ≤ 100000000) (hb : l.length ≤ 100000000) (hf : Fits l) : Ev (fun K => spec_GoodRequest.f K m t l b) (goodReq m t l b) := by
  have hp : Ev (fun K => spec_l4Method.f K m) (tokL m.data.toList && decide (m.size ≤ 10)) := by
    refine Ev.bind (a := tokL m.data.toList) ⟨m.data.toList.length + 50, fun K hK => ?_⟩ ?_
    · have := token_S m.data.toList (by rw [Array.length_toList]; exact hm) K hK
      rw [tx_data] at this
      exact this
    · cases tokL m.data.toList with
      | false => exact ⟨0, fun K _ => rfl⟩
      | true => exact ⟨0, fun K _ => congrArg some (size_dec m 10)⟩
  refine Ev.bind hp ?_
  unfold goodReq
  cases hq : (tokL m.data.toList && decide (m.size ≤ 10)) with
  | false => exact ⟨0, fun K _ => rfl⟩
  | true =>
    simp only [if_true, Bool.true_and]
    rw [Bool.and_eq_true] at hq
    have hm := of_decide_eq_true hq.2
    refine Ev.bind (a := tgL t.data.toList) ⟨t.data.toList.length + 1, fun K hK => ?_⟩ ?_
    · have := target_S t.data.toList (by rw [Array.length_toList]; exact ht) K (by omega)
      rw [tx_data] at this
      exact this
    cases hg : tgL t.data.toList with
    | false => exact ⟨0, fun K _ => rfl⟩
    | true =>
      simp only [if_true, Bool.true_and]
      have ht := tgL_len _ hg
      rw [Array.length_toList] at ht
      exact message_S (reqLine m t) l b (req_fit m t hm ht).2.2.2 hb hf _ ⟨0, fun K hK => reqLine_S m t hm ht l b⟩
theorem goodReq_L (m t : ByteArray) (l : List S105) (b : ByteArray) (h : goodReq m t l b = true) : GoodL l := by
  unfold goodReq goodMsg at h
  simp only [Bool.and_eq_true] at h
  exact gdAll_L l h.2.2.1

/-! ### Kept answers, items, the same choice -/
noncomputable def goodKept (n : Int) (r : ByteArray) (l : List S105) (b : ByteArray) (x y : Int) : Bool := goodResp n r l b && ((decide (0 ≤ x) && decide (x ≤ y)) && decide (y ≤ 253402300799))
theorem kept_I (n : Int) (r : ByteArray) (l : List S105) (b : ByteArray) (x y : Int) : Ev (fun K => impl_GoodKept.f K n r l b x y) (goodKept n r l b x y) := by
  refine Ev.bind (resp_I n r l b) ?_
  unfold goodKept
  cases goodResp n r l b with
  | false => exact ⟨0, fun K _ => rfl⟩
  | true =>
    simp only [if_true, Bool.true_and]
    refine ⟨0, fun K _ => ?_⟩
    dsimp only
    rw [withinR, Option.bind_some]
    cases (decide (0 ≤ x) && decide (x ≤ y)) <;> rfl
theorem kept_S (n : Int) (r : ByteArray) (l : List S105) (b : ByteArray) (x y : Int) (hr : r.size ≤ 100000000) (hb : l.length ≤ 100000000) (hf : Fits l) : Ev (fun K => spec_GoodKept.f K n r l b x y) (goodKept n r l b x y) := by
  refine Ev.bind (resp_S n r l b hr hb hf) ?_
  unfold goodKept
  cases goodResp n r l b with
  | false => exact ⟨0, fun K _ => rfl⟩
  | true =>
    simp only [if_true, Bool.true_and]
    refine ⟨0, fun K _ => ?_⟩
    dsimp only
    by_cases c : 0 ≤ x
    · rw [if_pos c, decide_eq_true c, Bool.true_and]
      by_cases d : x ≤ y
      · rw [if_pos d, decide_eq_true d, Bool.true_and]
      · rw [if_neg d, decide_eq_false d, Bool.false_and]
    · rw [if_neg c, decide_eq_false c, Bool.false_and, Bool.false_and]
theorem goodKept_L (n : Int) (r : ByteArray) (l : List S105) (b : ByteArray) (x y : Int) (h : goodKept n r l b x y = true) : GoodL l := by
  unfold goodKept goodResp goodMsg at h
  simp only [Bool.and_eq_true] at h
  exact gdAll_L l h.1.2.2.1
noncomputable def itemB (key : ByteArray) (asks : List S105) (n : Int) (r : ByteArray) (l : List S105) (b : ByteArray) (x y : Int) : Bool := decide (key.size ≤ 200) && (gdAll asks && (goodKept n r l b x y && ((varyB l).2.2 && !(varyB l).2.1)))
theorem item_I (key : ByteArray) (asks : List S105) (n : Int) (r : ByteArray) (l : List S105) (b : ByteArray) (x y : Int) : Ev (fun K => impl_isItem.f K key asks n r l b x y) (itemB key asks n r l b x y) := by
  unfold itemB
  by_cases c : key.size ≤ 200
  · have hc : ¬ ((key.size : Int) > 200) := by omega
    rw [decide_eq_true c, Bool.true_and]
    unfold impl_isItem.f
    simp only [if_neg hc]
    refine Ev.bind (a := gdAll asks) ⟨400, fun K hK => areF_I asks K hK⟩ ?_
    cases gdAll asks with
    | false => exact ⟨0, fun K _ => rfl⟩
    | true =>
      simp only [if_true, Bool.true_and]
      refine Ev.bind (kept_I n r l b x y) ?_
      cases hg : goodKept n r l b x y with
      | false => exact ⟨0, fun K _ => rfl⟩
      | true =>
        simp only [if_true, Bool.true_and]
        refine Ev.bind (vary_I n r l b (goodKept_L n r l b x y hg)) ⟨0, fun K _ => ?_⟩
        dsimp only
        cases (varyB l).2.2 <;> rfl
  · have hc : (key.size : Int) > 200 := by omega
    rw [decide_eq_false c, Bool.false_and]
    unfold impl_isItem.f
    exact ⟨0, fun K _ => by simp only [if_pos hc]⟩
theorem item_S (key : ByteArray) (asks : List S105) (n : Int) (r : ByteArray) (l : List S105) (b : ByteArray) (x y : Int) (hr : r.size ≤ 100000000) (hb : l.length ≤ 100000000) (hf : Fits l) (hN : Names l) (hj : (joinV (valsL nmVary l)).length ≤ 50000000) (hba : asks.length ≤ 100000000) (hfa : Fits asks) : Ev (fun K => spec_l9Item.f K key asks n r l b x y) (itemB key asks n r l b x y) := by
  refine Ev.bind (vary_S n r l b hN hb hj) ?_
  unfold itemB
  by_cases c : key.size ≤ 200
  · have hc : (key.size : Int) ≤ 200 := by omega
    rw [decide_eq_true c, Bool.true_and]
    simp only [if_pos hc]
    refine Ev.bind (a := gdAll asks) ⟨400000000, fun K hK => areF_S asks hba hfa K hK⟩ ?_
    cases gdAll asks with
    | false => exact ⟨0, fun K _ => rfl⟩
    | true =>
      simp only [if_true, Bool.true_and]
      refine Ev.bind (kept_S n r l b x y hr hb hf) ?_
      cases hg : goodKept n r l b x y with
      | false => exact ⟨0, fun K _ => rfl⟩
      | true =>
        simp only [if_true, Bool.true_and]
        refine ⟨0, fun K _ => ?_⟩
        dsimp only
        cases (varyB l).2.2 <;> rfl
  · have hc : ¬ (key.size : Int) ≤ 200 := by omega
    rw [decide_eq_false c, Bool.false_and]
    exact ⟨0, fun K _ => by simp only [if_neg hc]⟩
noncomputable def sameN (l1 l2 : List S105) (n : ByteArray) : Bool := (decide ((valsL n l1).length = 0) == decide ((valsL n l2).length = 0)) && decide (joinV (valsL n l1) = joinV (valsL n l2))
theorem len0 (vs : List ByteArray) : ((vs.length : Int) == 0) = decide (vs.length = 0) := by
  rw [Bool.eq_iff_iff, beq_iff_eq, decide_eq_true_iff]; omega
theorem same_I (l1 l2 : List S105) (h1 : GoodL l1) (h2 : GoodL l2) (n : ByteArray) (hn : n.size < 100000000) (K : Nat) (hK : 50 ≤ K) : impl_Item_matches_1.f K l1 l2 n = some (sameN l1 l2 n) := by
  have g1 := h1.len
  have g2 := h2.len
  have j1 := good_join l1 h1 n
  have j2 := good_join l2 h2 n
  unfold impl_Item_matches_1.f sameN
  rw [valsI l1 n h1.names hn (by omega) K (by omega), Option.bind_some, valsI l2 n h2.names hn (by omega) K (by omega), Option.bind_some, len0, len0]
  cases (decide ((valsL n l1).length = 0) == decide ((valsL n l2).length = 0)) with
  | false => rfl
  | true =>
    rw [if_pos rfl, join_I _ (by omega) (by omega), Option.bind_some, join_I _ (by omega) (by omega), Option.bind_some, beq_tx, Bool.true_and]
theorem sameAll_I (l1 l2 : List S105) (h1 : GoodL l1) (h2 : GoodL l2) (ns : List ByteArray) (hs : ∀ n ∈ ns, n.size < 100000000) (hl : ns.length ≤ 100000000) (K : Nat) (hK : 50 ≤ K) : xSame.f K l1 l2 ns = some (ns.all (sameN l1 l2)) := by
  unfold xSame.f
  rw [if_pos (by omega)]
  obtain ⟨i, e, g⟩ := idxO_mem (xSame.z K l1 l2) (sameN l1 l2) ns (fun s h => by
    unfold xSame.z
    rw [same_I l1 l2 h1 h2 s (hs s h) K hK]; rfl) 0 (by decide)
  rw [e, Option.bind_some, g]
theorem sameAll_S (l1 l2 : List S105) (h1 : GoodL l1) (h2 : GoodL l2) (ns : List ByteArray) (hs : ∀ n ∈ ns, n.size < 100000000) (hl : ns.length ≤ 100000000) : ∀ (m K i : Nat), i + m = ns.length → m + 50 < K → spec_l9Same.l0 K l1 l2 ns (ns.length : Int) (i : Int) = some ((ns.drop i).all (sameN l1 l2))
  | m, 0, i, _, hK => absurd hK (Nat.not_lt_zero _)
  | 0, K + 1, i, hi, hK => by
    have e : i = ns.length := hi
    subst e
    unfold spec_l9Same.l0
    rw [if_neg (Int.lt_irrefl _), List.drop_length]; rfl
  | m + 1, K + 1, i, hi, hK => by
    have hlt : i < ns.length := by omega
    have g1 := h1.len
    have g2 := h2.len
    have hn := hs _ (List.getElem_mem hlt)
    have j1 := good_join l1 h1 ns[i]
    have j2 := good_join l2 h2 ns[i]
    have e1 := joined_S l1 ns[i] h1.names hn (by omega) (by omega) K (by omega)
    have e2 := joined_S l2 ns[i] h2.names hn (by omega) (by omega) K (by omega)
    have ih := sameAll_S l1 l2 h1 h2 ns hs hl m K (i + 1) (by omega) (by omega)
    unfold spec_l9Same.l0
    rw [if_pos (c_lt _ _ hlt), if_pos (Int.natCast_nonneg i), if_pos (c_lt _ _ hlt), rdS_nat ns i hlt, e1, Option.bind_some, e2, Option.bind_some, w_i i _ hlt (by omega), ih, List.drop_eq_getElem_cons hlt, List.all_cons]
    dsimp only
    have q : ∀ vs : List ByteArray, decide ((vs.length : Int) > 0) = !decide (vs.length = 0) := fun vs => by
      by_cases c : vs.length = 0
      · rw [decide_eq_true c, decide_eq_false (by omega)]; rfl
      · rw [decide_eq_false c, decide_eq_true (by omega)]; rfl
    unfold sameN
    rw [q, q, tx_toList, tx_toList]
    by_cases d : joinV (valsL ns[i] l1) = joinV (valsL ns[i] l2)
    · rw [if_pos d, decide_eq_true d]
      cases decide ((valsL ns[i] l1).length = 0) <;> cases decide ((valsL ns[i] l2).length = 0) <;> rfl
    · rw [if_neg d, decide_eq_false d]
      cases decide ((valsL ns[i] l1).length = 0) <;> cases decide ((valsL ns[i] l2).length = 0) <;> rfl
theorem lenS_count : ∀ L : List (List UInt8), L.length ≤ lenS L
  | [] => Nat.zero_le _
  | x :: xs => by
    have := lenS_count xs
    rw [lenS_cons, List.length_cons]; omega
theorem insAll_len : ∀ (l o : List (List UInt8)), (insAll o l).length ≤ o.length + l.length
  | [], o => Nat.le_refl _
  | x :: xs, o => by
    have h1 := insAll_len xs (ins x o)
    have h2 := ins_len x o
    have e : insAll o (x :: xs) = insAll (ins x o) xs := rfl
    rw [e, List.length_cons]; omega
theorem nms_mem (q : List UInt8) : ∀ L : List (List UInt8), q ∈ nmsL L → ∃ p ∈ L, q = p.map lowB
  | [], h => absurd h List.not_mem_nil
  | p :: ps, h => by
    unfold nmsL at h
    split at h
    · obtain ⟨y, h1, h2⟩ := nms_mem q ps h
      exact ⟨y, List.mem_cons_of_mem _ h1, h2⟩
    · rcases List.mem_cons.mp h with h | h
      · exact ⟨p, List.mem_cons_self, h⟩
      · obtain ⟨y, h1, h2⟩ := nms_mem q ps h
        exact ⟨y, List.mem_cons_of_mem _ h1, h2⟩
theorem varyB_few (l : List S105) (hL : GoodL l) : (varyB l).1.length ≤ 100000 ∧ ∀ n ∈ (varyB l).1, n.size ≤ 60 := by
  unfold varyB
  cases hq : lq [] 0 (joinV (valsL nmVary l)) with
  | none => exact ⟨Nat.zero_le _, fun n hn => absurd hn List.not_mem_nil⟩
  | some L =>
    dsimp only
    unfold varyL
    by_cases ht : L.all tokL = true
    · rw [if_pos ht]
      have h1 := lq_len _ [] 0 L hq
      have h2 := (good_join l hL nmVary).1
      have h4 := lenS_count L
      have h5 := nms_len L
      have h7 := insAll_len (nmsL L) []
      rw [List.length_nil] at h1 h7
      refine ⟨?_, fun n hn => ?_⟩
      · show ((insAll [] (nmsL L)).map tx).length ≤ _
        rw [List.length_map]; omega
      · obtain ⟨q, hq2, rfl⟩ := List.mem_map.mp hn
        have hm := (insAll_mem q (nmsL L) []).mp hq2
        rcases hm with hm | hm
        · exact absurd hm List.not_mem_nil
        · obtain ⟨p, hp, rfl⟩ := nms_mem q L hm
          rw [tx_size, List.length_map]
          exact tokL_len p (List.all_eq_true.mp ht p hp)
    · rw [if_neg ht]
      exact ⟨Nat.zero_le _, fun n hn => absurd hn List.not_mem_nil⟩
noncomputable def matB (asks l fs : List S105) : Bool := (varyB l).1.all (sameN asks fs)
theorem mat_I (key : ByteArray) (asks : List S105) (n : Int) (r : ByteArray) (l : List S105) (b : ByteArray) (x y : Int) (fs : List S105) (ha : GoodL asks) (hl : GoodL l) (hf : GoodL fs) : Ev (fun K => impl_Item_matches.f K key asks n r l b x y fs) (matB asks l fs) := by
  obtain ⟨h1, h2⟩ := varyB_few l hl
  exact Ev.bind (vary_I n r l b hl) ⟨50, fun K hK => sameAll_I asks fs ha hf _ (fun n hn => by have := h2 n hn; omega) (by omega) K hK⟩
theorem mat_S (key : ByteArray) (asks : List S105) (n : Int) (r : ByteArray) (l : List S105) (b : ByteArray) (x y : Int) (fs : List S105) (ha : GoodL asks) (hl : GoodL l) (hf : GoodL fs) : Ev (fun K => spec_l9Matches.f K key asks n r l b x y fs) (matB asks l fs) := by
  obtain ⟨h1, h2⟩ := varyB_few l hl
  have hlen := hl.len
  have hj := (good_join l hl nmVary).1
  refine Ev.bind (vary_S n r l b hl.names (by omega) (by omega)) ?_
  refine Ev.bind (a := matB asks l fs) ⟨(varyB l).1.length + 60, fun K hK => ?_⟩ ⟨0, fun K _ => rfl⟩
  have := sameAll_S asks fs ha hf (varyB l).1 (fun n hn => by have := h2 n hn; omega) (by omega) (varyB l).1.length K 0 (Nat.zero_add _) (by omega)
  exact this
theorem itemB_L (key : ByteArray) (asks : List S105) (n : Int) (r : ByteArray) (l : List S105) (b : ByteArray) (x y : Int) (h : itemB key asks n r l b x y = true) : GoodL asks ∧ GoodL l := by
  unfold itemB at h
  simp only [Bool.and_eq_true] at h
  exact ⟨gdAll_L asks h.2.1, goodKept_L n r l b x y h.2.2.1⟩
def sumV : List ByteArray → Nat
  | [] => 0
  | v :: vs => v.size + sumV vs
theorem joinT_sum : ∀ vs : List ByteArray, (Lib.joinTail [44, 32] (asL vs)).length ≤ sumV vs + 2 * vs.length
  | [] => Nat.zero_le _
  | v :: vs => by
    have ih := joinT_sum vs
    have e : (v :: vs).length = vs.length + 1 := rfl
    have e2 : sumV (v :: vs) = v.size + sumV vs := rfl
    have e3 : v.data.toList.length = v.size := Array.length_toList
    rw [joinT_cons, List.length_append, List.length_append, e, e2, e3]
    show 2 + _ + _ ≤ _
    omega
theorem joinV_sum : ∀ vs : List ByteArray, (joinV vs).length ≤ sumV vs + 2 * vs.length
  | [] => Nat.zero_le _
  | v :: vs => by
    have ih := joinT_sum vs
    have e : (v :: vs).length = vs.length + 1 := rfl
    have e2 : sumV (v :: vs) = v.size + sumV vs := rfl
    have e3 : v.data.toList.length = v.size := Array.length_toList
    rw [joinV_cons, List.length_append, e, e2, e3]
    omega
theorem vals_sum (n : ByteArray) : ∀ l : List S97, sumV (valsL n (l.map toE)) ≤ szL l
  | [] => Nat.zero_le _
  | x :: xs => by
    have ih := vals_sum n xs
    have e : szL (x :: xs) = x.f0.size + x.f1.size + szL xs := rfl
    have e2 : valsL n ((x :: xs).map toE) = if eqn x.f0 n then x.f1 :: valsL n (xs.map toE) else valsL n (xs.map toE) := rfl
    rw [e, e2]
    split
    · show x.f1.size + _ ≤ _
      omega
    · omega
theorem sz_join (l : List S97) (c : Nat) (h : szL l ≤ c) (h2 : l.length ≤ c) (n : ByteArray) : (joinV (valsL n (l.map toE))).length ≤ 3 * c := by
  have h3 := joinV_sum (valsL n (l.map toE))
  have h4 := vals_sum n l
  have h5 := vals_len n (l.map toE)
  rw [List.length_map] at h5
  omega
theorem toE_Fits (l : List S97) (h : szL l ≤ 1048576) : Fits (l.map toE) ∧ Names (l.map toE) := by
  have hfit := toE_fit l 1048576 h
  refine ⟨fun x hx => ?_, fun x hx => ?_⟩
  · have := hfit x hx
    rw [Array.length_toList, Array.length_toList]
    exact ⟨Nat.le_trans this.1 (by decide), Nat.le_trans this.2 (by decide)⟩
  · have := (hfit x hx).1
    omega

/-! ### Requests: sizes, copies, alike -/
theorem szReq_f (m t : ByteArray) (l : List S97) (b : ByteArray) (hm0 : m.size ≤ maxLen) (ht : t.size ≤ maxLen) (hm : l.length ≤ maxLen) (hw : ∀ x ∈ l, x.f0.size ≤ maxLen ∧ x.f1.size ≤ maxLen) (hb : b.size ≤ maxLen) (a : Int) (h0 : 0 ≤ a) (h1 : a ≤ 1048576) :
    ∃ z, (∀ k, 1048576 < k → laws_szRequest.f k m t l b a = some z) ∧ (0 ≤ z → z + (m.size : Nat) + (t.size : Nat) + (l.length : Nat) + (szL l : Nat) + (b.size : Nat) ≤ a) := by
  have hmx : maxLen = 9223372036854775807 := by decide
  unfold laws_szRequest.f
  rw [w64 (x := a - (m.size : Int)) (by omega) (by omega)]
  by_cases c : a - (m.size : Int) < 0
  · exact ⟨-1, fun k _ => by rw [if_pos c], fun h => by omega⟩
  rw [w64 (x := a - (m.size : Int) - (t.size : Int)) (by omega) (by omega)]
  by_cases c1 : a - (m.size : Int) - (t.size : Int) < 0
  · exact ⟨-1, fun k _ => by rw [if_neg c, if_pos c1], fun h => by omega⟩
  obtain ⟨z, hz, hz2⟩ := szFields_f l hm hw (a - (m.size : Int) - (t.size : Int)) (by omega) (by omega)
  by_cases c2 : z < 0
  · exact ⟨-1, fun k hk => by rw [if_neg c, if_neg c1, hz k hk, Option.bind_some, if_pos c2], fun h => by omega⟩
  · have hz3 := hz2 (by omega)
    by_cases c3 : z - (b.size : Int) < 0
    · exact ⟨-1, fun k hk => by rw [if_neg c, if_neg c1, hz k hk, Option.bind_some, if_neg c2, w64 (x := z - (b.size : Int)) (by omega) (by omega), if_pos c3], fun h => by omega⟩
    · exact ⟨z - (b.size : Int), fun k hk => by rw [if_neg c, if_neg c1, hz k hk, Option.bind_some, if_neg c2, w64 (x := z - (b.size : Int)) (by omega) (by omega), if_neg c3], fun h => by omega⟩
theorem toReq_f (m t : ByteArray) (l : List S97) (b : ByteArray) (hl : l.length ≤ 1048576) (k : Nat) (hk : l.length < k) : laws_toRequest.f k m t l b = some (m, t, l.map toE, b) := by
  unfold laws_toRequest.f
  rw [toFields_f l hl k hk]; rfl
theorem eqReq_f (m t : ByteArray) (l : List S105) (b : ByteArray) (hl : l.length ≤ 1048576) (k : Nat) (hk : l.length < k) : laws_eqRequest.f k m t l b m t l b = some true := by
  unfold laws_eqRequest.f
  rw [if_pos rfl, if_pos rfl, eqFields_f l hl k hk, Option.bind_some, if_pos rfl, if_pos rfl]

/-! ### Items: sizes, copies, alike -/
theorem szItem_f (key : ByteArray) (asks : List S97) (n : Int) (r : ByteArray) (l : List S97) (b : ByteArray) (x y : Int) (hk0 : key.size ≤ maxLen) (ha : asks.length ≤ maxLen) (haw : ∀ x ∈ asks, x.f0.size ≤ maxLen ∧ x.f1.size ≤ maxLen) (hr : r.size ≤ maxLen) (hm : l.length ≤ maxLen) (hw : ∀ x ∈ l, x.f0.size ≤ maxLen ∧ x.f1.size ≤ maxLen) (hb : b.size ≤ maxLen) (a : Int) (h0 : 0 ≤ a) (h1 : a ≤ 1048576) :
    ∃ z, (∀ k, 1048576 < k → laws_szItem.f k key asks n r l b x y a = some z) ∧ (0 ≤ z → z + (key.size : Nat) + (asks.length : Nat) + (szL asks : Nat) + (r.size : Nat) + (l.length : Nat) + (szL l : Nat) + (b.size : Nat) ≤ a) := by
  have hmx : maxLen = 9223372036854775807 := by decide
  unfold laws_szItem.f laws_szKept.f
  rw [w64 (x := a - (key.size : Int)) (by omega) (by omega)]
  by_cases c : a - (key.size : Int) < 0
  · exact ⟨-1, fun k _ => by rw [if_pos c], fun h => by omega⟩
  obtain ⟨z, hz, hz2⟩ := szFields_f asks ha haw (a - (key.size : Int)) (by omega) (by omega)
  by_cases c2 : z < 0
  · exact ⟨-1, fun k hk => by rw [if_neg c, hz k hk, Option.bind_some, if_pos c2], fun h => by omega⟩
  have hz3 := hz2 (by omega)
  obtain ⟨u, hu, hu2⟩ := szResp_f n r l b hr hm hw hb z (by omega) (by omega)
  by_cases c3 : u < 0
  · refine ⟨-1, fun k hk => ?_, fun h => by omega⟩
    rw [if_neg c, hz k hk, Option.bind_some, if_neg c2, hu k hk, Option.bind_some, if_pos c3]; rfl
  · have hu3 := hu2 (by omega)
    refine ⟨u, fun k hk => ?_, fun h => by omega⟩
    rw [if_neg c, hz k hk, Option.bind_some, if_neg c2, hu k hk, Option.bind_some, if_neg c3, Option.bind_some, if_neg c3]
theorem toItem_f (key : ByteArray) (asks : List S97) (n : Int) (r : ByteArray) (l : List S97) (b : ByteArray) (x y : Int) (ha : asks.length ≤ 1048576) (hl : l.length ≤ 1048576) (k : Nat) (hk : 1048576 < k) : laws_toItem.f k key asks n r l b x y = some (key, asks.map toE, n, r, l.map toE, b, x, y) := by
  unfold laws_toItem.f laws_toKept.f
  rw [toFields_f asks ha k (by omega), Option.bind_some, toResp_f n r l b hl k (by omega)]; rfl
theorem eqItem_f (key : ByteArray) (asks : List S105) (n : Int) (r : ByteArray) (l : List S105) (b : ByteArray) (x y : Int) (ha : asks.length ≤ 1048576) (hl : l.length ≤ 1048576) (k : Nat) (hk : 1048576 < k) : laws_eqItem.f k key asks n r l b x y key asks n r l b x y = some true := by
  unfold laws_eqItem.f laws_eqKept.f
  rw [if_pos rfl, eqFields_f asks ha k (by omega), Option.bind_some, if_pos rfl, eqResp_f n r l b hl k (by omega), Option.bind_some, if_pos rfl, if_pos rfl, if_pos rfl, Option.bind_some, if_pos rfl]

/-! ### Items in a row: handed over, sized, alike -/
theorem rdI_nat (l : List S71) (n : Nat) (h : n < l.length) : rd_T71 l (n : Int) = l[n] := by
  unfold rd_T71; simp [List.getD_eq_getElem?_getD, h]
theorem rdJ_nat (l : List S64) (n : Nat) (h : n < l.length) : rd_T64 l (n : Int) = l[n] := by
  unfold rd_T64; simp [List.getD_eq_getElem?_getD, h]
def toI (p : S64) : S71 := ⟨p.f0, p.f1.map toE, ⟨⟨p.f2.f0.f0, p.f2.f0.f1, p.f2.f0.f2.map toE, p.f2.f0.f3⟩, p.f2.f1, p.f2.f2⟩⟩
def szI (x : S64) : Nat := x.f0.size + x.f1.length + szL x.f1 + x.f2.f0.f1.size + x.f2.f0.f2.length + szL x.f2.f0.f2 + x.f2.f0.f3.size
def szIs : List S64 → Nat
  | [] => 0
  | x :: xs => szI x + szIs xs
def OkI (x : S64) : Prop := x.f0.size ≤ maxLen ∧ x.f1.length ≤ maxLen ∧ (∀ y ∈ x.f1, y.f0.size ≤ maxLen ∧ y.f1.size ≤ maxLen) ∧ (Lit.int .i64 x.f2.f0.f0).wf = true ∧ x.f2.f0.f1.size ≤ maxLen ∧ x.f2.f0.f2.length ≤ maxLen ∧ (∀ y ∈ x.f2.f0.f2, y.f0.size ≤ maxLen ∧ y.f1.size ≤ maxLen) ∧ x.f2.f0.f3.size ≤ maxLen ∧ (Lit.int .i64 x.f2.f1).wf = true ∧ (Lit.int .i64 x.f2.f2).wf = true
theorem szI_f (x : S64) (h : OkI x) (a : Int) (h0 : 0 ≤ a) (h1 : a ≤ 1048576) : ∃ z, (∀ k, 1048576 < k → laws_szItem.f k x.f0 x.f1 x.f2.f0.f0 x.f2.f0.f1 x.f2.f0.f2 x.f2.f0.f3 x.f2.f1 x.f2.f2 a = some z) ∧ (0 ≤ z → z + (szI x : Nat) ≤ a) := by
  obtain ⟨g0, g1, g2, _, g4, g5, g6, g7, _, _⟩ := h
  obtain ⟨z, hz, hz2⟩ := szItem_f x.f0 x.f1 x.f2.f0.f0 x.f2.f0.f1 x.f2.f0.f2 x.f2.f0.f3 x.f2.f1 x.f2.f2 g0 g1 g2 g4 g5 g6 g7 a h0 h1
  exact ⟨z, hz, fun h => by have := hz2 h; unfold szI; omega⟩
theorem szItems_loop (l : List S64) (hb : l.length < 4611686018427387904) (hw : ∀ x ∈ l, OkI x) (d : Nat) : ∀ (n : Nat) (a : Int), n + d = l.length → 0 ≤ a → a ≤ 1048576 →
    ∃ r, (∀ k, 1048576 + d < k → laws_szItemS.l0 k l a (n : Int) = some r) ∧ (0 ≤ r → r + (szIs (l.drop n) : Nat) ≤ a) := by
  induction d with
  | zero =>
    intro n a hn h0 h1
    have c : ¬ (n : Int) < (l.length : Int) := by omega
    refine ⟨a, fun k hk => ?_, fun _ => by rw [List.drop_of_length_le (by omega)]; show a + ((0 : Nat) : Int) ≤ a; omega⟩
    obtain ⟨k, rfl⟩ : ∃ m, k = m + 1 := ⟨k - 1, by omega⟩
    simp only [laws_szItemS.l0]; rw [if_neg c]
  | succ d ih =>
    intro n a hn h0 h1
    have hlt : n < l.length := by omega
    have c1 : (n : Int) < (l.length : Int) := by omega
    have c0 : (0 : Int) ≤ (n : Int) := by omega
    have hsz : szIs (l.drop n) = szI l[n] + szIs (l.drop (n + 1)) := by rw [List.drop_eq_getElem_cons hlt]; rfl
    obtain ⟨z, hz, hz2⟩ := szI_f l[n] (hw _ (List.getElem_mem hlt)) a h0 h1
    by_cases e : z < 0
    · refine ⟨-1, fun k hk => ?_, fun h => by omega⟩
      obtain ⟨k, rfl⟩ : ∃ m, k = m + 1 := ⟨k - 1, by omega⟩
      simp only [laws_szItemS.l0]
      rw [if_pos c1, if_pos c0, rdJ_nat l n hlt, hz k (by omega), Option.bind_some, if_pos e]
    · have hz3 := hz2 (by omega)
      obtain ⟨r, hr, hr2⟩ := ih (n + 1) z (by omega) (by omega) (by omega)
      refine ⟨r, fun k hk => ?_, fun h => by have := hr2 h; rw [hsz]; omega⟩
      obtain ⟨k, rfl⟩ : ∃ m, k = m + 1 := ⟨k - 1, by omega⟩
      simp only [laws_szItemS.l0]
      rw [if_pos c1, if_pos c0, rdJ_nat l n hlt, hz k (by omega), Option.bind_some, if_neg e, w64 (x := (n : Int) + 1) (by omega) (by omega), succ_cast]
      exact hr k (by omega)
theorem szItems_f (l : List S64) (hm : l.length ≤ maxLen) (hw : ∀ x ∈ l, OkI x) : ∃ r, (∀ k, 3000000 < k → laws_szItemS.f k l 1048576 = some r) ∧ (0 ≤ r → r + (l.length : Nat) + (szIs l : Nat) ≤ 1048576) := by
  have hmx : maxLen = 9223372036854775807 := by decide
  unfold laws_szItemS.f
  rw [w64 (x := 1048576 - (l.length : Int)) (by omega) (by omega)]
  by_cases c : 1048576 - (l.length : Int) < 0
  · exact ⟨-1, fun k _ => by rw [if_pos c], fun h => by omega⟩
  · obtain ⟨r, hr, hr2⟩ := szItems_loop l (by omega) hw l.length 0 (1048576 - (l.length : Int)) (by omega) (by omega) (by omega)
    rw [List.drop_zero] at hr2
    exact ⟨r, fun k hk => by rw [if_neg c]; exact hr k (by omega), fun h => by have := hr2 h; omega⟩
theorem szIs_mem : ∀ (l : List S64), ∀ x ∈ l, szI x ≤ szIs l
  | [], x, h => absurd h List.not_mem_nil
  | y :: ys, x, h => by
    unfold szIs
    rcases List.mem_cons.mp h with rfl | h
    · omega
    · have := szIs_mem ys x h; omega
theorem toItems_loop (xs : List S64) (hb : xs.length < 4611686018427387904) (hs : ∀ x ∈ xs, szI x ≤ 1048576) (d : Nat) : ∀ (k n : Nat) (ys : List S71), ys.length = xs.length → n + d = xs.length → 1048576 + d < k →
    laws_toItemS.l0 k xs ys (n : Int) = some (ys.take n ++ (xs.drop n).map toI) := by
  induction d with
  | zero =>
    intro k n ys hl hn hk
    obtain ⟨k, rfl⟩ : ∃ m, k = m + 1 := ⟨k - 1, by omega⟩
    have c : ¬ (n : Int) < (xs.length : Int) := by omega
    simp only [laws_toItemS.l0]; rw [if_neg c, List.take_of_length_le (by omega), List.drop_of_length_le (by omega), List.map_nil, List.append_nil]
  | succ d ih =>
    intro k n ys hl hn hk
    obtain ⟨k, rfl⟩ : ∃ m, k = m + 1 := ⟨k - 1, by omega⟩
    have h1 : n < xs.length := by omega
    have h2 : n < ys.length := by omega
    have c1 : (n : Int) < (xs.length : Int) := by omega
    have c2 : (n : Int) < (ys.length : Int) := by omega
    have c0 : (0 : Int) ≤ (n : Int) := by omega
    have hx := hs _ (List.getElem_mem h1)
    have hf := toItem_f xs[n].f0 xs[n].f1 xs[n].f2.f0.f0 xs[n].f2.f0.f1 xs[n].f2.f0.f2 xs[n].f2.f0.f3 xs[n].f2.f1 xs[n].f2.f2 (by unfold szI at hx; omega) (by unfold szI at hx; omega) k (by omega)
    simp only [laws_toItemS.l0]
    rw [if_pos c1, if_pos c0, rdJ_nat xs n h1, hf, Option.bind_some, if_pos c2, w64 (x := (n : Int) + 1) (by omega) (by omega), succ_cast, Int.toNat_natCast]
    show laws_toItemS.l0 k xs (ys.set n (toI xs[n])) ((n + 1 : Nat) : Int) = _
    rw [ih k (n + 1) _ (by rw [List.length_set]; exact hl) (by omega) (by omega), List.drop_eq_getElem_cons h1, List.map_cons]
    congr 1
    rw [List.take_add_one, List.take_set_of_le (by omega)]
    simp [h2]
theorem toItems_f (xs : List S64) (hb : xs.length ≤ 1048576) (hs : ∀ x ∈ xs, szI x ≤ 1048576) (k : Nat) (hk : 3000000 < k) : laws_toItemS.f k xs = some (xs.map toI) := by
  unfold laws_toItemS.f
  rw [if_pos (by omega), if_pos (by omega)]
  have h := toItems_loop xs (by omega) hs xs.length k 0 (List.replicate ((xs.length : Int) : Int).toNat z71) (by simp) (by omega) (by omega)
  simpa using h
theorem eqItems_loop (xs : List S71) (hb : xs.length < 4611686018427387904) (hs : ∀ x ∈ xs, x.f1.length ≤ 1048576 ∧ x.f2.f0.f2.length ≤ 1048576) (d : Nat) : ∀ (k n : Nat), n + d = xs.length → 1048576 + d < k →
    laws_eqItemS.l0 k xs xs (n : Int) = some true := by
  induction d with
  | zero =>
    intro k n hn hk
    obtain ⟨k, rfl⟩ : ∃ m, k = m + 1 := ⟨k - 1, by omega⟩
    have c : ¬ (n : Int) < (xs.length : Int) := by omega
    simp only [laws_eqItemS.l0]; rw [if_neg c]
  | succ d ih =>
    intro k n hn hk
    obtain ⟨k, rfl⟩ : ∃ m, k = m + 1 := ⟨k - 1, by omega⟩
    have hlt : n < xs.length := by omega
    have c1 : (n : Int) < (xs.length : Int) := by omega
    have c0 : (0 : Int) ≤ (n : Int) := by omega
    have hx := hs _ (List.getElem_mem hlt)
    simp only [laws_eqItemS.l0]
    rw [if_pos c1, if_pos c0, if_pos c1, rdI_nat xs n hlt, eqItem_f _ _ _ _ _ _ _ _ hx.1 hx.2 k (by omega), Option.bind_some, if_pos rfl, w64 (by omega) (by omega), succ_cast]
    exact ih k (n + 1) (by omega) (by omega)
theorem eqItems_f (xs : List S71) (hb : xs.length ≤ 1048576) (hs : ∀ x ∈ xs, x.f1.length ≤ 1048576 ∧ x.f2.f0.f2.length ≤ 1048576) (k : Nat) (hk : 3000000 < k) : laws_eqItemS.f k xs xs = some true := by
  unfold laws_eqItemS.f
  rw [if_pos rfl]
  exact eqItems_loop xs (by omega) hs xs.length k 0 (by omega) (by omega)

/-! ### All items good; the one that came last -/
noncomputable def itB (x : S71) : Bool := itemB x.f0 x.f1 x.f2.f0.f0 x.f2.f0.f1 x.f2.f0.f2 x.f2.f0.f3 x.f2.f1 x.f2.f2
noncomputable def itsB (l : List S71) : Bool := decide (l.length ≤ 30) && l.all itB
theorem ev_all {α β : Type} (g : α → Nat → Option β) (r : α → β) : ∀ l : List α, (∀ x ∈ l, Ev (g x) (r x)) → ∃ N, ∀ K, N ≤ K → ∀ x ∈ l, g x K = some (r x)
  | [], _ => ⟨0, fun _ _ x hx => absurd hx List.not_mem_nil⟩
  | x :: xs, h => by
    obtain ⟨N1, h1⟩ := h x List.mem_cons_self
    obtain ⟨N2, h2⟩ := ev_all g r xs (fun y hy => h y (List.mem_cons_of_mem _ hy))
    refine ⟨N1 + N2, fun K hK y hy => ?_⟩
    rcases List.mem_cons.mp hy with rfl | hy
    · exact h1 K (by omega)
    · exact h2 K (by omega) y hy
theorem items_I (l : List S71) : Ev (fun K => impl_areItems.f K l) (itsB l) := by
  unfold itsB impl_areItems.f
  by_cases c : l.length ≤ 30
  · rw [decide_eq_true c, Bool.true_and]
    obtain ⟨N, hN⟩ := ev_all (fun x K => impl_isItem.f K x.f0 x.f1 x.f2.f0.f0 x.f2.f0.f1 x.f2.f0.f2 x.f2.f0.f3 x.f2.f1 x.f2.f2) itB l (fun x _ => item_I x.f0 x.f1 x.f2.f0.f0 x.f2.f0.f1 x.f2.f0.f2 x.f2.f0.f3 x.f2.f1 x.f2.f2)
    refine ⟨N, fun K hK => ?_⟩
    dsimp only
    unfold xAll_items.f
    rw [if_pos (by omega), if_pos (by omega)]
    obtain ⟨i, e, g⟩ := idxO_mem (xAll_items.z K) itB l (fun x hx => by
      unfold xAll_items.z
      rw [hN K hK x hx]; rfl) 0 (by decide)
    rw [e, Option.bind_some, Option.bind_some, g]
  · rw [decide_eq_false c, Bool.false_and]
    exact ⟨0, fun K _ => by dsimp only; rw [if_neg (by omega)]⟩
def FitI (x : S71) : Prop := x.f2.f0.f1.size ≤ 100000000 ∧ x.f2.f0.f2.length ≤ 100000000 ∧ Fits x.f2.f0.f2 ∧ Names x.f2.f0.f2 ∧ (joinV (valsL nmVary x.f2.f0.f2)).length ≤ 50000000 ∧ x.f1.length ≤ 100000000 ∧ Fits x.f1
theorem items_Sl (l : List S71) (hb : l.length ≤ 100000000) (N : Nat) (hN : ∀ K, N ≤ K → ∀ x ∈ l, spec_l9Item.f K x.f0 x.f1 x.f2.f0.f0 x.f2.f0.f1 x.f2.f0.f2 x.f2.f0.f3 x.f2.f1 x.f2.f2 = some (itB x)) : ∀ (m K i : Nat), i + m = l.length → N + m < K →
    spec_l9Items.l0 K l l (l.length : Int) (i : Int) = some ((l.drop i).all itB && decide (l.length ≤ 30))
  | m, 0, i, _, hK => absurd hK (Nat.not_lt_zero _)
  | 0, K + 1, i, hi, hK => by
    have e : i = l.length := hi
    subst e
    unfold spec_l9Items.l0
    rw [if_neg (Int.lt_irrefl _), List.drop_length]
    by_cases c : l.length ≤ 30
    · rw [decide_eq_true c, decide_eq_true (by omega)]; rfl
    · rw [decide_eq_false c, decide_eq_false (by omega)]; rfl
  | m + 1, K + 1, i, hi, hK => by
    have hlt : i < l.length := by omega
    unfold spec_l9Items.l0
    rw [if_pos (c_lt _ _ hlt), if_pos (Int.natCast_nonneg i), if_pos (c_lt _ _ hlt), rdI_nat l i hlt, hN K (by omega) _ (List.getElem_mem hlt), Option.bind_some, List.drop_eq_getElem_cons hlt, List.all_cons]
    cases itB l[i] with
    | true => rw [if_pos rfl, w_i i _ hlt (by omega), items_Sl l hb N hN m K (i + 1) (by omega) (by omega), Bool.true_and]
    | false => rw [if_neg (show ¬ false = true by decide)]; rfl
theorem items_S (l : List S71) (hb : l.length ≤ 100000000) (hf : ∀ x ∈ l, FitI x) : Ev (fun K => spec_l9Items.f K l) (itsB l) := by
  obtain ⟨N, hN⟩ := ev_all (fun x K => spec_l9Item.f K x.f0 x.f1 x.f2.f0.f0 x.f2.f0.f1 x.f2.f0.f2 x.f2.f0.f3 x.f2.f1 x.f2.f2) itB l (fun x hx => by
    obtain ⟨f1, f2, f3, f4, f5, f6, f7⟩ := hf x hx
    exact item_S x.f0 x.f1 x.f2.f0.f0 x.f2.f0.f1 x.f2.f0.f2 x.f2.f0.f3 x.f2.f1 x.f2.f2 f1 f2 f3 f4 f5 f6 f7)
  refine ⟨N + l.length + 1, fun K hK => ?_⟩
  have := items_Sl l hb N hN l.length K 0 (Nat.zero_add _) (by omega)
  unfold itsB
  rw [Bool.and_comm]
  exact this
noncomputable def pickT (L : List S71) (key : ByteArray) (fs : List S105) : List S71 → Nat → Int → Int
  | [], _, best => best
  | x :: xs, i, best => if x.f0.toList = key.toList then (if matB x.f1 x.f2.f0.f2 fs = true then (if best < 0 then pickT L key fs xs (i + 1) (i : Int) else if x.f2.f2 > (rd_T71 L best).f2.f2 then pickT L key fs xs (i + 1) (i : Int) else pickT L key fs xs (i + 1) best) else pickT L key fs xs (i + 1) best) else pickT L key fs xs (i + 1) best
theorem pickT_cons (L : List S71) (key : ByteArray) (fs : List S105) (x : S71) (xs : List S71) (i : Nat) (best : Int) : pickT L key fs (x :: xs) i best = if x.f0.toList = key.toList then (if matB x.f1 x.f2.f0.f2 fs = true then (if best < 0 then pickT L key fs xs (i + 1) (i : Int) else if x.f2.f2 > (rd_T71 L best).f2.f2 then pickT L key fs xs (i + 1) (i : Int) else pickT L key fs xs (i + 1) best) else pickT L key fs xs (i + 1) best) else pickT L key fs xs (i + 1) best := rfl
theorem pick_Il (l : List S71) (key : ByteArray) (fs : List S105) (hb : l.length ≤ 100000000) (N : Nat) (hN : ∀ K, N ≤ K → ∀ x ∈ l, impl_Item_matches.f K x.f0 x.f1 x.f2.f0.f0 x.f2.f0.f1 x.f2.f0.f2 x.f2.f0.f3 x.f2.f1 x.f2.f2 fs = some (matB x.f1 x.f2.f0.f2 fs)) : ∀ (m K i : Nat) (best : Int), i + m = l.length → N + m < K → best < (l.length : Int) →
    impl_pick.l0 K l key fs best l (l.length : Int) (i : Int) = some (pickT l key fs (l.drop i) i best)
  | m, 0, i, best, _, hK, _ => absurd hK (Nat.not_lt_zero _)
  | 0, K + 1, i, best, hi, hK, _ => by
    have e : i = l.length := hi
    subst e
    unfold impl_pick.l0
    rw [if_neg (Int.lt_irrefl _), List.drop_length]; rfl
  | m + 1, K + 1, i, best, hi, hK, hbs => by
    have hlt : i < l.length := by omega
    have ih := fun b hb2 => pick_Il l key fs hb N hN m K (i + 1) b (by omega) (by omega) hb2
    have hi2 : (i : Int) < (l.length : Int) := c_lt _ _ hlt
    unfold impl_pick.l0
    rw [if_pos hi2, if_pos (Int.natCast_nonneg i), if_pos hi2, rdI_nat l i hlt, hN K (by omega) _ (List.getElem_mem hlt), Option.bind_some, w_i i _ hlt (by omega), List.drop_eq_getElem_cons hlt, ih _ hi2, ih _ hbs, pickT_cons]
    by_cases c1 : l[i].f0.toList = key.toList
    · rw [if_pos c1, if_pos c1]
      by_cases c2 : matB l[i].f1 l[i].f2.f0.f2 fs = true
      · rw [if_pos c2, if_pos c2]
        by_cases c3 : best < 0
        · rw [if_pos c3, if_pos c3]
        · rw [if_neg c3, if_neg c3, if_pos (by omega), if_pos hbs]
          by_cases c4 : l[i].f2.f2 > (rd_T71 l best).f2.f2
          · rw [if_pos c4, if_pos c4]
          · rw [if_neg c4, if_neg c4]
      · rw [if_neg c2, if_neg c2]
    · rw [if_neg c1, if_neg c1]
theorem pick_Sl (l : List S71) (key m0 t0 : ByteArray) (fs : List S105) (bd : ByteArray) (hb : l.length ≤ 100000000) (N : Nat) (hN : ∀ K, N ≤ K → ∀ x ∈ l, spec_l9Matches.f K x.f0 x.f1 x.f2.f0.f0 x.f2.f0.f1 x.f2.f0.f2 x.f2.f0.f3 x.f2.f1 x.f2.f2 fs = some (matB x.f1 x.f2.f0.f2 fs)) : ∀ (m K i : Nat) (best : Int), i + m = l.length → N + m < K → best < (l.length : Int) →
    spec_l9Pick.l0 K l key best l (l.length : Int) (i : Int) m0 t0 fs bd = some (if pickT l key fs (l.drop i) i best < 0 then (0, false) else (pickT l key fs (l.drop i) i best, true))
  | m, 0, i, best, _, hK, _ => absurd hK (Nat.not_lt_zero _)
  | 0, K + 1, i, best, hi, hK, _ => by
    have e : i = l.length := hi
    subst e
    unfold spec_l9Pick.l0
    rw [if_neg (Int.lt_irrefl _), List.drop_length]
    unfold pickT
    split <;> rfl
  | m + 1, K + 1, i, best, hi, hK, hbs => by
    have hlt : i < l.length := by omega
    have ih := fun b hb2 => pick_Sl l key m0 t0 fs bd hb N hN m K (i + 1) b (by omega) (by omega) hb2
    have hi2 : (i : Int) < (l.length : Int) := c_lt _ _ hlt
    unfold spec_l9Pick.l0
    rw [if_pos hi2, if_pos (Int.natCast_nonneg i), if_pos hi2, rdI_nat l i hlt, hN K (by omega) _ (List.getElem_mem hlt), Option.bind_some, w_i i _ hlt (by omega), List.drop_eq_getElem_cons hlt, ih _ hi2, ih _ hbs, pickT_cons]
    by_cases c1 : l[i].f0.toList = key.toList
    · rw [if_pos c1, if_pos c1]
      by_cases c2 : matB l[i].f1 l[i].f2.f0.f2 fs = true
      · rw [if_pos c2, if_pos c2]
        by_cases c3 : best < 0
        · rw [if_pos c3, if_pos c3]
        · rw [if_neg c3, if_neg c3, if_pos (by omega), if_pos hbs]
          by_cases c4 : l[i].f2.f2 > (rd_T71 l best).f2.f2
          · rw [if_pos c4, if_pos c4]
          · rw [if_neg c4, if_neg c4]
      · rw [if_neg c2, if_neg c2]
    · rw [if_neg c1, if_neg c1]
theorem itsB_L (l : List S71) (h : itsB l = true) : l.length ≤ 30 ∧ ∀ x ∈ l, GoodL x.f1 ∧ GoodL x.f2.f0.f2 := by
  unfold itsB at h
  rw [Bool.and_eq_true] at h
  exact ⟨of_decide_eq_true h.1, fun x hx => itemB_L _ _ _ _ _ _ _ _ (List.all_eq_true.mp h.2 x hx)⟩

/-! ### PickItem: both alike; the law -/
noncomputable def pickB (l : List S71) (key m t : ByteArray) (fs : List S105) (bd : ByteArray) : Int × Bool := if itsB l = true then (if goodReq m t fs bd = true then (if pickT l key fs l 0 (-1) < 0 then (0, false) else (pickT l key fs l 0 (-1), true)) else (0, false)) else (0, false)
theorem pick_I (l : List S71) (key m t : ByteArray) (fs : List S105) (bd : ByteArray) : Ev (fun K => impl_PickItem.f K l key m t fs bd) (pickB l key m t fs bd) := by
  refine Ev.bind (items_I l) ?_
  unfold pickB
  have hj : ∀ x : Bool, x = true → Ev (fun K => impl_PickItem.j0 K l key x m t fs bd) (0, false) := fun x hx => ⟨1, fun K hK => by
    obtain ⟨k, rfl⟩ : ∃ k, K = k + 1 := ⟨K - 1, by omega⟩
    subst hx; rfl⟩
  cases hi : itsB l with
  | false => simp only [if_neg (show ¬ false = true by decide)]; exact hj true rfl
  | true =>
    simp only [if_true]
    obtain ⟨h1, h2⟩ := itsB_L l hi
    refine Ev.bind (req_I m t fs bd) ?_
    cases hg : goodReq m t fs bd with
    | false => simp only [if_neg (show ¬ false = true by decide)]; exact hj _ rfl
    | true =>
      have hG := goodReq_L m t fs bd hg
      simp only [if_true]
      obtain ⟨N, hN⟩ := ev_all (fun x K => impl_Item_matches.f K x.f0 x.f1 x.f2.f0.f0 x.f2.f0.f1 x.f2.f0.f2 x.f2.f0.f3 x.f2.f1 x.f2.f2 fs) (fun x => matB x.f1 x.f2.f0.f2 fs) l (fun x hx => mat_I _ _ _ _ _ _ _ _ fs (h2 x hx).1 (h2 x hx).2 hG)
      refine ⟨N + l.length + 5, fun K hK => ?_⟩
      obtain ⟨k, rfl⟩ : ∃ k, K = k + 1 := ⟨K - 1, by omega⟩
      have hp := pick_Il l key fs (by omega) N hN l.length k 0 (-1) (Nat.zero_add _) (by omega) (by omega)
      have hp2 : impl_pick.f k l key fs = some (pickT l key fs l 0 (-1)) := hp
      show ((impl_pick.f k l key fs).bind fun t447 => (if t447 < 0 then (some (0, false)) else (some (t447, true)))) = _
      rw [hp2, Option.bind_some]
      split <;> rfl
theorem pick_S (l : List S71) (key m t : ByteArray) (fs : List S105) (bd : ByteArray) (hb : l.length ≤ 100000000) (hf : ∀ x ∈ l, FitI x) (hm : m.size ≤ 100000000) (ht : t.size ≤ 100000000) (hbf : fs.length ≤ 100000000) (hff : Fits fs) : Ev (fun K => spec_PickItem.f K l key m t fs bd) (pickB l key m t fs bd) := by
  refine Ev.bind (items_S l hb hf) ?_
  unfold pickB
  cases hi : itsB l with
  | false => exact ⟨0, fun K _ => rfl⟩
  | true =>
    simp only [if_true]
    obtain ⟨h1, h2⟩ := itsB_L l hi
    refine Ev.bind (req_S m t fs bd hm ht hbf hff) ?_
    cases hg : goodReq m t fs bd with
    | false => exact ⟨0, fun K _ => rfl⟩
    | true =>
      have hG := goodReq_L m t fs bd hg
      simp only [if_true]
      obtain ⟨N, hN⟩ := ev_all (fun x K => spec_l9Matches.f K x.f0 x.f1 x.f2.f0.f0 x.f2.f0.f1 x.f2.f0.f2 x.f2.f0.f3 x.f2.f1 x.f2.f2 fs) (fun x => matB x.f1 x.f2.f0.f2 fs) l (fun x hx => mat_S _ _ _ _ _ _ _ _ fs (h2 x hx).1 (h2 x hx).2 hG)
      refine ⟨N + l.length + 5, fun K hK => ?_⟩
      have hp := pick_Sl l key m t fs bd (by omega) N hN l.length K 0 (-1) (Nat.zero_add _) (by omega) (by omega)
      dsimp only
      unfold spec_l9Pick.f
      have hp2 : spec_l9Pick.l0 K l key (-1) l (l.length : Int) 0 m t fs bd = some (if pickT l key fs l 0 (-1) < 0 then (0, false) else (pickT l key fs l 0 (-1), true)) := hp
      rw [hp2, Option.bind_some]
theorem toI_fit (x : S64) (h : szI x ≤ 1048576) : FitI (toI x) ∧ ((toI x).f1.length ≤ 1048576 ∧ (toI x).f2.f0.f2.length ≤ 1048576) := by
  unfold szI at h
  have hF := toE_Fits x.f2.f0.f2 (by omega)
  have hFa := toE_Fits x.f1 (by omega)
  have hj := sz_join x.f2.f0.f2 1048576 (by omega) (by omega) nmVary
  have e1 : (x.f2.f0.f2.map toE).length = x.f2.f0.f2.length := List.length_map _
  have e2 : (x.f1.map toE).length = x.f1.length := List.length_map _
  refine ⟨⟨?_, ?_, hF.1, hF.2, ?_, ?_, hFa.1⟩, ?_, ?_⟩
  · show x.f2.f0.f1.size ≤ _; omega
  · show (x.f2.f0.f2.map toE).length ≤ _; omega
  · show (joinV (valsL nmVary (x.f2.f0.f2.map toE))).length ≤ _; omega
  · show (x.f1.map toE).length ≤ _; omega
  · show (x.f1.map toE).length ≤ _; omega
  · show (x.f2.f0.f2.map toE).length ≤ _; omega
theorem FnExactPickItem : laws_FnExactPickItem.Pure := by
  intro l key m t fs bd hm hw _ hm0 ht0 hfm hfw hbd
  by_cases c0 : (key.size : Int) > 1048576
  · refine ⟨0, ?_⟩
    unfold laws_FnExactPickItem.f
    rw [if_pos c0]
  obtain ⟨z, hz, hz2⟩ := szItems_f l hm hw
  by_cases c : z < 0
  · refine ⟨3000001, ?_⟩
    unfold laws_FnExactPickItem.f
    rw [if_neg c0, hz _ (by omega), Option.bind_some, if_pos c]
  have hz3 := hz2 (by omega)
  obtain ⟨u, hu, hu2⟩ := szReq_f m t fs bd hm0 ht0 hfm hfw hbd z (by omega) (by omega)
  by_cases c2 : u < 0
  · refine ⟨3000001, ?_⟩
    unfold laws_FnExactPickItem.f
    rw [if_neg c0, hz _ (by omega), Option.bind_some, if_neg c, hu _ (by omega), Option.bind_some, if_pos c2]
  have hu3 := hu2 (by omega)
  have hs : ∀ x ∈ l, szI x ≤ 1048576 := fun x hx => by have := szIs_mem l x hx; omega
  have hll : (l.map toI).length ≤ 1048576 := by rw [List.length_map]; omega
  have hfl : (fs.map toE).length ≤ 1048576 := by rw [List.length_map]; omega
  have hFf := toE_Fits fs (by omega)
  have hfit : ∀ x ∈ l.map toI, FitI x ∧ (x.f1.length ≤ 1048576 ∧ x.f2.f0.f2.length ≤ 1048576) := fun x hx => by
    obtain ⟨y, hy, rfl⟩ := List.mem_map.mp hx
    exact toI_fit y (hs y hy)
  obtain ⟨N1, e1⟩ := pick_S (l.map toI) key m t (fs.map toE) bd (by omega) (fun x hx => (hfit x hx).1) (by omega) (by omega) (by omega) hFf.1
  obtain ⟨N2, e2⟩ := pick_I (l.map toI) key m t (fs.map toE) bd
  obtain ⟨q, hq⟩ : ∃ q, q = N1 + N2 + 4000000 := ⟨_, rfl⟩
  generalize pickB (l.map toI) key m t (fs.map toE) bd = v at e1 e2
  obtain ⟨y1, y2⟩ := v
  have e1' : ∀ j, spec_PickItem.f (q + j) (l.map toI) key m t (fs.map toE) bd = some (y1, y2) := fun j => e1 _ (by omega)
  have e2' : ∀ j, impl_PickItem.f (q + j) (l.map toI) key m t (fs.map toE) bd = some (y1, y2) := fun j => e2 _ (by omega)
  have t1 : ∀ j, laws_toItemS.f (q + j) l = some (l.map toI) := fun j => toItems_f l (by omega) hs _ (by omega)
  have t2 : ∀ j, laws_toRequest.f (q + j) m t fs bd = some (m, t, fs.map toE, bd) := fun j => toReq_f m t fs bd (by omega) _ (by omega)
  have s1 : ∀ j, laws_szItemS.f (q + j) l 1048576 = some z := fun j => hz _ (by omega)
  have s2 : ∀ j, laws_szRequest.f (q + j) m t fs bd z = some u := fun j => hu _ (by omega)
  have q1 : ∀ j, laws_eqItemS.f (q + j) (l.map toI) (l.map toI) = some true := fun j => eqItems_f _ hll (fun x hx => (hfit x hx).2) _ (by omega)
  have q2 : ∀ j, laws_eqRequest.f (q + j) m t (fs.map toE) bd m t (fs.map toE) bd = some true := fun j => eqReq_f m t _ bd hfl _ (by omega)
  clear e1 e2 hz hz2 hu hu2
  refine ⟨q + 5, ?_⟩
  unfold laws_FnExactPickItem.f
  simp only [s1, s2, t1, t2, e1', e2', q1, q2, c, c0, c2, Option.bind_some, if_true, if_false, bne_self_eq_false, Bool.false_eq_true, laws_FnExactPickItem.j0]

end Go.Proofs.YtpggepjfhgalkaaGreatDoor.Pure
