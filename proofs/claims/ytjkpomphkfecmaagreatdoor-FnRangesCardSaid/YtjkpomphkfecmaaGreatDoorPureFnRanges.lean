/- The plain law of ranges: what spans tell as their text is read back as they are; of a drawn text both read the same; all that is read lies within. -/
import Derived.Test.YtjkpomphkfecmaaGreatDoorPFnRangesx11
import Derived.Lib.VarintBits
set_option linter.unusedVariables false
set_option linter.unusedSimpArgs false
namespace Go.Proofs.YtjkpomphkfecmaaGreatDoor.Pure
open Go.RowKit Go.Proofs.YtjkpomphkfecmaaGreatDoor.PFnRanges Go.Proofs.YtjkpomphkfecmaaGreatDoorW.PrintWords Go.Proofs.YtjkpomphkfecmaaGreatDoorW.PrintLast

/-! Whole numbers and rows of them -/
theorem w64 {x : Int} (h : -9223372036854775808 ≤ x) (h2 : x < 9223372036854775808) : wrap64 x = x := by unfold wrap64; omega
theorem rd_nat (l : List Int) (n : Nat) (h : n < l.length) : rd l (n : Int) = l[n] := by
  unfold rd; simp [List.getD_eq_getElem?_getD, h]
theorem succ_cast (n : Nat) : ((n : Int) + 1) = ((n + 1 : Nat) : Int) := by omega

theorem mono_le {α : Type} (F : Nat → Option α) (h : ∀ k, LeO (F k) (F (k + 1))) (a b : Nat) (hab : a ≤ b) (r : α) (e : F a = some r) : F b = some r := by
  obtain ⟨d, rfl⟩ := Nat.le.dest hab
  clear hab
  induction d with
  | zero => exact e
  | succ d ih => exact h (a + d) r ih

/-! ### Texts as lists of bytes -/
abbrev tx (l : List UInt8) : ByteArray := ⟨l.toArray⟩
theorem tx_size (l : List UInt8) : (tx l).size = l.length := by simp [ByteArray.size]
theorem tx_data (s : ByteArray) : tx s.data.toList = s := rfl
theorem tx_list (l : List UInt8) : (tx l).data.toList = l := rfl
theorem tx_app (a b : List UInt8) : tx a ++ tx b = tx (a ++ b) := by
  apply ByteArray.ext
  simp [tx]
theorem tx_cut (T : List UInt8) (a b : Nat) : (tx T).extract a b = tx ((T.drop a).take (b - a)) := by
  apply ByteArray.ext
  apply Array.toList_inj.mp
  simp [tx]
theorem tx_toList (l : List UInt8) : (tx l).toList = l := by rw [ByteArray.toList_eq]
theorem tx_inj {a b : List UInt8} (h : tx a = tx b) : a = b := by
  have : (tx a).data.toList = (tx b).data.toList := by rw [h]
  exact this
theorem bt_tx (T : List UInt8) (i : Nat) (h : i < T.length) : bt (tx T) (i : Int) = (T[i].toNat : Int) := by
  have h1 : ((i : Int)).toNat < (tx T).size := by rw [tx_size]; omega
  unfold bt
  rw [dif_pos h1]
  simp [tx, ByteArray.getElem_eq_getElem_data]
theorem bt_at (pre rest : List UInt8) (b : UInt8) : bt (tx (pre ++ b :: rest)) (pre.length : Int) = (b.toNat : Int) := by
  rw [bt_tx _ pre.length (by simp)]
  simp
/-! ### Cut at a byte -/
theorem index_none (c : UInt8) : ∀ l : List UInt8, c ∉ l → Lib.index l [c] = -1
  | [], _ => rfl
  | b :: l, h => by
    have hb : (c == b) = false := beq_eq_false_iff_ne.mpr fun e => h (e ▸ List.mem_cons_self ..)
    have ih := index_none c l fun hh => h (List.mem_cons_of_mem _ hh)
    unfold Lib.index
    rw [ih]
    simp [List.isPrefixOf, hb]
theorem index_at (c : UInt8) (r : List UInt8) : ∀ l : List UInt8, c ∉ l → Lib.index (l ++ c :: r) [c] = (l.length : Int)
  | [], _ => by simp [Lib.index, List.isPrefixOf]
  | b :: l, h => by
    have hb : (c == b) = false := beq_eq_false_iff_ne.mpr fun e => h (e ▸ List.mem_cons_self ..)
    have ih := index_at c r l fun hh => h (List.mem_cons_of_mem _ hh)
    show Lib.index (b :: (l ++ c :: r)) [c] = _
    unfold Lib.index
    rw [ih]
    have : ((l.length : Int) == -1) = false := beq_eq_false_iff_ne.mpr (by omega)
    simp [List.isPrefixOf, hb, this]
theorem cut_none (c : UInt8) (l : List UInt8) (h : c ∉ l) : Lib.cut l [c] = (l, [], false) := by
  unfold Lib.cut
  rw [index_none c l h]; rfl
theorem cut_at (c : UInt8) (l r : List UInt8) (h : c ∉ l) : Lib.cut (l ++ c :: r) [c] = (l, r, true) := by
  unfold Lib.cut
  rw [index_at c r l h, if_pos (by omega), Int.toNat_natCast, List.take_left]
  have : l.length + [c].length = (l ++ [c]).length := by simp
  rw [this, show l ++ c :: r = (l ++ [c]) ++ r by simp, List.drop_left]
theorem cut_http (r : List UInt8) : Lib.cut ([104, 116, 116, 112] ++ ([58, 47, 47] ++ r)) [58, 47, 47] = ([104, 116, 116, 112], r, true) := by
  simp [Lib.cut, Lib.index, List.isPrefixOf]
theorem cut_https (r : List UInt8) : Lib.cut ([104, 116, 116, 112, 115] ++ ([58, 47, 47] ++ r)) [58, 47, 47] = ([104, 116, 116, 112, 115], r, true) := by
  simp [Lib.cut, Lib.index, List.isPrefixOf]
/-! ### Numerals -/
theorem decFrom_app : ∀ (l r : List UInt8) (a : Nat), Lib.decFrom a (l ++ r) = (Lib.decFrom a l).bind fun b => Lib.decFrom b r
  | [], _, _ => rfl
  | x :: l, r, a => by
    show (match Lib.digitVal x with | some d => Lib.decFrom (a * 10 + d) (l ++ r) | none => none) = (match Lib.digitVal x with | some d => Lib.decFrom (a * 10 + d) l | none => none).bind _
    cases Lib.digitVal x with
    | none => rfl
    | some d => exact decFrom_app l r _
theorem u8of (d : Nat) (h : d < 10) : (UInt8.ofNat (48 + d)).toNat = 48 + d := by rw [UInt8.toNat_ofNat']; omega
theorem dig_val (d : Nat) (h : d < 10) : Lib.digitVal (UInt8.ofNat (48 + d)) = some d := by
  unfold Lib.digitVal
  rw [u8of d h, if_pos (by omega)]
  congr 1; omega
theorem dec_back (u : Nat) : Lib.decFrom 0 (Lib.decDigits u) = some u := by
  induction u using Nat.strongRecOn with
  | ind u ih =>
    unfold Lib.decDigits
    by_cases h : u < 10
    · rw [dif_pos h]
      show (match Lib.digitVal (UInt8.ofNat (48 + u)) with | some d => Lib.decFrom (0 * 10 + d) [] | none => none) = _
      rw [dig_val u h]
      show some (0 * 10 + u) = _
      congr 1; omega
    · rw [dif_neg h, decFrom_app, ih (u / 10) (by omega), Option.bind_some]
      show (match Lib.digitVal (UInt8.ofNat (48 + u % 10)) with | some d => Lib.decFrom (u / 10 * 10 + d) [] | none => none) = _
      rw [dig_val _ (by omega)]
      show some (u / 10 * 10 + u % 10) = _
      congr 1; omega
theorem dec_digs (u : Nat) : ∀ b ∈ Lib.decDigits u, 48 ≤ b.toNat ∧ b.toNat ≤ 57 := by
  induction u using Nat.strongRecOn with
  | ind u ih =>
    intro b hb
    unfold Lib.decDigits at hb
    by_cases h : u < 10
    · rw [dif_pos h] at hb
      rw [List.mem_singleton.mp hb, u8of u h]; omega
    · rw [dif_neg h] at hb
      rcases List.mem_append.mp hb with h1 | h1
      · exact ih (u / 10) (by omega) b h1
      · rw [List.mem_singleton.mp h1, u8of _ (by omega)]; omega
theorem dec_len (u : Nat) : ∀ n, u < 10 ^ (n + 1) → (Lib.decDigits u).length ≤ n + 1 := by
  induction u using Nat.strongRecOn with
  | ind u ih =>
    intro n hn
    unfold Lib.decDigits
    by_cases h : u < 10
    · rw [dif_pos h]; simp
    · rw [dif_neg h, List.length_append]
      cases n with
      | zero => omega
      | succ m =>
        have := ih (u / 10) (by omega) m (by rw [Nat.pow_succ] at hn; omega)
        simp; omega
theorem dec_ne (u : Nat) : Lib.decDigits u ≠ [] := by
  unfold Lib.decDigits
  split <;> simp
theorem atoi_back (u : Nat) : Lib.atoi (Lib.decDigits u) = some (u : Int) := by
  cases e : Lib.decDigits u with
  | nil => exact absurd e (dec_ne u)
  | cons b r =>
    have hb := dec_digs u b (by rw [e]; exact List.mem_cons_self ..)
    show (if (b == 45) = true then (Lib.decNat r).map fun (m : Nat) => -(m : Int) else if (b == 43) = true then (Lib.decNat r).map fun (m : Nat) => (m : Int) else (Lib.decNat (b :: r)).map fun (m : Nat) => (m : Int)) = _
    have h1 : (b == 45) = false := beq_eq_false_iff_ne.mpr fun h => by subst h; simp at hb
    have h2 : (b == 43) = false := beq_eq_false_iff_ne.mpr fun h => by subst h; simp at hb
    rw [h1, h2]
    have : Lib.decNat (b :: r) = some u := by
      unfold Lib.decNat
      rw [← e, if_neg (by rw [e]; exact Bool.false_ne_true), dec_back]
    simp [this]

/-! ### Blanks trimmed -/
abbrev bl (i : Nat) : List UInt8 := List.replicate i 32
theorem bl_succ (i : Nat) : bl (i + 1) = 32 :: bl i := rfl
theorem bl_end (i : Nat) : bl (i + 1) = bl i ++ [32] := List.replicate_succ'
/-- a core: nothing, or neither its first nor its last byte is a blank -/
def Core (c : List UInt8) : Prop := (∀ b r, c = b :: r → b ≠ 32) ∧ (∀ r b, c = r ++ [b] → b ≠ 32)
theorem core_ex (l : List UInt8) : ∃ i c j, l = bl i ++ c ++ bl j ∧ Core c ∧ (c = [] → j = 0) := by
  have left : ∀ l : List UInt8, ∃ i c, l = bl i ++ c ∧ (∀ b r, c = b :: r → b ≠ 32) := by
    intro l
    induction l with
    | nil => exact ⟨0, [], rfl, fun b r h => by cases h⟩
    | cons x l ih =>
      by_cases h : x = 32
      · obtain ⟨i, c, h1, h2⟩ := ih
        exact ⟨i + 1, c, by rw [h, h1]; rfl, h2⟩
      · exact ⟨0, x :: l, rfl, fun b r hb => by rw [← (List.cons.inj hb).1]; exact h⟩
  have right : ∀ c : List UInt8, (∀ b r, c = b :: r → b ≠ 32) → ∃ d j, c = d ++ bl j ∧ Core d ∧ (d = [] → j = 0) := by
    intro c
    have key : ∀ (n : Nat) (c : List UInt8), c.length = n → (∀ b r, c = b :: r → b ≠ 32) → ∃ d j, c = d ++ bl j ∧ Core d ∧ (d = [] → j = 0) := by
      intro n
      induction n with
      | zero =>
        intro c hc hb
        have : c = [] := List.eq_nil_of_length_eq_zero hc
        subst this
        exact ⟨[], 0, rfl, ⟨hb, fun r b h => by simp at h⟩, fun _ => rfl⟩
      | succ n ih =>
        intro c hc hb
        rcases List.eq_nil_or_concat c with h | ⟨L, x, h⟩
        · rw [h] at hc; cases hc
        · rw [List.concat_eq_append] at h
          by_cases hx : x = 32
          · have hL : ∀ b r, L = b :: r → b ≠ 32 := fun b r hbr => hb b (r ++ [x]) (by rw [h, hbr]; rfl)
            obtain ⟨d, j, h1, h2, h3⟩ := ih L (by rw [h, List.length_append, List.length_singleton] at hc; omega) hL
            by_cases hd : d = []
            · exfalso
              have hj := h3 hd
              rw [hd, hj] at h1
              have hc1 : c = [x] := by rw [h, h1]; rfl
              exact hb x [] hc1 hx
            · exact ⟨d, j + 1, by rw [h, h1, hx, List.append_assoc, ← bl_end], h2, fun hh => absurd hh hd⟩
          · refine ⟨c, 0, by simp, ⟨hb, fun r b hr => ?_⟩, fun _ => rfl⟩
            rw [h] at hr
            have := List.append_inj_right' hr rfl
            rw [← (List.cons.inj this).1]; exact hx
    exact key c.length c rfl
  obtain ⟨i, c, h1, h2⟩ := left l
  obtain ⟨d, j, h3, h4, h5⟩ := right c h2
  exact ⟨i, d, j, by rw [h1, h3, List.append_assoc], h4, h5⟩
theorem last_bt (T : List UInt8) (b : UInt8) (h : T.length ≤ 100000) : bt (tx (T ++ [b])) (wrap64 (((tx (T ++ [b])).size : Int) - 1)) = (b.toNat : Int) ∧ wrap64 (((tx (T ++ [b])).size : Int) - 1) = (T.length : Int) ∧ ((tx (T ++ [b])).size : Int) = (T.length : Int) + 1 := by
  have hs : ((tx (T ++ [b])).size : Int) = (T.length : Int) + 1 := by rw [tx_size]; simp
  have hw : wrap64 ((T.length : Int) + 1 - 1) = (T.length : Int) := by rw [w64 (by omega) (by omega)]; omega
  rw [hs, hw]
  exact ⟨bt_at T [] b, rfl, rfl⟩
theorem cut_last (T : List UInt8) (b : UInt8) : (tx (T ++ [b])).extract 0 (T.length : Int).toNat = tx T := by
  rw [tx_cut, List.drop_zero, Int.toNat_natCast, Nat.sub_zero, List.take_left]
theorem cut_first (b : UInt8) (T : List UInt8) : (tx (b :: T)).extract 1 (tx (b :: T)).size = tx T := by
  rw [tx_cut, tx_size]
  show tx (T.take ((b :: T).length - 1)) = _
  rw [List.take_of_length_le (by simp)]
theorem n32 (b : UInt8) (h : b ≠ 32) : ¬ (b.toNat : Int) = 32 := fun hh => h (UInt8.toNat_inj.mp (by show b.toNat = 32; omega))
theorem trimR_I (A : List UInt8) (hA : ∀ r b, A = r ++ [b] → b ≠ 32) : ∀ (j K : Nat), (A ++ bl j).length ≤ 100000 → j < K → strings_trimRightByte.l0 K (tx (A ++ bl j)) 32 = some (tx A)
  | j, 0, _, h => absurd h (by omega)
  | 0, K + 1, hl, h => by
    have e : A ++ bl 0 = A := by simp
    rw [e] at hl ⊢
    unfold strings_trimRightByte.l0
    rcases List.eq_nil_or_concat A with h0 | ⟨T, b, h0⟩
    · rw [h0, if_neg (by decide)]
    · rw [List.concat_eq_append] at h0
      have hb := hA T b h0
      subst h0
      have hT : T.length ≤ 100000 := by rw [List.length_append] at hl; omega
      obtain ⟨g1, g2, g3⟩ := last_bt T b hT
      rw [g1, g2, g3, if_pos (by omega), if_pos (by omega), if_pos (by omega), if_neg (n32 b hb)]
  | j + 1, K + 1, hl, h => by
    have e : A ++ bl (j + 1) = (A ++ bl j) ++ [32] := by rw [bl_end, List.append_assoc]
    rw [e] at hl ⊢
    have hT : (A ++ bl j).length ≤ 100000 := by rw [@List.length_append _ (A ++ bl j) _] at hl; omega
    obtain ⟨g1, g2, g3⟩ := last_bt (A ++ bl j) 32 hT
    unfold strings_trimRightByte.l0
    rw [g1, g2, g3, if_pos (by omega), if_pos (by omega), if_pos (by omega), if_pos (by rfl), if_pos (by omega), cut_last]
    exact trimR_I A hA j K hT (by omega)
theorem trimL_I (A : List UInt8) (hA : ∀ b r, A = b :: r → b ≠ 32) : ∀ (i K : Nat), i < K → strings_trimLeftByte.l0 K (tx (bl i ++ A)) 32 = some (tx A)
  | i, 0, h => absurd h (by omega)
  | 0, K + 1, h => by
    have e : bl 0 ++ A = A := rfl
    rw [e]
    unfold strings_trimLeftByte.l0
    cases A with
    | nil => rw [if_neg (by decide)]
    | cons b r =>
      have e0 : bt (tx (b :: r)) 0 = (b.toNat : Int) := bt_tx (b :: r) 0 (by simp)
      have hs : ((tx (b :: r)).size : Int) = (r.length : Int) + 1 := by rw [tx_size]; simp
      rw [e0, hs, if_pos (by omega), if_pos (by omega), if_neg (n32 b (hA b r rfl))]
  | i + 1, K + 1, h => by
    have e : bl (i + 1) ++ A = 32 :: (bl i ++ A) := rfl
    rw [e]
    have e0 : bt (tx (32 :: (bl i ++ A))) 0 = 32 := bt_tx (32 :: (bl i ++ A)) 0 (by simp)
    have hs : ((tx (32 :: (bl i ++ A))).size : Int) = ((bl i ++ A).length : Int) + 1 := by rw [tx_size]; simp
    have hc := cut_first 32 (bl i ++ A)
    unfold strings_trimLeftByte.l0
    rw [hc, e0, hs, if_pos (by omega), if_pos (by omega), if_pos rfl, if_pos (by omega)]
    exact trimL_I A hA i K (by omega)
theorem trim_I (i j K : Nat) (c : List UInt8) (hc : Core c) (hl : (bl i ++ c ++ bl j).length ≤ 100000) (hj : c = [] → j = 0) (hK : i + j + 3 ≤ K) : strings_Trim.f K (tx (bl i ++ c ++ bl j)) (⟨#[32]⟩ : ByteArray) = some (tx c) := by
  obtain ⟨m, rfl⟩ : ∃ m, K = m + 2 := ⟨K - 2, by omega⟩
  have e32 : (⟨#[32]⟩ : ByteArray) = tx [32] := rfl
  have b32 : bt (tx [32]) 0 = 32 := bt_tx [32] 0 (by simp)
  have s32 : ((tx [32]).size : Int) = 1 := rfl
  unfold strings_Trim.f
  rw [e32, tx_toList, tx_toList]
  by_cases c0 : bl i ++ c ++ bl j = []
  · have hc0 : c = [] := by
      have := List.append_eq_nil_iff.mp c0
      exact (List.append_eq_nil_iff.mp this.1).2
    rw [if_pos c0]
    unfold strings_Trim.j0
    dsimp only
    rw [if_pos rfl, c0, hc0]
  · rw [if_neg c0]
    unfold strings_Trim.j0
    dsimp only
    rw [if_neg (by decide), s32, b32, if_pos rfl, if_pos (by decide)]
    unfold strings_Trim.j1 strings_trimRightByte.f strings_trimLeftByte.f
    dsimp only
    have hA : ∀ r b, bl i ++ c = r ++ [b] → c ≠ [] → b ≠ 32 := fun r b h hn => by
      rcases List.eq_nil_or_concat c with h0 | ⟨T, x, h0⟩
      · exact absurd h0 hn
      · rw [List.concat_eq_append] at h0
        rw [h0, ← List.append_assoc] at h
        have := List.append_inj_right' h rfl
        rw [← (List.cons.inj this).1]
        exact hc.2 T x h0
    rw [if_pos (by decide), s32, if_pos (by decide), b32]
    by_cases hn : c = []
    · have hj0 := hj hn
      subst hn
      subst hj0
      have e0 : bl i ++ [] ++ bl 0 = [] ++ bl i := by simp
      rw [e0]
      rw [trimR_I [] (fun r b h => by simp at h) i m (by rw [e0] at hl; exact hl) (by omega), Option.bind_some]
      have e1 := trimL_I [] (fun b r h => by cases h) 0 m (by omega)
      have e2 : bl 0 ++ [] = ([] : List UInt8) := rfl
      rw [e2] at e1
      rw [e1]; rfl
    · rw [trimR_I (bl i ++ c) (fun r b h => hA r b h hn) j m hl (by omega), Option.bind_some, trimL_I c hc.1 i m (by omega)]; rfl
theorem trimS_r (c : List UInt8) (hc : Core c) : ∀ (j K : Nat), (c ++ bl j).length ≤ 100000 → j < K → spec_l3Trim.l1 K (tx (c ++ bl j)) = some (tx c)
  | j, 0, _, h => absurd h (by omega)
  | 0, K + 1, hl, h => by
    have e : c ++ bl 0 = c := by simp
    rw [e] at hl ⊢
    unfold spec_l3Trim.l1
    rcases List.eq_nil_or_concat c with h0 | ⟨T, b, h0⟩
    · rw [h0, if_neg (by decide)]
    · rw [List.concat_eq_append] at h0
      have hb := hc.2 T b h0
      subst h0
      have hT : T.length ≤ 100000 := by rw [List.length_append] at hl; omega
      obtain ⟨g1, g2, g3⟩ := last_bt T b hT
      rw [g1, g2, g3, if_pos (by omega), if_pos (by omega), if_pos (by omega), if_neg (n32 b hb)]
  | j + 1, K + 1, hl, h => by
    have e : c ++ bl (j + 1) = (c ++ bl j) ++ [32] := by rw [bl_end, List.append_assoc]
    rw [e] at hl ⊢
    have hT : (c ++ bl j).length ≤ 100000 := by rw [@List.length_append _ (c ++ bl j) _] at hl; omega
    obtain ⟨g1, g2, g3⟩ := last_bt (c ++ bl j) 32 hT
    unfold spec_l3Trim.l1
    rw [g1, g2, g3, if_pos (by omega), if_pos (by omega), if_pos (by omega), if_pos (by rfl), if_pos (by omega), cut_last]
    exact trimS_r c hc j K hT (by omega)
theorem trim_S (c : List UInt8) (hc : Core c) (j : Nat) (hj : c = [] → j = 0) : ∀ (i K : Nat), (bl i ++ c ++ bl j).length ≤ 100000 → i + j + 3 ≤ K → spec_l3Trim.l0 K (tx (bl i ++ c ++ bl j)) = some (tx c)
  | i, 0, _, h => absurd h (by omega)
  | 0, K + 1, hl, h => by
    have e : bl 0 ++ c ++ bl j = c ++ bl j := rfl
    rw [e] at hl ⊢
    obtain ⟨m, rfl⟩ : ∃ m, K = m + 1 := ⟨K - 1, by omega⟩
    have fin : spec_l3Trim.j1 (m + 1) (tx (c ++ bl j)) = some (tx c) := by
      unfold spec_l3Trim.j1
      dsimp only
      exact trimS_r c hc j m hl (by omega)
    unfold spec_l3Trim.l0
    cases c with
    | nil =>
      have := hj rfl
      subst this
      rw [if_neg (by decide)]
      exact fin
    | cons b r =>
      have e0 : bt (tx (b :: r ++ bl j)) 0 = (b.toNat : Int) := bt_tx (b :: r ++ bl j) 0 (by simp)
      have hs : ((tx (b :: r ++ bl j)).size : Int) = ((r ++ bl j).length : Int) + 1 := by rw [tx_size]; simp
      rw [e0, hs, if_pos (by omega), if_pos (by omega), if_neg (n32 b (hc.1 b r rfl))]
      exact fin
  | i + 1, K + 1, hl, h => by
    have e : bl (i + 1) ++ c ++ bl j = 32 :: (bl i ++ c ++ bl j) := rfl
    rw [e] at hl ⊢
    have e0 : bt (tx (32 :: (bl i ++ c ++ bl j))) 0 = 32 := bt_tx (32 :: (bl i ++ c ++ bl j)) 0 (by simp)
    have hs : ((tx (32 :: (bl i ++ c ++ bl j))).size : Int) = ((bl i ++ c ++ bl j).length : Int) + 1 := by rw [tx_size]; simp
    have hcf := cut_first 32 (bl i ++ c ++ bl j)
    unfold spec_l3Trim.l0
    rw [hcf, e0, hs, if_pos (by omega), if_pos (by omega), if_pos rfl, if_pos (by omega)]
    exact trim_S c hc j hj i K (by rw [List.length_cons] at hl; omega) (by omega)

/-! ### A list's parts -/
noncomputable def trimB (l : List UInt8) : List UInt8 := (core_ex l).choose_spec.choose
theorem trimB_form (l : List UInt8) : ∃ i j, l = bl i ++ trimB l ++ bl j ∧ Core (trimB l) ∧ (trimB l = [] → j = 0) :=
  ⟨(core_ex l).choose, (core_ex l).choose_spec.choose_spec.choose, (core_ex l).choose_spec.choose_spec.choose_spec⟩
theorem form_len (i j : Nat) (c : List UInt8) : (bl i ++ c ++ bl j).length = i + c.length + j := by simp; omega
theorem trimI (K : Nat) (l : List UInt8) (hl : l.length ≤ 100000) (hK : l.length + 3 ≤ K) : strings_Trim.f K (tx l) (⟨#[32]⟩ : ByteArray) = some (tx (trimB l)) := by
  obtain ⟨i, j, h1, h2, h3⟩ := trimB_form l
  have hn : l.length = i + (trimB l).length + j := by
    have := form_len i j (trimB l)
    rw [← h1] at this; exact this
  have := trim_I i j K (trimB l) h2 (by rw [← h1]; exact hl) h3 (by omega)
  rw [← h1] at this
  exact this
theorem trimS (K : Nat) (l : List UInt8) (hl : l.length ≤ 100000) (hK : l.length + 3 ≤ K) : spec_l3Trim.f K (tx l) = some (tx (trimB l)) := by
  obtain ⟨i, j, h1, h2, h3⟩ := trimB_form l
  have hn : l.length = i + (trimB l).length + j := by
    have := form_len i j (trimB l)
    rw [← h1] at this; exact this
  have := trim_S (trimB l) h2 j h3 i K (by rw [← h1]; exact hl) (by omega)
  rw [← h1] at this
  exact this
theorem trimB_none (l : List UInt8) (h : (32 : UInt8) ∉ l) : trimB l = l := by
  obtain ⟨i, j, h1, _, _⟩ := trimB_form l
  have hi : i = 0 := by
    cases i with
    | zero => rfl
    | succ i => exact absurd (by rw [h1]; simp) h
  have hj : j = 0 := by
    cases j with
    | zero => rfl
    | succ j => exact absurd (by rw [h1]; simp) h
  subst hi hj
  have : bl 0 ++ trimB l ++ bl 0 = trimB l := by simp
  rw [this] at h1
  exact h1.symm
theorem trimB_len (l : List UInt8) : (trimB l).length ≤ l.length := by
  obtain ⟨i, j, h1, _, _⟩ := trimB_form l
  have := form_len i j (trimB l)
  rw [← h1] at this; omega
noncomputable def addP (cur : List UInt8) : List (List UInt8) := if trimB cur = [] then [] else [trimB cur]
noncomputable def lst : List UInt8 → List UInt8 → List (List UInt8)
  | cur, [] => addP cur
  | cur, b :: r => if b = 44 then addP cur ++ lst [] r else lst (cur ++ [b]) r
theorem lenI (A : List UInt8) (b : UInt8) : (((A ++ [b]).length : Nat) : Int) = (A.length : Int) + 1 := by simp
theorem mid_cut (pre cur M : List UInt8) : (tx (pre ++ cur ++ M)).extract (pre.length : Int).toNat ((pre ++ cur).length : Int).toNat = tx cur := by
  rw [tx_cut, Int.toNat_natCast, Int.toNat_natCast, List.append_assoc, List.drop_left]
  have : (pre ++ cur).length - pre.length = cur.length := by rw [List.length_append]; omega
  rw [this, List.take_left]
/-! the sums, with no text in sight -/
theorem ar1 (q n : Nat) (h : q < n) : (q : Int) ≤ (n : Int) ∧ ¬ (q : Int) = (n : Int) ∧ (0 : Int) ≤ (q : Int) ∧ (q : Int) < (n : Int) := by omega
theorem ar2 (p q : Nat) (h : p ≤ q) : (0 : Int) ≤ (p : Int) ∧ (p : Int) ≤ (q : Int) := by omega
theorem ar3 (q : Nat) : ¬ (q : Int) + 1 ≤ (q : Int) := by omega
theorem ar4 (q n : Nat) (h : q ≤ n) (h2 : n ≤ 10000) : wrap64 ((q : Int) + 1) = (q : Int) + 1 := w64 (by omega) (by omega)
theorem ar5 (a n k : Nat) (hn : n ≤ 10000) (ha : a ≤ n) : a ≤ 100000 := by omega
theorem ar6 (m n a k : Nat) (h : 3 * m + n + 20 ≤ k + 3) (ha : a ≤ n) : a + 3 ≤ k + 1 := by omega
theorem ar7 (m n k : Nat) (h : 3 * (m + 1) + n + 20 ≤ k + 3) : 3 * m + n + 20 ≤ k + 1 ∧ 3 * m + n + 20 ≤ k := by omega
theorem mapRoom (O : List (List UInt8)) (n : Nat) (h : O.length ≤ n) (hn : n ≤ 10000) : (O.map tx).length < 8796093022208 := by rw [List.length_map]; omega
theorem leA (A B : List UInt8) : A.length ≤ (A ++ B).length ∧ B.length ≤ (A ++ B).length := by rw [List.length_append]; omega
theorem ltA (A : List UInt8) (b : UInt8) (M : List UInt8) : A.length < (A ++ b :: M).length := by rw [List.length_append, List.length_cons]; omega
theorem nbv (b v : UInt8) (h : b ≠ v) : ¬ (b.toNat : Int) = (v.toNat : Int) := fun hh => h (UInt8.toNat_inj.mp (by omega))
theorem lst_44 (cur M : List UInt8) : lst cur (44 :: M) = addP cur ++ lst [] M := by
  conv => lhs; unfold lst
  rw [if_pos rfl]
theorem lst_ne (cur M : List UInt8) (b : UInt8) (c : b ≠ 44) : lst cur (b :: M) = lst (cur ++ [b]) M := by
  conv => lhs; unfold lst
  rw [if_neg c]
theorem listI (T : List UInt8) (hT : T.length ≤ 10000) : ∀ (M cur pre : List UInt8) (O : List (List UInt8)) (K : Nat), T = pre ++ cur ++ M → (34 : UInt8) ∉ M → (92 : UInt8) ∉ M → O.length ≤ pre.length → 3 * M.length + T.length + 20 ≤ K →
    impl_listOf.l0 K (tx T) (O.map tx) (pre.length : Int) false ((pre ++ cur).length : Int) = some ((O ++ lst cur M).map tx, true)
  | M, cur, pre, O, 0, _, _, _, _, h => absurd h (by omega)
  | M, cur, pre, O, 1, _, _, _, _, h => absurd h (by omega)
  | M, cur, pre, O, 2, _, _, _, _, h => absurd h (by omega)
  | [], cur, pre, O, m + 3, hx, h34, h92, hO, hK => by
    have hpc : T.length = (pre ++ cur).length := by rw [hx, List.append_nil]
    have hcut := mid_cut pre cur []
    rw [← hx] at hcut
    have hw := ar4 (pre ++ cur).length T.length (by rw [hpc]; exact Nat.le_refl _) hT
    have hroom := mapRoom O T.length (Nat.le_trans hO (by rw [hpc]; exact (leA pre cur).1)) hT
    have htr := trimI (m + 1) cur (ar5 _ _ 0 hT (by rw [hpc]; exact (leA pre cur).2)) (ar6 _ _ _ _ hK (by rw [hpc]; exact (leA pre cur).2))
    have hp := ar2 pre.length (pre ++ cur).length (leA pre cur).1
    have fin : ∀ X : List ByteArray, impl_listOf.l0 (m + 1) (tx T) X (((pre ++ cur).length : Int) + 1) false (((pre ++ cur).length : Int) + 1) = some (X, true) := fun X => by
      unfold impl_listOf.l0
      rw [tx_size, hpc, if_neg (ar3 _)]; rfl
    have e : lst cur [] = addP cur := rfl
    clear hx hK hT h34 h92 hO
    unfold impl_listOf.l0
    rw [tx_size, hpc, if_pos (Int.le_refl _), if_pos rfl]
    unfold impl_listOf.j1
    rw [if_pos rfl, if_pos hp.1, if_pos hp.2, tx_size, hpc, if_pos (Int.le_refl _), hcut, htr, Option.bind_some, tx_toList, hw, e]
    unfold addP
    by_cases c : trimB cur = []
    · rw [if_pos c, if_pos c, fin, List.append_nil]
    · rw [if_neg c, if_neg c, if_pos hroom, fin]; simp
  | b :: M, cur, pre, O, m + 3, hx, h34, h92, hO, hK => by
    have hlt : (pre ++ cur).length < T.length := by rw [hx]; exact ltA (pre ++ cur) b M
    have hbt : bt (tx T) ((pre ++ cur).length : Int) = (b.toNat : Int) := by rw [hx]; exact bt_at (pre ++ cur) M b
    have hcut := mid_cut pre cur (b :: M)
    rw [← hx] at hcut
    have hw := ar4 (pre ++ cur).length T.length (Nat.le_of_lt hlt) hT
    have hroom := mapRoom O T.length (Nat.le_trans hO (Nat.le_trans (leA pre cur).1 (Nat.le_of_lt hlt))) hT
    have hcl := Nat.le_trans (leA pre cur).2 (Nat.le_of_lt hlt)
    have htr := trimI (m + 1) cur (ar5 _ _ 0 hT hcl) (ar6 _ _ _ _ hK hcl)
    have hp := ar2 pre.length (pre ++ cur).length (leA pre cur).1
    have hq := ar1 (pre ++ cur).length T.length hlt
    rw [List.length_cons] at hK
    have hf := ar7 _ _ _ hK
    have h34' : (34 : UInt8) ∉ M := fun h => h34 (List.mem_cons_of_mem _ h)
    have h92' : (92 : UInt8) ∉ M := fun h => h92 (List.mem_cons_of_mem _ h)
    unfold impl_listOf.l0
    rw [tx_size, if_pos hq.1, if_neg hq.2.1, if_pos hq.2.2.1, if_pos hq.2.2.2, hbt]
    by_cases c : b = 44
    · have e1 : (((pre ++ cur ++ [44]).length : Nat) : Int) = ((pre ++ cur).length : Int) + 1 := lenI (pre ++ cur) 44
      have e2 : T = (pre ++ cur ++ [44]) ++ [] ++ M := by rw [hx, c]; simp
      have e3 : (pre ++ cur ++ [44]) ++ [] = pre ++ cur ++ [44] := List.append_nil _
      have hO1 : O.length + 1 ≤ (pre ++ cur ++ [44]).length := by
        rw [List.length_append, List.length_singleton]
        exact Nat.succ_le_succ (Nat.le_trans hO (leA pre cur).1)
      have ih := fun (O' : List (List UInt8)) (hO' : O'.length ≤ (pre ++ cur ++ [44]).length) => listI T hT M [] (pre ++ cur ++ [44]) O' (m + 1) e2 h34' h92' hO' hf.1
      rw [e3] at ih
      simp only [e1] at ih
      rw [if_pos (show (b.toNat : Int) = 44 by rw [c]; rfl)]
      unfold impl_listOf.j1
      rw [if_pos (by rfl), if_pos hp.1, if_pos hp.2, tx_size, if_pos hq.1, hcut, htr, Option.bind_some, tx_toList, hw, c, lst_44]
      unfold addP
      by_cases c2 : trimB cur = []
      · rw [if_pos c2, if_pos c2, ih O (Nat.le_of_succ_le hO1), List.nil_append]
      · have em : O.map tx ++ [tx (trimB cur)] = (O ++ [trimB cur]).map tx := by simp
        rw [if_neg c2, if_neg c2, if_pos hroom, em, ih (O ++ [trimB cur]) (by rw [List.length_append, List.length_singleton]; exact hO1), List.append_assoc]
    · have hb34 : b ≠ 34 := fun h => h34 (h ▸ List.mem_cons_self)
      have hb92 : b ≠ 92 := fun h => h92 (h ▸ List.mem_cons_self)
      have e2 : T = pre ++ (cur ++ [b]) ++ M := by rw [hx]; simp
      have e1 : (((pre ++ (cur ++ [b])).length : Nat) : Int) = ((pre ++ cur).length : Int) + 1 := by rw [← List.append_assoc]; exact lenI (pre ++ cur) b
      have ih := listI T hT M (cur ++ [b]) pre O m e2 h34' h92' hO hf.2
      rw [e1] at ih
      rw [if_neg (show ¬ (b.toNat : Int) = 44 from nbv b 44 c)]
      unfold impl_listOf.j1
      rw [if_neg (show ¬ false = true by decide), if_pos hq.2.2.1, tx_size, if_pos hq.2.2.2, hbt, if_neg (show ¬ (b.toNat : Int) = 34 from nbv b 34 hb34), if_neg (show ¬ (b.toNat : Int) = 92 from nbv b 92 hb92)]
      unfold impl_listOf.j2
      rw [if_neg (show ¬ false = true by decide), hw, lst_ne cur M b c]
      exact ih

theorem as6 (m n a k : Nat) (h : 4 * m + n + 20 ≤ k + 4) (ha : a ≤ n) : a + 3 ≤ k + 2 := by omega
theorem as7 (m n k : Nat) (h : 4 * (m + 1) + n + 20 ≤ k + 4) : 4 * m + n + 20 ≤ k + 2 ∧ 4 * m + n + 20 ≤ k := by omega
theorem listS (T : List UInt8) (hT : T.length ≤ 10000) : ∀ (M cur pre : List UInt8) (O : List (List UInt8)) (K : Nat), T = pre ++ cur ++ M → (34 : UInt8) ∉ M → (92 : UInt8) ∉ M → O.length ≤ pre.length → 4 * M.length + T.length + 20 ≤ K →
    spec_l3List.l0 K (tx T) (O.map tx) (pre.length : Int) false ((pre ++ cur).length : Int) = some ((O ++ lst cur M).map tx, true)
  | M, cur, pre, O, 0, _, _, _, _, h => absurd h (by omega)
  | M, cur, pre, O, 1, _, _, _, _, h => absurd h (by omega)
  | M, cur, pre, O, 2, _, _, _, _, h => absurd h (by omega)
  | M, cur, pre, O, 3, _, _, _, _, h => absurd h (by omega)
  | [], cur, pre, O, m + 4, hx, h34, h92, hO, hK => by
    have hpc : T.length = (pre ++ cur).length := by rw [hx, List.append_nil]
    have hcut := mid_cut pre cur []
    rw [← hx] at hcut
    have hw := ar4 (pre ++ cur).length T.length (by rw [hpc]; exact Nat.le_refl _) hT
    have hroom := mapRoom O T.length (Nat.le_trans hO (by rw [hpc]; exact (leA pre cur).1)) hT
    have htr := trimS (m + 2) cur (ar5 _ _ 0 hT (by rw [hpc]; exact (leA pre cur).2)) (as6 _ _ _ _ hK (by rw [hpc]; exact (leA pre cur).2))
    have hp := ar2 pre.length (pre ++ cur).length (leA pre cur).1
    have fin : ∀ X : List ByteArray, spec_l3List.l0 (m + 2) (tx T) X (((pre ++ cur).length : Int) + 1) false (((pre ++ cur).length : Int) + 1) = some (X, true) := fun X => by
      unfold spec_l3List.l0
      rw [tx_size, hpc, if_neg (ar3 _)]; rfl
    have e : lst cur [] = addP cur := rfl
    clear hx hK hT h34 h92 hO
    unfold spec_l3List.l0
    rw [tx_size, hpc, if_pos (Int.le_refl _), if_pos rfl]
    unfold spec_l3List.j1
    rw [if_pos rfl, if_pos hp.1, if_pos hp.2, tx_size, hpc, if_pos (Int.le_refl _), hcut, htr, Option.bind_some, tx_toList, hw, e]
    unfold addP
    by_cases c : trimB cur = []
    · rw [if_pos c, if_pos c, fin, List.append_nil]
    · rw [if_neg c, if_neg c, if_pos hroom, fin]; simp
  | b :: M, cur, pre, O, m + 4, hx, h34, h92, hO, hK => by
    have hlt : (pre ++ cur).length < T.length := by rw [hx]; exact ltA (pre ++ cur) b M
    have hbt : bt (tx T) ((pre ++ cur).length : Int) = (b.toNat : Int) := by rw [hx]; exact bt_at (pre ++ cur) M b
    have hcut := mid_cut pre cur (b :: M)
    rw [← hx] at hcut
    have hw := ar4 (pre ++ cur).length T.length (Nat.le_of_lt hlt) hT
    have hroom := mapRoom O T.length (Nat.le_trans hO (Nat.le_trans (leA pre cur).1 (Nat.le_of_lt hlt))) hT
    have hcl := Nat.le_trans (leA pre cur).2 (Nat.le_of_lt hlt)
    have htr := trimS (m + 2) cur (ar5 _ _ 0 hT hcl) (as6 _ _ _ _ hK hcl)
    have hp := ar2 pre.length (pre ++ cur).length (leA pre cur).1
    have hq := ar1 (pre ++ cur).length T.length hlt
    rw [List.length_cons] at hK
    have hf := as7 _ _ _ hK
    have h34' : (34 : UInt8) ∉ M := fun h => h34 (List.mem_cons_of_mem _ h)
    have h92' : (92 : UInt8) ∉ M := fun h => h92 (List.mem_cons_of_mem _ h)
    unfold spec_l3List.l0
    rw [tx_size, if_pos hq.1, if_neg hq.2.1, if_pos hq.2.2.1, if_pos hq.2.2.2, hbt]
    by_cases c : b = 44
    · have e1 : (((pre ++ cur ++ [44]).length : Nat) : Int) = ((pre ++ cur).length : Int) + 1 := lenI (pre ++ cur) 44
      have e2 : T = (pre ++ cur ++ [44]) ++ [] ++ M := by rw [hx, c]; simp
      have e3 : (pre ++ cur ++ [44]) ++ [] = pre ++ cur ++ [44] := List.append_nil _
      have hO1 : O.length + 1 ≤ (pre ++ cur ++ [44]).length := by
        rw [List.length_append, List.length_singleton]
        exact Nat.succ_le_succ (Nat.le_trans hO (leA pre cur).1)
      have ih := fun (O' : List (List UInt8)) (hO' : O'.length ≤ (pre ++ cur ++ [44]).length) => listS T hT M [] (pre ++ cur ++ [44]) O' (m + 2) e2 h34' h92' hO' hf.1
      rw [e3] at ih
      simp only [e1] at ih
      rw [if_pos (show (b.toNat : Int) = 44 by rw [c]; rfl)]
      unfold spec_l3List.j1
      rw [if_pos (by rfl), if_pos hp.1, if_pos hp.2, tx_size, if_pos hq.1, hcut, htr, Option.bind_some, tx_toList, hw, c, lst_44]
      unfold addP
      by_cases c2 : trimB cur = []
      · rw [if_pos c2, if_pos c2, ih O (Nat.le_of_succ_le hO1), List.nil_append]
      · have em : O.map tx ++ [tx (trimB cur)] = (O ++ [trimB cur]).map tx := by simp
        rw [if_neg c2, if_neg c2, if_pos hroom, em, ih (O ++ [trimB cur]) (by rw [List.length_append, List.length_singleton]; exact hO1), List.append_assoc]
    · have hb34 : b ≠ 34 := fun h => h34 (h ▸ List.mem_cons_self)
      have hb92 : b ≠ 92 := fun h => h92 (h ▸ List.mem_cons_self)
      have e2 : T = pre ++ (cur ++ [b]) ++ M := by rw [hx]; simp
      have e1 : (((pre ++ (cur ++ [b])).length : Nat) : Int) = ((pre ++ cur).length : Int) + 1 := by rw [← List.append_assoc]; exact lenI (pre ++ cur) b
      have ih := listS T hT M (cur ++ [b]) pre O m e2 h34' h92' hO hf.2
      rw [e1] at ih
      rw [if_neg (show ¬ (b.toNat : Int) = 44 from nbv b 44 c)]
      unfold spec_l3List.j1
      rw [if_neg (show ¬ false = true by decide), if_pos hq.2.2.1, tx_size, if_pos hq.2.2.2, hbt, if_neg (show ¬ (b.toNat : Int) = 34 from nbv b 34 hb34)]
      unfold spec_l3List.j2
      rw [if_pos hq.2.2.1, tx_size, if_pos hq.2.2.2, hbt, if_neg (show ¬ (b.toNat : Int) = 92 from nbv b 92 hb92)]
      unfold spec_l3List.j3
      rw [if_neg (show ¬ false = true by decide), hw, lst_ne cur M b c]
      exact ih

/-! ### Numbers of at most nine digits -/
def isDB (b : UInt8) : Bool := 48 ≤ b.toNat && b.toNat ≤ 57
def digP (b : UInt8) : Bool := decide (impl_isDigit.f (b.toNat : Int) = some (isDB b)) && decide (spec_l1Digit.f (b.toNat : Int) = some (isDB b)) && decide (Lib.digitVal b = (if isDB b = true then some (b.toNat - 48) else none))
theorem byte_all (p : UInt8 → Bool) (h : ((List.range 256).all fun n => p (UInt8.ofNat n)) = true) (b : UInt8) : p b = true := by
  have := List.all_eq_true.mp h b.toNat (List.mem_range.mpr b.toNat_lt)
  rwa [UInt8.ofNat_toNat] at this
theorem dig_all : ((List.range 256).all fun n => digP (UInt8.ofNat n)) = true := by decide +kernel
theorem dig_b (b : UInt8) : impl_isDigit.f (b.toNat : Int) = some (isDB b) ∧ spec_l1Digit.f (b.toNat : Int) = some (isDB b) ∧ Lib.digitVal b = (if isDB b = true then some (b.toNat - 48) else none) := by
  have g := byte_all digP dig_all b
  unfold digP at g
  simp only [Bool.and_eq_true, decide_eq_true_eq] at g
  exact ⟨g.1.1, g.1.2, g.2⟩
theorem dec_cons (a : Nat) (b : UInt8) (r : List UInt8) : Lib.decFrom a (b :: r) = (if isDB b = true then Lib.decFrom (a * 10 + (b.toNat - 48)) r else none) := by
  show (match Lib.digitVal b with | some d => Lib.decFrom (a * 10 + d) r | none => none) = _
  rw [(dig_b b).2.2]
  by_cases h : isDB b = true
  · rw [if_pos h, if_pos h]
  · rw [if_neg h, if_neg h]
theorem dec_some : ∀ (l : List UInt8) (a : Nat), l.all isDB = true → ∃ v, Lib.decFrom a l = some v ∧ v < (a + 1) * 10 ^ l.length
  | [], a, _ => ⟨a, rfl, by simp⟩
  | b :: r, a, h => by
    rw [List.all_cons, Bool.and_eq_true] at h
    obtain ⟨v, h1, h2⟩ := dec_some r (a * 10 + (b.toNat - 48)) h.2
    have hb : b.toNat ≤ 57 := by have := h.1; unfold isDB at this; simp at this; exact this.2
    refine ⟨v, by rw [dec_cons, if_pos h.1, h1], Nat.lt_of_lt_of_le h2 ?_⟩
    have e : (a + 1) * 10 ^ (b :: r).length = ((a + 1) * 10) * 10 ^ r.length := by
      rw [List.length_cons, Nat.pow_succ, Nat.mul_comm (10 ^ r.length) 10, ← Nat.mul_assoc]
    rw [e]
    exact Nat.mul_le_mul_right _ (by omega)
theorem dec_none : ∀ (l : List UInt8) (a : Nat), l.all isDB = false → Lib.decFrom a l = none
  | [], a, h => by cases h
  | b :: r, a, h => by
    rw [dec_cons]
    by_cases c : isDB b = true
    · rw [List.all_cons, c, Bool.true_and] at h
      rw [if_pos c, dec_none r _ h]
    · rw [if_neg c]
def dropZ (l : List UInt8) : List UInt8 := l.dropWhile (· == 48)
theorem dropZ_len (l : List UInt8) : (dropZ l).length ≤ l.length := by
  unfold dropZ
  induction l with
  | nil => simp
  | cons b r ih =>
    rw [List.dropWhile_cons]
    split
    · rw [List.length_cons]; omega
    · exact Nat.le_refl _
theorem dropZ_dec (l : List UInt8) : Lib.decFrom 0 (dropZ l) = Lib.decFrom 0 l := by
  unfold dropZ
  induction l with
  | nil => rfl
  | cons b r ih =>
    rw [List.dropWhile_cons]
    by_cases h : (b == 48) = true
    · have hb : b = 48 := beq_iff_eq.mp h
      rw [if_pos h, ih, dec_cons, hb, if_pos (by decide)]; rfl
    · rw [if_neg h]
theorem dropZ_all (l : List UInt8) : (dropZ l).all isDB = l.all isDB := by
  unfold dropZ
  induction l with
  | nil => rfl
  | cons b r ih =>
    rw [List.dropWhile_cons]
    by_cases h : (b == 48) = true
    · have hb : b = 48 := beq_iff_eq.mp h
      rw [if_pos h, ih, List.all_cons, hb]; rfl
    · rw [if_neg h]
theorem trimZ : ∀ (l : List UInt8) (K : Nat), l.length < K → strings_trimLeftByte.l0 K (tx l) 48 = some (tx (dropZ l))
  | l, 0, h => absurd h (by omega)
  | [], K + 1, _ => by
    unfold strings_trimLeftByte.l0
    rw [if_neg (by decide)]; rfl
  | b :: r, K + 1, h => by
    have e0 : bt (tx (b :: r)) 0 = (b.toNat : Int) := bt_tx (b :: r) 0 (by simp)
    have hs : ((tx (b :: r)).size : Int) = (r.length : Int) + 1 := by rw [tx_size]; simp
    have hc := cut_first b r
    have p1 : (r.length : Int) + 1 > 0 ∧ (0 : Int) < (r.length : Int) + 1 ∧ (1 : Int) ≤ (r.length : Int) + 1 := by omega
    unfold strings_trimLeftByte.l0
    rw [hc, e0, hs, if_pos p1.1, if_pos p1.2.1]
    by_cases c : b = 48
    · have e : dropZ (b :: r) = dropZ r := by unfold dropZ; rw [List.dropWhile_cons, if_pos (by rw [c]; rfl)]
      rw [if_pos (show (b.toNat : Int) = 48 by rw [c]; rfl), if_pos p1.2.2, e]
      exact trimZ r K (by rw [List.length_cons] at h; omega)
    · have e : dropZ (b :: r) = b :: r := by unfold dropZ; rw [List.dropWhile_cons, if_neg (by rw [beq_eq_false_iff_ne.mpr c]; decide)]
      rw [if_neg (fun hh => c (UInt8.toNat_inj.mp (by show b.toNat = 48; omega))), e]
theorem trimLeftZ (K : Nat) (l : List UInt8) (h : l.length + 3 ≤ K) : strings_TrimLeft.f K (tx l) (⟨#[48]⟩ : ByteArray) = some (tx (dropZ l)) := by
  obtain ⟨m, rfl⟩ : ∃ m, K = m + 2 := ⟨K - 2, by omega⟩
  have e48 : (⟨#[48]⟩ : ByteArray) = tx [48] := rfl
  have b48 : bt (tx [48]) 0 = 48 := bt_tx [48] 0 (by simp)
  have s48 : ((tx [48]).size : Int) = 1 := rfl
  unfold strings_TrimLeft.f
  rw [e48, tx_toList, tx_toList]
  by_cases c0 : l = []
  · rw [if_pos c0]
    unfold strings_TrimLeft.j0
    dsimp only
    rw [if_pos rfl, c0]; rfl
  · rw [if_neg c0]
    unfold strings_TrimLeft.j0
    dsimp only
    rw [if_neg (by decide), s48, b48, if_pos rfl, if_pos (by decide)]
    unfold strings_TrimLeft.j1 strings_trimLeftByte.f
    dsimp only
    rw [if_pos (by decide), s48, if_pos (by decide), b48, trimZ l m (by omega), Option.bind_some]
theorem bytes_tx (l : List UInt8) : bytesOf (tx l) = l.map fun b => (b.toNat : Int) := rfl
theorem idxO_mem {α : Type} (p : α → Option Bool) (q : α → Bool) (l : List α) (h : ∀ x ∈ l, p x = some (!q x)) : ∀ (n : Int), 0 ≤ n → ∃ i, idxO p l n = some i ∧ (!decide (i ≥ 0)) = l.all q := by
  induction l with
  | nil => intro n hn; exact ⟨-1, rfl, rfl⟩
  | cons x xs ih =>
    intro n hn
    unfold idxO
    rw [h x List.mem_cons_self, Option.bind_some]
    cases hq : q x with
    | true =>
      obtain ⟨i, h1, h2⟩ := ih (fun y hy => h y (List.mem_cons_of_mem _ hy)) (n + 1) (by omega)
      exact ⟨i, h1, by rw [h2, List.all_cons, hq, Bool.true_and]⟩
    | false => exact ⟨n, rfl, by rw [List.all_cons, hq, Bool.false_and, decide_eq_true (show n ≥ 0 from hn)]; rfl⟩
theorem digits_I (l : List UInt8) (h : l.length ≤ 1000) : xBytes_impl_isDigit.f (tx l) = some (l.all isDB) := by
  unfold xBytes_impl_isDigit.f xAll_u8_impl_isDigit.f
  rw [tx_size, if_pos (by omega), bytes_tx, if_pos (by rw [List.length_map]; omega)]
  obtain ⟨i, e, g⟩ := idxO_mem xAll_u8_impl_isDigit.z (fun x => isDB (UInt8.ofNat x.toNat)) (l.map fun b => (b.toNat : Int)) (fun x hx => by
    obtain ⟨b, _, rfl⟩ := List.mem_map.mp hx
    unfold xAll_u8_impl_isDigit.z
    rw [(dig_b b).1, Option.bind_some, Int.toNat_natCast, UInt8.ofNat_toNat]) 0 (by decide)
  rw [e, Option.bind_some, g, List.all_map]
  have e2 : ((fun x : Int => isDB (UInt8.ofNat x.toNat)) ∘ fun b : UInt8 => (b.toNat : Int)) = isDB := by
    funext b
    show isDB (UInt8.ofNat ((b.toNat : Int)).toNat) = isDB b
    rw [Int.toNat_natCast, UInt8.ofNat_toNat]
  rw [e2]
/-- the number of a part, none where it is none -/
def numV (l : List UInt8) : Option Nat := if l = [] then none else Lib.decFrom 0 l
theorem counted_f (K : Nat) (l : List UInt8) (hl : l.length ≤ 9) (hK : 20 ≤ K) : impl_counted.f K (tx l) 9 = some (match numV l with | some v => ((v : Int), true) | none => (0, false)) := by
  have hz := dropZ_len l
  unfold impl_counted.f numV
  rw [trimLeftZ K l (by omega), Option.bind_some, tx_toList]
  by_cases c : l = []
  · rw [if_pos c, if_pos c]
  · rw [if_neg c, if_neg c, tx_size, if_neg (by omega), digits_I _ (by omega), Option.bind_some, dropZ_all]
    cases ha : l.all isDB with
    | false => rw [if_neg (by decide), dec_none l 0 ha]
    | true =>
      obtain ⟨v, h1, h2⟩ := dec_some l 0 ha
      have e48 : (⟨#[48]⟩ : ByteArray) ++ tx (dropZ l) = tx (48 :: dropZ l) := tx_app [48] (dropZ l)
      have hat : Lib.atoi (48 :: dropZ l) = some (v : Int) := by
        show (if ((48 : UInt8) == 45) = true then (Lib.decNat (dropZ l)).map fun (m : Nat) => -(m : Int) else if ((48 : UInt8) == 43) = true then (Lib.decNat (dropZ l)).map fun (m : Nat) => (m : Int) else (Lib.decNat (48 :: dropZ l)).map fun (m : Nat) => (m : Int)) = _
        rw [if_neg (by decide), if_neg (by decide)]
        have : Lib.decNat (48 :: dropZ l) = some v := by
          unfold Lib.decNat
          rw [if_neg (by exact Bool.false_ne_true), dec_cons, if_pos (by decide)]
          have := dropZ_dec l
          rw [h1] at this
          exact this
        rw [this]; rfl
      have hA : strconv_Atoi.f (tx (48 :: dropZ l)) = some ((v : Int), none) := by
        unfold strconv_Atoi.f
        rw [tx_size, if_pos (by rw [List.length_cons]; omega), tx_list, hat]
      rw [if_pos rfl, e48, if_pos (by omega), hA, Option.bind_some, h1]
theorem numstep (a n : Nat) (ha : a < 1000000000) (h1 : 48 ≤ n) (h2 : n ≤ 57) : wrap64 (wrap64 (10 * (a : Int)) + (((n : Int) - 48) % 256)) = ((a * 10 + (n - 48) : Nat) : Int) := by
  rw [w64 (x := 10 * (a : Int)) (by omega) (by omega), w64 (by omega) (by omega)]; omega
theorem powstep (a n x : Nat) (ha : a < x) (h2 : n ≤ 57) : a * 10 + (n - 48) < x * 10 := by omega
theorem p9 (p a : Nat) (h : a < 10 ^ p) (hp : p ≤ 9) : a < 1000000000 := Nat.lt_of_lt_of_le h (Nat.pow_le_pow_right (n := 10) (by decide) hp)
theorem pos9 (p m : Nat) (h : p + (m + 1) ≤ 9) : (p : Int) < (p : Int) + ((m : Int) + 1) ∧ (0 : Int) ≤ (p : Int) ∧ wrap64 (0 + ((p : Int) + ((m : Int) + 1))) = (p : Int) + ((m : Int) + 1) ∧ wrap64 ((p : Int) + 1) = (p : Int) + 1 ∧ p ≤ 9 := by
  refine ⟨by omega, by omega, ?_, w64 (by omega) (by omega), by omega⟩
  rw [w64 (by omega) (by omega)]; omega
theorem pos0 (p : Nat) (h : p ≤ 9) : wrap64 (0 + (p : Int)) = (p : Int) := by rw [w64 (by omega) (by omega)]; omega
theorem lenC (A : List UInt8) (b : UInt8) (M : List UInt8) : (((A ++ b :: M).length : Nat) : Int) = (A.length : Int) + ((M.length : Int) + 1) := by rw [List.length_append, List.length_cons]; omega
theorem number_l : ∀ (M pre : List UInt8) (K a : Nat), (pre ++ M).length ≤ 9 → a < 10 ^ pre.length → M.length < K → spec_l2Number.l0 K (tx (pre ++ M)) 0 (((pre ++ M).length : Nat) : Int) (a : Int) (pre.length : Int) = some (match Lib.decFrom a M with | some v => (v : Int) | none => -1)
  | M, pre, 0, a, _, _, h => absurd h (Nat.not_lt_zero _)
  | [], pre, K + 1, a, hl, ha, h => by
    rw [List.append_nil] at hl ⊢
    unfold spec_l2Number.l0
    rw [pos0 _ hl, if_neg (Int.lt_irrefl _)]; rfl
  | b :: M, pre, K + 1, a, hl, ha, h => by
    have hl2 : pre.length + (M.length + 1) ≤ 9 := by rw [List.length_append, List.length_cons] at hl; exact hl
    obtain ⟨q1, q2, q3, q4, q5⟩ := pos9 pre.length M.length hl2
    have hlen := lenC pre b M
    have hs : ((tx (pre ++ b :: M)).size : Int) = (pre.length : Int) + ((M.length : Int) + 1) := by rw [tx_size]; exact hlen
    have hbt := bt_at pre M b
    have hp9 := p9 _ _ ha q5
    have e1 : pre ++ [b] ++ M = pre ++ b :: M := by simp
    have e2 := lenI pre b
    unfold spec_l2Number.l0
    rw [hlen, q3, hs, hbt, if_pos q1, if_pos q2, if_pos q1, (dig_b b).2.1, Option.bind_some, dec_cons, q4]
    by_cases hb : isDB b = true
    · have hb2 : 48 ≤ b.toNat ∧ b.toNat ≤ 57 := by unfold isDB at hb; simpa using hb
      have ih := number_l M (pre ++ [b]) K (a * 10 + (b.toNat - 48)) (by rw [e1]; exact hl) (by rw [List.length_append, List.length_singleton, Nat.pow_succ]; exact powstep _ _ _ ha hb2.2) (Nat.lt_of_succ_lt_succ h)
      rw [e1, e2, hlen] at ih
      rw [if_pos hb, if_pos hb, numstep a b.toNat hp9 hb2.1 hb2.2, ih]
    · rw [if_neg hb, if_neg hb]
theorem number_f (K : Nat) (l : List UInt8) (hl : l.length ≤ 9) (hK : 20 ≤ K) : spec_l6Number.f K (tx l) = some (match numV l with | some v => (v : Int) | none => -1) := by
  unfold spec_l6Number.f numV
  rw [tx_toList, tx_size, if_neg (by omega)]
  by_cases c : l = []
  · rw [if_pos c, if_pos c]
  · have hn := number_l l [] K 0 (by simpa using hl) (by decide) (by omega)
    unfold spec_l2Number.f
    rw [if_neg c, if_neg c, tx_size, w64 (by omega) (by omega), if_neg (by omega)]
    have hn2 : spec_l2Number.l0 K (tx l) 0 (l.length : Int) 0 0 = some (match Lib.decFrom 0 l with | some v => (v : Int) | none => -1) := hn
    rw [hn2]; rfl
/-- a side of a range: at most nine bytes, or some byte that is no digit -/
def Dig9 (l : List UInt8) : Prop := l.length ≤ 300 ∧ (l.length ≤ 9 ∨ l.all isDB = false)
theorem numV_not (l : List UInt8) (h : l.all isDB = false) : numV l = none := by
  unfold numV
  rw [dec_none l 0 h]
  split <;> rfl
theorem counted_g (K : Nat) (l : List UInt8) (hl : Dig9 l) (hK : 400 ≤ K) : impl_counted.f K (tx l) 9 = some (match numV l with | some v => ((v : Int), true) | none => (0, false)) := by
  rcases hl.2 with h | h
  · exact counted_f K l h (by omega)
  · have hz := dropZ_len l
    have h3 := hl.1
    have hne : l ≠ [] := fun e => by rw [e] at h; cases h
    unfold impl_counted.f
    rw [trimLeftZ K l (by omega), Option.bind_some, tx_toList, if_neg hne, tx_size, numV_not l h]
    by_cases c : ((dropZ l).length : Int) > 9
    · rw [if_pos c]
    · rw [if_neg c, digits_I _ (by omega), Option.bind_some, dropZ_all, h, if_neg (show ¬ false = true by decide)]
theorem number_g (K : Nat) (l : List UInt8) (hl : Dig9 l) (hK : 400 ≤ K) : spec_l6Number.f K (tx l) = some (match numV l with | some v => (v : Int) | none => -1) := by
  by_cases c : l.length ≤ 9
  · exact number_f K l c (by omega)
  · have h := hl.2.resolve_left c
    unfold spec_l6Number.f
    rw [tx_size, if_pos (by omega), numV_not l h]

/-! ### One range -/
theorem first_at (c : UInt8) : ∀ l : List UInt8, c ∉ l ∨ ∃ a b, l = a ++ c :: b ∧ c ∉ a
  | [] => Or.inl (by simp)
  | x :: l => by
    by_cases h : x = c
    · exact Or.inr ⟨[], l, by rw [h]; rfl, by simp⟩
    · rcases first_at c l with h1 | ⟨a, b, h1, h2⟩
      · left; intro hm; rcases List.mem_cons.mp hm with hm | hm
        · exact h hm.symm
        · exact h1 hm
      · right; refine ⟨x :: a, b, by rw [h1]; rfl, ?_⟩
        intro hm; rcases List.mem_cons.mp hm with hm | hm
        · exact h hm.symm
        · exact h2 hm
theorem numV_lt (l : List UInt8) (hd : Dig9 l) (v : Nat) (h : numV l = some v) : v < 1000000000 := by
  unfold numV at h
  by_cases c : l = []
  · rw [if_pos c] at h; cases h
  · rw [if_neg c] at h
    cases ha : l.all isDB with
    | false => rw [dec_none l 0 ha] at h; cases h
    | true =>
      have hl : l.length ≤ 9 := hd.2.resolve_right (fun hh => by rw [ha] at hh; cases hh)
      obtain ⟨w, h1, h2⟩ := dec_some l 0 ha
      rw [h1] at h
      cases h
      have : 10 ^ l.length ≤ 10 ^ 9 := Nat.pow_le_pow_right (by decide) hl
      exact Nat.lt_of_lt_of_le h2 (by rw [Nat.zero_add, Nat.one_mul]; exact this)
theorem numV_nil : numV [] = none := rfl
/-- what a part tells: none: not right; a span, and whether it is there -/
def oneR (a b : List UInt8) (n : Int) : Option (Option (Int × Int)) :=
  match numV a, numV b with
  | none, none => none
  | none, some v => if a = [] then (if (v : Int) = 0 ∨ n = 0 then some none else some (some (if (v : Int) > n then 0 else n - v, n))) else none
  | some u, none => if b = [] then (if (u : Int) ≥ n then some none else some (some (u, n))) else none
  | some u, some v => if v < u then none else (if (u : Int) ≥ n then some none else some (some (u, if (v : Int) + 1 ≤ n then (v : Int) + 1 else n)))
theorem cut45 (a b : List UInt8) (h : (45 : UInt8) ∉ a) (hl : (a ++ 45 :: b).length ≤ 1000) : strings_Cut.f (tx (a ++ 45 :: b)) (⟨#[45]⟩ : ByteArray) = some (tx a, tx b, true) := by
  have e : (⟨#[45]⟩ : ByteArray) = tx [45] := rfl
  unfold strings_Cut.f
  rw [e, tx_size, if_pos (Nat.lt_of_le_of_lt hl (by decide)), tx_list, tx_list, cut_at 45 a b h]
theorem wz (x : Int) (h : -2000000000 ≤ x) (h2 : x ≤ 2000000000) : wrap64 x = x := w64 (by omega) (by omega)
theorem r_mn (v : Nat) (n : Int) (hv : v < 1000000000) : mn (wrap64 ((v : Int) + 1)) n = (if (v : Int) + 1 ≤ n then (v : Int) + 1 else n) := by
  rw [wz _ (by omega) (by omega)]
  unfold mn
  by_cases c : (v : Int) + 1 ≤ n
  · rw [if_pos c, if_neg (by omega)]
  · rw [if_neg c, if_pos (by omega)]
theorem r_mx (v : Nat) (n : Int) (hv : v < 1000000000) (h0 : 0 ≤ n) (h1 : n ≤ 1000000) : mx (wrap64 (n - (v : Int))) 0 = (if (v : Int) > n then 0 else n - v) := by
  rw [wz _ (by omega) (by omega)]
  unfold mx
  by_cases c : (v : Int) > n
  · rw [if_pos c, if_pos (by omega)]
  · rw [if_neg c, if_neg (by omega)]
/-- what impl.rangeOf answers -/
def ansI : Option (Option (Int × Int)) → Option (Int × Int × Bool × Bool) → Prop
  | none, r => r = some (0, 0, false, false)
  | some none, r => ∃ x y, r = some (x, y, false, true)
  | some (some (f, t)), r => r = some (f, t, true, true)
theorem range_I (K : Nat) (a b : List UInt8) (n : Int) (h45 : (45 : UInt8) ∉ a) (ha : Dig9 a) (hb : Dig9 b) (h0 : 0 ≤ n) (h1 : n ≤ 1000000) (hK : 500 ≤ K) : ansI (oneR a b n) (impl_rangeOf.f K (tx (a ++ 45 :: b)) n) := by
  obtain ⟨m, rfl⟩ : ∃ m, K = m + 1 := ⟨K - 1, by omega⟩
  have bad : ∀ (x : Int) (p : Bool) (y : Int) (q : Bool), impl_rangeOf.j0 (m + 1) n x p y q true = some (0, 0, false, false) := fun x p y q => rfl
  have ha1 := ha.1
  have hb1 := hb.1
  have ca := counted_g (m + 1) a ha (by omega)
  have cb := counted_g (m + 1) b hb (by omega)
  have va := numV_lt a ha
  have vb := numV_lt b hb
  have hc := cut45 a b h45 (by rw [List.length_append, List.length_cons]; omega)
  have fin : impl_rangeOf.f (m + 1) (tx (a ++ 45 :: b)) n = impl_rangeOf.f (m + 1) (tx (a ++ 45 :: b)) n := rfl
  unfold impl_rangeOf.f
  rw [hc, Option.bind_some]
  dsimp only
  rw [ca, cb]
  unfold oneR
  cases ea : numV a with
  | none =>
    cases eb : numV b with
    | none =>
      dsimp only [Option.bind_some]
      rw [if_pos rfl, if_neg (show ¬ false = true by decide), tx_toList a]
      show _ = some (0, 0, false, false)
      by_cases c : a = []
      · rw [if_pos c, if_neg (show ¬ false = true by decide)]
        split <;> exact bad _ _ _ _
      · rw [if_neg c]
        exact bad _ _ _ _
    | some v =>
      have hv := vb v eb
      dsimp only [Option.bind_some]
      rw [if_pos rfl, if_neg (show ¬ false = true by decide), tx_toList a]
      by_cases c : a = []
      · rw [if_pos c, if_pos c, if_pos rfl]
        have e : impl_rangeOf.j0 (m + 1) n 0 false (v : Int) true false = some (mx (wrap64 (n - (v : Int))) 0, n, decide (mx (wrap64 (n - (v : Int))) 0 < n), true) := rfl
        rw [e, r_mx v n hv h0 h1]
        by_cases c2 : (v : Int) = 0 ∨ n = 0
        · rw [if_pos c2, decide_eq_false (by split <;> omega)]
          exact ⟨_, _, rfl⟩
        · rw [if_neg c2, decide_eq_true (by split <;> omega)]
          exact rfl
      · rw [if_neg c, if_neg c]
        exact bad _ _ _ _
  | some u =>
    have hu := va u ea
    cases eb : numV b with
    | none =>
      dsimp only [Option.bind_some]
      rw [if_pos rfl, if_pos rfl, if_neg (show ¬ false = true by decide), tx_toList b]
      by_cases c : b = []
      · rw [if_pos c, if_pos c]
        have e : impl_rangeOf.j0 (m + 1) n (u : Int) true 0 false false = some ((u : Int), n, decide ((u : Int) < n), true) := rfl
        rw [e]
        by_cases c2 : (u : Int) ≥ n
        · rw [if_pos c2, decide_eq_false (by omega)]
          exact ⟨_, _, rfl⟩
        · rw [if_neg c2, decide_eq_true (by omega)]
          exact rfl
      · rw [if_neg c, if_neg c]
        exact bad _ _ _ _
    | some v =>
      have hv := vb v eb
      dsimp only [Option.bind_some]
      rw [if_pos rfl, if_pos rfl, if_pos rfl]
      by_cases c : v < u
      · rw [if_pos c, decide_eq_true (by omega)]
        exact bad _ _ _ _
      · rw [if_neg c, decide_eq_false (by omega)]
        have e : impl_rangeOf.j0 (m + 1) n (u : Int) true (v : Int) true false = some ((u : Int), mn (wrap64 ((v : Int) + 1)) n, decide ((u : Int) < mn (wrap64 ((v : Int) + 1)) n), true) := rfl
        rw [e, r_mn v n hv]
        by_cases c2 : (u : Int) ≥ n
        · rw [if_pos c2, decide_eq_false (by split <;> omega)]
          exact ⟨_, _, rfl⟩
        · rw [if_neg c2, decide_eq_true (by split <;> omega)]
          exact rfl

/-! ### A text cut at a byte, by the specification -/
theorem cutS (c : UInt8) (ci : Int) (hc : ci = (c.toNat : Int)) (b : List UInt8) (f : Bool) : ∀ (a pre : List UInt8) (K : Nat), c ∉ a → (pre ++ a).length ≤ 10000 → b.length ≤ 10000 → a.length < K → spec_l1Cut.l0 K (tx (pre ++ (a ++ (if f = true then c :: b else [])))) ci (pre.length : Int) = some (tx (pre ++ a), (if f = true then tx b else (⟨#[]⟩ : ByteArray)), f)
  | a, pre, 0, _, _, _, h => absurd h (by omega)
  | [], pre, K + 1, ha, hl, hb, hK => by
    unfold spec_l1Cut.l0
    cases f with
    | false =>
      rw [if_neg (show ¬ false = true by decide), if_neg (show ¬ false = true by decide), List.append_nil, List.append_nil, tx_size, if_neg (Int.lt_irrefl _)]
    | true =>
      have hpl : pre.length ≤ 10000 := by simpa using hl
      rw [if_pos rfl, if_pos rfl, List.nil_append, List.append_nil]
      have hs : ((tx (pre ++ c :: b)).size : Int) = (pre.length : Int) + 1 + (b.length : Int) := by rw [tx_size]; simp; omega
      rw [hs, bt_at, if_pos (by omega), if_pos (by omega), if_pos hc.symm, if_pos (by omega), w64 (by omega) (by omega), if_pos (by omega), if_pos (by omega), tx_cut, tx_cut]
      have t1 : ((pre ++ c :: b).drop 0).take ((pre.length : Int).toNat - 0) = pre := by rw [List.drop_zero, Int.toNat_natCast, Nat.sub_zero, List.take_left]
      have t2 : ((pre ++ c :: b).drop ((pre.length : Int) + 1).toNat).take ((tx (pre ++ c :: b)).size - ((pre.length : Int) + 1).toNat) = b := by
        have e1 : pre ++ c :: b = (pre ++ [c]) ++ b := by simp
        have e2 : ((pre.length : Int) + 1).toNat = (pre ++ [c]).length := by simp
        rw [tx_size, e1, e2, List.drop_left, List.take_of_length_le (by simp; omega)]
      rw [t1, t2]
  | x :: a, pre, K + 1, ha, hl, hb, hK => by
    have hx : x ≠ c := fun h => ha (h ▸ List.mem_cons_self)
    have hpl : pre.length + (a.length + 1) ≤ 10000 := by simpa using hl
    have ih := cutS c ci hc b f a (pre ++ [x]) K (fun h => ha (List.mem_cons_of_mem _ h)) (by simp; omega) hb (by simp at hK; omega)
    have e1 : ∀ z : List UInt8, pre ++ [x] ++ z = pre ++ x :: z := fun z => by simp
    have e2 : (((pre ++ [x]).length : Nat) : Int) = (pre.length : Int) + 1 := by simp
    rw [e1, e1, e2] at ih
    have hxa : (x :: a) ++ (if f = true then c :: b else []) = x :: (a ++ (if f = true then c :: b else [])) := rfl
    rw [hxa]
    generalize a ++ (if f = true then c :: b else []) = m at ih ⊢
    have hs : ((tx (pre ++ x :: m)).size : Int) = (pre.length : Int) + 1 + (m.length : Int) := by rw [tx_size]; simp; omega
    unfold spec_l1Cut.l0
    rw [hs, bt_at, if_pos (by omega), if_pos (by omega), if_neg (fun hh => hx (UInt8.toNat_inj.mp (by omega))), w64 (by omega) (by omega), ih]
theorem cutS_at (c : UInt8) (ci : Int) (hc : ci = (c.toNat : Int)) (a b : List UInt8) (K : Nat) (ha : c ∉ a) (hl : a.length ≤ 10000) (hb : b.length ≤ 10000) (hK : a.length < K) : spec_l1Cut.f K (tx (a ++ c :: b)) ci = some (tx a, tx b, true) := by
  have := cutS c ci hc b true a [] K ha (by simpa using hl) hb hK
  rw [if_pos rfl, if_pos rfl] at this
  exact this
theorem cutS_none (c : UInt8) (ci : Int) (hc : ci = (c.toNat : Int)) (a : List UInt8) (K : Nat) (ha : c ∉ a) (hl : a.length ≤ 10000) (hK : a.length < K) : spec_l1Cut.f K (tx a) ci = some (tx a, (⟨#[]⟩ : ByteArray), false) := by
  have := cutS c ci hc [] false a [] K ha (by simpa using hl) (by simp) hK
  rw [if_neg (by decide), if_neg (by decide), List.append_nil] at this
  exact this

/-- what spec.l6One answers -/
def ansS : Option (Option (Int × Int)) → Option (Int × Int × Int) → Prop
  | none, r => r = some (0, 0, 2)
  | some none, r => r = some (0, 0, 1)
  | some (some (f, t)), r => r = some (f, t, 0)
theorem range_S (K : Nat) (a b : List UInt8) (n : Int) (h45 : (45 : UInt8) ∉ a) (ha : Dig9 a) (hb : Dig9 b) (h0 : 0 ≤ n) (h1 : n ≤ 1000000) (hK : 500 ≤ K) : ansS (oneR a b n) (spec_l6One.f K (tx (a ++ 45 :: b)) n) := by
  obtain ⟨m, rfl⟩ : ∃ m, K = m + 2 := ⟨K - 2, by omega⟩
  have ha1 := ha.1
  have hb1 := hb.1
  have ca := number_g (m + 2) a ha (by omega)
  have cb := number_g (m + 2) b hb (by omega)
  have va := numV_lt a ha
  have vb := numV_lt b hb
  have hc := cutS_at 45 45 rfl a b (m + 2) h45 (by omega) (by omega) (by omega)
  have w1 : wrap64 (n - 1) = n - 1 := wz _ (by omega) (by omega)
  have w2 : wrap64 (n - 1 + 1) = n := by rw [wz _ (by omega) (by omega)]; omega
  have w0 : wrap64 (n - n) = 0 := by rw [wz _ (by omega) (by omega)]; omega
  have jt : ∀ (l f : Int), spec_l6One.j0 (m + 2) n (tx b) l f true = some (0, 0, 2) := fun l f => rfl
  have jf : ∀ (l f : Int), spec_l6One.j0 (m + 2) n (tx b) l f false = (if b = [] then spec_l6One.j1 (m + 1) n l f true else spec_l6One.j1 (m + 1) n l f (decide (l ≥ n))) := fun l f => by
    unfold spec_l6One.j0
    dsimp only
    rw [if_neg (show ¬ false = true by decide), tx_toList b]
  have j1t : ∀ (l f : Int), spec_l6One.j1 (m + 1) n l f true = (if f ≥ n then some (0, 0, 1) else some (f, n, 0)) := fun l f => by
    unfold spec_l6One.j1
    dsimp only
    rw [if_pos rfl, w1, w2]
  have j1f : ∀ (l f : Int), spec_l6One.j1 (m + 1) n l f false = (if f ≥ n then some (0, 0, 1) else some (f, wrap64 (l + 1), 0)) := fun l f => rfl
  unfold spec_l6One.f
  rw [hc, Option.bind_some]
  dsimp only
  rw [if_pos rfl, cb, Option.bind_some, tx_toList a]
  by_cases c : a = []
  · have ea : numV a = none := by rw [c]; rfl
    rw [if_pos c]
    unfold oneR
    rw [ea]
    cases eb : numV b with
    | none => exact rfl
    | some v =>
      have hv := vb v eb
      dsimp only
      rw [if_pos c, if_neg (show ¬ (v : Int) < 0 by omega)]
      by_cases c1 : (v : Int) > n
      · by_cases c2 : n = 0
        · rw [if_pos (show ((v : Int) = 0 ∨ n = 0) from Or.inr c2)]
          show _ = some (0, 0, 1)
          rw [if_pos c1, if_pos c2]
        · rw [if_neg (show ¬ ((v : Int) = 0 ∨ n = 0) from fun h => h.elim (fun h => by omega) c2)]
          show _ = some ((if (v : Int) > n then (0 : Int) else n - v), n, 0)
          rw [if_pos c1, if_pos c1, if_neg c2, w0]
      · by_cases c2 : (v : Int) = 0
        · rw [if_pos (show ((v : Int) = 0 ∨ n = 0) from Or.inl c2)]
          show _ = some (0, 0, 1)
          rw [if_neg c1, if_pos c2]
        · rw [if_neg (show ¬ ((v : Int) = 0 ∨ n = 0) from fun h => h.elim c2 (fun h => by omega))]
          show _ = some ((if (v : Int) > n then (0 : Int) else n - v), n, 0)
          rw [if_neg c1, if_neg c1, if_neg c2, wz _ (by omega) (by omega)]
  · rw [if_neg c, ca, Option.bind_some]
    unfold oneR
    cases ea : numV a with
    | none =>
      have hr : (if (-1 : Int) < 0 then spec_l6One.j0 (m + 2) n (tx b) (match numV b with | some v => (v : Int) | none => -1) (-1) true else none) = some (0, 0, 2) := by rw [if_pos (by decide), jt]
      dsimp only
      rw [if_pos (by decide), jt]
      cases eb : numV b with
      | none => exact rfl
      | some v =>
        dsimp only
        rw [if_neg c]; exact rfl
    | some u =>
      have hu := va u ea
      dsimp only
      rw [if_neg (show ¬ (u : Int) < 0 by omega), tx_toList b]
      cases eb : numV b with
      | none =>
        dsimp only
        by_cases cb2 : b = []
        · rw [if_pos cb2, if_pos cb2, jf, if_pos cb2, j1t]
          by_cases c2 : (u : Int) ≥ n
          · rw [if_pos c2, if_pos c2]; exact rfl
          · rw [if_neg c2, if_neg c2]; exact rfl
        · rw [if_neg cb2, if_neg cb2, decide_eq_true (by omega), jt]; exact rfl
      | some v =>
        have hv := vb v eb
        have hbn : b ≠ [] := fun h => by rw [h] at eb; cases eb
        dsimp only
        rw [if_neg hbn]
        by_cases c2 : v < u
        · rw [decide_eq_true (by omega), jt, if_pos c2]; exact rfl
        · rw [decide_eq_false (by omega), jf, if_neg hbn, if_neg c2]
          by_cases c3 : (v : Int) ≥ n
          · rw [decide_eq_true c3, j1t, if_neg (show ¬ (v : Int) + 1 ≤ n by omega)]
            by_cases c4 : (u : Int) ≥ n
            · rw [if_pos c4, if_pos c4]; exact rfl
            · rw [if_neg c4, if_neg c4]; exact rfl
          · rw [decide_eq_false c3, j1f, if_neg (show ¬ (u : Int) ≥ n by omega), if_neg (show ¬ (u : Int) ≥ n by omega), if_pos (show (v : Int) + 1 ≤ n by omega), wz _ (by omega) (by omega)]; exact rfl

/-! ### All parts -/
/-- no run of more than nine digits -/
def R9 (T : List UInt8) : Prop := T.length ≤ 300 ∧ ∀ x d y, T = x ++ d ++ y → d.all isDB = true → d.length ≤ 9
theorem R9.dig {T : List UInt8} (h : R9 T) (x d y : List UInt8) (e : T = x ++ d ++ y) : Dig9 d := by
  refine ⟨?_, ?_⟩
  · have := h.1
    rw [e, List.length_append, List.length_append] at this
    omega
  · cases ha : d.all isDB with
    | true => exact Or.inl (h.2 x d y e ha)
    | false => exact Or.inr rfl
noncomputable def partR (T : List UInt8) (n : Int) : Option (Option (Int × Int)) := if (Lib.cut T [45]).2.2 = true then oneR (Lib.cut T [45]).1 (Lib.cut T [45]).2.1 n else none
theorem part_I (K : Nat) (T : List UInt8) (n : Int) (h : R9 T) (h0 : 0 ≤ n) (h1 : n ≤ 1000000) (hK : 500 ≤ K) : ansI (partR T n) (impl_rangeOf.f K (tx T) n) := by
  unfold partR
  rcases first_at 45 T with hm | ⟨a, b, e, ha⟩
  · have hc := cut_none 45 T hm
    have hcf : strings_Cut.f (tx T) (⟨#[45]⟩ : ByteArray) = some (tx T, tx [], false) := by
      have e : (⟨#[45]⟩ : ByteArray) = tx [45] := rfl
      have := h.1
      unfold strings_Cut.f
      rw [e, tx_size, if_pos (by omega), tx_list, tx_list, hc]
    have hT := h.dig [] T [] (by simp)
    have hE : Dig9 ([] : List UInt8) := ⟨by decide, Or.inl (by decide)⟩
    rw [hc, if_neg (show ¬ false = true by decide)]
    unfold impl_rangeOf.f
    rw [hcf, Option.bind_some]
    dsimp only
    rw [counted_g K T hT (by omega), counted_g K [] hE (by omega)]
    dsimp only [Option.bind_some]
    rw [if_neg (show ¬ false = true by decide)]
    obtain ⟨m, rfl⟩ : ∃ m, K = m + 1 := ⟨K - 1, by omega⟩
    exact rfl
  · have hc := cut_at 45 a b ha
    rw [e, hc, if_pos rfl]
    exact range_I K a b n ha (h.dig [] a (45 :: b) (by rw [e]; rfl)) (h.dig (a ++ [45]) b [] (by rw [e]; simp)) h0 h1 hK
theorem part_S (K : Nat) (T : List UInt8) (n : Int) (h : R9 T) (h0 : 0 ≤ n) (h1 : n ≤ 1000000) (hK : 500 ≤ K) : ansS (partR T n) (spec_l6One.f K (tx T) n) := by
  have h3 := h.1
  unfold partR
  rcases first_at 45 T with hm | ⟨a, b, e, ha⟩
  · have hc := cut_none 45 T hm
    rw [hc, if_neg (show ¬ false = true by decide)]
    unfold spec_l6One.f
    rw [cutS_none 45 45 rfl T K hm (by omega) (by omega), Option.bind_some]
    dsimp only
    rw [if_neg (show ¬ false = true by decide)]
    exact rfl
  · have hc := cut_at 45 a b ha
    rw [e, hc, if_pos rfl]
    exact range_S K a b n ha (h.dig [] a (45 :: b) (by rw [e]; rfl)) (h.dig (a ++ [45]) b [] (by rw [e]; simp)) h0 h1 hK
noncomputable def readL (n : Int) : List S47 → List (List UInt8) → List S47 × Int
  | O, [] => if O = [] then ([], 1) else (O, 0)
  | O, T :: r => match partR T n with
    | none => ([], 2)
    | some none => readL n O r
    | some (some p) => readL n (O ++ [⟨p.1, p.2⟩]) r
theorem pos_l (p m : Nat) (h : p + (m + 1) ≤ 1000) : (p : Int) < (p : Int) + ((m : Int) + 1) ∧ (0 : Int) ≤ (p : Int) ∧ wrap64 ((p : Int) + 1) = (p : Int) + 1 := ⟨by omega, by omega, w64 (by omega) (by omega)⟩
theorem rd_mid (pre : List (List UInt8)) (s : List UInt8) (T : List (List UInt8)) : rdOf ByteArray.empty ((pre ++ s :: T).map tx) (pre.length : Int) = tx s := by
  have h : pre.length < ((pre ++ s :: T).map tx).length := by rw [List.length_map, List.length_append, List.length_cons]; omega
  unfold rdOf
  rw [List.getD_eq_getElem?_getD, Int.toNat_natCast, List.getElem?_eq_getElem h, List.getElem_map]
  simp
theorem lenP (A : List (List UInt8)) (b : List UInt8) (M : List (List UInt8)) : (((A ++ b :: M).length : Nat) : Int) = (A.length : Int) + ((M.length : Int) + 1) := by rw [List.length_append, List.length_cons]; omega
theorem oroom (O : List S47) (n : Nat) (h : O.length ≤ n) (h2 : n ≤ 1000) : O.length < 8796093022208 := by omega
theorem read_I (n : Int) (h0 : 0 ≤ n) (h1 : n ≤ 1000000) : ∀ (M pre : List (List UInt8)) (O : List S47) (K : Nat), (∀ T ∈ M, R9 T) → (pre ++ M).length ≤ 1000 → O.length ≤ pre.length → M.length + 501 ≤ K →
    impl_ReadRange.l0 K n O ((pre ++ M).map tx) (((pre ++ M).length : Nat) : Int) (pre.length : Int) = some (readL n O M)
  | M, pre, O, 0, _, _, _, h => absurd h (by omega)
  | [], pre, O, K + 1, _, _, _, _ => by
    unfold impl_ReadRange.l0 readL
    rw [List.append_nil, if_neg (Int.lt_irrefl _)]
    by_cases c : O = []
    · rw [c, if_pos rfl, if_pos (by rfl)]
    · have : ¬ (O.length : Int) = 0 := fun h => c (List.eq_nil_of_length_eq_zero (by omega))
      rw [if_neg c, if_neg this]
  | T :: M, pre, O, K + 1, hM, hl, hO, hK => by
    have hl2 : pre.length + (M.length + 1) ≤ 1000 := by rw [List.length_append, List.length_cons] at hl; exact hl
    obtain ⟨q1, q2, q3⟩ := pos_l pre.length M.length hl2
    have hlen := lenP pre T M
    have hmap : ((((pre ++ T :: M).map tx).length : Nat) : Int) = (pre.length : Int) + ((M.length : Int) + 1) := by rw [List.length_map]; exact hlen
    have hrd := rd_mid pre T M
    have e1 : pre ++ [T] ++ M = pre ++ T :: M := by simp
    have e2 : (((pre ++ [T]).length : Nat) : Int) = (pre.length : Int) + 1 := by simp
    have hK2 : M.length + 501 ≤ K := by rw [List.length_cons] at hK; omega
    have hroom := oroom O pre.length hO (by omega)
    have ih := fun (O' : List S47) (hO' : O'.length ≤ (pre ++ [T]).length) => read_I n h0 h1 M (pre ++ [T]) O' K (fun X hX => hM X (List.mem_cons_of_mem _ hX)) (by rw [e1]; exact hl) hO' hK2
    rw [e1, e2, hlen] at ih
    have hO1 : O.length ≤ (pre ++ [T]).length := by rw [List.length_append]; omega
    have hp := part_I K T n (hM T List.mem_cons_self) h0 h1 (by omega)
    have hr : readL n O (T :: M) = (match partR T n with | none => ([], 2) | some none => readL n O M | some (some p) => readL n (O ++ [⟨p.1, p.2⟩]) M) := rfl
    rw [hr]
    unfold impl_ReadRange.l0
    rw [hlen, hmap, hrd, if_pos q1, if_pos q2, if_pos q1, q3]
    cases hpr : partR T n with
    | none =>
      rw [hpr] at hp
      rw [show impl_rangeOf.f K (tx T) n = some (0, 0, false, false) from hp, Option.bind_some]
      dsimp only
      rw [if_neg (show ¬ false = true by decide)]
    | some r =>
      cases r with
      | none =>
        rw [hpr] at hp
        obtain ⟨x, y, hxy⟩ := hp
        rw [hxy, Option.bind_some]
        dsimp only
        rw [if_pos rfl, if_neg (show ¬ false = true by decide)]
        exact ih O hO1
      | some p =>
        rw [hpr] at hp
        rw [show impl_rangeOf.f K (tx T) n = some (p.1, p.2, true, true) from hp, Option.bind_some]
        dsimp only
        rw [if_pos rfl, if_pos rfl, if_pos hroom]
        exact ih (O ++ [⟨p.1, p.2⟩]) (by rw [List.length_append, List.length_append]; exact Nat.add_le_add hO (Nat.le_refl 1))
theorem read_S (n : Int) (h0 : 0 ≤ n) (h1 : n ≤ 1000000) : ∀ (M pre : List (List UInt8)) (O : List S47) (K : Nat), (∀ T ∈ M, R9 T) → (pre ++ M).length ≤ 1000 → O.length ≤ pre.length → M.length + 501 ≤ K →
    spec_ReadRange.l0 K n O ((pre ++ M).map tx) (((pre ++ M).length : Nat) : Int) (pre.length : Int) = some (readL n O M)
  | M, pre, O, 0, _, _, _, h => absurd h (by omega)
  | [], pre, O, K + 1, _, _, _, _ => by
    unfold spec_ReadRange.l0 readL
    rw [List.append_nil, if_neg (Int.lt_irrefl _)]
    by_cases c : O = []
    · rw [c, if_pos rfl, if_pos (by rfl)]
    · have : ¬ (O.length : Int) = 0 := fun h => c (List.eq_nil_of_length_eq_zero (by omega))
      rw [if_neg c, if_neg this]
  | T :: M, pre, O, K + 1, hM, hl, hO, hK => by
    have hl2 : pre.length + (M.length + 1) ≤ 1000 := by rw [List.length_append, List.length_cons] at hl; exact hl
    obtain ⟨q1, q2, q3⟩ := pos_l pre.length M.length hl2
    have hlen := lenP pre T M
    have hmap : ((((pre ++ T :: M).map tx).length : Nat) : Int) = (pre.length : Int) + ((M.length : Int) + 1) := by rw [List.length_map]; exact hlen
    have hrd := rd_mid pre T M
    have e1 : pre ++ [T] ++ M = pre ++ T :: M := by simp
    have e2 : (((pre ++ [T]).length : Nat) : Int) = (pre.length : Int) + 1 := by simp
    have hK2 : M.length + 501 ≤ K := by rw [List.length_cons] at hK; omega
    have hroom := oroom O pre.length hO (by omega)
    have ih := fun (O' : List S47) (hO' : O'.length ≤ (pre ++ [T]).length) => read_S n h0 h1 M (pre ++ [T]) O' K (fun X hX => hM X (List.mem_cons_of_mem _ hX)) (by rw [e1]; exact hl) hO' hK2
    rw [e1, e2, hlen] at ih
    have hO1 : O.length ≤ (pre ++ [T]).length := by rw [List.length_append]; omega
    have hp := part_S K T n (hM T List.mem_cons_self) h0 h1 (by omega)
    have hr : readL n O (T :: M) = (match partR T n with | none => ([], 2) | some none => readL n O M | some (some p) => readL n (O ++ [⟨p.1, p.2⟩]) M) := rfl
    rw [hr]
    unfold spec_ReadRange.l0
    rw [hlen, hmap, hrd, if_pos q1, if_pos q2, if_pos q1, q3]
    cases hpr : partR T n with
    | none =>
      rw [hpr] at hp
      rw [show spec_l6One.f K (tx T) n = some (0, 0, 2) from hp, Option.bind_some]
      dsimp only
      rw [if_pos rfl]
    | some r =>
      cases r with
      | none =>
        rw [hpr] at hp
        rw [show spec_l6One.f K (tx T) n = some (0, 0, 1) from hp, Option.bind_some]
        dsimp only
        rw [if_neg (by decide), if_neg (by decide)]
        exact ih O hO1
      | some p =>
        rw [hpr] at hp
        rw [show spec_l6One.f K (tx T) n = some (p.1, p.2, 0) from hp, Option.bind_some]
        dsimp only
        rw [if_neg (by decide), if_pos rfl, if_pos hroom]
        exact ih (O ++ [⟨p.1, p.2⟩]) (by rw [List.length_append, List.length_append]; exact Nat.add_le_add hO (Nat.le_refl 1))

/-! ### ReadRange -/
def P6 : List UInt8 := [98, 121, 116, 101, 115, 61]
def pre6 (s : List UInt8) : Bool := s.take 6 == P6
theorem pre6_len (s : List UInt8) (h : pre6 s = true) : 6 ≤ s.length := by
  unfold pre6 at h
  have h2 := congrArg List.length (beq_iff_eq.mp h)
  rw [List.length_take] at h2
  have : P6.length = 6 := rfl
  omega
theorem prefix6 (s : List UInt8) (h : s.length ≤ 1000) : strings_CutPrefix.f (tx s) (⟨#[98, 121, 116, 101, 115, 61]⟩ : ByteArray) = some (if pre6 s = true then (tx (s.drop 6), true) else (tx s, false)) := by
  have e : (⟨#[98, 121, 116, 101, 115, 61]⟩ : ByteArray) = tx P6 := rfl
  have e6 : ((tx P6).size : Int) = 6 := rfl
  unfold strings_CutPrefix.f stringslite_CutPrefix.f stringslite_HasPrefix.f
  rw [e, e6, tx_size, tx_toList P6]
  by_cases c : (s.length : Int) ≥ 6
  · have hx : (tx s).extract 0 (6 : Int).toNat = tx (s.take 6) := by rw [tx_cut]; rfl
    have hd : (tx s).extract (6 : Int).toNat s.length = tx (s.drop 6) := by
      rw [tx_cut]
      show tx ((s.drop 6).take (s.length - 6)) = _
      rw [List.take_of_length_le (by rw [List.length_drop]; exact Nat.le_refl _)]
    rw [if_pos c, if_pos (by decide), if_pos c, hx, tx_toList]
    show ((some (pre6 s)).bind _).bind _ = _
    rw [Option.bind_some]
    cases hp : pre6 s with
    | true => rw [if_pos rfl, if_pos (by decide), if_pos c, hd, if_pos rfl]; rfl
    | false => rw [if_neg (show ¬ false = true by decide), if_neg (show ¬ false = true by decide)]; rfl
  · have hp : pre6 s = false := by
      cases hp : pre6 s with
      | false => rfl
      | true => exact absurd (pre6_len s hp) (by omega)
    rw [if_neg c, hp, if_neg (show ¬ false = true by decide)]
    show ((some false).bind _).bind _ = _
    rw [Option.bind_some, if_neg (show ¬ false = true by decide)]; rfl
theorem addP_mem (cur T : List UInt8) (h : T ∈ addP cur) : T = trimB cur := by
  unfold addP at h
  split at h
  · cases h
  · exact List.mem_singleton.mp h
theorem trimB_infix (l : List UInt8) : ∃ x y, l = x ++ trimB l ++ y := by
  obtain ⟨i, j, h, _⟩ := trimB_form l
  exact ⟨_, _, h⟩
theorem lst_infix (T : List UInt8) : ∀ (M cur : List UInt8), T ∈ lst cur M → ∃ x y, cur ++ M = x ++ T ++ y
  | [], cur, h => by
    have h2 : T ∈ addP cur := h
    rw [addP_mem cur T h2, List.append_nil]
    exact trimB_infix cur
  | b :: M, cur, h => by
    by_cases c : b = 44
    · subst c
      rw [lst_44] at h
      rcases List.mem_append.mp h with h | h
      · rw [addP_mem cur T h]
        obtain ⟨x, y, e⟩ := trimB_infix cur
        exact ⟨x, y ++ 44 :: M, by rw [← List.append_assoc, ← e]⟩
      · obtain ⟨x, y, e⟩ := lst_infix T M [] h
        rw [List.nil_append] at e
        exact ⟨cur ++ [44] ++ x, y, by rw [e]; simp⟩
    · rw [lst_ne cur M b c] at h
      obtain ⟨x, y, e⟩ := lst_infix T M (cur ++ [b]) h
      exact ⟨x, y, by rw [← e]; simp⟩
theorem lst_len : ∀ (M cur : List UInt8), (lst cur M).length ≤ M.length + 1
  | [], cur => by
    show (addP cur).length ≤ _
    unfold addP; split <;> simp
  | b :: M, cur => by
    by_cases c : b = 44
    · subst c
      rw [lst_44, List.length_append]
      have h1 := lst_len M []
      have h2 : (addP cur).length ≤ 1 := by unfold addP; split <;> simp
      rw [List.length_cons]; omega
    · rw [lst_ne cur M b c]
      have := lst_len M (cur ++ [b])
      rw [List.length_cons]; omega
theorem R9.sub {T d : List UInt8} (h : R9 T) (x y : List UInt8) (e : T = x ++ d ++ y) : R9 d := by
  refine ⟨?_, fun x2 d2 y2 e2 ha => h.2 (x ++ x2) d2 (y2 ++ y) (by rw [e, e2]; simp) ha⟩
  have := h.1
  rw [e, List.length_append, List.length_append] at this
  omega
/-- what both answer -/
noncomputable def rr (s : List UInt8) (n : Int) : List S47 × Int := if pre6 s = true ∧ (0 ≤ n ∧ n ≤ 1000000) ∧ 1 ≤ (lst [] (s.drop 6)).length ∧ (lst [] (s.drop 6)).length ≤ 12 then readL n [] (lst [] (s.drop 6)) else ([], 2)
theorem withinR (x a b : Int) : impl_within.f x a b = some (decide (a ≤ x) && decide (x ≤ b)) := by
  unfold impl_within.f
  by_cases c : a ≤ x
  · rw [if_pos c, decide_eq_true c, Bool.true_and]
  · rw [if_neg c, decide_eq_false c, Bool.false_and]
theorem inR (x a b : Int) : spec_l1In.f x a b = some (decide (a ≤ x) && decide (x ≤ b)) := by
  unfold spec_l1In.f
  by_cases c : a ≤ x
  · rw [if_pos c, decide_eq_true c, Bool.true_and]
  · rw [if_neg c, decide_eq_false c, Bool.false_and]
theorem ReadI (K : Nat) (s : List UInt8) (n : Int) (h9 : R9 s) (h34 : (34 : UInt8) ∉ s) (h92 : (92 : UInt8) ∉ s) (hK : 3000 ≤ K) : impl_ReadRange.f K (tx s) n = some (rr s n) := by
  obtain ⟨m, rfl⟩ : ∃ m, K = m + 1 := ⟨K - 1, by omega⟩
  have h3 := h9.1
  have lI : ∀ M : List UInt8, (34 : UInt8) ∉ M → (92 : UInt8) ∉ M → M.length ≤ 300 → impl_listOf.f (m + 1) (tx M) = some ((lst [] M).map tx, true) := fun M a1 a2 a3 => by
    have := listI M (by omega) M [] [] [] (m + 1) rfl a1 a2 (Nat.le_refl _) (by omega)
    exact this
  have jt : ∀ X : List ByteArray, impl_ReadRange.j0 (m + 1) n X true = some ([], 2) := fun X => rfl
  unfold impl_ReadRange.f rr
  rw [prefix6 s (by omega), Option.bind_some]
  cases hp : pre6 s with
  | false =>
    rw [if_neg (show ¬ false = true by decide)]
    dsimp only
    rw [lI s h34 h92 h3, Option.bind_some]
    dsimp only
    rw [if_neg (show ¬ false = true by decide), jt, if_neg (fun h => by cases h.1)]
  | true =>
    have hsub : ∀ x : UInt8, x ∉ s → x ∉ s.drop 6 := fun x hx hm => hx (List.mem_of_mem_drop hm)
    have hdl : (s.drop 6).length ≤ 300 := by rw [List.length_drop]; omega
    have hll := lst_len (s.drop 6) []
    have hml : ((((lst [] (s.drop 6)).map tx).length : Nat) : Int) = ((lst [] (s.drop 6)).length : Int) := by rw [List.length_map]
    rw [if_pos rfl]
    dsimp only
    rw [lI _ (hsub 34 h34) (hsub 92 h92) hdl, Option.bind_some]
    dsimp only
    rw [if_pos rfl, if_pos rfl, withinR, Option.bind_some, hml, withinR, Option.bind_some]
    have hall : ∀ T ∈ lst [] (s.drop 6), R9 T := fun T hT => by
      obtain ⟨x, y, e⟩ := lst_infix T (s.drop 6) [] hT
      rw [List.nil_append] at e
      exact h9.sub (s.take 6 ++ x) y (by rw [List.append_assoc (s.take 6), List.append_assoc (s.take 6), ← e, List.take_append_drop])
    by_cases cn : 0 ≤ n ∧ n ≤ 1000000
    · rw [decide_eq_true cn.1, decide_eq_true cn.2, if_pos (by rfl)]
      by_cases cl : 1 ≤ (lst [] (s.drop 6)).length ∧ (lst [] (s.drop 6)).length ≤ 12
      · rw [if_pos ⟨rfl, cn, cl⟩, decide_eq_true (show (1 : Int) ≤ ((lst [] (s.drop 6)).length : Int) by omega), decide_eq_true (show ((lst [] (s.drop 6)).length : Int) ≤ 12 by omega)]
        have := read_I n cn.1 cn.2 (lst [] (s.drop 6)) [] [] m hall (by rw [List.nil_append]; omega) (Nat.le_refl _) (by omega)
        rw [List.nil_append] at this
        unfold impl_ReadRange.j0
        dsimp only
        rw [if_neg (by decide), hml]
        exact this
      · have hf : (decide ((1 : Int) ≤ ((lst [] (s.drop 6)).length : Int)) && decide (((lst [] (s.drop 6)).length : Int) ≤ 12)) = false := by
          rw [Bool.eq_false_iff]
          simp only [ne_eq, Bool.and_eq_true, decide_eq_true_eq]
          exact fun h => cl ⟨by omega, by omega⟩
        rw [hf, if_neg (fun h => cl h.2.2)]
        exact jt _
    · have hf : (decide (0 ≤ n) && decide (n ≤ 1000000)) = false := by
        rw [Bool.eq_false_iff]
        simp only [ne_eq, Bool.and_eq_true, decide_eq_true_eq]
        exact cn
      rw [hf, if_neg (show ¬ false = true by decide), jt, if_neg (fun h => cn h.2.1)]

/-! ### ReadRange, by the specification -/
theorem pos_p (p m : Nat) (h : p + (m + 1) ≤ 1000) : (p : Int) < (p : Int) + ((m : Int) + 1) ∧ (0 : Int) ≤ (p : Int) ∧ wrap64 ((p : Int) + 1) = (p : Int) + 1 := ⟨by omega, by omega, w64 (by omega) (by omega)⟩
theorem prt (b : UInt8) (h : 32 ≤ b.toNat ∧ b.toNat ≤ 126) : ¬ (b.toNat : Int) < 32 ∧ ¬ (b.toNat : Int) > 126 := by omega
theorem printed_l : ∀ (M pre : List UInt8) (K : Nat), (∀ b ∈ M, 32 ≤ b.toNat ∧ b.toNat ≤ 126) → (pre ++ M).length ≤ 1000 → M.length < K → spec_l3Printed.l0 K (tx (pre ++ M)) (pre.length : Int) = some true
  | M, pre, 0, _, _, h => absurd h (Nat.not_lt_zero _)
  | [], pre, K + 1, _, _, _ => by
    unfold spec_l3Printed.l0
    rw [tx_size, List.append_nil, if_neg (Int.lt_irrefl _)]
  | b :: M, pre, K + 1, hM, hl, hK => by
    have hl2 : pre.length + (M.length + 1) ≤ 1000 := by rw [List.length_append, List.length_cons] at hl; exact hl
    obtain ⟨q1, q2, q3⟩ := pos_p pre.length M.length hl2
    have hs : ((tx (pre ++ b :: M)).size : Int) = (pre.length : Int) + ((M.length : Int) + 1) := by rw [tx_size]; exact lenC pre b M
    have hbt := bt_at pre M b
    have hb := prt b (hM b List.mem_cons_self)
    have e1 : pre ++ [b] ++ M = pre ++ b :: M := by simp
    have ih := printed_l M (pre ++ [b]) K (fun x hx => hM x (List.mem_cons_of_mem _ hx)) (by rw [e1]; exact hl) (Nat.lt_of_succ_lt_succ hK)
    rw [e1, lenI pre b] at ih
    unfold spec_l3Printed.l0
    rw [hs, hbt, if_pos q1, if_pos q2, if_neg hb.1, if_neg hb.2, q3, ih]
theorem ReadS (K : Nat) (s : List UInt8) (n : Int) (h9 : R9 s) (h34 : (34 : UInt8) ∉ s) (h92 : (92 : UInt8) ∉ s) (hp : ∀ b ∈ s, 32 ≤ b.toNat ∧ b.toNat ≤ 126) (hK : 4000 ≤ K) : spec_ReadRange.f K (tx s) n = some (rr s n) := by
  obtain ⟨m, rfl⟩ : ∃ m, K = m + 1 := ⟨K - 1, by omega⟩
  have h3 := h9.1
  have jt : spec_ReadRange.j0 (m + 1) (tx s) n true = some ([], 2) := rfl
  have hpr : spec_l3Printed.f (m + 1) (tx s) = some true := printed_l s [] (m + 1) hp (by rw [List.nil_append]; omega) (by omega)
  unfold spec_ReadRange.f rr
  rw [inR, Option.bind_some]
  by_cases cn : 0 ≤ n ∧ n ≤ 1000000
  · rw [decide_eq_true cn.1, decide_eq_true cn.2, if_pos (by rfl), tx_size]
    by_cases c6 : (s.length : Int) < 6
    · have hp6 : pre6 s = false := by
        cases hq : pre6 s with
        | false => rfl
        | true => exact absurd (pre6_len s hq) (by omega)
      rw [if_pos c6, jt, hp6, if_neg (fun h => by cases h.1)]
    · have hx : (tx s).extract 0 6 = tx (s.take 6) := by rw [tx_cut]; rfl
      rw [if_neg c6, if_pos (by decide), if_pos (show (6 : Int) ≤ (s.length : Int) by omega), hx, tx_toList]
      by_cases cp : s.take 6 = [98, 121, 116, 101, 115, 61]
      · have hp6 : pre6 s = true := beq_iff_eq.mpr cp
        have hd : (tx s).extract 6 (tx s).size = tx (s.drop 6) := by
          rw [tx_cut, tx_size]
          show tx ((s.drop 6).take (s.length - 6)) = _
          rw [List.take_of_length_le (by rw [List.length_drop]; exact Nat.le_refl _)]
        have hdl : (s.drop 6).length ≤ 300 := by rw [List.length_drop]; omega
        have hll := lst_len (s.drop 6) []
        have hml : ((((lst [] (s.drop 6)).map tx).length : Nat) : Int) = ((lst [] (s.drop 6)).length : Int) := by rw [List.length_map]
        have hsub : ∀ x : UInt8, x ∉ s → x ∉ s.drop 6 := fun x hx hm => hx (List.mem_of_mem_drop hm)
        have hall : ∀ T ∈ lst [] (s.drop 6), R9 T := fun T hT => by
          obtain ⟨x, y, e⟩ := lst_infix T (s.drop 6) [] hT
          rw [List.nil_append] at e
          exact h9.sub (s.take 6 ++ x) y (by rw [List.append_assoc (s.take 6), List.append_assoc (s.take 6), ← e, List.take_append_drop])
        have hL : spec_l3List.f m (tx (s.drop 6)) = some ((lst [] (s.drop 6)).map tx, true) := by
          have := listS (s.drop 6) (by omega) (s.drop 6) [] [] [] m rfl (hsub 34 h34) (hsub 92 h92) (Nat.le_refl _) (by omega)
          exact this
        rw [if_pos cp, hpr, Option.bind_some]
        show spec_ReadRange.j0 (m + 1) (tx s) n false = _
        unfold spec_ReadRange.j0
        dsimp only
        rw [if_neg (show ¬ false = true by decide), hd, tx_size, if_pos (show (6 : Int) ≤ (s.length : Int) by omega), hL, Option.bind_some]
        dsimp only
        rw [hml, inR, Option.bind_some]
        by_cases cl : 1 ≤ (lst [] (s.drop 6)).length ∧ (lst [] (s.drop 6)).length ≤ 12
        · rw [if_pos (show pre6 s = true ∧ (0 ≤ n ∧ n ≤ 1000000) ∧ 1 ≤ (lst [] (s.drop 6)).length ∧ (lst [] (s.drop 6)).length ≤ 12 from ⟨hp6, cn, cl⟩), decide_eq_true (show (1 : Int) ≤ ((lst [] (s.drop 6)).length : Int) by omega), decide_eq_true (show ((lst [] (s.drop 6)).length : Int) ≤ 12 by omega)]
          have := read_S n cn.1 cn.2 (lst [] (s.drop 6)) [] [] m hall (by rw [List.nil_append]; omega) (Nat.le_refl _) (by omega)
          rw [List.nil_append] at this
          rw [if_pos (by rfl)]
          exact this
        · have hf : (decide ((1 : Int) ≤ ((lst [] (s.drop 6)).length : Int)) && decide (((lst [] (s.drop 6)).length : Int) ≤ 12)) = false := by
            rw [Bool.eq_false_iff]
            simp only [ne_eq, Bool.and_eq_true, decide_eq_true_eq]
            exact fun h => cl ⟨by omega, by omega⟩
          rw [hf, if_neg (show ¬ false = true by decide), if_neg (fun h => cl h.2.2)]
      · have hp6 : pre6 s = false := beq_eq_false_iff_ne.mpr cp
        rw [if_neg cp, jt, hp6, if_neg (fun h => by cases h.1)]
  · have hf : (decide (0 ≤ n) && decide (n ≤ 1000000)) = false := by
      rw [Bool.eq_false_iff]
      simp only [ne_eq, Bool.and_eq_true, decide_eq_true_eq]
      exact cn
    rw [hf, if_neg (show ¬ false = true by decide), jt, if_neg (fun h => cn h.2.1)]

/-! ### Runs of digits, and what a change does to them: a digit counts 1, another byte -2 -/
def sc : List UInt8 → Int
  | [] => 0
  | b :: r => (if isDB b = true then 1 else -2) + sc r
theorem sc_app (a b : List UInt8) : sc (a ++ b) = sc a + sc b := by
  induction a with
  | nil => show sc b = 0 + sc b; omega
  | cons x a ih => show (if isDB x = true then (1 : Int) else -2) + sc (a ++ b) = _; rw [ih]; show _ = ((if isDB x = true then (1 : Int) else -2) + sc a) + sc b; omega
theorem sc_one (N : List UInt8) (h : N.length ≤ 1) : -2 ≤ sc N ∧ sc N ≤ 1 := by
  match N, h with
  | [], _ => exact ⟨by decide, by decide⟩
  | [b], _ =>
    show -2 ≤ (if isDB b = true then (1 : Int) else -2) + 0 ∧ (if isDB b = true then (1 : Int) else -2) + 0 ≤ 1
    split <;> omega
  | _ :: _ :: _, h => exact absurd h (by simp)
theorem sc_digits (d : List UInt8) (h : d.all isDB = true) : sc d = (d.length : Int) := by
  induction d with
  | nil => rfl
  | cons b d ih =>
    rw [List.all_cons, Bool.and_eq_true] at h
    show (if isDB b = true then (1 : Int) else -2) + sc d = _
    rw [if_pos h.1, ih h.2, List.length_cons]; omega
/-- no piece scores more than c -/
def Q (c : Int) (s : List UInt8) : Prop := ∀ x d y, s = x ++ d ++ y → sc d ≤ c
theorem Q.runs {s : List UInt8} (h : Q 9 s) (hl : s.length ≤ 300) : R9 s := ⟨hl, fun x d y e ha => by
  have := h x d y e
  rw [sc_digits d ha] at this
  omega⟩
theorem Q.mono {c c2 : Int} {s : List UInt8} (h : Q c s) (hc : c ≤ c2) : Q c2 s := fun x d y e => Int.le_trans (h x d y e) hc
theorem sub1 (N e g : List UInt8) (h : N.length ≤ 1) (he : N = e ++ g) : e.length ≤ 1 ∧ g.length ≤ 1 := by
  have : N.length = e.length + g.length := by rw [he, List.length_append]
  omega
/-- one byte (or none) in the place of one (or none) -/
theorem Q.change {c : Int} (hc : 0 ≤ c) (A M N B : List UInt8) (hM : M.length ≤ 1) (hN : N.length ≤ 1) (h : Q c (A ++ M ++ B)) : Q (c + 3) (A ++ N ++ B) := by
  have inA : ∀ x k y, A = x ++ k ++ y → sc k ≤ c := fun x k y e => h x k (y ++ M ++ B) (by rw [e]; simp)
  have inB : ∀ x k y, B = x ++ k ++ y → sc k ≤ c := fun x k y e => h (A ++ M ++ x) k y (by rw [e]; simp)
  have m := sc_one M hM
  have n := sc_one N hN
  intro x d y e
  rw [List.append_assoc, List.append_assoc] at e
  rcases List.append_eq_append_iff.mp e with ⟨k, h1, h2⟩ | ⟨k, h1, h2⟩
  · -- x = A ++ k, N ++ B = k ++ (d ++ y)
    rcases List.append_eq_append_iff.mp h2 with ⟨k2, g1, g2⟩ | ⟨k2, g1, g2⟩
    · -- k = N ++ k2, B = k2 ++ (d ++ y)
      have := inB k2 d y (by rw [g2, List.append_assoc])
      omega
    · -- N = k ++ k2, d ++ y = k2 ++ B
      have hk := sc_one k2 (sub1 N k k2 hN g1).2
      rcases List.append_eq_append_iff.mp g2 with ⟨q, f1, f2⟩ | ⟨q, f1, f2⟩
      · -- k2 = d ++ q
        have := sc_one d (sub1 k2 d q (sub1 N k k2 hN g1).2 f1).1
        omega
      · -- d = k2 ++ q, B = q ++ y
        have := inB [] q y (by rw [f2]; rfl)
        rw [f1, sc_app]; omega
  · -- A = x ++ k, d ++ y = k ++ (N ++ B)
    rcases List.append_eq_append_iff.mp h2 with ⟨k2, g1, g2⟩ | ⟨k2, g1, g2⟩
    · -- k = d ++ k2
      have := inA x d k2 (by rw [h1, g1, List.append_assoc])
      omega
    · -- d = k ++ k2, N ++ B = k2 ++ y
      have hk := inA x k [] (by rw [h1, List.append_nil])
      rcases List.append_eq_append_iff.mp g2 with ⟨q, f1, f2⟩ | ⟨q, f1, f2⟩
      · -- k2 = N ++ q, B = q ++ y
        have := h x (k ++ M ++ q) y (by rw [h1, f2]; simp)
        rw [sc_app, sc_app] at this
        rw [g1, f1, sc_app, sc_app]; omega
      · -- N = k2 ++ q
        have := sc_one k2 (sub1 N k2 q hN f1).1
        rw [g1, sc_app]; omega

/-! ### The text before it is changed: blocks of at most two digits, each with a byte behind that is none -/
def Z (s : List UInt8) : Prop := Q 2 s ∧ ∀ x d, s = x ++ d → sc d ≤ 0
theorem Z.nil : Z [] := ⟨fun x d y e => by
  have h := List.append_eq_nil_iff.mp e.symm
  rw [(List.append_eq_nil_iff.mp h.1).2]; decide, fun x d e => by
  have h := List.append_eq_nil_iff.mp e.symm
  rw [h.2]; decide⟩
theorem sc_le (d : List UInt8) : sc d ≤ (d.length : Int) := by
  induction d with
  | nil => exact Int.le_refl _
  | cons b d ih =>
    show (if isDB b = true then (1 : Int) else -2) + sc d ≤ _
    rw [List.length_cons]
    split <;> omega
theorem Z.blk {s : List UInt8} (h : Z s) (r : List UInt8) (b : UInt8) (hr : r.length ≤ 2) (hb : isDB b = false) : Z (s ++ (r ++ [b])) := by
  have sb : sc [b] = -2 := by
    show (if isDB b = true then (1 : Int) else -2) + 0 = -2
    rw [hb, if_neg (show ¬ false = true by decide)]; rfl
  -- a front piece of the block
  have front : ∀ d y, r ++ [b] = d ++ y → sc d ≤ 2 := fun d y e => by
    rcases List.append_eq_append_iff.mp e with ⟨k, h1, h2⟩ | ⟨k, h1, h2⟩
    · -- d = r ++ k, [b] = k ++ y
      have hk : k = [] ∨ k = [b] := by
        cases k with
        | nil => exact Or.inl rfl
        | cons z k2 =>
          have := List.cons.inj h2
          have h3 := List.append_eq_nil_iff.mp this.2.symm
          rw [h3.1, ← this.1]; exact Or.inr rfl
      have := sc_le r
      rw [h1, sc_app]
      rcases hk with hk | hk
      · rw [hk]; show sc r + 0 ≤ 2; omega
      · rw [hk, sb]; omega
    · have hl : r.length = d.length + k.length := by rw [h1, List.length_append]
      have := sc_le d
      omega
  have suf : ∀ x d, r ++ [b] = x ++ d → sc d ≤ 0 := fun x d e => by
    rcases List.append_eq_append_iff.mp e with ⟨k, h1, h2⟩ | ⟨k, h1, h2⟩
    · -- x = r ++ k, [b] = k ++ d
      cases k with
      | nil => rw [List.nil_append] at h2; rw [← h2, sb]; decide
      | cons z k2 =>
        have := List.cons.inj h2
        have h3 := List.append_eq_nil_iff.mp this.2.symm
        rw [h3.2]; decide
    · -- r = x ++ k, d = k ++ [b]
      have hl : r.length = x.length + k.length := by rw [h1, List.length_append]
      have := sc_le k
      rw [h2, sc_app, sb]; omega
  refine ⟨fun x d y e => ?_, fun x d e => ?_⟩
  · rw [List.append_assoc x] at e
    rcases List.append_eq_append_iff.mp e with ⟨k, h1, h2⟩ | ⟨k, h1, h2⟩
    · -- x = s ++ k, block = k ++ (d ++ y)
      have hl : r.length + 1 = k.length + (d.length + y.length) := by
        have := congrArg List.length h2
        rw [List.length_append, List.length_append, List.length_append, List.length_singleton] at this
        exact this
      have := suf k (d ++ y) h2
      by_cases hy : y = []
      · rw [hy, List.append_nil] at this; omega
      · have hyl : 0 < y.length := List.length_pos_iff.mpr hy
        have := sc_le d
        omega
    · -- s = x ++ k, d ++ y = k ++ block
      rcases List.append_eq_append_iff.mp h2 with ⟨q, g1, g2⟩ | ⟨q, g1, g2⟩
      · -- k = d ++ q
        exact h.1 x d q (by rw [h1, g1, List.append_assoc])
      · -- d = k ++ q, block = q ++ y
        have h3 := h.2 x k h1
        have h4 := front q y g2
        rw [g1, sc_app]; omega
  · rcases List.append_eq_append_iff.mp e with ⟨k, h1, h2⟩ | ⟨k, h1, h2⟩
    · exact suf k d h2
    · -- s = x ++ k, d = k ++ block
      have h3 := h.2 x k h1
      have h4 := suf [] (r ++ [b]) rfl
      rw [h2, sc_app]; omega

theorem bytes_of (l : List Int) (h : ∀ x ∈ l, (Lit.int .u8 x).wf = true) : ∀ x ∈ l, 0 ≤ x ∧ x ≤ 255 := by
  intro x hx
  have := h x hx
  simp [Lit.wf, IntKind.min, IntKind.max, IntKind.bits, IntKind.signed] at this
  omega

/-! The cursor that draws an argument out of bytes -/
theorem and255 (y : Int) (h0 : 0 ≤ y) (h1 : y < 18446744073709551616) : bits .and .u64 y 255 = y % 256 := bits_mask .u64 64 (by decide) wraps_u64 8 (by decide) y h0 h1
theorem and255_range (s : Int) : 0 ≤ bits .and .u64 ((IntKind.u64.wrap s) / 1099511627776) 255 ∧ bits .and .u64 ((IntKind.u64.wrap s) / 1099511627776) 255 ≤ 255 := by
  have h : IntKind.u64.wrap s = s % 18446744073709551616 := IntKind.wrap_u64 s
  rw [h, and255 _ (by omega) (by omega)]
  omega
theorem rd_byte (l : List Int) (hc : ∀ x ∈ l, 0 ≤ x ∧ x ≤ 255) (i : Int) (h0 : 0 ≤ i) (h1 : i < l.length) : 0 ≤ rd l i ∧ rd l i ≤ 255 := by
  obtain ⟨n, rfl⟩ : ∃ n : Nat, i = (n : Int) := ⟨i.toNat, by omega⟩
  rw [rd_nat l n (by omega)]
  exact hc _ (List.getElem_mem _)
theorem next_ok (code : List Int) (hc : ∀ x ∈ code, 0 ≤ x ∧ x ≤ 255) (hb : code.length < 4611686018427387904) (a s : Int) (h0 : 0 ≤ a) (h1 : a < 4611686018427387904) :
    ∃ b s', spec_l1Cur_next.f code a s = some (b, a + 1, s') ∧ 0 ≤ b ∧ b ≤ 255 := by
  have hw : wrap64 (a + 1) = a + 1 := w64 (by omega) (by omega)
  unfold spec_l1Cur_next.f
  rw [hw]
  by_cases c : a < (code.length : Int)
  · have hr := rd_byte code hc a h0 c
    rw [if_pos c, if_pos h0, if_pos (by omega)]
    exact ⟨_, _, rfl, by rw [w64 (by omega) (by omega)]; exact hr⟩
  · rw [if_neg c, if_neg (by omega)]
    refine ⟨_, _, rfl, ?_⟩
    have hr := and255_range ((IntKind.u64.wrap (IntKind.u64.wrap (s * 6364136223846793005))) + 1442695040888963407)
    rw [w64 (by omega) (by omega)]
    exact hr
theorem tmod_range (x n : Int) (h : 0 ≤ x) (hn : 0 < n) : 0 ≤ Int.tmod x n ∧ Int.tmod x n < n := ⟨Int.tmod_nonneg n h, Int.tmod_lt_of_pos x hn⟩
theorem pick_ok (code : List Int) (hc : ∀ x ∈ code, 0 ≤ x ∧ x ≤ 255) (hb : code.length < 4611686018427387904) (a s n : Int) (h0 : 0 ≤ a) (h1 : a < 4611686018427380000) :
    ∃ v a' s', spec_l1Cur_pick.f code a s n = some (v, a', s') ∧ 0 ≤ v ∧ (v < n ∨ v = 0) ∧ a ≤ a' ∧ a' ≤ a + 2 := by
  unfold spec_l1Cur_pick.f
  by_cases c : n ≤ 1
  · rw [if_pos c]
    exact ⟨0, a, s, rfl, by omega, by omega, by omega, by omega⟩
  · rw [if_neg c]
    obtain ⟨b, s1, e1, hb0, hb1⟩ := next_ok code hc hb a s h0 (by omega)
    rw [e1, Option.bind_some]
    by_cases c2 : n > 200
    · rw [if_pos c2]
      obtain ⟨b2, s2, e2, hb2, hb3⟩ := next_ok code hc hb (a + 1) s1 (by omega) (by omega)
      try dsimp only
      rw [e2, Option.bind_some, if_neg (by omega)]
      have hw1 : wrap64 (b * 256) = b * 256 := w64 (by omega) (by omega)
      have hw2 : wrap64 (b * 256 + b2) = b * 256 + b2 := w64 (by omega) (by omega)
      have hr := tmod_range (b * 256 + b2) n (by omega) (by omega)
      refine ⟨_, _, _, rfl, ?_⟩
      simp only [hw1, hw2]
      exact ⟨hr.1, Or.inl hr.2, by omega, by omega⟩
    · rw [if_neg c2, if_neg (by omega)]
      have hr := tmod_range b n (by omega) (by omega)
      refine ⟨_, _, _, rfl, hr.1, Or.inl hr.2, ?_, ?_⟩ <;> dsimp only <;> omega
theorem one_ok (code : List Int) (hc : ∀ x ∈ code, 0 ≤ x ∧ x ≤ 255) (hb : code.length < 4611686018427387904) (a s n : Int) (h0 : 0 ≤ a) (h1 : a < 4611686018427380000) :
    ∃ v a' s', spec_l1Cur_one.f code a s n = some (v, a', s') ∧ a ≤ a' ∧ a' ≤ a + 2 := by
  unfold spec_l1Cur_one.f
  obtain ⟨v, a', s', e, h⟩ := pick_ok code hc hb a s n h0 h1
  rw [e, Option.bind_some]
  exact ⟨_, _, _, rfl, h.2.2⟩

/-! One of some texts -/
theorem of_ok (code : List Int) (hc : ∀ x ∈ code, 0 ≤ x ∧ x ≤ 255) (hb : code.length < 4611686018427387904) (l : List ByteArray) (hl : 0 < l.length) (a s : Int) (h0 : 0 ≤ a) (h1 : a < 4611686018427380000) :
    ∃ v a' s', spec_l1Cur_of.f code a s l = some (v, a', s') ∧ v ∈ l ∧ a ≤ a' ∧ a' ≤ a + 2 := by
  unfold spec_l1Cur_of.f
  obtain ⟨v, a', s', e, h⟩ := pick_ok code hc hb a s (l.length : Int) h0 h1
  rw [e, Option.bind_some, if_pos h.1]
  have c : v < (l.length : Int) := by omega
  try dsimp only
  rw [if_pos c]
  refine ⟨_, _, _, rfl, ?_, h.2.2⟩
  unfold rdOf
  rw [List.getD_eq_getElem?_getD, List.getElem?_eq_getElem (show v.toNat < l.length by omega)]
  exact List.getElem_mem _

/-! ### One of some numbers -/
theorem among_ok (code : List Int) (hc : ∀ x ∈ code, 0 ≤ x ∧ x ≤ 255) (hb : code.length < 4611686018427387904) (l : List Int) (hl : 0 < l.length) (a s : Int) (h0 : 0 ≤ a) (h1 : a < 4611686018427380000) :
    ∃ v a' s', spec_l1Cur_among.f code a s l = some (v, a', s') ∧ v ∈ l ∧ a ≤ a' ∧ a' ≤ a + 2 := by
  unfold spec_l1Cur_among.f
  obtain ⟨v, a', s', e, h⟩ := pick_ok code hc hb a s (l.length : Int) h0 h1
  rw [e, Option.bind_some, if_pos h.1]
  have c : v < (l.length : Int) := by omega
  try dsimp only
  rw [if_pos c]
  refine ⟨_, _, _, rfl, ?_, h.2.2⟩
  unfold rd
  rw [List.getD_eq_getElem?_getD, List.getElem?_eq_getElem (show v.toNat < l.length by omega)]
  exact List.getElem_mem _

/-! ### A text with a byte more, less, or another one -/
def okR (b : UInt8) : Prop := 32 ≤ b.toNat ∧ b.toNat ≤ 126 ∧ b ≠ 34 ∧ b ≠ 92
def Inv (c : Int) (L : Nat) (s : List UInt8) : Prop := Q c s ∧ (∀ b ∈ s, okR b) ∧ s.length ≤ L
def wR : List UInt8 := [45, 44, 48, 98, 61]
theorem wR_ok : ∀ b ∈ wR, okR b := by
  intro b hb
  have : b = 45 ∨ b = 44 ∨ b = 48 ∨ b = 98 ∨ b = 61 := by simpa [wR] using hb
  rcases this with h | h | h | h | h <;> subst h <;> exact ⟨by decide, by decide, by decide, by decide⟩
theorem Inv.change {c : Int} {L : Nat} (hc : 0 ≤ c) (A M N B : List UInt8) (hM : M.length ≤ 1) (hN : N.length ≤ 1) (hNo : ∀ b ∈ N, okR b) (h : Inv c L (A ++ M ++ B)) : Inv (c + 3) (L + 1) (A ++ N ++ B) := by
  refine ⟨Q.change hc A M N B hM hN h.1, fun b hb => ?_, ?_⟩
  · rcases List.mem_append.mp hb with hb | hb
    · rcases List.mem_append.mp hb with hb | hb
      · exact h.2.1 b (List.mem_append_left _ (List.mem_append_left _ hb))
      · exact hNo b hb
    · exact h.2.1 b (List.mem_append_right _ hb)
  · have := h.2.2
    rw [List.length_append, List.length_append] at this ⊢
    omega
theorem at_dec (s : List UInt8) (i : Nat) (h : i < s.length) : ∃ A x B, s = A ++ x :: B ∧ A.length = i := by
  refine ⟨s.take i, s[i], s.drop (i + 1), ?_, by rw [List.length_take]; omega⟩
  rw [List.getElem_cons_drop, List.take_append_drop]
theorem cutA (A : List UInt8) (x : UInt8) (B : List UInt8) : (tx (A ++ x :: B)).extract 0 (A.length : Int).toNat = tx A ∧ (tx (A ++ x :: B)).extract (A.length : Int).toNat (tx (A ++ x :: B)).size = tx (x :: B) ∧ (tx (A ++ x :: B)).extract ((A.length : Int) + 1).toNat (tx (A ++ x :: B)).size = tx B := by
  refine ⟨?_, ?_, ?_⟩
  · rw [tx_cut, List.drop_zero, Int.toNat_natCast, Nat.sub_zero, List.take_left]
  · rw [tx_cut, tx_size, Int.toNat_natCast, List.drop_left, List.take_of_length_le (by rw [List.length_append]; omega)]
  · have e1 : A ++ x :: B = (A ++ [x]) ++ B := by simp
    have e2 : ((A.length : Int) + 1).toNat = (A ++ [x]).length := by rw [List.length_append, List.length_singleton]; omega
    rw [tx_cut, tx_size, e1, e2, List.drop_left, List.take_of_length_le (by rw [List.length_append]; omega)]
theorem rndN (x y w t : Nat) (h1 : x ≤ 400) (h2 : y ≤ 400) (hw : w = 1) (ht : t = x + (y + 1)) : x + w ≤ 9223372036854775807 ∧ (x + w) + (y + 1) ≤ 9223372036854775807 ∧ (x + w) + y ≤ 9223372036854775807 ∧ x + y ≤ 9223372036854775807 ∧ (0 : Int) ≤ (x : Int) ∧ (x : Int) ≤ (t : Int) ∧ wrap64 ((x : Int) + 1) = (x : Int) + 1 ∧ (0 : Int) ≤ (x : Int) + 1 ∧ (x : Int) + 1 ≤ (t : Int) := ⟨by omega, by omega, by omega, by omega, by omega, by omega, w64 (by omega) (by omega), by omega, by omega⟩
theorem rnd (A : List UInt8) (x : UInt8) (B w : List UInt8) (h1 : A.length ≤ 400) (h2 : B.length ≤ 400) (hw : w.length = 1) : (tx A).size + (tx w).size ≤ 9223372036854775807 ∧ (tx (A ++ w)).size + (tx (x :: B)).size ≤ 9223372036854775807 ∧ (tx (A ++ w)).size + (tx B).size ≤ 9223372036854775807 ∧ (tx A).size + (tx B).size ≤ 9223372036854775807 ∧ (0 : Int) ≤ (A.length : Int) ∧ (A.length : Int) ≤ ((tx (A ++ x :: B)).size : Int) ∧ wrap64 ((A.length : Int) + 1) = (A.length : Int) + 1 ∧ (0 : Int) ≤ (A.length : Int) + 1 ∧ (A.length : Int) + 1 ≤ ((tx (A ++ x :: B)).size : Int) := by
  simp only [tx_size, List.length_append, List.length_cons]
  exact rndN A.length B.length w.length _ h1 h2 hw rfl
theorem wr1 (n : Nat) (h : n ≤ 1000) : wrap64 (((n + 1 : Nat) : Int) - 1) = (n : Int) := by rw [w64 (by omega) (by omega)]; omega
theorem natOf (v : Int) (n : Nat) (h0 : 0 ≤ v) (h1 : v < (n : Int) ∨ v = 0) (hn : 0 < n) : ∃ i : Nat, v = (i : Int) ∧ i < n := ⟨v.toNat, by omega, by omega⟩
theorem lenAB {A B s : List UInt8} {x : UInt8} {m : Nat} (h : s = A ++ x :: B) (hl : s.length ≤ m) : A.length ≤ m ∧ B.length ≤ m := by
  rw [h, List.length_append, List.length_cons] at hl
  omega
theorem aw6 (a a1 a2 a3 : Int) (h0 : 0 ≤ a) (h : a ≤ 2000) (h1 : a ≤ a1 ∧ a1 ≤ a + 2) (h2 : a1 ≤ a2 ∧ a2 ≤ a1 + 2) (h3 : a2 ≤ a3 ∧ a3 ≤ a2 + 2) : a ≤ a3 ∧ a3 ≤ a + 6 := by omega
theorem aw2 (a a1 : Int) (m : Int) (h0 : 0 ≤ a) (h : a ≤ m) (hm : m ≤ 100000) (h1 : a ≤ a1 ∧ a1 ≤ a + 2) : 0 ≤ a1 ∧ a1 ≤ m + 2 ∧ a1 < 4611686018427380000 := by omega
theorem aw0 (a : Int) (m : Int) (h : a ≤ m) (hm : m ≤ 100000) : a < 4611686018427380000 := by omega
theorem byte_w (j : Nat) (hj : j < wR.length) : strOfNums [bt (tx wR) (j : Int)] = tx [wR[j]] := by
  rw [bt_tx wR j hj]
  show tx [UInt8.ofNat ((wR[j].toNat : Int)).toNat] = _
  rw [Int.toNat_natCast, UInt8.ofNat_toNat]
theorem sizeI (s : List UInt8) : ((tx s).size : Int) = (s.length : Int) := by rw [tx_size]
theorem spoilt_round (code : List Int) (hcd : ∀ x ∈ code, 0 ≤ x ∧ x ≤ 255) (hb : code.length < 4611686018427387904) (K n : Nat) (s : List UInt8) (c : Int) (L : Nat) (a st : Int) (hs0 : s ≠ []) (hl : s.length ≤ 400) (hn : n ≤ 1000) (hc : 0 ≤ c) (hi : Inv c L s) (h0 : 0 ≤ a) (h1 : a ≤ 2000) :
    ∃ s' a' st', spec_l1Cur_spoilt.j1 (K + 1) (tx s) (tx wR) ((n + 1 : Nat) : Int) true code a st = spec_l1Cur_spoilt.l0 K (tx s') (tx wR) (n : Int) code a' st' ∧ Inv (c + 3) (L + 1) s' ∧ a ≤ a' ∧ a' ≤ a + 6 := by
  have hlen : 0 < s.length := List.length_pos_iff.mpr hs0
  obtain ⟨v1, a1, s1, e1, p1, p2, p3⟩ := pick_ok code hcd hb a st ((tx s).size : Int) h0 (aw0 a 2000 h1 (by decide))
  obtain ⟨b1, b2, b3⟩ := aw2 a a1 2000 h0 h1 (by decide) p3
  obtain ⟨v2, a2, s2, e2, q1, q2, q3⟩ := pick_ok code hcd hb a1 s1 ((tx wR).size : Int) b1 b3
  obtain ⟨d1, d2, d3⟩ := aw2 a1 a2 2002 b1 b2 (by decide) q3
  obtain ⟨v3, a3, s3, e3, r1, r2, r3⟩ := pick_ok code hcd hb a2 s2 3 d1 d3
  obtain ⟨f1, f2⟩ := aw6 a a1 a2 a3 h0 h1 p3 q3 r3
  clear b1 b2 b3 d1 d2 d3 p3 q3 r3
  rw [sizeI] at p2 q2
  obtain ⟨i, rfl, hi2⟩ := natOf v1 s.length p1 p2 hlen
  obtain ⟨j, rfl, hj⟩ := natOf v2 wR.length q1 q2 (by decide)
  obtain ⟨A, x, B, hAB, hA⟩ := at_dec s i hi2
  obtain ⟨lA, lB⟩ := lenAB hAB hl
  subst hA
  subst hAB
  obtain ⟨x1, x2, x3⟩ := cutA A x B
  have hw := byte_w j hj
  have hwo : ∀ b ∈ [wR[j]], okR b := fun b hb2 => by rw [List.mem_singleton.mp hb2]; exact wR_ok _ (List.getElem_mem hj)
  generalize wR[j] = w at hw hwo
  obtain ⟨g1, g2, g3, g4, g5, g6, g7, g8, g9⟩ := rnd A x B [w] lA lB rfl
  have hj5 : (j : Int) < ((tx wR).size : Int) := by rw [sizeI]; exact Int.ofNat_lt.mpr hj
  clear p1 p2 q2 hlen hi2 h0 h1 hl lA lB
  unfold spec_l1Cur_spoilt.j1
  rw [if_pos rfl, e1, Option.bind_some]
  dsimp only
  rw [e2, Option.bind_some]
  dsimp only
  rw [if_pos q1, if_pos hj5, Option.bind_some, e3, Option.bind_some]
  dsimp only
  rw [hw, x1, x2, g7, x3, wr1 n hn]
  by_cases c1 : v3 = 0
  · rw [if_pos c1, if_pos g5, if_pos g6, if_pos g1, tx_app A, if_pos g2, tx_app (A ++ [w])]
    exact ⟨_, _, _, rfl, Inv.change hc A [] [w] (x :: B) (by decide) (Nat.le_refl 1) hwo (by rw [List.append_nil]; exact hi), f1, f2⟩
  · rw [if_neg c1]
    have hx : Inv c L (A ++ [x] ++ B) := by rw [List.append_assoc]; exact hi
    by_cases c2 : v3 = 1
    · rw [if_pos c2, if_pos g5, if_pos g6, if_pos g1, if_pos g8, if_pos g9, tx_app A, if_pos g3, tx_app (A ++ [w])]
      exact ⟨_, _, _, rfl, Inv.change hc A [x] [w] B (Nat.le_refl 1) (Nat.le_refl 1) hwo hx, f1, f2⟩
    · rw [if_neg c2, if_pos g5, if_pos g6, if_pos g8, if_pos g9, if_pos g4, tx_app A]
      have := Inv.change hc A [x] [] B (Nat.le_refl 1) (by decide) (fun b hb2 => by cases hb2) hx
      rw [List.append_nil] at this
      exact ⟨_, _, _, rfl, this, f1, f2⟩
theorem dpos (s : List UInt8) (h : s ≠ []) : decide (((tx s).size : Int) > 0) = true := by
  have : 0 < s.length := List.length_pos_iff.mpr h
  rw [sizeI]; exact decide_eq_true (Int.ofNat_lt.mpr this)
theorem spoilt_l (code : List Int) (hcd : ∀ x ∈ code, 0 ≤ x ∧ x ≤ 255) (hb : code.length < 4611686018427387904) :
    ∀ (n K : Nat) (s : List UInt8) (c : Int) (L : Nat) (a st : Int), 2 * n + 2 ≤ K → 0 ≤ c → L + n ≤ 300 → Inv c L s → 0 ≤ a → a + 6 * n ≤ 2000 →
      ∃ s' a' st', spec_l1Cur_spoilt.l0 K (tx s) (tx wR) (n : Int) code a st = some (tx s', a', st') ∧ Inv (c + 3 * n) (L + n) s' ∧ 0 ≤ a' ∧ a' ≤ a + 6 * n
  | n, 0, s, c, L, a, st, h, _, _, _, _, _ => absurd h (by omega)
  | n, 1, s, c, L, a, st, h, _, _, _, _, _ => absurd h (by omega)
  | 0, K + 2, s, c, L, a, st, h, hc, hL, hi, h0, h1 => by
    unfold spec_l1Cur_spoilt.l0
    rw [if_neg (by omega)]
    unfold spec_l1Cur_spoilt.j1
    rw [if_neg (show ¬ false = true by decide)]
    have e1 : c + 3 * ((0 : Nat) : Int) = c := by omega
    exact ⟨s, a, st, rfl, by rw [e1]; exact hi, h0, by omega⟩
  | n + 1, K + 2, s, c, L, a, st, h, hc, hL, hi, h0, h1 => by
    have y1 : c + 3 + 3 * (n : Int) = c + 3 * ((n + 1 : Nat) : Int) := by omega
    have y2 : L + 1 + n = L + (n + 1) := by omega
    have y3 : c ≤ c + 3 * ((n + 1 : Nat) : Int) := by omega
    have hp : ((n + 1 : Nat) : Int) > 0 := by omega
    unfold spec_l1Cur_spoilt.l0
    rw [if_pos hp]
    by_cases hs0 : s = []
    · have hd : decide (((tx s).size : Int) > 0) = false := by rw [hs0]; decide
      unfold spec_l1Cur_spoilt.j1
      rw [hd, if_neg (show ¬ false = true by decide)]
      have hl := hi.2.2
      exact ⟨s, a, st, rfl, ⟨hi.1.mono y3, hi.2.1, Nat.le_trans hl (by omega)⟩, h0, by omega⟩
    · have hl : s.length ≤ 400 := Nat.le_trans hi.2.2 (by omega)
      obtain ⟨s', a', st', e, hi', k1, k2⟩ := spoilt_round code hcd hb K n s c L a st hs0 hl (by omega) hc hi h0 (by omega)
      rw [dpos s hs0, e]
      obtain ⟨s'', a'', st'', z1, z2, z3, z4⟩ := spoilt_l code hcd hb n K s' (c + 3) (L + 1) a' st' (by omega) (by omega) (by omega) hi' (by omega) (by omega)
      rw [y1, y2] at z2
      exact ⟨s'', a'', st'', z1, z2, z3, by omega⟩

/-! ### Numerals of at most seven digits -/
theorem itoa_f (n : Int) (h0 : 0 ≤ n) (h1 : n < 10000000) : strconv_Itoa.f n = some (tx (Lib.itoa n)) := by
  unfold strconv_Itoa.f
  rw [if_pos h0, if_pos h1]
theorem itoa_len (n : Int) (h0 : 0 ≤ n) (h1 : n < 10000000) : (Lib.itoa n).length ≤ 7 := by
  obtain ⟨u, rfl⟩ : ∃ u : Nat, n = (u : Int) := ⟨n.toNat, by omega⟩
  rw [Lib.itoa_nonneg]
  exact dec_len u 6 (by omega)
theorem num_u : ∀ (k u : Nat), u < 10 ^ (k + 1) → u < 10000000 → spec_l1Num.f (k + 1) (u : Int) = some (tx (Lib.decDigits u))
  | k, u, h, h2 => by
    unfold spec_l1Num.f Lib.decDigits
    by_cases c : u < 10
    · rw [if_pos (by omega), dif_pos c, w64 (by omega) (by omega)]
      have : ((48 + (u : Int)) % 256).toNat = 48 + u := by omega
      show some (tx [UInt8.ofNat ((48 + (u : Int)) % 256).toNat]) = _
      rw [this]
    · rw [if_neg (by omega), dif_neg c]
      have e1 : Int.tdiv (u : Int) 10 = ((u / 10 : Nat) : Int) := by rw [Int.tdiv_eq_ediv_of_nonneg (by omega)]; omega
      have e2 : Int.tmod (u : Int) 10 = ((u % 10 : Nat) : Int) := by rw [Int.tmod_eq_emod_of_nonneg (by omega)]; omega
      rw [e1, e2, w64 (by omega) (by omega), w64 (by omega) (by omega)]
      match k, h with
      | 0, h => exact absurd h (by omega)
      | k + 1, h =>
        rw [num_u k (u / 10) (by rw [Nat.pow_succ] at h; omega) (by omega), Option.bind_some, Option.bind_some]
        have : ((48 + ((u % 10 : Nat) : Int)) % 256).toNat = 48 + u % 10 := by omega
        have e3 : strOfNums [(48 + ((u % 10 : Nat) : Int)) % 256] = tx [UInt8.ofNat (48 + u % 10)] := by
          show tx [UInt8.ofNat ((48 + ((u % 10 : Nat) : Int)) % 256).toNat] = _
          rw [this]
        have hl := dec_len (u / 10) 6 (by omega)
        rw [e3, tx_size, tx_size, if_pos (by simp; omega), tx_app]
theorem num_f (k : Nat) (n : Int) (hk : 7 ≤ k) (h0 : 0 ≤ n) (h1 : n < 10000000) : spec_l1Num.f k n = some (tx (Lib.itoa n)) := by
  obtain ⟨u, rfl⟩ : ∃ u : Nat, n = (u : Int) := ⟨n.toNat, by omega⟩
  obtain ⟨m, rfl⟩ : ∃ m, k = m + 1 := ⟨k - 1, by omega⟩
  rw [Lib.itoa_nonneg]
  exact num_u m u (Nat.lt_of_lt_of_le (show u < 10 ^ 7 by omega) (Nat.pow_le_pow_right (by decide) (by omega))) (by omega)

/-! ### The drawn text and size -/
def ZI (L : Nat) (s : List UInt8) : Prop := Z s ∧ (∀ b ∈ s, okR b) ∧ s.length ≤ L
theorem ZI.blk {L : Nat} {s : List UInt8} (h : ZI L s) (r : List UInt8) (b : UInt8) (hr : r.length ≤ 2) (hro : ∀ x ∈ r, okR x) (hb : isDB b = false) (hbo : okR b) : ZI (L + 3) (s ++ (r ++ [b])) := by
  refine ⟨h.1.blk r b hr hb, fun x hx => ?_, ?_⟩
  · rcases List.mem_append.mp hx with hx | hx
    · exact h.2.1 x hx
    · rcases List.mem_append.mp hx with hx | hx
      · exact hro x hx
      · rw [List.mem_singleton.mp hx]; exact hbo
  · have := h.2.2
    rw [List.length_append, List.length_append, List.length_singleton]
    omega
theorem ZI.le {L M : Nat} {s : List UInt8} (h : ZI L s) (hM : L ≤ M) : ZI M s := ⟨h.1, h.2.1, Nat.le_trans h.2.2 hM⟩
theorem okR_of (b : UInt8) (h : (decide (32 ≤ b.toNat) && decide (b.toNat ≤ 126) && decide (b ≠ 34) && decide (b ≠ 92)) = true) : okR b := by
  simp only [Bool.and_eq_true, decide_eq_true_eq] at h
  exact ⟨h.1.1.1, h.1.1.2, h.1.2, h.2⟩
theorem dig_okR (b : UInt8) (h : 48 ≤ b.toNat ∧ b.toNat ≤ 57) : okR b := ⟨by omega, by omega, fun e => by subst e; exact absurd h.1 (by decide), fun e => by subst e; exact absurd h.2 (by decide)⟩
theorem nilR : ∀ x ∈ ([] : List UInt8), okR x := fun x hx => by cases hx
def P6r : List UInt8 := [98, 121, 116, 101, 115, 61]
theorem ZI6 : ZI 18 P6r := by
  have z0 : ZI 0 [] := ⟨Z.nil, nilR, Nat.le_refl 0⟩
  have o : ∀ b ∈ P6r, okR b ∧ isDB b = false := by
    intro b hb
    have : b = 98 ∨ b = 121 ∨ b = 116 ∨ b = 101 ∨ b = 115 ∨ b = 61 := by simpa [P6r] using hb
    rcases this with h | h | h | h | h | h <;> subst h <;> exact ⟨okR_of _ (by decide), by decide⟩
  have m : ∀ b ∈ P6r, ∀ (L : Nat) (s : List UInt8), ZI L s → ZI (L + 3) (s ++ ([] ++ [b])) := fun b hb L s hs => hs.blk [] b (by decide) nilR (o b hb).2 (o b hb).1
  exact m 61 (by decide) _ _ (m 115 (by decide) _ _ (m 101 (by decide) _ _ (m 116 (by decide) _ _ (m 121 (by decide) _ _ (m 98 (by decide) _ _ z0)))))
theorem dec2 (u : Nat) (h : u < 100) : (Lib.decDigits u).length ≤ 2 ∧ ∀ x ∈ Lib.decDigits u, okR x := ⟨dec_len u 1 (by omega), fun x hx => dig_okR x (dec_digs u x hx)⟩
theorem five {L : Nat} {T : List UInt8} (h : ZI L T) (da db : List UInt8) (ha : da.length ≤ 2) (hao : ∀ x ∈ da, okR x) (hb : db.length ≤ 2) (hbo : ∀ x ∈ db, okR x) (v : ByteArray) (hv : v ∈ [tx (da ++ [45] ++ db), tx (da ++ [45]), tx ([45] ++ da), tx ([32] ++ da ++ [45, 57, 57, 32]), tx []]) : ∃ p, v = tx p ∧ p.length ≤ 9 ∧ ZI (L + 12) (T ++ (p ++ [44])) := by
  have k44 : okR 44 ∧ isDB 44 = false := ⟨okR_of _ (by decide), by decide⟩
  have k45 : okR 45 ∧ isDB 45 = false := ⟨okR_of _ (by decide), by decide⟩
  have k32 : okR 32 ∧ isDB 32 = false := ⟨okR_of _ (by decide), by decide⟩
  have k99 : ∀ x ∈ ([57, 57] : List UInt8), okR x := fun x hx => by
    have : x = 57 := by simpa using hx
    subst this; exact okR_of _ (by decide)
  simp only [List.mem_cons, List.not_mem_nil, or_false] at hv
  rcases hv with hv | hv | hv | hv | hv
  · refine ⟨_, hv, by simp only [List.length_append, List.length_singleton]; omega, ?_⟩
    have := (h.blk da 45 ha hao k45.2 k45.1).blk db 44 hb hbo k44.2 k44.1
    have e : T ++ (da ++ [45]) ++ (db ++ [44]) = T ++ (da ++ [45] ++ db ++ [44]) := by simp
    rw [e] at this
    exact this.le (by omega)
  · refine ⟨_, hv, by simp only [List.length_append, List.length_singleton]; omega, ?_⟩
    have := (h.blk da 45 ha hao k45.2 k45.1).blk [] 44 (by decide) nilR k44.2 k44.1
    have e : T ++ (da ++ [45]) ++ ([] ++ [44]) = T ++ (da ++ [45] ++ [44]) := by simp
    rw [e] at this
    exact this.le (by omega)
  · refine ⟨_, hv, by simp only [List.length_append, List.length_singleton]; omega, ?_⟩
    have := (h.blk [] 45 (by decide) nilR k45.2 k45.1).blk da 44 ha hao k44.2 k44.1
    have e : T ++ ([] ++ [45]) ++ (da ++ [44]) = T ++ ([45] ++ da ++ [44]) := by simp
    rw [e] at this
    exact this.le (by omega)
  · refine ⟨_, hv, by simp only [List.length_append, List.length_singleton, List.length_cons, List.length_nil]; omega, ?_⟩
    have := (((h.blk [] 32 (by decide) nilR k32.2 k32.1).blk da 45 ha hao k45.2 k45.1).blk [57, 57] 32 (by decide) k99 k32.2 k32.1).blk [] 44 (by decide) nilR k44.2 k44.1
    have e : T ++ ([] ++ [32]) ++ (da ++ [45]) ++ ([57, 57] ++ [32]) ++ ([] ++ [44]) = T ++ ([32] ++ da ++ [45, 57, 57, 32] ++ [44]) := by simp
    rw [e] at this
    exact this.le (by omega)
  · refine ⟨_, hv, by decide, ?_⟩
    have := h.blk [] 44 (by decide) nilR k44.2 k44.1
    have e : T ++ ([] ++ [44]) = T ++ ([] ++ [44]) := rfl
    exact this.le (by omega)
theorem sm (l m : List UInt8) (h1 : l.length ≤ 400) (h2 : m.length ≤ 400) : (tx l).size + (tx m).size ≤ 9223372036854775807 := by rw [tx_size, tx_size]; omega
theorem sm1 (l : List UInt8) (h1 : l.length ≤ 400) : (tx l).size + 1 ≤ 9223372036854775807 ∧ 1 + (tx l).size ≤ 9223372036854775807 ∧ (tx l).size + 4 ≤ 9223372036854775807 := by rw [tx_size]; omega
theorem len3 (a b c : List UInt8) (h1 : a.length ≤ 100) (h2 : b.length ≤ 100) (h3 : c.length ≤ 100) : (a ++ b).length ≤ 400 ∧ (a ++ b ++ c).length ≤ 400 := by simp only [List.length_append]; omega
theorem pk30 (v a1 : Int) (v2 : Int) (h1 : 0 ≤ v) (h2 : v < 30 ∨ v = 0) (h3 : 0 ≤ v2) (h4 : v2 < 10 ∨ v2 = 0) : ∃ u w : Nat, v = (u : Int) ∧ wrap64 (v + v2) = (w : Int) ∧ u < 100 ∧ w < 100 := ⟨v.toNat, (v + v2).toNat, by omega, by rw [w64 (by omega) (by omega)]; omega, by omega, by omega⟩
theorem draw_round (code : List Int) (hcd : ∀ x ∈ code, 0 ≤ x ∧ x ≤ 255) (hb : code.length < 4611686018427387904) (K n L : Nat) (T : List UInt8) (a st : Int) (hK : 10 ≤ K) (hn : n ≤ 1000) (hz : ZI L T) (hL : L ≤ 300) (h0 : 0 ≤ a) (h1 : a ≤ 2000) :
    ∃ T' a' st', spec_DrawReadRange.l0 (K + 1) (tx T) ((n + 1 : Nat) : Int) code a st = spec_DrawReadRange.l0 K (tx T') (n : Int) code a' st' ∧ ZI (L + 12) T' ∧ a ≤ a' ∧ a' ≤ a + 6 := by
  obtain ⟨v1, a1, s1, e1, p1, p2, p3⟩ := pick_ok code hcd hb a st 30 h0 (aw0 a 2000 h1 (by decide))
  obtain ⟨b1, b2, b3⟩ := aw2 a a1 2000 h0 h1 (by decide) p3
  obtain ⟨v2, a2, s2, e2, q1, q2, q3⟩ := pick_ok code hcd hb a1 s1 10 b1 b3
  obtain ⟨d1, d2, d3⟩ := aw2 a1 a2 2002 b1 b2 (by decide) q3
  obtain ⟨u, w, hu, hw, hu2, hw2⟩ := pk30 v1 a1 v2 p1 p2 q1 q2
  have nu := num_f K (u : Int) (by omega) (by omega) (by omega)
  have nw := num_f K (w : Int) (by omega) (by omega) (by omega)
  rw [Lib.itoa_nonneg] at nu nw
  obtain ⟨la, ao⟩ := dec2 u hu2
  obtain ⟨lb, bo⟩ := dec2 w hw2
  generalize Lib.decDigits u = da at nu la ao
  generalize Lib.decDigits w = db at nw lb bo
  obtain ⟨v, a3, s3, e3, m, r3⟩ := of_ok code hcd hb [tx (da ++ [45] ++ db), tx (da ++ [45]), tx ([45] ++ da), tx ([32] ++ da ++ [45, 57, 57, 32]), tx []] (by exact Nat.succ_pos _) a2 s2 d1 d3
  obtain ⟨f1, f2⟩ := aw6 a a1 a2 a3 h0 h1 p3 q3 r3
  obtain ⟨p, rfl, lp, hz2⟩ := five hz da db la ao lb bo v m
  have lT := hz.2.2
  have hp : ((n + 1 : Nat) : Int) > 0 := by omega
  have lT4 : T.length ≤ 400 := Nat.le_trans lT (by omega)
  have g1 := (sm1 da (by omega)).1
  have g2 := (sm1 da (by omega)).2.1
  have l45 := len3 da [45] db (by omega) (by decide) (by omega)
  have l32 := len3 [32] da [45, 57, 57, 32] (by decide) (by omega) (by decide)
  have g3 := sm (da ++ [45]) db l45.1 (by omega)
  have g4 := (sm1 ([32] ++ da) l32.1).2.2
  have g5 := (sm1 p (by omega)).1
  have lp2 : (p ++ [44]).length ≤ 400 := by rw [List.length_append, List.length_singleton]; omega
  have g6 := sm T (p ++ [44]) lT4 lp2
  clear b1 b2 b3 d1 d2 d3 p2 q2 p3 q3 r3 hu2 hw2 la lb lT l45 l32 lp2 lp h0 h1
  refine ⟨T ++ (p ++ [44]), a3, s3, ?_, hz2, f1, f2⟩
  generalize hR : spec_DrawReadRange.l0 K (tx (T ++ (p ++ [44]))) (n : Int) code a3 s3 = R
  unfold spec_DrawReadRange.l0
  have t45 : (⟨#[45]⟩ : ByteArray) = tx [45] := rfl
  have t44 : (⟨#[44]⟩ : ByteArray) = tx [44] := rfl
  have t32 : (⟨#[32]⟩ : ByteArray) = tx [32] := rfl
  have t99 : (⟨#[45, 57, 57, 32]⟩ : ByteArray) = tx [45, 57, 57, 32] := rfl
  have t0 : (⟨#[]⟩ : ByteArray) = tx [] := rfl
  rw [if_pos hp, e1, Option.bind_some]
  dsimp only
  rw [hu] at hw ⊢
  rw [nu, Option.bind_some, if_pos g1, e2, Option.bind_some]
  dsimp only
  rw [hw, nw, Option.bind_some, t45, t44, t32, t99, t0, tx_app, if_pos g3, Option.bind_some, if_pos g1, Option.bind_some, if_pos g2, Option.bind_some, if_pos g2, tx_app, if_pos g4, tx_app, tx_app, tx_app, tx_app, e3, Option.bind_some]
  dsimp only
  rw [if_pos g5, tx_app, if_pos g6, tx_app, wr1 n hn]
  exact hR

theorem spoilt_ok (code : List Int) (hcd : ∀ x ∈ code, 0 ≤ x ∧ x ≤ 255) (hb : code.length < 4611686018427387904) (K : Nat) (s : List UInt8) (a st : Int) (hK : 10 ≤ K) (h : Inv 2 200 s) (h0 : 0 ≤ a) (h1 : a ≤ 1000) :
    ∃ s' a' st', spec_l1Cur_spoilt.f K code a st (tx s) (tx wR) = some (tx s', a', st') ∧ Inv 9 300 s' ∧ 0 ≤ a' ∧ a' ≤ 1500 := by
  obtain ⟨v1, a1, s1, e1, p1, p2, p3⟩ := pick_ok code hcd hb a st 3 h0 (aw0 a 1000 h1 (by decide))
  obtain ⟨n, rfl, hn⟩ := natOf v1 3 p1 p2 (by decide)
  obtain ⟨s', a', st', z1, z2, z3, z4⟩ := spoilt_l code hcd hb n K s 2 200 a1 s1 (by omega) (by decide) (by omega) h (by omega) (by omega)
  unfold spec_l1Cur_spoilt.f
  rw [e1, Option.bind_some]
  exact ⟨s', a', st', z1, ⟨z2.1.mono (by omega), z2.2.1, Nat.le_trans z2.2.2 (by omega)⟩, z3, by omega⟩
def sizesR : List Int := [0, 1, 10, 25, 1000000, 1000001]
theorem draw_end (code : List Int) (hcd : ∀ x ∈ code, 0 ≤ x ∧ x ≤ 255) (hb : code.length < 4611686018427387904) (K : Nat) (T : List UInt8) (a st : Int) (hK : 10 ≤ K) (hz : ZI 200 T) (h0 : 0 ≤ a) (h1 : a ≤ 500) :
    ∃ s n, spec_DrawReadRange.l0 (K + 1) (tx T) 0 code a st = some (tx s, n) ∧ Inv 9 300 s ∧ n ∈ sizesR := by
  obtain ⟨v1, a1, s1, e1, p3⟩ := one_ok code hcd hb a st 6 h0 (aw0 a 500 h1 (by decide))
  obtain ⟨b1, b2, b3⟩ := aw2 a a1 500 h0 h1 (by decide) p3
  have tw : (⟨#[45, 44, 48, 98, 61]⟩ : ByteArray) = tx wR := rfl
  unfold spec_DrawReadRange.l0
  rw [if_neg (by decide), e1, Option.bind_some, tw]
  dsimp only
  cases v1 with
  | true =>
    obtain ⟨s', a', st', z1, z2, z3, z4⟩ := spoilt_ok code hcd hb K T a1 s1 hK ⟨hz.1.1, hz.2.1, hz.2.2⟩ b1 (by omega)
    obtain ⟨n, a2, s2, e2, m, r⟩ := among_ok code hcd hb sizesR (by decide) a' st' z3 (aw0 a' 1500 z4 (by decide))
    rw [if_pos rfl, z1, Option.bind_some]
    dsimp only
    rw [show ([0, 1, 10, 25, 1000000, 1000001] : List Int) = sizesR from rfl, e2, Option.bind_some]
    exact ⟨s', n, rfl, z2, m⟩
  | false =>
    obtain ⟨n, a2, s2, e2, m, r⟩ := among_ok code hcd hb sizesR (by decide) a1 s1 b1 b3
    rw [if_neg (show ¬ false = true by decide), show ([0, 1, 10, 25, 1000000, 1000001] : List Int) = sizesR from rfl, e2, Option.bind_some]
    exact ⟨T, n, rfl, ⟨hz.1.1.mono (by decide), hz.2.1, Nat.le_trans hz.2.2 (by decide)⟩, m⟩
theorem draw_l (code : List Int) (hcd : ∀ x ∈ code, 0 ≤ x ∧ x ≤ 255) (hb : code.length < 4611686018427387904) (K : Nat) (hK : 10 ≤ K) :
    ∀ (n : Nat) (T : List UInt8) (L : Nat) (a st : Int), ZI L T → L + 12 * n ≤ 200 → 0 ≤ a → a + 6 * n ≤ 500 →
      ∃ s z, spec_DrawReadRange.l0 (K + n + 1) (tx T) (n : Int) code a st = some (tx s, z) ∧ Inv 9 300 s ∧ z ∈ sizesR
  | 0, T, L, a, st, hz, hL, h0, h1 => draw_end code hcd hb K T a st hK (hz.le (by omega)) h0 (by omega)
  | n + 1, T, L, a, st, hz, hL, h0, h1 => by
    obtain ⟨T', a', st', e, hz', k1, k2⟩ := draw_round code hcd hb (K + n + 1) n L T a st (by omega) (by omega) hz (by omega) h0 (by omega)
    obtain ⟨s, z, e2, g1, g2⟩ := draw_l code hcd hb K hK n T' (L + 12) a' st' hz' (by omega) (by omega) (by omega)
    exact ⟨s, z, e.trans e2, g1, g2⟩
theorem pk3 (v : Int) (h1 : 0 ≤ v) (h2 : v < 3 ∨ v = 0) : ∃ n : Nat, wrap64 (1 + v) = (n : Int) ∧ n ≤ 3 := ⟨(1 + v).toNat, by rw [w64 (by omega) (by omega)]; omega, by omega⟩
theorem draw_ok (code : List Int) (hcd : ∀ x ∈ code, 0 ≤ x ∧ x ≤ 255) (hb : code.length < 4611686018427387904) (K : Nat) (hK : 100 ≤ K) :
    ∃ s z, spec_DrawReadRange.f K code = some (tx s, z) ∧ Inv 9 300 s ∧ z ∈ sizesR := by
  obtain ⟨v1, a1, s1, e1, p1, p2, p3⟩ := pick_ok code hcd hb 0 0 3 (by decide) (by decide)
  obtain ⟨n, hn, hn3⟩ := pk3 v1 p1 p2
  obtain ⟨m, rfl⟩ : ∃ m, K = m + n + 1 := ⟨K - n - 1, by omega⟩
  obtain ⟨s, z, e2, g1, g2⟩ := draw_l code hcd hb m (by omega) n P6r 18 a1 s1 ZI6 (by omega) (by omega) (by omega)
  unfold spec_DrawReadRange.f
  rw [e1, Option.bind_some]
  dsimp only
  rw [hn]
  exact ⟨s, z, e2, g1, g2⟩
theorem Inv.want {s : List UInt8} (h : Inv 9 300 s) : R9 s ∧ (34 : UInt8) ∉ s ∧ (92 : UInt8) ∉ s ∧ ∀ b ∈ s, 32 ≤ b.toNat ∧ b.toNat ≤ 126 :=
  ⟨h.1.runs h.2.2, fun hm => (h.2.1 34 hm).2.2.1 rfl, fun hm => (h.2.1 92 hm).2.2.2 rfl, fun b hb => ⟨(h.2.1 b hb).1, (h.2.1 b hb).2.1⟩⟩

/-! ### The drawn spans -/
theorem spans_j2 (code : List Int) (hcd : ∀ x ∈ code, 0 ≤ x ∧ x ≤ 255) (hb : code.length < 4611686018427387904) (K : Nat) (O : List S47) (f : Bool) (a st : Int) (hf : f = true → 0 < O.length) (h0 : 0 ≤ a) (h1 : a ≤ 2000) :
    ∃ l a' st', spec_l1Cur_spans.j2 (K + 1) O f code a st = some (l, a', st') ∧ l.length = O.length := by
  cases f with
  | false => unfold spec_l1Cur_spans.j2; dsimp only; rw [if_neg (show ¬ false = true by decide)]; exact ⟨O, a, st, rfl, rfl⟩
  | true =>
    obtain ⟨v1, a1, s1, e1, p1, p2, p3⟩ := pick_ok code hcd hb a st 3 h0 (aw0 a 2000 h1 (by decide))
    obtain ⟨b1, b2, b3⟩ := aw2 a a1 2000 h0 h1 (by decide) p3
    obtain ⟨n, a2, s2, e2, m, r⟩ := among_ok code hcd hb [0, 1, 1000000, 1000001] (by decide) a1 s1 b1 b3
    have hO : 0 < (O.length : Int) := Int.ofNat_lt.mpr (hf rfl)
    unfold spec_l1Cur_spans.j2; dsimp only
    rw [if_pos rfl, e1, Option.bind_some]
    dsimp only
    rw [e2, Option.bind_some, if_pos hO]
    exact ⟨_, _, _, rfl, List.length_set⟩
theorem drop1 (n : Nat) (h : n ≤ 1000) : ((n + 1 : Nat) : Int) > 0 ∧ wrap64 (((n + 1 : Nat) : Int) - 1) = (n : Int) := ⟨by omega, wr1 n h⟩
theorem sp_len (O : List S47) (x : S47) : (O ++ [x]).length = O.length + 1 := by rw [List.length_append, List.length_singleton]
theorem lt8 (n : Nat) (h : n ≤ 1000) : n < 8796093022208 := by omega
theorem spans_l (code : List Int) (hcd : ∀ x ∈ code, 0 ≤ x ∧ x ≤ 255) (hb : code.length < 4611686018427387904) (Z : Int) :
    ∀ (n K : Nat) (O : List S47) (a st : Int), O.length + n ≤ 1000 → 0 ≤ a → a + 4 * n ≤ 1500 →
      ∃ l a' st', spec_l1Cur_spans.l0 (K + n + 2) Z O (n : Int) code a st = some (l, a', st') ∧ l.length = O.length + n
  | 0, K, O, a, st, hO, h0, h1 => by
    unfold spec_l1Cur_spans.l0
    rw [if_neg (by decide)]
    by_cases c : (O.length : Int) > 0
    · obtain ⟨v1, a1, s1, e1, p3⟩ := one_ok code hcd hb a st 30 h0 (aw0 a 1500 (by omega) (by decide))
      rw [if_pos c, e1, Option.bind_some]
      exact spans_j2 code hcd hb K O v1 a1 s1 (fun _ => by omega) (by omega) (by omega)
    · rw [if_neg c]
      exact spans_j2 code hcd hb K O false a st (fun h => by cases h) h0 (by omega)
  | n + 1, K, O, a, st, hO, h0, h1 => by
    obtain ⟨v1, a1, s1, e1, p1, p2, p3⟩ := pick_ok code hcd hb a st Z h0 (aw0 a 1500 (by omega) (by decide))
    obtain ⟨b1, b2, b3⟩ := aw2 a a1 1500 h0 (by omega) (by decide) p3
    obtain ⟨v2, a2, s2, e2, q1, q2, q3⟩ := pick_ok code hcd hb a1 s1 (wrap64 (Z - v1)) b1 b3
    obtain ⟨g1, g2⟩ := drop1 n (by omega)
    have g3 := lt8 O.length (by omega)
    have ih := fun (x : S47) => spans_l code hcd hb Z n K (O ++ [x]) a2 s2 (by rw [sp_len]; omega) (by omega) (by omega)
    unfold spec_l1Cur_spans.l0
    rw [if_pos g1, e1, Option.bind_some]
    dsimp only
    rw [e2, Option.bind_some]
    dsimp only
    rw [if_pos g3, g2]
    obtain ⟨l, a', st', e, hl⟩ := ih ⟨v1, wrap64 (wrap64 (v1 + 1) + v2)⟩
    refine ⟨l, a', st', e, ?_⟩
    rw [hl, sp_len]; omega
theorem pk5 (v : Int) (m : Nat) (h1 : 0 ≤ v) (h2 : v < (m : Int) ∨ v = 0) (hm : m ≤ 100) : ∃ n : Nat, v = (n : Int) ∧ wrap64 (12 + v) = ((12 + n : Nat) : Int) ∧ n ≤ m := ⟨v.toNat, by omega, by rw [w64 (by omega) (by omega)]; omega, by omega⟩
theorem spans_ok (code : List Int) (hcd : ∀ x ∈ code, 0 ≤ x ∧ x ≤ 255) (hb : code.length < 4611686018427387904) (K : Nat) (hK : 100 ≤ K) (Z a st : Int) (h0 : 0 ≤ a) (h1 : a ≤ 1000) :
    ∃ l a' st', spec_l1Cur_spans.f K code a st Z = some (l, a', st') ∧ l.length ≤ 14 := by
  obtain ⟨v1, a1, s1, e1, p1, p2, p3⟩ := pick_ok code hcd hb a st 5 h0 (aw0 a 1000 h1 (by decide))
  obtain ⟨b1, b2, b3⟩ := aw2 a a1 1000 h0 h1 (by decide) p3
  obtain ⟨v2, a2, s2, e2, q3⟩ := one_ok code hcd hb a1 s1 40 b1 b3
  obtain ⟨d1, d2, d3⟩ := aw2 a1 a2 1002 b1 b2 (by decide) q3
  unfold spec_l1Cur_spans.f
  rw [e1, Option.bind_some]
  dsimp only
  rw [e2, Option.bind_some]
  dsimp only
  have jl : ∀ (k : Nat) (O : List S47) (n c s : Int), spec_l1Cur_spans.j0 (k + 1) Z O n code c s = spec_l1Cur_spans.l0 k Z O n code c s := fun k O n c s => rfl
  cases v2 with
  | true =>
    obtain ⟨v3, a3, s3, e3, r1, r2, r3⟩ := pick_ok code hcd hb a2 s2 2 d1 d3
    obtain ⟨n, hn, hn2, hn3⟩ := pk5 v3 2 r1 r2 (by decide)
    obtain ⟨m, rfl⟩ : ∃ m, K = m + (12 + n) + 2 + 1 := ⟨K - (12 + n) - 3, by omega⟩
    rw [if_pos rfl, e3, Option.bind_some]
    dsimp only
    rw [hn2, jl]
    obtain ⟨l, a', st', e, hl⟩ := spans_l code hcd hb Z (12 + n) m [] a3 s3 (by rw [List.length_nil]; omega) (by omega) (by omega)
    exact ⟨l, a', st', e, by rw [hl, List.length_nil]; omega⟩
  | false =>
    obtain ⟨n, hn, hn2, hn3⟩ := pk5 v1 5 p1 p2 (by decide)
    obtain ⟨m, rfl⟩ : ∃ m, K = m + n + 2 + 1 := ⟨K - n - 3, by omega⟩
    rw [if_neg (show ¬ false = true by decide), hn, jl]
    obtain ⟨l, a', st', e, hl⟩ := spans_l code hcd hb Z n m [] a2 s2 (by rw [List.length_nil]; omega) (by omega) (by omega)
    exact ⟨l, a', st', e, by rw [hl, List.length_nil]; omega⟩
/-! ### Whether spans are right -/
def spanOK (x : S47) : Bool := decide (0 ≤ x.f0) && (decide (x.f0 < x.f1) && decide (x.f1 ≤ 1000000))
def okL (l : List S47) : Bool := decide (l.length ≤ 12) && l.all spanOK
theorem span_I (x : S47) : impl_isSpan.f x.f0 x.f1 = some (spanOK x) := by
  unfold impl_isSpan.f spanOK
  by_cases c : x.f0 ≥ 0
  · rw [if_pos c, decide_eq_true (show 0 ≤ x.f0 from c), Bool.true_and]
    by_cases d : x.f0 < x.f1
    · rw [if_pos d, decide_eq_true d, Bool.true_and]
    · rw [if_neg d, decide_eq_false d, Bool.false_and]
  · rw [if_neg c, decide_eq_false (show ¬ 0 ≤ x.f0 from c), Bool.false_and]
theorem span_S (x : S47) : spec_l6Span.f x.f0 x.f1 = some (spanOK x) := span_I x
theorem idxO_memR {α : Type} (p : α → Option Bool) (q : α → Bool) (l : List α) (h : ∀ x ∈ l, p x = some (!q x)) : ∀ (n : Int), 0 ≤ n → ∃ i, idxO p l n = some i ∧ (!decide (i ≥ 0)) = l.all q := by
  induction l with
  | nil => intro n hn; exact ⟨-1, rfl, rfl⟩
  | cons x xs ih =>
    intro n hn
    unfold idxO
    rw [h x List.mem_cons_self, Option.bind_some]
    cases hq : q x with
    | true =>
      obtain ⟨i, h1, h2⟩ := ih (fun y hy => h y (List.mem_cons_of_mem _ hy)) (n + 1) (by omega)
      exact ⟨i, h1, by rw [h2, List.all_cons, hq, Bool.true_and]⟩
    | false => exact ⟨n, rfl, by rw [List.all_cons, hq, Bool.false_and, decide_eq_true (show n ≥ 0 from hn)]; rfl⟩
theorem spans_I (l : List S47) (h : l.length ≤ 1000) : impl_areSpans.f l = some (okL l) := by
  unfold impl_areSpans.f okL
  by_cases c : l.length ≤ 12
  · rw [if_pos (by omega), decide_eq_true c, Bool.true_and]
    unfold xAll_T47_impl_isSpan.f
    obtain ⟨i, e, g⟩ := idxO_memR xAll_T47_impl_isSpan.z spanOK l (fun x _ => by unfold xAll_T47_impl_isSpan.z; rw [span_I, Option.bind_some]) 0 (by decide)
    rw [if_pos (by omega), e, Option.bind_some, Option.bind_some, g]
  · rw [if_neg (by omega), decide_eq_false c, Bool.false_and]
theorem rdT_mid (pre : List S47) (x : S47) (T : List S47) : rd_T47 (pre ++ x :: T) (pre.length : Int) = x := by
  unfold rd_T47
  rw [Int.toNat_natCast, List.getD_eq_getElem?_getD]
  simp
theorem lenT (A : List S47) (b : S47) (M : List S47) : (((A ++ b :: M).length : Nat) : Int) = (A.length : Int) + ((M.length : Int) + 1) := by rw [List.length_append, List.length_cons]; omega
theorem spans_Sl : ∀ (M pre : List S47) (K : Nat) (l : List S47), l = pre ++ M → l.length ≤ 1000 → M.length < K → spec_l6Spans.l0 K l l (l.length : Int) (pre.length : Int) = some (M.all spanOK && decide (l.length ≤ 12))
  | M, pre, 0, l, _, _, h => absurd h (Nat.not_lt_zero _)
  | [], pre, K + 1, l, hl, _, _ => by
    unfold spec_l6Spans.l0
    rw [hl, List.append_nil, if_neg (Int.lt_irrefl _), List.all_nil, Bool.true_and]
    congr 2
    exact propext ⟨fun h => by omega, fun h => by omega⟩
  | x :: M, pre, K + 1, l, hl, h1, hK => by
    have hlen : (l.length : Int) = (pre.length : Int) + ((M.length : Int) + 1) := by rw [hl]; exact lenT pre x M
    obtain ⟨q1, q2, q3⟩ := pos_l pre.length M.length (by omega)
    have hr : rd_T47 l (pre.length : Int) = x := by rw [hl]; exact rdT_mid pre x M
    have e2 : (((pre ++ [x]).length : Nat) : Int) = (pre.length : Int) + 1 := by rw [sp_len]; omega
    have ih := spans_Sl M (pre ++ [x]) K l (by rw [hl, List.append_assoc]; rfl) h1 (Nat.lt_of_succ_lt_succ hK)
    rw [e2] at ih
    unfold spec_l6Spans.l0
    rw [if_pos (by rw [hlen]; exact q1), if_pos q2, if_pos (by rw [hlen]; exact q1), hr, span_S, Option.bind_some, q3, List.all_cons]
    cases hx : spanOK x with
    | true => rw [if_pos rfl, ih, Bool.true_and]
    | false => rw [if_neg (by decide), Bool.false_and, Bool.false_and]
theorem spans_S (K : Nat) (l : List S47) (h : l.length ≤ 1000) (hK : 1001 ≤ K) : spec_l6Spans.f K l = some (okL l) := by
  unfold spec_l6Spans.f okL
  have := spans_Sl l [] K l rfl h (by omega)
  rw [Bool.and_comm]
  exact this

/-! ### The text of spans -/
def spanT (x : S47) : List UInt8 := Lib.itoa x.f0 ++ [45] ++ Lib.itoa (x.f1 - 1)
def jn (l : List S47) : List UInt8 := Lib.join (l.map spanT) [44]
theorem jn_one (x : S47) : jn [x] = spanT x := Lib.join_one _ _
theorem jn_cons (x : S47) (r : List S47) : jn (x :: r) = spanT x ++ Lib.joinTail [44] (r.map spanT) := Lib.join_cons _ _ _
theorem tail_snoc (r : List (List UInt8)) (y : List UInt8) : Lib.joinTail [44] (r ++ [y]) = Lib.joinTail [44] r ++ ([44] ++ y) := by simp [Lib.joinTail]
theorem jn_snoc (l : List S47) (y : S47) (h : l ≠ []) : jn (l ++ [y]) = jn l ++ [44] ++ spanT y := by
  cases l with
  | nil => exact absurd rfl h
  | cons x r => rw [List.cons_append, jn_cons, jn_cons, List.map_append, List.map_singleton, tail_snoc]; simp
theorem ok_parts (x : S47) (h : spanOK x = true) : 0 ≤ x.f0 ∧ x.f0 < x.f1 ∧ x.f1 ≤ 1000000 := by
  unfold spanOK at h
  simp only [Bool.and_eq_true, decide_eq_true_eq] at h
  exact h
theorem itoa6 (n : Int) (h0 : 0 ≤ n) (h1 : n ≤ 999999) : (Lib.itoa n).length ≤ 6 := by
  obtain ⟨u, rfl⟩ : ∃ u : Nat, n = (u : Int) := ⟨n.toNat, by omega⟩
  rw [Lib.itoa_nonneg]
  exact dec_len u 5 (by omega)
theorem spanT_len (x : S47) (h : spanOK x = true) : (spanT x).length ≤ 13 := by
  obtain ⟨h0, h1, h2⟩ := ok_parts x h
  have a := itoa6 x.f0 h0 (by omega)
  have b := itoa6 (x.f1 - 1) (by omega) (by omega)
  unfold spanT
  rw [List.length_append, List.length_append, List.length_singleton]
  omega
theorem text_one (a b : List UInt8) (ha : a.length ≤ 10) (hb : b.length ≤ 10) : (tx a).size + 1 ≤ 9223372036854775807 ∧ (tx (a ++ [45])).size + (tx b).size ≤ 9223372036854775807 := by
  rw [tx_size, tx_size, tx_size, List.length_append, List.length_singleton]; omega
theorem spanText_I (x : S47) (h : spanOK x = true) : impl_spanText.f x.f0 x.f1 = some (tx (spanT x)) := by
  obtain ⟨h0, h1, h2⟩ := ok_parts x h
  have a := itoa6 x.f0 h0 (by omega)
  have b := itoa6 (x.f1 - 1) (by omega) (by omega)
  have t45 : (⟨#[45]⟩ : ByteArray) = tx [45] := rfl
  have i1 := itoa_f x.f0 h0 (by omega)
  have i2 := itoa_f (x.f1 - 1) (by omega) (by omega)
  have hw : wrap64 (x.f1 - 1) = x.f1 - 1 := w64 (by omega) (by omega)
  unfold impl_spanText.f spanT
  generalize Lib.itoa x.f0 = p at *
  generalize Lib.itoa (x.f1 - 1) = q at *
  obtain ⟨g1, g2⟩ := text_one p q (by omega) (by omega)
  rw [i1, Option.bind_some, if_pos g1, hw, i2, Option.bind_some, t45, tx_app p, if_pos g2, tx_app]
theorem spanText_S (K : Nat) (hK : 7 ≤ K) (x : S47) (h : spanOK x = true) : spec_l6Text.f K x.f0 x.f1 = some (tx (spanT x)) := by
  obtain ⟨h0, h1, h2⟩ := ok_parts x h
  have a := itoa6 x.f0 h0 (by omega)
  have b := itoa6 (x.f1 - 1) (by omega) (by omega)
  have t45 : (⟨#[45]⟩ : ByteArray) = tx [45] := rfl
  have i1 := num_f K x.f0 hK h0 (by omega)
  have i2 := num_f K (x.f1 - 1) hK (by omega) (by omega)
  have hw : wrap64 (x.f1 - 1) = x.f1 - 1 := w64 (by omega) (by omega)
  unfold spec_l6Text.f spanT
  generalize Lib.itoa x.f0 = p at *
  generalize Lib.itoa (x.f1 - 1) = q at *
  obtain ⟨g1, g2⟩ := text_one p q (by omega) (by omega)
  rw [i1, Option.bind_some, if_pos g1, hw, i2, Option.bind_some, t45, tx_app p, if_pos g2, tx_app]
theorem tail_len : ∀ (r : List S47), (∀ x ∈ r, spanOK x = true) → (Lib.joinTail [44] (r.map spanT)).length ≤ 14 * r.length
  | [], _ => by simp [Lib.joinTail]
  | x :: r, h => by
    have e : Lib.joinTail [44] ((x :: r).map spanT) = [44] ++ spanT x ++ Lib.joinTail [44] (r.map spanT) := by simp [Lib.joinTail]
    have a := spanT_len x (h x List.mem_cons_self)
    have b := tail_len r (fun y hy => h y (List.mem_cons_of_mem _ hy))
    rw [e, List.length_append, List.length_append, List.length_singleton, List.length_cons]
    omega
theorem jn_len (l : List S47) (h : ∀ x ∈ l, spanOK x = true) : (jn l).length ≤ 14 * l.length := by
  cases l with
  | nil => exact Nat.le_refl 0
  | cons x r =>
    have a := spanT_len x (h x List.mem_cons_self)
    have b := tail_len r (fun y hy => h y (List.mem_cons_of_mem _ hy))
    rw [jn_cons, List.length_append, List.length_cons]
    omega
theorem join_f (l : List S47) (h : ∀ x ∈ l, spanOK x = true) (hl : l.length ≤ 12) : strings_Join.f ((l.map spanT).map tx) (⟨#[44]⟩ : ByteArray) = some (tx (jn l)) := by
  have hj := jn_len l h
  have em : (((l.map spanT).map tx).map (·.data.toList)) = l.map spanT := by
    rw [List.map_map]
    exact (List.map_congr_left (g := id) (fun b _ => rfl)).trans (List.map_id _)
  unfold strings_Join.f
  rw [em, if_pos (by rw [List.length_map, List.length_map]; omega)]
  show (if (jn l).length < 1000000000 then some (tx (jn l)) else none) = _
  rw [if_pos (by omega)]
theorem jadd (n : Nat) (h : n ≤ 1000) : 6 + n ≤ 9223372036854775807 := by omega
theorem text_Il (l : List S47) (h : ∀ x ∈ l, spanOK x = true) (hl : l.length ≤ 12) : ∀ (M pre : List S47) (K : Nat), l = pre ++ M → M.length < K → impl_RangeText.l0 K ((pre.map spanT).map tx) l (l.length : Int) (pre.length : Int) = some (tx (P6r ++ jn l), true)
  | M, pre, 0, _, hK => absurd hK (Nat.not_lt_zero _)
  | [], pre, K + 1, e, _ => by
    have hp : pre = l := by rw [e, List.append_nil]
    have hj := jn_len l h
    have t6 : (⟨#[98, 121, 116, 101, 115, 61]⟩ : ByteArray) = tx P6r := rfl
    have hs : 6 + (tx (jn l)).size ≤ 9223372036854775807 := by rw [tx_size]; exact jadd _ (by omega)
    subst hp
    unfold impl_RangeText.l0
    rw [if_neg (Int.lt_irrefl _), join_f pre h hl, Option.bind_some, if_pos hs, t6, tx_app]
  | x :: M, pre, K + 1, e, hK => by
    have hlen : (l.length : Int) = (pre.length : Int) + ((M.length : Int) + 1) := by rw [e]; exact lenT pre x M
    obtain ⟨q1, q2, q3⟩ := pos_l pre.length M.length (by omega)
    have hr : rd_T47 l (pre.length : Int) = x := by rw [e]; exact rdT_mid pre x M
    have e2 : (((pre ++ [x]).length : Nat) : Int) = (pre.length : Int) + 1 := by rw [sp_len]; omega
    have ih := text_Il l h hl M (pre ++ [x]) K (by rw [e, List.append_assoc]; rfl) (Nat.lt_of_succ_lt_succ hK)
    have em : (((pre ++ [x]).map spanT).map tx) = (pre.map spanT).map tx ++ [tx (spanT x)] := by simp
    have hx : spanOK x = true := h x (by rw [e]; exact List.mem_append_right _ List.mem_cons_self)
    have hroom : ((pre.map spanT).map tx).length < 8796093022208 := by rw [List.length_map, List.length_map]; omega
    rw [e2, em] at ih
    unfold impl_RangeText.l0
    rw [if_pos (by rw [hlen]; exact q1), if_pos q2, if_pos (by rw [hlen]; exact q1), hr, spanText_I x hx, Option.bind_some, if_pos hroom, q3]
    exact ih
theorem jroom (a b : List UInt8) (h1 : a.length ≤ 1000) (h2 : b.length ≤ 1000) : (tx a).size + 1 ≤ 9223372036854775807 ∧ (tx (a ++ [44])).size + (tx b).size ≤ 9223372036854775807 ∧ (tx a).size + (tx b).size ≤ 9223372036854775807 := by
  rw [tx_size, tx_size, tx_size, List.length_append, List.length_singleton]; omega
theorem text_Sl (l : List S47) (h : ∀ x ∈ l, spanOK x = true) (hl : l.length ≤ 12) : ∀ (M pre : List S47) (K : Nat), l = pre ++ M → M.length + 10 < K → spec_RangeText.l0 K (tx (P6r ++ jn pre)) l (l.length : Int) (pre.length : Int) = some (tx (P6r ++ jn l), true)
  | M, pre, 0, _, hK => absurd hK (Nat.not_lt_zero _)
  | [], pre, K + 1, e, _ => by
    have hp : pre = l := by rw [e, List.append_nil]
    subst hp
    unfold spec_RangeText.l0
    rw [if_neg (Int.lt_irrefl _)]
  | x :: M, pre, K + 1, e, hK => by
    have hlen : (l.length : Int) = (pre.length : Int) + ((M.length : Int) + 1) := by rw [e]; exact lenT pre x M
    obtain ⟨q1, q2, q3⟩ := pos_l pre.length M.length (by omega)
    have hr : rd_T47 l (pre.length : Int) = x := by rw [e]; exact rdT_mid pre x M
    have e2 : (((pre ++ [x]).length : Nat) : Int) = (pre.length : Int) + 1 := by rw [sp_len]; omega
    have hK2 : M.length + 10 < K := by rw [List.length_cons] at hK; omega
    have ih := text_Sl l h hl M (pre ++ [x]) K (by rw [e, List.append_assoc]; rfl) hK2
    have hx : spanOK x = true := h x (by rw [e]; exact List.mem_append_right _ List.mem_cons_self)
    have hpl : (jn pre).length ≤ 14 * pre.length := jn_len pre (fun y hy => h y (by rw [e]; exact List.mem_append_left _ hy))
    have hp6 : (P6r ++ jn pre).length ≤ 1000 := by
      rw [List.length_append]
      have : P6r.length = 6 := rfl
      omega
    have hsl := spanT_len x hx
    obtain ⟨g1, g2, g3⟩ := jroom (P6r ++ jn pre) (spanT x) hp6 (by omega)
    have t44 : (⟨#[44]⟩ : ByteArray) = tx [44] := rfl
    have hs := spanText_S K (by omega) x hx
    rw [e2] at ih
    unfold spec_RangeText.l0
    rw [if_pos (by rw [hlen]; exact q1), if_pos q2, if_pos (by rw [hlen]; exact q1), hr, hs, q3, t44]
    by_cases c : pre = []
    · rw [if_neg (by rw [c]; decide), Option.bind_some, if_pos g3, tx_app]
      have e3 : P6r ++ jn pre ++ spanT x = P6r ++ jn (pre ++ [x]) := by rw [c, List.nil_append, jn_one]; rfl
      rw [e3]; exact ih
    · have : 0 < pre.length := List.length_pos_iff.mpr c
      rw [if_pos (show (pre.length : Int) > 0 by omega), if_pos g1, Option.bind_some, tx_app, if_pos g2, tx_app]
      have e3 : P6r ++ jn pre ++ [44] ++ spanT x = P6r ++ jn (pre ++ [x]) := by rw [jn_snoc pre x c]; simp
      rw [e3]; exact ih
/-- what both answer -/
def rt (l : List S47) : ByteArray × Bool := if okL l = true ∧ l ≠ [] then (tx (P6r ++ jn l), true) else (tx [], false)
theorem okL_parts (l : List S47) (h : okL l = true) : l.length ≤ 12 ∧ ∀ x ∈ l, spanOK x = true := by
  unfold okL at h
  rw [Bool.and_eq_true, decide_eq_true_eq, List.all_eq_true] at h
  exact h
theorem text_I (K : Nat) (l : List S47) (h : l.length ≤ 1000) (hK : 100 ≤ K) : impl_RangeText.f K l = some (rt l) := by
  obtain ⟨m, rfl⟩ : ∃ m, K = m + 1 := ⟨K - 1, by omega⟩
  have jt : impl_RangeText.j0 (m + 1) l true = some (tx [], false) := rfl
  unfold impl_RangeText.f rt
  rw [spans_I l h, Option.bind_some]
  cases ho : okL l with
  | false => rw [if_neg (show ¬ false = true by decide), jt, if_neg (fun hh => by cases hh.1)]
  | true =>
    rw [if_pos rfl]
    by_cases c : l = []
    · rw [if_neg (fun hh => hh.2 c), c]; exact rfl
    · have hl : ((l.length : Int) == 0) = false := by
        have : 0 < l.length := List.length_pos_iff.mpr c
        exact beq_eq_false_iff_ne.mpr (by omega)
      obtain ⟨h1, h2⟩ := okL_parts l ho
      rw [hl, if_pos ⟨rfl, c⟩]
      exact text_Il l h2 h1 l [] m rfl (by omega)
theorem text_S (K : Nat) (l : List S47) (h : l.length ≤ 1000) (hK : 1100 ≤ K) : spec_RangeText.f K l = some (rt l) := by
  obtain ⟨m, rfl⟩ : ∃ m, K = m + 1 := ⟨K - 1, by omega⟩
  have jt : spec_RangeText.j0 (m + 1) l true = some (tx [], false) := rfl
  unfold spec_RangeText.f rt
  rw [spans_S (m + 1) l h (by omega), Option.bind_some]
  cases ho : okL l with
  | false => rw [if_neg (show ¬ false = true by decide), jt, if_neg (fun hh => by cases hh.1)]
  | true =>
    rw [if_pos rfl]
    by_cases c : l = []
    · rw [if_neg (fun hh => hh.2 c), c]; exact rfl
    · have hl : ((l.length : Int) == 0) = false := by
        have : 0 < l.length := List.length_pos_iff.mpr c
        exact beq_eq_false_iff_ne.mpr (by omega)
      obtain ⟨h1, h2⟩ := okL_parts l ho
      have := text_Sl l h2 h1 l [] m rfl (by omega)
      rw [hl, if_pos ⟨rfl, c⟩]
      exact this

/-! ### Spans come back from their text -/
def run9 : Nat → List UInt8 → Bool
  | _, [] => true
  | k, b :: r => if isDB b = true then decide (k + 1 ≤ 9) && run9 (k + 1) r else run9 0 r
theorem run9_cons (k : Nat) (b : UInt8) (r : List UInt8) : run9 k (b :: r) = (if isDB b = true then decide (k + 1 ≤ 9) && run9 (k + 1) r else run9 0 r) := rfl
theorem run9_dig : ∀ (d y : List UInt8) (k : Nat), d.all isDB = true → run9 k (d ++ y) = true → k ≤ 9 → k + d.length ≤ 9
  | [], _, _, _, _, hk => hk
  | b :: d, y, k, hd, h, hk => by
    rw [List.all_cons, Bool.and_eq_true] at hd
    rw [List.cons_append, run9_cons, if_pos hd.1, Bool.and_eq_true, decide_eq_true_eq] at h
    have := run9_dig d y (k + 1) hd.2 h.2 h.1
    rw [List.length_cons]; omega
theorem run9_drop : ∀ (x t : List UInt8) (k : Nat), k ≤ 9 → run9 k (x ++ t) = true → ∃ k', k' ≤ 9 ∧ run9 k' t = true
  | [], t, k, hk, h => ⟨k, hk, h⟩
  | b :: x, t, k, hk, h => by
    rw [List.cons_append, run9_cons] at h
    by_cases c : isDB b = true
    · rw [if_pos c, Bool.and_eq_true, decide_eq_true_eq] at h
      exact run9_drop x t (k + 1) h.1 h.2
    · rw [if_neg c] at h
      exact run9_drop x t 0 (Nat.zero_le 9) h
theorem run9_add : ∀ (d t : List UInt8) (k : Nat), d.all isDB = true → k + d.length ≤ 9 → run9 (k + d.length) t = true → run9 k (d ++ t) = true
  | [], t, k, _, _, h => h
  | b :: d, t, k, hd, hk, h => by
    rw [List.all_cons, Bool.and_eq_true] at hd
    rw [List.length_cons] at hk h
    have ih := run9_add d t (k + 1) hd.2 (by omega) (by rw [show k + 1 + d.length = k + (d.length + 1) by omega]; exact h)
    rw [List.cons_append, run9_cons, if_pos hd.1, ih, decide_eq_true (show k + 1 ≤ 9 by omega)]
    rfl
theorem run9_R9 (s : List UInt8) (hl : s.length ≤ 300) (h : run9 0 s = true) : R9 s := ⟨hl, fun x d y e ha => by
  rw [e, List.append_assoc] at h
  obtain ⟨k, hk, h2⟩ := run9_drop x (d ++ y) 0 (Nat.zero_le 9) h
  have := run9_dig d y k ha h2 hk
  omega⟩
theorem itoa_dig (n : Int) (h0 : 0 ≤ n) : ∀ b ∈ Lib.itoa n, 48 ≤ b.toNat ∧ b.toNat ≤ 57 := by
  obtain ⟨u, rfl⟩ : ∃ u : Nat, n = (u : Int) := ⟨n.toNat, by omega⟩
  rw [Lib.itoa_nonneg]
  exact dec_digs u
theorem itoa_all (n : Int) (h0 : 0 ≤ n) : (Lib.itoa n).all isDB = true := by
  rw [List.all_eq_true]
  intro b hb
  obtain ⟨h1, h2⟩ := itoa_dig n h0 b hb
  unfold isDB
  rw [decide_eq_true h1, decide_eq_true h2]; rfl
theorem itoa_numV (n : Int) (h0 : 0 ≤ n) : numV (Lib.itoa n) = some n.toNat := by
  obtain ⟨u, rfl⟩ : ∃ u : Nat, n = (u : Int) := ⟨n.toNat, by omega⟩
  rw [Lib.itoa_nonneg]
  unfold numV
  rw [if_neg (dec_ne u), dec_back]; rfl
theorem spanT_eq (x : S47) (t : List UInt8) : spanT x ++ t = Lib.itoa x.f0 ++ (45 :: (Lib.itoa (x.f1 - 1) ++ t)) := by unfold spanT; simp
theorem itoa0 (x : S47) (h : spanOK x = true) : 0 ≤ x.f0 ∧ 0 ≤ x.f1 - 1 ∧ (Lib.itoa x.f0).length ≤ 6 ∧ (Lib.itoa (x.f1 - 1)).length ≤ 6 := by
  obtain ⟨h0, h1, h2⟩ := ok_parts x h
  exact ⟨h0, by omega, itoa6 x.f0 h0 (by omega), itoa6 (x.f1 - 1) (by omega) (by omega)⟩
theorem run9_span (x : S47) (h : spanOK x = true) (t : List UInt8) (ht : ∀ k, k ≤ 6 → run9 k t = true) : run9 0 (spanT x ++ t) = true := by
  obtain ⟨h0, h1, h2, h3⟩ := itoa0 x h
  have n45 : ¬ isDB 45 = true := by decide
  rw [spanT_eq]
  refine run9_add _ _ 0 (itoa_all _ h0) (by omega) ?_
  rw [run9_cons, if_neg n45]
  exact run9_add _ _ 0 (itoa_all _ h1) (by omega) (ht _ (by omega))
theorem tail_cons (y : List UInt8) (r : List (List UInt8)) : Lib.joinTail [44] (y :: r) = 44 :: (y ++ Lib.joinTail [44] r) := by simp [Lib.joinTail]
theorem run9_tail : ∀ (r : List S47), (∀ x ∈ r, spanOK x = true) → ∀ k, k ≤ 6 → run9 k (Lib.joinTail [44] (r.map spanT)) = true
  | [], _, k, _ => rfl
  | x :: r, h, k, _ => by
    have n44 : ¬ isDB 44 = true := by decide
    rw [List.map_cons, tail_cons, run9_cons, if_neg n44]
    exact run9_span x (h x List.mem_cons_self) _ (run9_tail r (fun y hy => h y (List.mem_cons_of_mem _ hy)))
theorem run9_jn (l : List S47) (h : ∀ x ∈ l, spanOK x = true) : run9 0 (P6r ++ jn l) = true := by
  have e : ∀ t, run9 0 (P6r ++ t) = run9 0 t := fun t => rfl
  rw [e]
  cases l with
  | nil => rfl
  | cons x r =>
    rw [jn_cons]
    exact run9_span x (h x List.mem_cons_self) _ (run9_tail r (fun y hy => h y (List.mem_cons_of_mem _ hy)))
theorem spanT_mem (x : S47) (h : spanOK x = true) (b : UInt8) (hb : b ∈ spanT x) : 45 ≤ b.toNat ∧ b.toNat ≤ 57 := by
  obtain ⟨h0, h1, _, _⟩ := itoa0 x h
  unfold spanT at hb
  rcases List.mem_append.mp hb with hb | hb
  · rcases List.mem_append.mp hb with hb | hb
    · have := itoa_dig _ h0 b hb; omega
    · rw [List.mem_singleton.mp hb]; decide
  · have := itoa_dig _ h1 b hb; omega
theorem tail_mem : ∀ (r : List S47), (∀ x ∈ r, spanOK x = true) → ∀ b ∈ Lib.joinTail [44] (r.map spanT), 44 ≤ b.toNat ∧ b.toNat ≤ 57
  | [], _, b, hb => by cases hb
  | x :: r, h, b, hb => by
    rw [List.map_cons, tail_cons] at hb
    rcases List.mem_cons.mp hb with hb | hb
    · rw [hb]; decide
    · rcases List.mem_append.mp hb with hb | hb
      · have := spanT_mem x (h x List.mem_cons_self) b hb; omega
      · exact tail_mem r (fun y hy => h y (List.mem_cons_of_mem _ hy)) b hb
theorem jn_mem (l : List S47) (h : ∀ x ∈ l, spanOK x = true) (b : UInt8) (hb : b ∈ jn l) : 44 ≤ b.toNat ∧ b.toNat ≤ 57 := by
  cases l with
  | nil => cases hb
  | cons x r =>
    rw [jn_cons] at hb
    rcases List.mem_append.mp hb with hb | hb
    · have := spanT_mem x (h x List.mem_cons_self) b hb; omega
    · exact tail_mem r (fun y hy => h y (List.mem_cons_of_mem _ hy)) b hb
theorem no_b (P s : List UInt8) (c : UInt8) (hP : c ∉ P) (h : ∀ b ∈ s, 44 ≤ b.toNat ∧ b.toNat ≤ 57) (hc : ¬ (44 ≤ c.toNat ∧ c.toNat ≤ 57)) : c ∉ P ++ s := fun hm => by
  rcases List.mem_append.mp hm with hm | hm
  · exact hP hm
  · exact hc (h c hm)
/-- what ReadRange wants of the text of good spans -/
theorem jn_want (l : List S47) (h : ∀ x ∈ l, spanOK x = true) (hl : l.length ≤ 12) : R9 (P6r ++ jn l) ∧ (34 : UInt8) ∉ P6r ++ jn l ∧ (92 : UInt8) ∉ P6r ++ jn l := by
  refine ⟨run9_R9 _ ?_ (run9_jn l h), no_b _ _ 34 (by decide) (jn_mem l h) (by decide), no_b _ _ 92 (by decide) (jn_mem l h) (by decide)⟩
  have := jn_len l h
  have h6 : P6r.length = 6 := rfl
  rw [List.length_append]; omega
theorem lst_run : ∀ (a cur M : List UInt8), (44 : UInt8) ∉ a → lst cur (a ++ M) = lst (cur ++ a) M
  | [], cur, M, _ => by rw [List.append_nil]; rfl
  | b :: a, cur, M, h => by
    have hb : b ≠ 44 := fun e => h (by rw [e]; exact List.mem_cons_self)
    rw [List.cons_append, lst_ne cur (a ++ M) b hb, lst_run a (cur ++ [b]) M (fun hm => h (List.mem_cons_of_mem _ hm)), List.append_assoc]; rfl
theorem spanT_ne (x : S47) : spanT x ≠ [] := by unfold spanT; simp
theorem spanT_no (x : S47) (h : spanOK x = true) (c : UInt8) (hc : ¬ (45 ≤ c.toNat ∧ c.toNat ≤ 57)) : c ∉ spanT x := fun hm => hc (spanT_mem x h c hm)
theorem addP_span (x : S47) (h : spanOK x = true) : addP (spanT x) = [spanT x] := by
  have e := trimB_none (spanT x) (spanT_no x h 32 (by decide))
  unfold addP
  rw [e, if_neg (spanT_ne x)]
theorem lst_tail : ∀ (r : List S47) (x : S47), spanOK x = true → (∀ y ∈ r, spanOK y = true) → lst (spanT x) (Lib.joinTail [44] (r.map spanT)) = spanT x :: r.map spanT
  | [], x, hx, _ => by
    show addP (spanT x) = [spanT x]
    exact addP_span x hx
  | y :: r, x, hx, h => by
    have hy := h y List.mem_cons_self
    have ih := lst_tail r y hy (fun z hz => h z (List.mem_cons_of_mem _ hz))
    rw [List.map_cons, tail_cons, lst_44, addP_span x hx, lst_run (spanT y) [] _ (spanT_no y hy 44 (by decide)), List.nil_append, ih]; rfl
theorem lst_jn (l : List S47) (h : ∀ x ∈ l, spanOK x = true) (hne : l ≠ []) : lst [] (jn l) = l.map spanT := by
  cases l with
  | nil => exact absurd rfl hne
  | cons x r =>
    have hx := h x List.mem_cons_self
    rw [jn_cons, lst_run (spanT x) [] _ (spanT_no x hx 44 (by decide)), List.nil_append, lst_tail r x hx (fun z hz => h z (List.mem_cons_of_mem _ hz))]; rfl
theorem part_num (a b : Int) (h0 : 0 ≤ a) (h1 : a < b) (h2 : b ≤ 1000000) : ¬ (b - 1).toNat < a.toNat ∧ ¬ ((a.toNat : Int) ≥ 1000000) ∧ ((b - 1).toNat : Int) + 1 ≤ 1000000 ∧ (a.toNat : Int) = a ∧ ((b - 1).toNat : Int) + 1 = b := by omega
theorem partR_span (x : S47) (h : spanOK x = true) : partR (spanT x) 1000000 = some (some (x.f0, x.f1)) := by
  obtain ⟨h0, h1, h2⟩ := ok_parts x h
  obtain ⟨p1, p2, p3, p4, p5⟩ := part_num x.f0 x.f1 h0 h1 h2
  obtain ⟨i0, i1, _, _⟩ := itoa0 x h
  have n45 : (45 : UInt8) ∉ Lib.itoa x.f0 := fun hm => by
    have := itoa_dig _ i0 45 hm
    revert this; decide
  have e : spanT x = Lib.itoa x.f0 ++ 45 :: Lib.itoa (x.f1 - 1) := by unfold spanT; simp
  have hc := cut_at 45 (Lib.itoa x.f0) (Lib.itoa (x.f1 - 1)) n45
  unfold partR
  rw [e, hc, if_pos rfl]
  unfold oneR
  rw [itoa_numV _ i0, itoa_numV _ i1]
  dsimp only
  rw [if_neg p1, if_neg p2, if_pos p3, p4, p5]
theorem readL_spans : ∀ (l O : List S47), (∀ x ∈ l, spanOK x = true) → O ++ l ≠ [] → readL 1000000 O (l.map spanT) = (O ++ l, 0)
  | [], O, _, hne => by
    rw [List.append_nil] at hne ⊢
    show (if O = [] then ([], 1) else (O, 0)) = _
    rw [if_neg hne]
  | x :: l, O, h, hne => by
    have e : readL 1000000 O (spanT x :: l.map spanT) = (match partR (spanT x) 1000000 with | none => ([], 2) | some none => readL 1000000 O (l.map spanT) | some (some p) => readL 1000000 (O ++ [⟨p.1, p.2⟩]) (l.map spanT)) := rfl
    rw [List.map_cons, e, partR_span x (h x List.mem_cons_self)]
    have ih := readL_spans l (O ++ [x]) (fun y hy => h y (List.mem_cons_of_mem _ hy)) (by simp)
    rw [List.append_assoc] at ih
    exact ih
theorem rr_jn (l : List S47) (h : ∀ x ∈ l, spanOK x = true) (hl : l.length ≤ 12) (hne : l ≠ []) : rr (P6r ++ jn l) 1000000 = (l, 0) := by
  have hp : pre6 (P6r ++ jn l) = true := rfl
  have hd : (P6r ++ jn l).drop 6 = jn l := rfl
  have h1 : 1 ≤ l.length := List.length_pos_iff.mpr hne
  unfold rr
  rw [hp, hd, lst_jn l h hne, List.length_map, if_pos ⟨rfl, ⟨by decide, by decide⟩, h1, hl⟩]
  exact readL_spans l [] h hne
theorem back_I (K : Nat) (l : List S47) (h : okL l = true) (hne : l ≠ []) (hK : 3000 ≤ K) : impl_ReadRange.f K (tx (P6r ++ jn l)) 1000000 = some (l, 0) := by
  obtain ⟨h1, h2⟩ := okL_parts l h
  obtain ⟨w1, w2, w3⟩ := jn_want l h2 h1
  rw [ReadI K _ 1000000 w1 w2 w3 hK, rr_jn l h2 h1 hne]

/-! ### What is read lies within -/
def inP (n : Int) (p : S47) : Prop := 0 ≤ p.f0 ∧ p.f0 < p.f1 ∧ p.f1 ≤ n
theorem in_sum (v : Nat) (n : Int) (h0 : 0 ≤ n) (c : ¬ ((v : Int) = 0 ∨ n = 0)) : inP n ⟨if (v : Int) > n then 0 else n - v, n⟩ := by
  unfold inP
  dsimp only
  split <;> omega
theorem in_two (u v : Nat) (n : Int) (h0 : 0 ≤ n) (c : ¬ v < u) (d : ¬ (u : Int) ≥ n) : inP n ⟨u, if (v : Int) + 1 ≤ n then (v : Int) + 1 else n⟩ := by
  unfold inP
  dsimp only
  split <;> omega
theorem oneR_in (a b : List UInt8) (n : Int) (h0 : 0 ≤ n) (p : Int × Int) (h : oneR a b n = some (some p)) : inP n ⟨p.1, p.2⟩ := by
  unfold oneR at h
  cases ea : numV a with
  | none =>
    cases eb : numV b with
    | none => rw [ea, eb] at h; cases h
    | some v =>
      rw [ea, eb] at h
      dsimp only at h
      split at h
      · split at h
        · cases h
        · rename_i c
          cases h
          exact in_sum v n h0 c
      · cases h
  | some u =>
    cases eb : numV b with
    | none =>
      rw [ea, eb] at h
      dsimp only at h
      split at h
      · split at h
        · cases h
        · rename_i c
          cases h
          unfold inP; dsimp only; omega
      · cases h
    | some v =>
      rw [ea, eb] at h
      dsimp only at h
      split at h
      · cases h
      · rename_i c
        split at h
        · cases h
        · rename_i d
          cases h
          exact in_two u v n h0 c d
theorem partR_in (T : List UInt8) (n : Int) (h0 : 0 ≤ n) (p : Int × Int) (h : partR T n = some (some p)) : inP n ⟨p.1, p.2⟩ := by
  unfold partR at h
  split at h
  · exact oneR_in _ _ n h0 p h
  · cases h
theorem readL_in (n : Int) (h0 : 0 ≤ n) : ∀ (M : List (List UInt8)) (O : List S47), (∀ p ∈ O, inP n p) → (∀ p ∈ (readL n O M).1, inP n p) ∧ (((readL n O M).2 = 0 ∧ (readL n O M).1 ≠ []) ∨ ((readL n O M).2 ≠ 0 ∧ (readL n O M).1 = [])) ∧ (readL n O M).1.length ≤ O.length + M.length
  | [], O, hO => by
    show (∀ p ∈ (if O = [] then (([] : List S47), (1 : Int)) else (O, 0)).1, inP n p) ∧ (((if O = [] then (([] : List S47), (1 : Int)) else (O, 0)).2 = 0 ∧ (if O = [] then (([] : List S47), (1 : Int)) else (O, 0)).1 ≠ []) ∨ ((if O = [] then (([] : List S47), (1 : Int)) else (O, 0)).2 ≠ 0 ∧ (if O = [] then (([] : List S47), (1 : Int)) else (O, 0)).1 = [])) ∧ (if O = [] then (([] : List S47), (1 : Int)) else (O, 0)).1.length ≤ O.length + 0
    by_cases c : O = []
    · rw [if_pos c]
      exact ⟨fun p hp => (by cases hp), Or.inr ⟨(by decide : (1 : Int) ≠ 0), rfl⟩, Nat.zero_le _⟩
    · rw [if_neg c]
      exact ⟨hO, Or.inl ⟨rfl, c⟩, Nat.le_refl _⟩
  | T :: M, O, hO => by
    have hr : readL n O (T :: M) = (match partR T n with | none => ([], 2) | some none => readL n O M | some (some p) => readL n (O ++ [⟨p.1, p.2⟩]) M) := rfl
    rw [hr]
    cases hp : partR T n with
    | none => exact ⟨fun p hp => (by cases hp), Or.inr ⟨(by decide : (2 : Int) ≠ 0), rfl⟩, Nat.zero_le _⟩
    | some r =>
      cases r with
      | none =>
        obtain ⟨a, b, c⟩ := readL_in n h0 M O hO
        exact ⟨a, b, Nat.le_trans c (by rw [List.length_cons]; omega)⟩
      | some p =>
        have hin := partR_in T n h0 p hp
        obtain ⟨a, b, c⟩ := readL_in n h0 M (O ++ [⟨p.1, p.2⟩]) (fun q hq => by
          rcases List.mem_append.mp hq with hq | hq
          · exact hO q hq
          · rw [List.mem_singleton.mp hq]; exact hin)
        exact ⟨a, b, Nat.le_trans c (by rw [List.length_append, List.length_cons, List.length_cons, List.length_nil]; omega)⟩
/-- of what both read: all spans within, at most 300; told as right if and only if there are any -/
theorem rr_in (s : List UInt8) (z : Int) : ((∀ p ∈ (rr s z).1, inP z p ∧ z ≤ 1000000) ∧ (((rr s z).2 = 0 ∧ (rr s z).1 ≠ []) ∨ ((rr s z).2 ≠ 0 ∧ (rr s z).1 = []))) ∧ (rr s z).1.length ≤ 12 := by
  unfold rr
  split
  · rename_i h
    obtain ⟨a, b, c⟩ := readL_in z h.2.1.1 (lst [] (s.drop 6)) [] (fun p hp => by cases hp)
    refine ⟨⟨fun p hp => ⟨a p hp, h.2.1.2⟩, b⟩, ?_⟩
    rw [List.length_nil, Nat.zero_add] at c
    exact Nat.le_trans c h.2.2.2
  · exact ⟨⟨fun p hp => (by cases hp), Or.inr ⟨by decide, rfl⟩⟩, Nat.zero_le _⟩

/-! ### The law of ranges -/
theorem ok_in (p : S47) (z : Int) (h : inP z p) (hz : z ≤ 1000000) : spanOK p = true := by
  obtain ⟨h0, h1, h2⟩ := h
  unfold spanOK
  simp only [Bool.and_eq_true, decide_eq_true_eq]
  exact ⟨h0, h1, Int.le_trans h2 hz⟩
theorem cr_room (a b : List UInt8) (ha : a.length ≤ 20) (hb : b.length ≤ 20) (P : List UInt8) (hP : P.length = 6) : 6 + (tx a).size ≤ 9223372036854775807 ∧ (tx (P ++ a)).size + 1 ≤ 9223372036854775807 ∧ (tx (P ++ a ++ [47])).size + (tx b).size ≤ 9223372036854775807 := by
  rw [tx_size, tx_size, tx_size, tx_size, List.length_append, List.length_append, List.length_append, List.length_singleton, hP]; omega
theorem content_I (K : Nat) (p : S47) (z : Int) (h : inP z p) (hz : z ≤ 1000000) : ∃ t, impl_ContentRange.f (K + 1) p.f0 p.f1 z = some (t, true) ∧ ¬ t.toList = [] := by
  have hs := ok_in p z h hz
  have hl := spanT_len p hs
  have ht := spanText_I p hs
  obtain ⟨h0, h1, h2⟩ := h
  have hi := itoa_f z (by omega) (by omega)
  have hi2 := itoa_len z (by omega) (by omega)
  have e1 : impl_isSpan.f p.f0 p.f1 = some true := by
    unfold impl_isSpan.f
    rw [if_pos (show p.f0 ≥ 0 from h0), if_pos h1, decide_eq_true (show p.f1 ≤ 1000000 by omega)]
  have eb : (⟨#[98, 121, 116, 101, 115, 32]⟩ : ByteArray) = tx [98, 121, 116, 101, 115, 32] := rfl
  have t47 : (⟨#[47]⟩ : ByteArray) = tx [47] := rfl
  generalize spanT p = a at *
  generalize Lib.itoa z = b at *
  obtain ⟨g1, g2, g3⟩ := cr_room a b (by omega) (by omega) [98, 121, 116, 101, 115, 32] rfl
  refine ⟨tx ([98, 121, 116, 101, 115, 32] ++ a ++ [47] ++ b), ?_, ?_⟩
  · unfold impl_ContentRange.f
    rw [e1, Option.bind_some, if_pos rfl, decide_eq_false (show ¬ p.f1 > z by omega)]
    unfold impl_ContentRange.j0
    dsimp only
    rw [if_neg (show ¬ false = true by decide), ht, Option.bind_some, if_pos g1, eb, tx_app, if_pos g2, hi, Option.bind_some, t47, tx_app, if_pos g3, tx_app]
  · rw [tx_toList]
    intro hh
    cases hh
theorem same_l (l : List S47) (hl : l.length ≤ 1000) : ∀ (M pre : List S47) (K : Nat), l = pre ++ M → M.length < K → laws_sameSpans.l0 K l l (l.length : Int) (pre.length : Int) = some true
  | M, pre, 0, _, hK => absurd hK (Nat.not_lt_zero _)
  | [], pre, K + 1, e, _ => by
    have hp : pre = l := by rw [e, List.append_nil]
    rw [← hp]
    unfold laws_sameSpans.l0
    rw [if_neg (Int.lt_irrefl _)]
  | x :: M, pre, K + 1, e, hK => by
    have hlen : (l.length : Int) = (pre.length : Int) + ((M.length : Int) + 1) := by rw [e]; exact lenT pre x M
    obtain ⟨q1, q2, q3⟩ := pos_l pre.length M.length (by omega)
    have hr : rd_T47 l (pre.length : Int) = x := by rw [e]; exact rdT_mid pre x M
    have e2 : (((pre ++ [x]).length : Nat) : Int) = (pre.length : Int) + 1 := by rw [sp_len]; omega
    have ih := same_l l hl M (pre ++ [x]) K (by rw [e, List.append_assoc]; rfl) (Nat.lt_of_succ_lt_succ hK)
    rw [e2] at ih
    unfold laws_sameSpans.l0
    rw [if_pos (by rw [hlen]; exact q1), if_pos q2, if_pos (by rw [hlen]; exact q1), if_pos (by rw [hlen]; exact q1), hr, beq_self_eq_true, beq_self_eq_true, if_neg (show ¬ ((!true) || (!true)) = true by decide), q3]
    exact ih
theorem same_f (K : Nat) (l : List S47) (hl : l.length ≤ 1000) (hK : 1001 ≤ K) : laws_sameSpans.f K l l = some true := by
  unfold laws_sameSpans.f
  rw [if_pos rfl]
  exact same_l l hl l [] K rfl (by omega)
theorem law_l (L : List S47) (z c : Int) (hz : z ≤ 1000000) (hL : L.length ≤ 1000) (h : ∀ p ∈ L, inP z p) (hc : (c == 0) = decide ((L.length : Int) > 0)) : ∀ (M pre : List S47) (K : Nat), L = pre ++ M → M.length + 1 < K → laws_FnRanges.l0 K z L c L (L.length : Int) (pre.length : Int) = some true
  | M, pre, 0, _, hK => absurd hK (Nat.not_lt_zero _)
  | M, pre, 1, _, hK => absurd hK (by omega)
  | [], pre, K + 2, e, _ => by
    have hp : pre = L := by rw [e, List.append_nil]
    rw [← hp] at hc
    rw [← hp]
    unfold laws_FnRanges.l0
    rw [if_neg (Int.lt_irrefl _), hc, beq_self_eq_true]
  | x :: M, pre, K + 2, e, hK => by
    have hlen : (L.length : Int) = (pre.length : Int) + ((M.length : Int) + 1) := by rw [e]; exact lenT pre x M
    obtain ⟨q1, q2, q3⟩ := pos_l pre.length M.length (by omega)
    have hr : rd_T47 L (pre.length : Int) = x := by rw [e]; exact rdT_mid pre x M
    have e2 : (((pre ++ [x]).length : Nat) : Int) = (pre.length : Int) + 1 := by rw [sp_len]; omega
    have hx := h x (by rw [e]; exact List.mem_append_right _ List.mem_cons_self)
    have ih := law_l L z c hz hL h hc M (pre ++ [x]) (K + 1) (by rw [e, List.append_assoc]; rfl) (by rw [List.length_cons] at hK; omega)
    rw [e2] at ih
    obtain ⟨t, ht, hne⟩ := content_I K x z hx hz
    obtain ⟨h0, h1, h2⟩ := hx
    unfold laws_FnRanges.l0
    rw [if_pos (by rw [hlen]; exact q1), if_pos q2, if_pos (by rw [hlen]; exact q1), hr, ht, Option.bind_some, if_neg (show ¬ x.f0 < 0 by omega), if_neg (show ¬ x.f0 ≥ x.f1 by omega), if_neg (show ¬ x.f1 > z by omega)]
    dsimp only
    rw [if_pos rfl, if_neg hne, q3]
    exact ih
theorem code_eq (L : List S47) (c : Int) (h : (c = 0 ∧ L ≠ []) ∨ (c ≠ 0 ∧ L = [])) : (c == 0) = decide ((L.length : Int) > 0) := by
  rcases h with ⟨h1, h2⟩ | ⟨h1, h2⟩
  · have : 0 < L.length := List.length_pos_iff.mpr h2
    rw [h1, decide_eq_true (by omega)]; rfl
  · rw [h2]
    exact (beq_eq_false_iff_ne.mpr h1).trans (decide_eq_false (by decide)).symm
theorem law_j1 (K : Nat) (hK : 5000 ≤ K) (more : List Int) (hcd : ∀ x ∈ more, 0 ≤ x ∧ x ≤ 255) (hb : more.length < 4611686018427387904) : laws_FnRanges.j1 K more = some true := by
  obtain ⟨m, rfl⟩ : ∃ m, K = m + 2 := ⟨K - 2, by omega⟩
  obtain ⟨s, z, e, hi, hz⟩ := draw_ok more hcd hb (m + 1) (by omega)
  obtain ⟨w1, w2, w3, w4⟩ := hi.want
  obtain ⟨⟨r1, r2⟩, r3⟩ := rr_in s z
  unfold laws_FnRanges.j1
  dsimp only
  rw [e, Option.bind_some]
  dsimp only
  rw [ReadI (m + 1) s z w1 w2 w3 (by omega), Option.bind_some, ReadS (m + 1) s z w1 w2 w3 w4 (by omega), Option.bind_some, if_pos rfl, same_f (m + 1) _ (by omega) (by omega), Option.bind_some]
  unfold laws_FnRanges.j2
  dsimp only
  rw [if_neg (show ¬ (!true) = true by decide)]
  have hcq := code_eq _ _ r2
  generalize rr s z = R at *
  obtain ⟨L, c⟩ := R
  dsimp only at *
  by_cases hne : L = []
  · rw [hne] at hcq ⊢
    obtain ⟨k, rfl⟩ : ∃ k, m = k + 1 := ⟨m - 1, by omega⟩
    unfold laws_FnRanges.l0
    rw [if_neg (by decide), hcq, beq_self_eq_true]
  · obtain ⟨x, hx⟩ := List.exists_mem_of_ne_nil L hne
    exact law_l L z c (r1 x hx).2 (by omega) (fun p hp => (r1 p hp).1) hcq L [] m rfl (by omega)
theorem FnRanges : laws_FnRanges.Pure := by
  intro code more hlen hlen2 hwf hlen3 hlen4 hwf2
  have hc := bytes_of code hwf
  have hc2 := bytes_of more hwf2
  refine ⟨6000, ?_⟩
  unfold laws_FnRanges.f
  by_cases c : (wrap64 ((code.length : Int) + (more.length : Int))) > 1048576
  · rw [if_pos c]
  rw [if_neg c]
  obtain ⟨l, a, st, e, hl⟩ := spans_ok code hc (by omega) 6000 (by decide) 30 0 0 (by decide) (by decide)
  have eD : spec_DrawRangeText.f 6000 code = some l := by
    unfold spec_DrawRangeText.f
    rw [e, Option.bind_some]
  have jj : ∀ k, 5000 ≤ k → laws_FnRanges.j1 k more = some true := fun k hk => law_j1 k hk more hc2 (by omega)
  rw [eD, Option.bind_some, text_I 6000 l (by omega) (by decide), Option.bind_some, text_S 6000 l (by omega) (by decide), Option.bind_some]
  have e1 : ((rt l).2 != (rt l).2) = false := bne_self_eq_false _
  have e2 : ((rt l).1.toList != (rt l).1.toList) = false := bne_self_eq_false _
  rw [e1, if_neg (show ¬ false = true by decide), e2]
  unfold laws_FnRanges.j0
  dsimp only
  rw [if_neg (show ¬ false = true by decide)]
  unfold rt
  by_cases ho : okL l = true ∧ l ≠ []
  · rw [if_pos ho, if_pos rfl, back_I 5999 l ho.1 ho.2 (by decide), Option.bind_some, if_pos rfl, same_f 5999 l (by omega) (by decide), Option.bind_some, if_pos rfl]
    exact jj 5999 (by decide)
  · rw [if_neg ho, if_neg (show ¬ false = true by decide)]
    exact jj 5999 (by decide)

end Go.Proofs.YtjkpomphkfecmaaGreatDoor.Pure
