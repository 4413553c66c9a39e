/- The plain law of choices: of drawn texts both read the same choices and name the same as the best; what is best is offered, and best alone; a list that is joined again is read as it was. -/
import Derived.Test.YtjkpomphkfecmaaGreatDoorPFnChoicesx15
import Derived.Lib.VarintBits
set_option linter.unusedVariables false
set_option linter.unusedSimpArgs false
namespace Go.Proofs.YtjkpomphkfecmaaGreatDoor.Pure
open Go.RowKit Go.Proofs.YtjkpomphkfecmaaGreatDoor.PFnChoices Go.Proofs.YtjkpomphkfecmaaGreatDoorW.PrintWords Go.Proofs.YtjkpomphkfecmaaGreatDoorW.PrintLast

/-! Whole numbers and rows of them -/
theorem w64 {x : Int} (h : -9223372036854775808 ≤ x) (h2 : x < 9223372036854775808) : wrap64 x = x := by unfold wrap64; omega
theorem rd_nat (l : List Int) (n : Nat) (h : n < l.length) : rd l (n : Int) = l[n] := by
  unfold rd; simp [List.getD_eq_getElem?_getD, h]
theorem succ_cast (n : Nat) : ((n : Int) + 1) = ((n + 1 : Nat) : Int) := by omega

theorem mono_le {α : Type} (F : Nat → Option α) (h : ∀ k, LeO (F k) (F (k + 1))) (a b : Nat) (hab : a ≤ b) (r : α) (e : F a = some r) : F b = some r := by
  obtain ⟨d, rfl⟩ := Nat.le.dest hab
  clear hab
  induction d with
  | zero => exact e
  | succ d ih => exact h (a + d) r ih

/-! ### Texts as lists of bytes -/
abbrev tx (l : List UInt8) : ByteArray := ⟨l.toArray⟩
theorem tx_size (l : List UInt8) : (tx l).size = l.length := by simp [ByteArray.size]
theorem tx_data (s : ByteArray) : tx s.data.toList = s := rfl
theorem tx_list (l : List UInt8) : (tx l).data.toList = l := rfl
theorem tx_app (a b : List UInt8) : tx a ++ tx b = tx (a ++ b) := by
  apply ByteArray.ext
  simp [tx]
theorem tx_cut (T : List UInt8) (a b : Nat) : (tx T).extract a b = tx ((T.drop a).take (b - a)) := by
  apply ByteArray.ext
  apply Array.toList_inj.mp
  simp [tx]
theorem tx_toList (l : List UInt8) : (tx l).toList = l := by rw [ByteArray.toList_eq]
theorem tx_inj {a b : List UInt8} (h : tx a = tx b) : a = b := by
  have : (tx a).data.toList = (tx b).data.toList := by rw [h]
  exact this
theorem bt_tx (T : List UInt8) (i : Nat) (h : i < T.length) : bt (tx T) (i : Int) = (T[i].toNat : Int) := by
  have h1 : ((i : Int)).toNat < (tx T).size := by rw [tx_size]; omega
  unfold bt
  rw [dif_pos h1]
  simp [tx, ByteArray.getElem_eq_getElem_data]
theorem bt_at (pre rest : List UInt8) (b : UInt8) : bt (tx (pre ++ b :: rest)) (pre.length : Int) = (b.toNat : Int) := by
  rw [bt_tx _ pre.length (by simp)]
  simp
/-! ### Cut at a byte -/
theorem index_none (c : UInt8) : ∀ l : List UInt8, c ∉ l → Lib.index l [c] = -1
  | [], _ => rfl
  | b :: l, h => by
    have hb : (c == b) = false := beq_eq_false_iff_ne.mpr fun e => h (e ▸ List.mem_cons_self ..)
    have ih := index_none c l fun hh => h (List.mem_cons_of_mem _ hh)
    unfold Lib.index
    rw [ih]
    simp [List.isPrefixOf, hb]
theorem index_at (c : UInt8) (r : List UInt8) : ∀ l : List UInt8, c ∉ l → Lib.index (l ++ c :: r) [c] = (l.length : Int)
  | [], _ => by simp [Lib.index, List.isPrefixOf]
  | b :: l, h => by
    have hb : (c == b) = false := beq_eq_false_iff_ne.mpr fun e => h (e ▸ List.mem_cons_self ..)
    have ih := index_at c r l fun hh => h (List.mem_cons_of_mem _ hh)
    show Lib.index (b :: (l ++ c :: r)) [c] = _
    unfold Lib.index
    rw [ih]
    have : ((l.length : Int) == -1) = false := beq_eq_false_iff_ne.mpr (by omega)
    simp [List.isPrefixOf, hb, this]
theorem cut_none (c : UInt8) (l : List UInt8) (h : c ∉ l) : Lib.cut l [c] = (l, [], false) := by
  unfold Lib.cut
  rw [index_none c l h]; rfl
theorem cut_at (c : UInt8) (l r : List UInt8) (h : c ∉ l) : Lib.cut (l ++ c :: r) [c] = (l, r, true) := by
  unfold Lib.cut
  rw [index_at c r l h, if_pos (by omega), Int.toNat_natCast, List.take_left]
  have : l.length + [c].length = (l ++ [c]).length := by simp
  rw [this, show l ++ c :: r = (l ++ [c]) ++ r by simp, List.drop_left]
theorem cut_http (r : List UInt8) : Lib.cut ([104, 116, 116, 112] ++ ([58, 47, 47] ++ r)) [58, 47, 47] = ([104, 116, 116, 112], r, true) := by
  simp [Lib.cut, Lib.index, List.isPrefixOf]
theorem cut_https (r : List UInt8) : Lib.cut ([104, 116, 116, 112, 115] ++ ([58, 47, 47] ++ r)) [58, 47, 47] = ([104, 116, 116, 112, 115], r, true) := by
  simp [Lib.cut, Lib.index, List.isPrefixOf]
/-! ### Numerals -/
theorem decFrom_app : ∀ (l r : List UInt8) (a : Nat), Lib.decFrom a (l ++ r) = (Lib.decFrom a l).bind fun b => Lib.decFrom b r
  | [], _, _ => rfl
  | x :: l, r, a => by
    show (match Lib.digitVal x with | some d => Lib.decFrom (a * 10 + d) (l ++ r) | none => none) = (match Lib.digitVal x with | some d => Lib.decFrom (a * 10 + d) l | none => none).bind _
    cases Lib.digitVal x with
    | none => rfl
    | some d => exact decFrom_app l r _
theorem u8of (d : Nat) (h : d < 10) : (UInt8.ofNat (48 + d)).toNat = 48 + d := by rw [UInt8.toNat_ofNat']; omega
theorem dig_val (d : Nat) (h : d < 10) : Lib.digitVal (UInt8.ofNat (48 + d)) = some d := by
  unfold Lib.digitVal
  rw [u8of d h, if_pos (by omega)]
  congr 1; omega
theorem dec_back (u : Nat) : Lib.decFrom 0 (Lib.decDigits u) = some u := by
  induction u using Nat.strongRecOn with
  | ind u ih =>
    unfold Lib.decDigits
    by_cases h : u < 10
    · rw [dif_pos h]
      show (match Lib.digitVal (UInt8.ofNat (48 + u)) with | some d => Lib.decFrom (0 * 10 + d) [] | none => none) = _
      rw [dig_val u h]
      show some (0 * 10 + u) = _
      congr 1; omega
    · rw [dif_neg h, decFrom_app, ih (u / 10) (by omega), Option.bind_some]
      show (match Lib.digitVal (UInt8.ofNat (48 + u % 10)) with | some d => Lib.decFrom (u / 10 * 10 + d) [] | none => none) = _
      rw [dig_val _ (by omega)]
      show some (u / 10 * 10 + u % 10) = _
      congr 1; omega
theorem dec_digs (u : Nat) : ∀ b ∈ Lib.decDigits u, 48 ≤ b.toNat ∧ b.toNat ≤ 57 := by
  induction u using Nat.strongRecOn with
  | ind u ih =>
    intro b hb
    unfold Lib.decDigits at hb
    by_cases h : u < 10
    · rw [dif_pos h] at hb
      rw [List.mem_singleton.mp hb, u8of u h]; omega
    · rw [dif_neg h] at hb
      rcases List.mem_append.mp hb with h1 | h1
      · exact ih (u / 10) (by omega) b h1
      · rw [List.mem_singleton.mp h1, u8of _ (by omega)]; omega
theorem dec_len (u : Nat) : ∀ n, u < 10 ^ (n + 1) → (Lib.decDigits u).length ≤ n + 1 := by
  induction u using Nat.strongRecOn with
  | ind u ih =>
    intro n hn
    unfold Lib.decDigits
    by_cases h : u < 10
    · rw [dif_pos h]; simp
    · rw [dif_neg h, List.length_append]
      cases n with
      | zero => omega
      | succ m =>
        have := ih (u / 10) (by omega) m (by rw [Nat.pow_succ] at hn; omega)
        simp; omega
theorem dec_ne (u : Nat) : Lib.decDigits u ≠ [] := by
  unfold Lib.decDigits
  split <;> simp
theorem atoi_back (u : Nat) : Lib.atoi (Lib.decDigits u) = some (u : Int) := by
  cases e : Lib.decDigits u with
  | nil => exact absurd e (dec_ne u)
  | cons b r =>
    have hb := dec_digs u b (by rw [e]; exact List.mem_cons_self ..)
    show (if (b == 45) = true then (Lib.decNat r).map fun (m : Nat) => -(m : Int) else if (b == 43) = true then (Lib.decNat r).map fun (m : Nat) => (m : Int) else (Lib.decNat (b :: r)).map fun (m : Nat) => (m : Int)) = _
    have h1 : (b == 45) = false := beq_eq_false_iff_ne.mpr fun h => by subst h; simp at hb
    have h2 : (b == 43) = false := beq_eq_false_iff_ne.mpr fun h => by subst h; simp at hb
    rw [h1, h2]
    have : Lib.decNat (b :: r) = some u := by
      unfold Lib.decNat
      rw [← e, if_neg (by rw [e]; exact Bool.false_ne_true), dec_back]
    simp [this]

/-! ### Blanks trimmed -/
abbrev bl (i : Nat) : List UInt8 := List.replicate i 32
theorem bl_succ (i : Nat) : bl (i + 1) = 32 :: bl i := rfl
theorem bl_end (i : Nat) : bl (i + 1) = bl i ++ [32] := List.replicate_succ'
/-- a core: nothing, or neither its first nor its last byte is a blank -/
def Core (c : List UInt8) : Prop := (∀ b r, c = b :: r → b ≠ 32) ∧ (∀ r b, c = r ++ [b] → b ≠ 32)
theorem core_ex (l : List UInt8) : ∃ i c j, l = bl i ++ c ++ bl j ∧ Core c ∧ (c = [] → j = 0) := by
  have left : ∀ l : List UInt8, ∃ i c, l = bl i ++ c ∧ (∀ b r, c = b :: r → b ≠ 32) := by
    intro l
    induction l with
    | nil => exact ⟨0, [], rfl, fun b r h => by cases h⟩
    | cons x l ih =>
      by_cases h : x = 32
      · obtain ⟨i, c, h1, h2⟩ := ih
        exact ⟨i + 1, c, by rw [h, h1]; rfl, h2⟩
      · exact ⟨0, x :: l, rfl, fun b r hb => by rw [← (List.cons.inj hb).1]; exact h⟩
  have right : ∀ c : List UInt8, (∀ b r, c = b :: r → b ≠ 32) → ∃ d j, c = d ++ bl j ∧ Core d ∧ (d = [] → j = 0) := by
    intro c
    have key : ∀ (n : Nat) (c : List UInt8), c.length = n → (∀ b r, c = b :: r → b ≠ 32) → ∃ d j, c = d ++ bl j ∧ Core d ∧ (d = [] → j = 0) := by
      intro n
      induction n with
      | zero =>
        intro c hc hb
        have : c = [] := List.eq_nil_of_length_eq_zero hc
        subst this
        exact ⟨[], 0, rfl, ⟨hb, fun r b h => by simp at h⟩, fun _ => rfl⟩
      | succ n ih =>
        intro c hc hb
        rcases List.eq_nil_or_concat c with h | ⟨L, x, h⟩
        · rw [h] at hc; cases hc
        · rw [List.concat_eq_append] at h
          by_cases hx : x = 32
          · have hL : ∀ b r, L = b :: r → b ≠ 32 := fun b r hbr => hb b (r ++ [x]) (by rw [h, hbr]; rfl)
            obtain ⟨d, j, h1, h2, h3⟩ := ih L (by rw [h, List.length_append, List.length_singleton] at hc; omega) hL
            by_cases hd : d = []
            · exfalso
              have hj := h3 hd
              rw [hd, hj] at h1
              have hc1 : c = [x] := by rw [h, h1]; rfl
              exact hb x [] hc1 hx
            · exact ⟨d, j + 1, by rw [h, h1, hx, List.append_assoc, ← bl_end], h2, fun hh => absurd hh hd⟩
          · refine ⟨c, 0, by simp, ⟨hb, fun r b hr => ?_⟩, fun _ => rfl⟩
            rw [h] at hr
            have := List.append_inj_right' hr rfl
            rw [← (List.cons.inj this).1]; exact hx
    exact key c.length c rfl
  obtain ⟨i, c, h1, h2⟩ := left l
  obtain ⟨d, j, h3, h4, h5⟩ := right c h2
  exact ⟨i, d, j, by rw [h1, h3, List.append_assoc], h4, h5⟩
theorem last_bt (T : List UInt8) (b : UInt8) (h : T.length ≤ 100000) : bt (tx (T ++ [b])) (wrap64 (((tx (T ++ [b])).size : Int) - 1)) = (b.toNat : Int) ∧ wrap64 (((tx (T ++ [b])).size : Int) - 1) = (T.length : Int) ∧ ((tx (T ++ [b])).size : Int) = (T.length : Int) + 1 := by
  have hs : ((tx (T ++ [b])).size : Int) = (T.length : Int) + 1 := by rw [tx_size]; simp
  have hw : wrap64 ((T.length : Int) + 1 - 1) = (T.length : Int) := by rw [w64 (by omega) (by omega)]; omega
  rw [hs, hw]
  exact ⟨bt_at T [] b, rfl, rfl⟩
theorem cut_last (T : List UInt8) (b : UInt8) : (tx (T ++ [b])).extract 0 (T.length : Int).toNat = tx T := by
  rw [tx_cut, List.drop_zero, Int.toNat_natCast, Nat.sub_zero, List.take_left]
theorem cut_first (b : UInt8) (T : List UInt8) : (tx (b :: T)).extract 1 (tx (b :: T)).size = tx T := by
  rw [tx_cut, tx_size]
  show tx (T.take ((b :: T).length - 1)) = _
  rw [List.take_of_length_le (by simp)]
theorem n32 (b : UInt8) (h : b ≠ 32) : ¬ (b.toNat : Int) = 32 := fun hh => h (UInt8.toNat_inj.mp (by show b.toNat = 32; omega))
theorem trimR_I (A : List UInt8) (hA : ∀ r b, A = r ++ [b] → b ≠ 32) : ∀ (j K : Nat), (A ++ bl j).length ≤ 100000 → j < K → strings_trimRightByte.l0 K (tx (A ++ bl j)) 32 = some (tx A)
  | j, 0, _, h => absurd h (by omega)
  | 0, K + 1, hl, h => by
    have e : A ++ bl 0 = A := by simp
    rw [e] at hl ⊢
    unfold strings_trimRightByte.l0
    rcases List.eq_nil_or_concat A with h0 | ⟨T, b, h0⟩
    · rw [h0, if_neg (by decide)]
    · rw [List.concat_eq_append] at h0
      have hb := hA T b h0
      subst h0
      have hT : T.length ≤ 100000 := by rw [List.length_append] at hl; omega
      obtain ⟨g1, g2, g3⟩ := last_bt T b hT
      rw [g1, g2, g3, if_pos (by omega), if_pos (by omega), if_pos (by omega), if_neg (n32 b hb)]
  | j + 1, K + 1, hl, h => by
    have e : A ++ bl (j + 1) = (A ++ bl j) ++ [32] := by rw [bl_end, List.append_assoc]
    rw [e] at hl ⊢
    have hT : (A ++ bl j).length ≤ 100000 := by rw [@List.length_append _ (A ++ bl j) _] at hl; omega
    obtain ⟨g1, g2, g3⟩ := last_bt (A ++ bl j) 32 hT
    unfold strings_trimRightByte.l0
    rw [g1, g2, g3, if_pos (by omega), if_pos (by omega), if_pos (by omega), if_pos (by rfl), if_pos (by omega), cut_last]
    exact trimR_I A hA j K hT (by omega)
theorem trimL_I (A : List UInt8) (hA : ∀ b r, A = b :: r → b ≠ 32) : ∀ (i K : Nat), i < K → strings_trimLeftByte.l0 K (tx (bl i ++ A)) 32 = some (tx A)
  | i, 0, h => absurd h (by omega)
  | 0, K + 1, h => by
    have e : bl 0 ++ A = A := rfl
    rw [e]
    unfold strings_trimLeftByte.l0
    cases A with
    | nil => rw [if_neg (by decide)]
    | cons b r =>
      have e0 : bt (tx (b :: r)) 0 = (b.toNat : Int) := bt_tx (b :: r) 0 (by simp)
      have hs : ((tx (b :: r)).size : Int) = (r.length : Int) + 1 := by rw [tx_size]; simp
      rw [e0, hs, if_pos (by omega), if_pos (by omega), if_neg (n32 b (hA b r rfl))]
  | i + 1, K + 1, h => by
    have e : bl (i + 1) ++ A = 32 :: (bl i ++ A) := rfl
    rw [e]
    have e0 : bt (tx (32 :: (bl i ++ A))) 0 = 32 := bt_tx (32 :: (bl i ++ A)) 0 (by simp)
    have hs : ((tx (32 :: (bl i ++ A))).size : Int) = ((bl i ++ A).length : Int) + 1 := by rw [tx_size]; simp
    have hc := cut_first 32 (bl i ++ A)
    unfold strings_trimLeftByte.l0
    rw [hc, e0, hs, if_pos (by omega), if_pos (by omega), if_pos rfl, if_pos (by omega)]
    exact trimL_I A hA i K (by omega)
theorem trim_I (i j K : Nat) (c : List UInt8) (hc : Core c) (hl : (bl i ++ c ++ bl j).length ≤ 100000) (hj : c = [] → j = 0) (hK : i + j + 3 ≤ K) : strings_Trim.f K (tx (bl i ++ c ++ bl j)) (⟨#[32]⟩ : ByteArray) = some (tx c) := by
  obtain ⟨m, rfl⟩ : ∃ m, K = m + 2 := ⟨K - 2, by omega⟩
  have e32 : (⟨#[32]⟩ : ByteArray) = tx [32] := rfl
  have b32 : bt (tx [32]) 0 = 32 := bt_tx [32] 0 (by simp)
  have s32 : ((tx [32]).size : Int) = 1 := rfl
  unfold strings_Trim.f
  rw [e32, tx_toList, tx_toList]
  by_cases c0 : bl i ++ c ++ bl j = []
  · have hc0 : c = [] := by
      have := List.append_eq_nil_iff.mp c0
      exact (List.append_eq_nil_iff.mp this.1).2
    rw [if_pos c0]
    unfold strings_Trim.j0
    dsimp only
    rw [if_pos rfl, c0, hc0]
  · rw [if_neg c0]
    unfold strings_Trim.j0
    dsimp only
    rw [if_neg (by decide), s32, b32, if_pos rfl, if_pos (by decide)]
    unfold strings_Trim.j1 strings_trimRightByte.f strings_trimLeftByte.f
    dsimp only
    have hA : ∀ r b, bl i ++ c = r ++ [b] → c ≠ [] → b ≠ 32 := fun r b h hn => by
      rcases List.eq_nil_or_concat c with h0 | ⟨T, x, h0⟩
      · exact absurd h0 hn
      · rw [List.concat_eq_append] at h0
        rw [h0, ← List.append_assoc] at h
        have := List.append_inj_right' h rfl
        rw [← (List.cons.inj this).1]
        exact hc.2 T x h0
    rw [if_pos (by decide), s32, if_pos (by decide), b32]
    by_cases hn : c = []
    · have hj0 := hj hn
      subst hn
      subst hj0
      have e0 : bl i ++ [] ++ bl 0 = [] ++ bl i := by simp
      rw [e0]
      rw [trimR_I [] (fun r b h => by simp at h) i m (by rw [e0] at hl; exact hl) (by omega), Option.bind_some]
      have e1 := trimL_I [] (fun b r h => by cases h) 0 m (by omega)
      have e2 : bl 0 ++ [] = ([] : List UInt8) := rfl
      rw [e2] at e1
      rw [e1]; rfl
    · rw [trimR_I (bl i ++ c) (fun r b h => hA r b h hn) j m hl (by omega), Option.bind_some, trimL_I c hc.1 i m (by omega)]; rfl
theorem trimS_r (c : List UInt8) (hc : Core c) : ∀ (j K : Nat), (c ++ bl j).length ≤ 100000 → j < K → spec_l3Trim.l1 K (tx (c ++ bl j)) = some (tx c)
  | j, 0, _, h => absurd h (by omega)
  | 0, K + 1, hl, h => by
    have e : c ++ bl 0 = c := by simp
    rw [e] at hl ⊢
    unfold spec_l3Trim.l1
    rcases List.eq_nil_or_concat c with h0 | ⟨T, b, h0⟩
    · rw [h0, if_neg (by decide)]
    · rw [List.concat_eq_append] at h0
      have hb := hc.2 T b h0
      subst h0
      have hT : T.length ≤ 100000 := by rw [List.length_append] at hl; omega
      obtain ⟨g1, g2, g3⟩ := last_bt T b hT
      rw [g1, g2, g3, if_pos (by omega), if_pos (by omega), if_pos (by omega), if_neg (n32 b hb)]
  | j + 1, K + 1, hl, h => by
    have e : c ++ bl (j + 1) = (c ++ bl j) ++ [32] := by rw [bl_end, List.append_assoc]
    rw [e] at hl ⊢
    have hT : (c ++ bl j).length ≤ 100000 := by rw [@List.length_append _ (c ++ bl j) _] at hl; omega
    obtain ⟨g1, g2, g3⟩ := last_bt (c ++ bl j) 32 hT
    unfold spec_l3Trim.l1
    rw [g1, g2, g3, if_pos (by omega), if_pos (by omega), if_pos (by omega), if_pos (by rfl), if_pos (by omega), cut_last]
    exact trimS_r c hc j K hT (by omega)
theorem trim_S (c : List UInt8) (hc : Core c) (j : Nat) (hj : c = [] → j = 0) : ∀ (i K : Nat), (bl i ++ c ++ bl j).length ≤ 100000 → i + j + 3 ≤ K → spec_l3Trim.l0 K (tx (bl i ++ c ++ bl j)) = some (tx c)
  | i, 0, _, h => absurd h (by omega)
  | 0, K + 1, hl, h => by
    have e : bl 0 ++ c ++ bl j = c ++ bl j := rfl
    rw [e] at hl ⊢
    obtain ⟨m, rfl⟩ : ∃ m, K = m + 1 := ⟨K - 1, by omega⟩
    have fin : spec_l3Trim.j1 (m + 1) (tx (c ++ bl j)) = some (tx c) := by
      unfold spec_l3Trim.j1
      dsimp only
      exact trimS_r c hc j m hl (by omega)
    unfold spec_l3Trim.l0
    cases c with
    | nil =>
      have := hj rfl
      subst this
      rw [if_neg (by decide)]
      exact fin
    | cons b r =>
      have e0 : bt (tx (b :: r ++ bl j)) 0 = (b.toNat : Int) := bt_tx (b :: r ++ bl j) 0 (by simp)
      have hs : ((tx (b :: r ++ bl j)).size : Int) = ((r ++ bl j).length : Int) + 1 := by rw [tx_size]; simp
      rw [e0, hs, if_pos (by omega), if_pos (by omega), if_neg (n32 b (hc.1 b r rfl))]
      exact fin
  | i + 1, K + 1, hl, h => by
    have e : bl (i + 1) ++ c ++ bl j = 32 :: (bl i ++ c ++ bl j) := rfl
    rw [e] at hl ⊢
    have e0 : bt (tx (32 :: (bl i ++ c ++ bl j))) 0 = 32 := bt_tx (32 :: (bl i ++ c ++ bl j)) 0 (by simp)
    have hs : ((tx (32 :: (bl i ++ c ++ bl j))).size : Int) = ((bl i ++ c ++ bl j).length : Int) + 1 := by rw [tx_size]; simp
    have hcf := cut_first 32 (bl i ++ c ++ bl j)
    unfold spec_l3Trim.l0
    rw [hcf, e0, hs, if_pos (by omega), if_pos (by omega), if_pos rfl, if_pos (by omega)]
    exact trim_S c hc j hj i K (by rw [List.length_cons] at hl; omega) (by omega)

/-! ### A list's parts -/
noncomputable def trimB (l : List UInt8) : List UInt8 := (core_ex l).choose_spec.choose
theorem trimB_form (l : List UInt8) : ∃ i j, l = bl i ++ trimB l ++ bl j ∧ Core (trimB l) ∧ (trimB l = [] → j = 0) :=
  ⟨(core_ex l).choose, (core_ex l).choose_spec.choose_spec.choose, (core_ex l).choose_spec.choose_spec.choose_spec⟩
theorem form_len (i j : Nat) (c : List UInt8) : (bl i ++ c ++ bl j).length = i + c.length + j := by simp; omega
theorem trimI (K : Nat) (l : List UInt8) (hl : l.length ≤ 100000) (hK : l.length + 3 ≤ K) : strings_Trim.f K (tx l) (⟨#[32]⟩ : ByteArray) = some (tx (trimB l)) := by
  obtain ⟨i, j, h1, h2, h3⟩ := trimB_form l
  have hn : l.length = i + (trimB l).length + j := by
    have := form_len i j (trimB l)
    rw [← h1] at this; exact this
  have := trim_I i j K (trimB l) h2 (by rw [← h1]; exact hl) h3 (by omega)
  rw [← h1] at this
  exact this
theorem trimS (K : Nat) (l : List UInt8) (hl : l.length ≤ 100000) (hK : l.length + 3 ≤ K) : spec_l3Trim.f K (tx l) = some (tx (trimB l)) := by
  obtain ⟨i, j, h1, h2, h3⟩ := trimB_form l
  have hn : l.length = i + (trimB l).length + j := by
    have := form_len i j (trimB l)
    rw [← h1] at this; exact this
  have := trim_S (trimB l) h2 j h3 i K (by rw [← h1]; exact hl) (by omega)
  rw [← h1] at this
  exact this
theorem trimB_none (l : List UInt8) (h : (32 : UInt8) ∉ l) : trimB l = l := by
  obtain ⟨i, j, h1, _, _⟩ := trimB_form l
  have hi : i = 0 := by
    cases i with
    | zero => rfl
    | succ i => exact absurd (by rw [h1]; simp) h
  have hj : j = 0 := by
    cases j with
    | zero => rfl
    | succ j => exact absurd (by rw [h1]; simp) h
  subst hi hj
  have : bl 0 ++ trimB l ++ bl 0 = trimB l := by simp
  rw [this] at h1
  exact h1.symm
theorem trimB_len (l : List UInt8) : (trimB l).length ≤ l.length := by
  obtain ⟨i, j, h1, _, _⟩ := trimB_form l
  have := form_len i j (trimB l)
  rw [← h1] at this; omega
noncomputable def addP (cur : List UInt8) : List (List UInt8) := if trimB cur = [] then [] else [trimB cur]
noncomputable def lst : List UInt8 → List UInt8 → List (List UInt8)
  | cur, [] => addP cur
  | cur, b :: r => if b = 44 then addP cur ++ lst [] r else lst (cur ++ [b]) r
theorem lenI (A : List UInt8) (b : UInt8) : (((A ++ [b]).length : Nat) : Int) = (A.length : Int) + 1 := by simp
theorem mid_cut (pre cur M : List UInt8) : (tx (pre ++ cur ++ M)).extract (pre.length : Int).toNat ((pre ++ cur).length : Int).toNat = tx cur := by
  rw [tx_cut, Int.toNat_natCast, Int.toNat_natCast, List.append_assoc, List.drop_left]
  have : (pre ++ cur).length - pre.length = cur.length := by rw [List.length_append]; omega
  rw [this, List.take_left]
/-! the sums, with no text in sight -/
theorem ar1 (q n : Nat) (h : q < n) : (q : Int) ≤ (n : Int) ∧ ¬ (q : Int) = (n : Int) ∧ (0 : Int) ≤ (q : Int) ∧ (q : Int) < (n : Int) := by omega
theorem ar2 (p q : Nat) (h : p ≤ q) : (0 : Int) ≤ (p : Int) ∧ (p : Int) ≤ (q : Int) := by omega
theorem ar3 (q : Nat) : ¬ (q : Int) + 1 ≤ (q : Int) := by omega
theorem ar4 (q n : Nat) (h : q ≤ n) (h2 : n ≤ 10000) : wrap64 ((q : Int) + 1) = (q : Int) + 1 := w64 (by omega) (by omega)
theorem ar5 (a n k : Nat) (hn : n ≤ 10000) (ha : a ≤ n) : a ≤ 100000 := by omega
theorem ar6 (m n a k : Nat) (h : 3 * m + n + 20 ≤ k + 3) (ha : a ≤ n) : a + 3 ≤ k + 1 := by omega
theorem ar7 (m n k : Nat) (h : 3 * (m + 1) + n + 20 ≤ k + 3) : 3 * m + n + 20 ≤ k + 1 ∧ 3 * m + n + 20 ≤ k := by omega
theorem mapRoom (O : List (List UInt8)) (n : Nat) (h : O.length ≤ n) (hn : n ≤ 10000) : (O.map tx).length < 8796093022208 := by rw [List.length_map]; omega
theorem leA (A B : List UInt8) : A.length ≤ (A ++ B).length ∧ B.length ≤ (A ++ B).length := by rw [List.length_append]; omega
theorem ltA (A : List UInt8) (b : UInt8) (M : List UInt8) : A.length < (A ++ b :: M).length := by rw [List.length_append, List.length_cons]; omega
theorem nbv (b v : UInt8) (h : b ≠ v) : ¬ (b.toNat : Int) = (v.toNat : Int) := fun hh => h (UInt8.toNat_inj.mp (by omega))
theorem lst_44 (cur M : List UInt8) : lst cur (44 :: M) = addP cur ++ lst [] M := by
  conv => lhs; unfold lst
  rw [if_pos rfl]
theorem lst_ne (cur M : List UInt8) (b : UInt8) (c : b ≠ 44) : lst cur (b :: M) = lst (cur ++ [b]) M := by
  conv => lhs; unfold lst
  rw [if_neg c]
theorem listI (T : List UInt8) (hT : T.length ≤ 10000) : ∀ (M cur pre : List UInt8) (O : List (List UInt8)) (K : Nat), T = pre ++ cur ++ M → (34 : UInt8) ∉ M → (92 : UInt8) ∉ M → O.length ≤ pre.length → 3 * M.length + T.length + 20 ≤ K →
    impl_listOf.l0 K (tx T) (O.map tx) (pre.length : Int) false ((pre ++ cur).length : Int) = some ((O ++ lst cur M).map tx, true)
  | M, cur, pre, O, 0, _, _, _, _, h => absurd h (by omega)
  | M, cur, pre, O, 1, _, _, _, _, h => absurd h (by omega)
  | M, cur, pre, O, 2, _, _, _, _, h => absurd h (by omega)
  | [], cur, pre, O, m + 3, hx, h34, h92, hO, hK => by
    have hpc : T.length = (pre ++ cur).length := by rw [hx, List.append_nil]
    have hcut := mid_cut pre cur []
    rw [← hx] at hcut
    have hw := ar4 (pre ++ cur).length T.length (by rw [hpc]; exact Nat.le_refl _) hT
    have hroom := mapRoom O T.length (Nat.le_trans hO (by rw [hpc]; exact (leA pre cur).1)) hT
    have htr := trimI (m + 1) cur (ar5 _ _ 0 hT (by rw [hpc]; exact (leA pre cur).2)) (ar6 _ _ _ _ hK (by rw [hpc]; exact (leA pre cur).2))
    have hp := ar2 pre.length (pre ++ cur).length (leA pre cur).1
    have fin : ∀ X : List ByteArray, impl_listOf.l0 (m + 1) (tx T) X (((pre ++ cur).length : Int) + 1) false (((pre ++ cur).length : Int) + 1) = some (X, true) := fun X => by
      unfold impl_listOf.l0
      rw [tx_size, hpc, if_neg (ar3 _)]; rfl
    have e : lst cur [] = addP cur := rfl
    clear hx hK hT h34 h92 hO
    unfold impl_listOf.l0
    rw [tx_size, hpc, if_pos (Int.le_refl _), if_pos rfl]
    unfold impl_listOf.j1
    rw [if_pos rfl, if_pos hp.1, if_pos hp.2, tx_size, hpc, if_pos (Int.le_refl _), hcut, htr, Option.bind_some, tx_toList, hw, e]
    unfold addP
    by_cases c : trimB cur = []
    · rw [if_pos c, if_pos c, fin, List.append_nil]
    · rw [if_neg c, if_neg c, if_pos hroom, fin]; simp
  | b :: M, cur, pre, O, m + 3, hx, h34, h92, hO, hK => by
    have hlt : (pre ++ cur).length < T.length := by rw [hx]; exact ltA (pre ++ cur) b M
    have hbt : bt (tx T) ((pre ++ cur).length : Int) = (b.toNat : Int) := by rw [hx]; exact bt_at (pre ++ cur) M b
    have hcut := mid_cut pre cur (b :: M)
    rw [← hx] at hcut
    have hw := ar4 (pre ++ cur).length T.length (Nat.le_of_lt hlt) hT
    have hroom := mapRoom O T.length (Nat.le_trans hO (Nat.le_trans (leA pre cur).1 (Nat.le_of_lt hlt))) hT
    have hcl := Nat.le_trans (leA pre cur).2 (Nat.le_of_lt hlt)
    have htr := trimI (m + 1) cur (ar5 _ _ 0 hT hcl) (ar6 _ _ _ _ hK hcl)
    have hp := ar2 pre.length (pre ++ cur).length (leA pre cur).1
    have hq := ar1 (pre ++ cur).length T.length hlt
    rw [List.length_cons] at hK
    have hf := ar7 _ _ _ hK
    have h34' : (34 : UInt8) ∉ M := fun h => h34 (List.mem_cons_of_mem _ h)
    have h92' : (92 : UInt8) ∉ M := fun h => h92 (List.mem_cons_of_mem _ h)
    unfold impl_listOf.l0
    rw [tx_size, if_pos hq.1, if_neg hq.2.1, if_pos hq.2.2.1, if_pos hq.2.2.2, hbt]
    by_cases c : b = 44
    · have e1 : (((pre ++ cur ++ [44]).length : Nat) : Int) = ((pre ++ cur).length : Int) + 1 := lenI (pre ++ cur) 44
      have e2 : T = (pre ++ cur ++ [44]) ++ [] ++ M := by rw [hx, c]; simp
      have e3 : (pre ++ cur ++ [44]) ++ [] = pre ++ cur ++ [44] := List.append_nil _
      have hO1 : O.length + 1 ≤ (pre ++ cur ++ [44]).length := by
        rw [List.length_append, List.length_singleton]
        exact Nat.succ_le_succ (Nat.le_trans hO (leA pre cur).1)
      have ih := fun (O' : List (List UInt8)) (hO' : O'.length ≤ (pre ++ cur ++ [44]).length) => listI T hT M [] (pre ++ cur ++ [44]) O' (m + 1) e2 h34' h92' hO' hf.1
      rw [e3] at ih
      simp only [e1] at ih
      rw [if_pos (show (b.toNat : Int) = 44 by rw [c]; rfl)]
      unfold impl_listOf.j1
      rw [if_pos (by rfl), if_pos hp.1, if_pos hp.2, tx_size, if_pos hq.1, hcut, htr, Option.bind_some, tx_toList, hw, c, lst_44]
      unfold addP
      by_cases c2 : trimB cur = []
      · rw [if_pos c2, if_pos c2, ih O (Nat.le_of_succ_le hO1), List.nil_append]
      · have em : O.map tx ++ [tx (trimB cur)] = (O ++ [trimB cur]).map tx := by simp
        rw [if_neg c2, if_neg c2, if_pos hroom, em, ih (O ++ [trimB cur]) (by rw [List.length_append, List.length_singleton]; exact hO1), List.append_assoc]
    · have hb34 : b ≠ 34 := fun h => h34 (h ▸ List.mem_cons_self)
      have hb92 : b ≠ 92 := fun h => h92 (h ▸ List.mem_cons_self)
      have e2 : T = pre ++ (cur ++ [b]) ++ M := by rw [hx]; simp
      have e1 : (((pre ++ (cur ++ [b])).length : Nat) : Int) = ((pre ++ cur).length : Int) + 1 := by rw [← List.append_assoc]; exact lenI (pre ++ cur) b
      have ih := listI T hT M (cur ++ [b]) pre O m e2 h34' h92' hO hf.2
      rw [e1] at ih
      rw [if_neg (show ¬ (b.toNat : Int) = 44 from nbv b 44 c)]
      unfold impl_listOf.j1
      rw [if_neg (show ¬ false = true by decide), if_pos hq.2.2.1, tx_size, if_pos hq.2.2.2, hbt, if_neg (show ¬ (b.toNat : Int) = 34 from nbv b 34 hb34), if_neg (show ¬ (b.toNat : Int) = 92 from nbv b 92 hb92)]
      unfold impl_listOf.j2
      rw [if_neg (show ¬ false = true by decide), hw, lst_ne cur M b c]
      exact ih
theorem addP_mem (cur T : List UInt8) (h : T ∈ addP cur) : T = trimB cur := by
  unfold addP at h
  split at h
  · cases h
  · exact List.mem_singleton.mp h
theorem trimB_infix (l : List UInt8) : ∃ x y, l = x ++ trimB l ++ y := by
  obtain ⟨i, j, h, _⟩ := trimB_form l
  exact ⟨_, _, h⟩

/-! ### Lists with quotes, in plain words: states 0 (without quotes), 1 (within), 2 (behind a backslash within) -/
def nx (q : Nat) (b : UInt8) : Nat := if q = 0 then (if b = 34 then 1 else 0) else if q = 1 then (if b = 34 then 0 else if b = 92 then 2 else 1) else 1
def pr : Nat → List UInt8 → Option Nat
  | q, [] => some q
  | q, b :: T => if q = 0 ∧ b = 44 then none else pr (nx q b) T
noncomputable def lq (cur : List UInt8) (q : Nat) : List UInt8 → Option (List (List UInt8))
  | [] => if q = 0 then some (addP cur) else none
  | b :: M => if q = 0 ∧ b = 44 then (lq [] 0 M).map (addP cur ++ ·) else lq (cur ++ [b]) (nx q b) M
theorem lq_nil (cur : List UInt8) (q : Nat) : lq cur q [] = (if q = 0 then some (addP cur) else none) := by unfold lq; rfl
theorem lq_cons (cur : List UInt8) (q : Nat) (b : UInt8) (M : List UInt8) : lq cur q (b :: M) = (if q = 0 ∧ b = 44 then (lq [] 0 M).map (addP cur ++ ·) else lq (cur ++ [b]) (nx q b) M) := by rw [lq]
theorem pr_cons (q : Nat) (b : UInt8) (T : List UInt8) : pr q (b :: T) = (if q = 0 ∧ b = 44 then none else pr (nx q b) T) := rfl
theorem pr_app : ∀ (A B : List UInt8) (q : Nat), pr q (A ++ B) = (pr q A).bind (fun q2 => pr q2 B)
  | [], B, q => rfl
  | b :: A, B, q => by
    rw [List.cons_append, pr_cons, pr_cons]
    split
    · rfl
    · exact pr_app A B (nx q b)
theorem lq_run : ∀ (T M cur : List UInt8) (q q2 : Nat), pr q T = some q2 → lq cur q (T ++ M) = lq (cur ++ T) q2 M
  | [], M, cur, q, q2, h => by
    cases h
    rw [List.append_nil]; rfl
  | b :: T, M, cur, q, q2, h => by
    rw [pr_cons] at h
    by_cases c : q = 0 ∧ b = 44
    · rw [if_pos c] at h; cases h
    · rw [if_neg c] at h
      rw [List.cons_append, lq_cons, if_neg c, lq_run T M (cur ++ [b]) (nx q b) q2 h, List.append_assoc]; rfl
theorem pr_bl0 : ∀ i : Nat, pr 0 (bl i) = some 0
  | 0 => rfl
  | i + 1 => by
    rw [bl_succ, pr_cons, if_neg (by decide)]
    exact pr_bl0 i
theorem pr_bl1 : ∀ i : Nat, pr 1 (bl i) = some 1
  | 0 => rfl
  | i + 1 => by
    rw [bl_succ, pr_cons, if_neg (by decide)]
    exact pr_bl1 i
theorem pr_bl (q j : Nat) (h : pr q (bl j) = some 0) : q = 0 := by
  match j with
  | 0 => exact Option.some.inj h
  | j + 1 =>
    by_cases c : q = 0
    · exact c
    · have e : nx q 32 = 1 := by unfold nx; rw [if_neg c]; split <;> rfl
      rw [bl_succ, pr_cons, if_neg (fun hh => c hh.1), e, pr_bl1] at h
      cases h
theorem pr_trim (cur : List UInt8) (h : pr 0 cur = some 0) : pr 0 (trimB cur) = some 0 := by
  obtain ⟨i, j, e, _, _⟩ := trimB_form cur
  rw [e, pr_app, pr_app, pr_bl0, Option.bind_some] at h
  cases h2 : pr 0 (trimB cur) with
  | none => rw [h2] at h; cases h
  | some q =>
    rw [h2, Option.bind_some] at h
    rw [pr_bl q j h]
theorem core_trim (c : List UInt8) (h : Core c) : trimB c = c := by
  obtain ⟨i, j, e, _, h3⟩ := trimB_form c
  cases i with
  | succ i => exact absurd rfl (h.1 32 (bl i ++ trimB c ++ bl j) e)
  | zero =>
    cases j with
    | succ j => exact absurd rfl (h.2 (trimB c ++ bl j) 32 (e.trans (by rw [bl_end]; simp)))
    | zero => exact (e.trans (by simp)).symm
/-- a part: no comma without quotes, no quote left open, no blanks around it, not empty -/
def Pt (T : List UInt8) : Prop := pr 0 T = some 0 ∧ T ≠ [] ∧ Core T
theorem addP_pt (cur : List UInt8) (h : pr 0 cur = some 0) : ∀ T ∈ addP cur, Pt T := by
  intro T hT
  unfold addP at hT
  split at hT
  · cases hT
  · rename_i c
    rw [List.mem_singleton.mp hT]
    obtain ⟨i, j, _, hc, _⟩ := trimB_form cur
    exact ⟨pr_trim cur h, c, hc⟩
theorem addP_core (T : List UInt8) (h : Pt T) : addP T = [T] := by
  unfold addP
  rw [core_trim T h.2.2, if_neg h.2.1]
theorem lq_parts : ∀ (M cur : List UInt8) (q : Nat) (L : List (List UInt8)), pr 0 cur = some q → lq cur q M = some L → ∀ T ∈ L, Pt T
  | [], cur, q, L, hq, h => by
    rw [lq_nil] at h
    by_cases c : q = 0
    · rw [if_pos c] at h
      cases h
      exact addP_pt cur (c ▸ hq)
    · rw [if_neg c] at h; cases h
  | b :: M, cur, q, L, hq, h => by
    rw [lq_cons] at h
    by_cases c : q = 0 ∧ b = 44
    · rw [if_pos c] at h
      obtain ⟨L2, h2, e⟩ := Option.map_eq_some_iff.mp h
      have ih := lq_parts M [] 0 L2 rfl h2
      have ha := addP_pt cur (c.1 ▸ hq)
      intro T hT
      rw [← e] at hT
      rcases List.mem_append.mp hT with hT | hT
      · exact ha T hT
      · exact ih T hT
    · rw [if_neg c] at h
      refine lq_parts M (cur ++ [b]) (nx q b) L ?_ h
      rw [pr_app, hq, Option.bind_some, pr_cons, if_neg c]; rfl
theorem lq_tail : ∀ (L : List (List UInt8)) (T : List UInt8), Pt T → (∀ X ∈ L, Pt X) → lq T 0 (Lib.joinTail [44] L) = some (T :: L)
  | [], T, hT, _ => by
    show lq T 0 [] = _
    rw [lq_nil, if_pos rfl, addP_core T hT]
  | X :: L, T, hT, h => by
    have hX := h X List.mem_cons_self
    have ih := lq_tail L X hX (fun Y hY => h Y (List.mem_cons_of_mem _ hY))
    have e : Lib.joinTail [44] (X :: L) = 44 :: (X ++ Lib.joinTail [44] L) := by simp [Lib.joinTail]
    rw [e, lq_cons, if_pos ⟨rfl, rfl⟩, lq_run X _ [] 0 0 hX.1, List.nil_append, ih, addP_core T hT]; rfl
/-- read again: the parts, joined by commas, are read as they are -/
theorem lq_again (L : List (List UInt8)) (h : ∀ X ∈ L, Pt X) : lq [] 0 (Lib.join L [44]) = some L := by
  cases L with
  | nil =>
    show lq [] 0 [] = _
    rw [lq_nil, if_pos rfl]
    unfold addP
    rw [core_trim [] ⟨fun b r h => (by cases h), fun r b h => (by simp at h)⟩, if_pos rfl]
  | cons T L =>
    have hT := h T List.mem_cons_self
    rw [Lib.join_cons, lq_run T _ [] 0 0 hT.1, List.nil_append]
    exact lq_tail L T hT (fun Y hY => h Y (List.mem_cons_of_mem _ hY))
def lenS (L : List (List UInt8)) : Nat := (L.map (fun T => T.length + 1)).foldr (· + ·) 0
theorem lenS_cons (T : List UInt8) (L : List (List UInt8)) : lenS (T :: L) = T.length + 1 + lenS L := rfl
theorem lenS_app : ∀ (A B : List (List UInt8)), lenS (A ++ B) = lenS A + lenS B
  | [], B => by show lenS B = 0 + lenS B; omega
  | T :: A, B => by rw [List.cons_append, lenS_cons, lenS_cons, lenS_app A B]; omega
theorem lenS_addP (cur : List UInt8) : lenS (addP cur) ≤ cur.length + 1 := by
  unfold addP
  split
  · exact Nat.zero_le _
  · show (trimB cur).length + 1 + 0 ≤ _
    have := trimB_len cur
    omega
theorem lq_len : ∀ (M cur : List UInt8) (q : Nat) (L : List (List UInt8)), lq cur q M = some L → lenS L ≤ cur.length + M.length + 1
  | [], cur, q, L, h => by
    rw [lq_nil] at h
    split at h
    · cases h
      exact lenS_addP cur
    · cases h
  | b :: M, cur, q, L, h => by
    rw [lq_cons] at h
    by_cases c : q = 0 ∧ b = 44
    · rw [if_pos c] at h
      obtain ⟨L2, h2, e⟩ := Option.map_eq_some_iff.mp h
      have ih := lq_len M [] 0 L2 h2
      have ha := lenS_addP cur
      rw [List.length_nil] at ih
      rw [← e, lenS_app, List.length_cons]
      omega
    · rw [if_neg c] at h
      have ih := lq_len M (cur ++ [b]) (nx q b) L h
      rw [List.length_append, List.length_singleton] at ih
      rw [List.length_cons]
      omega
theorem addP_sub (cur : List UInt8) : ∀ T ∈ addP cur, ∀ b ∈ T, b ∈ cur := by
  intro T hT b hb
  rw [addP_mem cur T hT] at hb
  obtain ⟨x, y, e⟩ := trimB_infix cur
  rw [e]
  exact List.mem_append_left _ (List.mem_append_right _ hb)
theorem lq_sub : ∀ (M cur : List UInt8) (q : Nat) (L : List (List UInt8)), lq cur q M = some L → ∀ T ∈ L, ∀ b ∈ T, b ∈ cur ++ M
  | [], cur, q, L, h => by
    rw [lq_nil] at h
    split at h
    · cases h
      intro T hT b hb
      rw [List.append_nil]
      exact addP_sub cur T hT b hb
    · cases h
  | b :: M, cur, q, L, h => by
    rw [lq_cons] at h
    by_cases c : q = 0 ∧ b = 44
    · rw [if_pos c] at h
      obtain ⟨L2, h2, e⟩ := Option.map_eq_some_iff.mp h
      have ih := lq_sub M [] 0 L2 h2
      intro T hT x hx
      rw [← e] at hT
      rcases List.mem_append.mp hT with hT | hT
      · exact List.mem_append_left _ (addP_sub cur T hT x hx)
      · have := ih T hT x hx
        rw [List.nil_append] at this
        exact List.mem_append_right _ (List.mem_cons_of_mem _ this)
    · rw [if_neg c] at h
      have ih := lq_sub M (cur ++ [b]) (nx q b) L h
      intro T hT x hx
      have := ih T hT x hx
      rw [List.append_assoc] at this
      exact this
theorem join_mem (L : List (List UInt8)) (b : UInt8) (h : b ∈ Lib.join L [44]) : b = 44 ∨ ∃ T ∈ L, b ∈ T := by
  have tail : ∀ L : List (List UInt8), b ∈ Lib.joinTail [44] L → b = 44 ∨ ∃ T ∈ L, b ∈ T := fun L => by
    induction L with
    | nil => intro h; cases h
    | cons T L ih =>
      have e : Lib.joinTail [44] (T :: L) = 44 :: (T ++ Lib.joinTail [44] L) := by simp [Lib.joinTail]
      rw [e]
      intro h
      rcases List.mem_cons.mp h with h | h
      · exact Or.inl h
      · rcases List.mem_append.mp h with h | h
        · exact Or.inr ⟨T, List.mem_cons_self, h⟩
        · rcases ih h with h | ⟨X, h1, h2⟩
          · exact Or.inl h
          · exact Or.inr ⟨X, List.mem_cons_of_mem _ h1, h2⟩
  cases L with
  | nil => cases h
  | cons T L =>
    rw [Lib.join_cons] at h
    rcases List.mem_append.mp h with h | h
    · exact Or.inr ⟨T, List.mem_cons_self, h⟩
    · rcases tail L h with h | ⟨X, h1, h2⟩
      · exact Or.inl h
      · exact Or.inr ⟨X, List.mem_cons_of_mem _ h1, h2⟩
theorem join_lenS1 (L : List (List UInt8)) : (Lib.join L [44]).length ≤ lenS L - 1 := by
  have tail : ∀ L : List (List UInt8), (Lib.joinTail [44] L).length = lenS L := fun L => by
    induction L with
    | nil => rfl
    | cons T L ih =>
      have e : Lib.joinTail [44] (T :: L) = 44 :: (T ++ Lib.joinTail [44] L) := by simp [Lib.joinTail]
      rw [e, List.length_cons, List.length_append, ih, lenS_cons]; omega
  cases L with
  | nil => exact Nat.zero_le _
  | cons T L => rw [Lib.join_cons, List.length_append, tail, lenS_cons]; omega

/-! ### Both read a list with quotes alike -/
def Res (O : List (List UInt8)) (r : Option (List (List UInt8))) (v : Option (List ByteArray × Bool)) : Prop :=
  match r with
  | some L => v = some ((O ++ L).map tx, true)
  | none => ∃ X, v = some (X, false)
theorem res_add (O A : List (List UInt8)) (r : Option (List (List UInt8))) (v : Option (List ByteArray × Bool)) (h : Res (O ++ A) r v) : Res O (r.map (A ++ ·)) v := by
  cases r with
  | none => exact h
  | some L =>
    have h2 : v = some ((O ++ A ++ L).map tx, true) := h
    show v = some ((O ++ (A ++ L)).map tx, true)
    rw [h2, List.append_assoc]
theorem qz1 : ((1 : Nat) == 1) = true := rfl
theorem qz0 : ((0 : Nat) == 1) = false := rfl
theorem br8 (m n k : Nat) (h : 4 * (m + 2) + n + 20 ≤ k + 4) : 4 * m + n + 20 ≤ k := by omega
theorem br7 (m n k : Nat) (h : 4 * (m + 1) + n + 20 ≤ k + 4) : 4 * m + n + 20 ≤ k + 2 ∧ 4 * m + n + 20 ≤ k ∧ 4 * m + n + 20 ≤ k + 1 := by omega
theorem len2' (A : List UInt8) (b c : UInt8) : (((A ++ [b, c]).length : Nat) : Int) = (A.length : Int) + 1 + 1 := by rw [List.length_append, List.length_cons, List.length_cons, List.length_nil]; omega
theorem ar4' (q n : Nat) (h : q ≤ n) (h2 : n ≤ 10000) : wrap64 (wrap64 ((q : Int) + 1) + 1) = (q : Int) + 1 + 1 := by rw [w64 (x := (q : Int) + 1) (by omega) (by omega), w64 (by omega) (by omega)]
theorem ltA2 (A : List UInt8) (b c : UInt8) (M : List UInt8) : A.length + 1 < (A ++ b :: c :: M).length := by rw [List.length_append, List.length_cons, List.length_cons]; omega
theorem ne_end (q n : Nat) (h : q + 1 < n) : ¬ (q : Int) + 1 = (n : Int) := by omega
theorem nx_other (q : Nat) (b : UInt8) (hq : q = 0 ∨ q = 1) (h34 : b ≠ 34) (h92 : b = 92 → q = 0) : nx q b = q := by
  unfold nx
  rcases hq with rfl | rfl
  · rw [if_pos rfl, if_neg h34]
  · rw [if_neg (by decide), if_pos rfl, if_neg h34, if_neg (fun h => absurd (h92 h) (by decide))]
theorem lqI (T : List UInt8) (hT : T.length ≤ 10000) : ∀ (M cur pre : List UInt8) (O : List (List UInt8)) (q K : Nat), T = pre ++ cur ++ M → (q = 0 ∨ q = 1) → O.length ≤ pre.length → 4 * M.length + T.length + 20 ≤ K →
    Res O (lq cur q M) (impl_listOf.l0 K (tx T) (O.map tx) (pre.length : Int) (q == 1) ((pre ++ cur).length : Int))
  | M, cur, pre, O, q, 0, _, _, _, h => absurd h (by omega)
  | M, cur, pre, O, q, 1, _, _, _, h => absurd h (by omega)
  | M, cur, pre, O, q, 2, _, _, _, h => absurd h (by omega)
  | M, cur, pre, O, q, 3, _, _, _, h => absurd h (by omega)
  | [], cur, pre, O, q, m + 4, hx, hq, hO, hK => by
    have hpc : T.length = (pre ++ cur).length := by rw [hx, List.append_nil]
    have hcut := mid_cut pre cur []
    rw [← hx] at hcut
    have hw := ar4 (pre ++ cur).length T.length (by rw [hpc]; exact Nat.le_refl _) hT
    have hroom := mapRoom O T.length (Nat.le_trans hO (by rw [hpc]; exact (leA pre cur).1)) hT
    have htr := trimI (m + 2) cur (ar5 _ _ 0 hT (by rw [hpc]; exact (leA pre cur).2)) (ar6 0 T.length cur.length (m + 1) (by rw [List.length_nil] at hK; omega) (by rw [hpc]; exact (leA pre cur).2))
    have hp := ar2 pre.length (pre ++ cur).length (leA pre cur).1
    have fin : ∀ X : List ByteArray, impl_listOf.l0 (m + 2) (tx T) X (((pre ++ cur).length : Int) + 1) (q == 1) (((pre ++ cur).length : Int) + 1) = some (X, !(q == 1)) := fun X => by
      unfold impl_listOf.l0
      rw [tx_size, hpc, if_neg (ar3 _)]
    have hr : ∀ X : List ByteArray, X = (O ++ addP cur).map tx → Res O (lq cur q []) (some (X, !(q == 1))) := fun X hX => by
      rw [lq_nil]
      rcases hq with rfl | rfl
      · rw [if_pos rfl, hX]; rfl
      · rw [if_neg (by decide)]; exact ⟨X, rfl⟩
    clear hx hK hT hO
    unfold impl_listOf.l0
    rw [tx_size, hpc, if_pos (Int.le_refl _), if_pos rfl]
    unfold impl_listOf.j1
    rw [if_pos rfl, if_pos hp.1, if_pos hp.2, tx_size, hpc, if_pos (Int.le_refl _), hcut, htr, Option.bind_some, tx_toList, hw]
    by_cases c : trimB cur = []
    · rw [if_pos c, fin]
      refine hr _ ?_
      unfold addP
      rw [if_pos c, List.append_nil]
    · rw [if_neg c, if_pos hroom, fin]
      refine hr _ ?_
      unfold addP
      rw [if_neg c]; simp
  | b :: M, cur, pre, O, q, m + 4, hx, hq, hO, hK => by
    have hlt : (pre ++ cur).length < T.length := by rw [hx]; exact ltA (pre ++ cur) b M
    have hbt : bt (tx T) ((pre ++ cur).length : Int) = (b.toNat : Int) := by rw [hx]; exact bt_at (pre ++ cur) M b
    have hcut := mid_cut pre cur (b :: M)
    rw [← hx] at hcut
    have hw := ar4 (pre ++ cur).length T.length (Nat.le_of_lt hlt) hT
    have hroom := mapRoom O T.length (Nat.le_trans hO (Nat.le_trans (leA pre cur).1 (Nat.le_of_lt hlt))) hT
    have hcl := Nat.le_trans (leA pre cur).2 (Nat.le_of_lt hlt)
    have htr := trimI (m + 2) cur (ar5 _ _ 0 hT hcl) (ar6 0 T.length cur.length (m + 1) (by rw [List.length_cons] at hK; omega) hcl)
    have hp := ar2 pre.length (pre ++ cur).length (leA pre cur).1
    have hqq := ar1 (pre ++ cur).length T.length hlt
    rw [List.length_cons] at hK
    have hf := br7 _ _ _ hK
    -- the step to a next byte
    have step : ∀ (q2 : Nat), (q2 = 0 ∨ q2 = 1) → nx q b = q2 → ¬ (q = 0 ∧ b = 44) → ∀ k, 4 * M.length + T.length + 20 ≤ k → Res O (lq cur q (b :: M)) (impl_listOf.l0 k (tx T) (O.map tx) (pre.length : Int) (q2 == 1) (((pre ++ cur).length : Int) + 1)) := fun q2 hq2 hn hc k hk => by
      have e2 : T = pre ++ (cur ++ [b]) ++ M := by rw [hx]; simp
      have e1 : (((pre ++ (cur ++ [b])).length : Nat) : Int) = ((pre ++ cur).length : Int) + 1 := by rw [← List.append_assoc]; exact lenI (pre ++ cur) b
      have ih := lqI T hT M (cur ++ [b]) pre O q2 k e2 hq2 hO hk
      rw [e1] at ih
      rw [lq_cons, if_neg hc, hn]
      exact ih
    unfold impl_listOf.l0
    rw [tx_size, if_pos hqq.1, if_neg hqq.2.1, if_pos hqq.2.2.1, if_pos hqq.2.2.2, hbt]
    by_cases c : q = 0 ∧ b = 44
    · have e1 : (((pre ++ cur ++ [44]).length : Nat) : Int) = ((pre ++ cur).length : Int) + 1 := lenI (pre ++ cur) 44
      have e2 : T = (pre ++ cur ++ [44]) ++ [] ++ M := by rw [hx, c.2]; simp
      have e3 : (pre ++ cur ++ [44]) ++ [] = pre ++ cur ++ [44] := List.append_nil _
      have hO1 : O.length + 1 ≤ (pre ++ cur ++ [44]).length := by
        rw [List.length_append, List.length_singleton]
        exact Nat.succ_le_succ (Nat.le_trans hO (leA pre cur).1)
      have ih := fun (O' : List (List UInt8)) (hO' : O'.length ≤ (pre ++ cur ++ [44]).length) => lqI T hT M [] (pre ++ cur ++ [44]) O' 0 (m + 2) e2 (Or.inl rfl) hO' hf.1
      rw [e3] at ih
      simp only [e1] at ih
      rw [if_pos (show (b.toNat : Int) = 44 by rw [c.2]; rfl), c.1]
      unfold impl_listOf.j1
      rw [if_pos (by rfl), if_pos hp.1, if_pos hp.2, tx_size, if_pos hqq.1, hcut, htr, Option.bind_some, tx_toList, hw, lq_cons, if_pos ⟨rfl, c.2⟩]
      refine res_add O (addP cur) _ _ ?_
      unfold addP
      by_cases c2 : trimB cur = []
      · rw [if_pos c2, if_pos c2, List.append_nil]
        exact ih O (Nat.le_of_succ_le hO1)
      · have em : O.map tx ++ [tx (trimB cur)] = (O ++ [trimB cur]).map tx := by simp
        rw [if_neg c2, if_neg c2, if_pos hroom, em]
        exact ih (O ++ [trimB cur]) (by rw [List.length_append, List.length_singleton]; exact hO1)
    · have rest : Res O (lq cur q (b :: M)) (impl_listOf.j1 (m + 3) (tx T) (O.map tx) (pre.length : Int) (q == 1) ((pre ++ cur).length : Int) false) := by
        unfold impl_listOf.j1
        rw [if_neg (show ¬ false = true by decide), if_pos hqq.2.2.1, tx_size, if_pos hqq.2.2.2, hbt]
        by_cases c34 : b = 34
        · rw [if_pos (show (b.toNat : Int) = 34 by rw [c34]; rfl), hw]
          rcases hq with rfl | rfl
          · exact step 1 (Or.inr rfl) (by rw [c34]; rfl) c (m + 2) hf.1
          · exact step 0 (Or.inl rfl) (by rw [c34]; rfl) c (m + 2) hf.1
        · rw [if_neg (show ¬ (b.toNat : Int) = 34 from nbv b 34 c34)]
          by_cases c92 : b = 92
          · rw [if_pos (show (b.toNat : Int) = 92 by rw [c92]; rfl)]
            rcases hq with rfl | rfl
            · unfold impl_listOf.j2
              rw [if_neg (show ¬ ((0 : Nat) == 1) = true by decide), hw]
              exact step 0 (Or.inl rfl) (nx_other 0 b (Or.inl rfl) c34 (fun _ => rfl)) c (m + 1) hf.2.2
            · unfold impl_listOf.j2
              rw [if_pos (show ((1 : Nat) == 1) = true from rfl), tx_size]
              have n2 : nx 1 b = 2 := by rw [c92]; rfl
              cases M with
              | nil =>
                have hend : T.length = (pre ++ cur).length + 1 := by rw [hx, List.length_append, List.length_singleton]
                rw [hw, if_pos (by rw [hend]; omega), lq_cons, if_neg c, n2, lq_nil, if_neg (by decide)]
                exact ⟨[], rfl⟩
              | cons d M =>
                have hl2 := ltA2 (pre ++ cur) b d M
                rw [← hx] at hl2
                have e2 : T = pre ++ (cur ++ [b, d]) ++ M := by rw [hx]; simp
                have e1 : (((pre ++ (cur ++ [b, d])).length : Nat) : Int) = ((pre ++ cur).length : Int) + 1 + 1 := by rw [← List.append_assoc]; exact len2' (pre ++ cur) b d
                have ih := lqI T hT M (cur ++ [b, d]) pre O 1 (m + 1) e2 (Or.inr rfl) hO (by rw [List.length_cons] at hK; omega)
                rw [e1] at ih
                have n3 : nx 2 d = 1 := rfl
                have e3 : cur ++ [b] ++ [d] = cur ++ [b, d] := by simp
                rw [ar4' _ _ (Nat.le_of_lt hlt) hT, hw, if_neg (ne_end _ _ hl2), lq_cons, if_neg c, n2, lq_cons, if_neg (fun h => absurd h.1 (by decide)), n3, e3]
                exact ih
          · rw [if_neg (show ¬ (b.toNat : Int) = 92 from nbv b 92 c92)]
            unfold impl_listOf.j2
            rw [if_neg (show ¬ false = true by decide), hw]
            exact step q hq (nx_other q b hq c34 (fun h => absurd h c92)) c (m + 1) hf.2.2
      by_cases c44 : b = 44
      · have q1 : q = 1 := hq.resolve_left (fun h => c ⟨h, c44⟩)
        rw [if_pos (show (b.toNat : Int) = 44 by rw [c44]; rfl)]
        have e : (!(q == 1)) = false := by rw [q1]; rfl
        rw [e]
        exact rest
      · rw [if_neg (show ¬ (b.toNat : Int) = 44 from nbv b 44 c44)]
        exact rest
  termination_by M => M.length

/-! ### The reference reads it so, too -/
theorem lqS (T : List UInt8) (hT : T.length ≤ 10000) : ∀ (M cur pre : List UInt8) (O : List (List UInt8)) (q K : Nat), T = pre ++ cur ++ M → (q = 0 ∨ q = 1) → O.length ≤ pre.length → 4 * M.length + T.length + 20 ≤ K →
    Res O (lq cur q M) (spec_l3List.l0 K (tx T) (O.map tx) (pre.length : Int) (q == 1) ((pre ++ cur).length : Int))
  | M, cur, pre, O, q, 0, _, _, _, h => absurd h (by omega)
  | M, cur, pre, O, q, 1, _, _, _, h => absurd h (by omega)
  | M, cur, pre, O, q, 2, _, _, _, h => absurd h (by omega)
  | M, cur, pre, O, q, 3, _, _, _, h => absurd h (by omega)
  | [], cur, pre, O, q, m + 4, hx, hq, hO, hK => by
    have hpc : T.length = (pre ++ cur).length := by rw [hx, List.append_nil]
    have hcut := mid_cut pre cur []
    rw [← hx] at hcut
    have hw := ar4 (pre ++ cur).length T.length (by rw [hpc]; exact Nat.le_refl _) hT
    have hroom := mapRoom O T.length (Nat.le_trans hO (by rw [hpc]; exact (leA pre cur).1)) hT
    have htr := trimS (m + 2) cur (ar5 _ _ 0 hT (by rw [hpc]; exact (leA pre cur).2)) (ar6 0 T.length cur.length (m + 1) (by rw [List.length_nil] at hK; omega) (by rw [hpc]; exact (leA pre cur).2))
    have hp := ar2 pre.length (pre ++ cur).length (leA pre cur).1
    have fin : ∀ X : List ByteArray, spec_l3List.l0 (m + 2) (tx T) X (((pre ++ cur).length : Int) + 1) (q == 1) (((pre ++ cur).length : Int) + 1) = some (X, !(q == 1)) := fun X => by
      unfold spec_l3List.l0
      rw [tx_size, hpc, if_neg (ar3 _)]
    have hr : ∀ X : List ByteArray, X = (O ++ addP cur).map tx → Res O (lq cur q []) (some (X, !(q == 1))) := fun X hX => by
      rw [lq_nil]
      rcases hq with rfl | rfl
      · rw [if_pos rfl, hX]; rfl
      · rw [if_neg (by decide)]; exact ⟨X, rfl⟩
    clear hx hK hT hO
    unfold spec_l3List.l0
    rw [tx_size, hpc, if_pos (Int.le_refl _), if_pos rfl]
    unfold spec_l3List.j1
    rw [if_pos rfl, if_pos hp.1, if_pos hp.2, tx_size, hpc, if_pos (Int.le_refl _), hcut, htr, Option.bind_some, tx_toList, hw]
    by_cases c : trimB cur = []
    · rw [if_pos c, fin]
      refine hr _ ?_
      unfold addP
      rw [if_pos c, List.append_nil]
    · rw [if_neg c, if_pos hroom, fin]
      refine hr _ ?_
      unfold addP
      rw [if_neg c]; simp
  | b :: M, cur, pre, O, q, m + 4, hx, hq, hO, hK => by
    have hlt : (pre ++ cur).length < T.length := by rw [hx]; exact ltA (pre ++ cur) b M
    have hbt : bt (tx T) ((pre ++ cur).length : Int) = (b.toNat : Int) := by rw [hx]; exact bt_at (pre ++ cur) M b
    have hcut := mid_cut pre cur (b :: M)
    rw [← hx] at hcut
    have hw := ar4 (pre ++ cur).length T.length (Nat.le_of_lt hlt) hT
    have hroom := mapRoom O T.length (Nat.le_trans hO (Nat.le_trans (leA pre cur).1 (Nat.le_of_lt hlt))) hT
    have hcl := Nat.le_trans (leA pre cur).2 (Nat.le_of_lt hlt)
    have htr := trimS (m + 2) cur (ar5 _ _ 0 hT hcl) (ar6 0 T.length cur.length (m + 1) (by rw [List.length_cons] at hK; omega) hcl)
    have hp := ar2 pre.length (pre ++ cur).length (leA pre cur).1
    have hqq := ar1 (pre ++ cur).length T.length hlt
    rw [List.length_cons] at hK
    have hf := br7 _ _ _ hK
    -- the step to a next byte
    have step : ∀ (q2 : Nat), (q2 = 0 ∨ q2 = 1) → nx q b = q2 → ¬ (q = 0 ∧ b = 44) → ∀ k, 4 * M.length + T.length + 20 ≤ k → Res O (lq cur q (b :: M)) (spec_l3List.l0 k (tx T) (O.map tx) (pre.length : Int) (q2 == 1) (((pre ++ cur).length : Int) + 1)) := fun q2 hq2 hn hc k hk => by
      have e2 : T = pre ++ (cur ++ [b]) ++ M := by rw [hx]; simp
      have e1 : (((pre ++ (cur ++ [b])).length : Nat) : Int) = ((pre ++ cur).length : Int) + 1 := by rw [← List.append_assoc]; exact lenI (pre ++ cur) b
      have ih := lqS T hT M (cur ++ [b]) pre O q2 k e2 hq2 hO hk
      rw [e1] at ih
      rw [lq_cons, if_neg hc, hn]
      exact ih
    unfold spec_l3List.l0
    rw [tx_size, if_pos hqq.1, if_neg hqq.2.1, if_pos hqq.2.2.1, if_pos hqq.2.2.2, hbt]
    by_cases c : q = 0 ∧ b = 44
    · have e1 : (((pre ++ cur ++ [44]).length : Nat) : Int) = ((pre ++ cur).length : Int) + 1 := lenI (pre ++ cur) 44
      have e2 : T = (pre ++ cur ++ [44]) ++ [] ++ M := by rw [hx, c.2]; simp
      have e3 : (pre ++ cur ++ [44]) ++ [] = pre ++ cur ++ [44] := List.append_nil _
      have hO1 : O.length + 1 ≤ (pre ++ cur ++ [44]).length := by
        rw [List.length_append, List.length_singleton]
        exact Nat.succ_le_succ (Nat.le_trans hO (leA pre cur).1)
      have ih := fun (O' : List (List UInt8)) (hO' : O'.length ≤ (pre ++ cur ++ [44]).length) => lqS T hT M [] (pre ++ cur ++ [44]) O' 0 (m + 2) e2 (Or.inl rfl) hO' hf.1
      rw [e3] at ih
      simp only [e1] at ih
      rw [if_pos (show (b.toNat : Int) = 44 by rw [c.2]; rfl), c.1]
      unfold spec_l3List.j1
      rw [if_pos (by rfl), if_pos hp.1, if_pos hp.2, tx_size, if_pos hqq.1, hcut, htr, Option.bind_some, tx_toList, hw, lq_cons, if_pos ⟨rfl, c.2⟩]
      refine res_add O (addP cur) _ _ ?_
      unfold addP
      by_cases c2 : trimB cur = []
      · rw [if_pos c2, if_pos c2, List.append_nil]
        exact ih O (Nat.le_of_succ_le hO1)
      · have em : O.map tx ++ [tx (trimB cur)] = (O ++ [trimB cur]).map tx := by simp
        rw [if_neg c2, if_neg c2, if_pos hroom, em]
        exact ih (O ++ [trimB cur]) (by rw [List.length_append, List.length_singleton]; exact hO1)
    · have rest : Res O (lq cur q (b :: M)) (spec_l3List.j1 (m + 3) (tx T) (O.map tx) (pre.length : Int) (q == 1) ((pre ++ cur).length : Int) false) := by
        unfold spec_l3List.j1
        rw [if_neg (show ¬ false = true by decide), if_pos hqq.2.2.1, tx_size, if_pos hqq.2.2.2, hbt]
        by_cases c34 : b = 34
        · have h92 : ¬ (b.toNat : Int) = 92 := by rw [c34]; decide
          rw [if_pos (show (b.toNat : Int) = 34 by rw [c34]; rfl)]
          unfold spec_l3List.j2
          rw [if_pos hqq.2.2.1, tx_size, if_pos hqq.2.2.2, hbt, if_neg h92]
          unfold spec_l3List.j3
          rw [if_neg (show ¬ false = true by decide), hw]
          rcases hq with rfl | rfl
          · exact step 1 (Or.inr rfl) (by rw [c34]; rfl) c m hf.2.1
          · exact step 0 (Or.inl rfl) (by rw [c34]; rfl) c m hf.2.1
        · rw [if_neg (show ¬ (b.toNat : Int) = 34 from nbv b 34 c34)]
          unfold spec_l3List.j2
          rw [if_pos hqq.2.2.1, tx_size, if_pos hqq.2.2.2, hbt]
          by_cases c92 : b = 92
          · rw [if_pos (show (b.toNat : Int) = 92 by rw [c92]; rfl)]
            rcases hq with rfl | rfl
            · unfold spec_l3List.j3
              rw [if_neg (show ¬ ((0 : Nat) == 1) = true by decide), hw]
              exact step 0 (Or.inl rfl) (nx_other 0 b (Or.inl rfl) c34 (fun _ => rfl)) c m hf.2.1
            · unfold spec_l3List.j3
              rw [if_pos (show ((1 : Nat) == 1) = true from rfl), tx_size]
              have n2 : nx 1 b = 2 := by rw [c92]; rfl
              cases M with
              | nil =>
                have hend : T.length = (pre ++ cur).length + 1 := by rw [hx, List.length_append, List.length_singleton]
                rw [hw, if_pos (by rw [hend]; omega), lq_cons, if_neg c, n2, lq_nil, if_neg (by decide)]
                exact ⟨[], rfl⟩
              | cons d M =>
                have hl2 := ltA2 (pre ++ cur) b d M
                rw [← hx] at hl2
                have e2 : T = pre ++ (cur ++ [b, d]) ++ M := by rw [hx]; simp
                have e1 : (((pre ++ (cur ++ [b, d])).length : Nat) : Int) = ((pre ++ cur).length : Int) + 1 + 1 := by rw [← List.append_assoc]; exact len2' (pre ++ cur) b d
                have ih := lqS T hT M (cur ++ [b, d]) pre O 1 m e2 (Or.inr rfl) hO (by rw [List.length_cons] at hK; omega)
                rw [e1] at ih
                have n3 : nx 2 d = 1 := rfl
                have e3 : cur ++ [b] ++ [d] = cur ++ [b, d] := by simp
                rw [ar4' _ _ (Nat.le_of_lt hlt) hT, hw, if_neg (ne_end _ _ hl2), lq_cons, if_neg c, n2, lq_cons, if_neg (fun h => absurd h.1 (by decide)), n3, e3]
                exact ih
          · rw [if_neg (show ¬ (b.toNat : Int) = 92 from nbv b 92 c92)]
            unfold spec_l3List.j3
            rw [if_neg (show ¬ false = true by decide), hw]
            exact step q hq (nx_other q b hq c34 (fun h => absurd h c92)) c m hf.2.1
      by_cases c44 : b = 44
      · have q1 : q = 1 := hq.resolve_left (fun h => c ⟨h, c44⟩)
        rw [if_pos (show (b.toNat : Int) = 44 by rw [c44]; rfl)]
        have e : (!(q == 1)) = false := by rw [q1]; rfl
        rw [e]
        exact rest
      · rw [if_neg (show ¬ (b.toNat : Int) = 44 from nbv b 44 c44)]
        exact rest
  termination_by M => M.length

/-! ### Digits (of rng4, what is wanted without ranges) -/
def isDB (b : UInt8) : Bool := 48 ≤ b.toNat && b.toNat ≤ 57
def digP (b : UInt8) : Bool := decide (impl_isDigit.f (b.toNat : Int) = some (isDB b)) && decide (spec_l1Digit.f (b.toNat : Int) = some (isDB b)) && decide (Lib.digitVal b = (if isDB b = true then some (b.toNat - 48) else none))
theorem byte_all (p : UInt8 → Bool) (h : ((List.range 256).all fun n => p (UInt8.ofNat n)) = true) (b : UInt8) : p b = true := by
  have := List.all_eq_true.mp h b.toNat (List.mem_range.mpr b.toNat_lt)
  rwa [UInt8.ofNat_toNat] at this
theorem dig_all : ((List.range 256).all fun n => digP (UInt8.ofNat n)) = true := by decide +kernel
theorem dig_b (b : UInt8) : impl_isDigit.f (b.toNat : Int) = some (isDB b) ∧ spec_l1Digit.f (b.toNat : Int) = some (isDB b) ∧ Lib.digitVal b = (if isDB b = true then some (b.toNat - 48) else none) := by
  have g := byte_all digP dig_all b
  unfold digP at g
  simp only [Bool.and_eq_true, decide_eq_true_eq] at g
  exact ⟨g.1.1, g.1.2, g.2⟩
theorem dec_cons (a : Nat) (b : UInt8) (r : List UInt8) : Lib.decFrom a (b :: r) = (if isDB b = true then Lib.decFrom (a * 10 + (b.toNat - 48)) r else none) := by
  show (match Lib.digitVal b with | some d => Lib.decFrom (a * 10 + d) r | none => none) = _
  rw [(dig_b b).2.2]
  by_cases h : isDB b = true
  · rw [if_pos h, if_pos h]
  · rw [if_neg h, if_neg h]
theorem dec_some : ∀ (l : List UInt8) (a : Nat), l.all isDB = true → ∃ v, Lib.decFrom a l = some v ∧ v < (a + 1) * 10 ^ l.length
  | [], a, _ => ⟨a, rfl, by simp⟩
  | b :: r, a, h => by
    rw [List.all_cons, Bool.and_eq_true] at h
    obtain ⟨v, h1, h2⟩ := dec_some r (a * 10 + (b.toNat - 48)) h.2
    have hb : b.toNat ≤ 57 := by have := h.1; unfold isDB at this; simp at this; exact this.2
    refine ⟨v, by rw [dec_cons, if_pos h.1, h1], Nat.lt_of_lt_of_le h2 ?_⟩
    have e : (a + 1) * 10 ^ (b :: r).length = ((a + 1) * 10) * 10 ^ r.length := by
      rw [List.length_cons, Nat.pow_succ, Nat.mul_comm (10 ^ r.length) 10, ← Nat.mul_assoc]
    rw [e]
    exact Nat.mul_le_mul_right _ (by omega)
theorem dec_none : ∀ (l : List UInt8) (a : Nat), l.all isDB = false → Lib.decFrom a l = none
  | [], a, h => by cases h
  | b :: r, a, h => by
    rw [dec_cons]
    by_cases c : isDB b = true
    · rw [List.all_cons, c, Bool.true_and] at h
      rw [if_pos c, dec_none r _ h]
    · rw [if_neg c]
theorem bytes_tx (l : List UInt8) : bytesOf (tx l) = l.map fun b => (b.toNat : Int) := rfl
theorem idxO_mem {α : Type} (p : α → Option Bool) (q : α → Bool) (l : List α) (h : ∀ x ∈ l, p x = some (!q x)) : ∀ (n : Int), 0 ≤ n → ∃ i, idxO p l n = some i ∧ (!decide (i ≥ 0)) = l.all q := by
  induction l with
  | nil => intro n hn; exact ⟨-1, rfl, rfl⟩
  | cons x xs ih =>
    intro n hn
    unfold idxO
    rw [h x List.mem_cons_self, Option.bind_some]
    cases hq : q x with
    | true =>
      obtain ⟨i, h1, h2⟩ := ih (fun y hy => h y (List.mem_cons_of_mem _ hy)) (n + 1) (by omega)
      exact ⟨i, h1, by rw [h2, List.all_cons, hq, Bool.true_and]⟩
    | false => exact ⟨n, rfl, by rw [List.all_cons, hq, Bool.false_and, decide_eq_true (show n ≥ 0 from hn)]; rfl⟩
theorem digits_I (l : List UInt8) (h : l.length ≤ 1000) : xBytes_impl_isDigit.f (tx l) = some (l.all isDB) := by
  unfold xBytes_impl_isDigit.f xAll_u8_impl_isDigit.f
  rw [tx_size, if_pos (by omega), bytes_tx, if_pos (by rw [List.length_map]; omega)]
  obtain ⟨i, e, g⟩ := idxO_mem xAll_u8_impl_isDigit.z (fun x => isDB (UInt8.ofNat x.toNat)) (l.map fun b => (b.toNat : Int)) (fun x hx => by
    obtain ⟨b, _, rfl⟩ := List.mem_map.mp hx
    unfold xAll_u8_impl_isDigit.z
    rw [(dig_b b).1, Option.bind_some, Int.toNat_natCast, UInt8.ofNat_toNat]) 0 (by decide)
  rw [e, Option.bind_some, g, List.all_map]
  have e2 : ((fun x : Int => isDB (UInt8.ofNat x.toNat)) ∘ fun b : UInt8 => (b.toNat : Int)) = isDB := by
    funext b
    show isDB (UInt8.ofNat ((b.toNat : Int)).toNat) = isDB b
    rw [Int.toNat_natCast, UInt8.ofNat_toNat]
  rw [e2]
theorem lenC (A : List UInt8) (b : UInt8) (M : List UInt8) : (((A ++ b :: M).length : Nat) : Int) = (A.length : Int) + ((M.length : Int) + 1) := by rw [List.length_append, List.length_cons]; omega
theorem withinR (x a b : Int) : impl_within.f x a b = some (decide (a ≤ x) && decide (x ≤ b)) := by
  unfold impl_within.f
  by_cases c : a ≤ x
  · rw [if_pos c, decide_eq_true c, Bool.true_and]
  · rw [if_neg c, decide_eq_false c, Bool.false_and]
theorem inR (x a b : Int) : spec_l1In.f x a b = some (decide (a ≤ x) && decide (x ≤ b)) := by
  unfold spec_l1In.f
  by_cases c : a ≤ x
  · rw [if_pos c, decide_eq_true c, Bool.true_and]
  · rw [if_neg c, decide_eq_false c, Bool.false_and]
theorem first_at (c : UInt8) : ∀ l : List UInt8, c ∉ l ∨ ∃ a b, l = a ++ c :: b ∧ c ∉ a
  | [] => Or.inl (by simp)
  | x :: l => by
    by_cases h : x = c
    · exact Or.inr ⟨[], l, by rw [h]; rfl, by simp⟩
    · rcases first_at c l with h1 | ⟨a, b, h1, h2⟩
      · left; intro hm; rcases List.mem_cons.mp hm with hm | hm
        · exact h hm.symm
        · exact h1 hm
      · right; refine ⟨x :: a, b, by rw [h1]; rfl, ?_⟩
        intro hm; rcases List.mem_cons.mp hm with hm | hm
        · exact h hm.symm
        · exact h2 hm

/-! ### Printed texts; ListOf -/
def prB (b : UInt8) : Bool := 32 ≤ b.toNat && b.toNat ≤ 126
theorem printed_b (b : UInt8) : impl_isPrinted_1.f (b.toNat : Int) = some (prB b) := by
  unfold impl_isPrinted_1.f prB
  by_cases c : 32 ≤ b.toNat
  · rw [if_pos (by omega), decide_eq_true c, Bool.true_and]
    congr 1
    by_cases d : b.toNat ≤ 126
    · rw [decide_eq_true d, decide_eq_true (by omega)]
    · rw [decide_eq_false d, decide_eq_false (by omega)]
  · rw [if_neg (by omega), decide_eq_false c, Bool.false_and]
theorem printed_I (l : List UInt8) (h : l.length ≤ 1000) : xBytes_impl_isPrinted_1.f (tx l) = some (l.all prB) := by
  unfold xBytes_impl_isPrinted_1.f xAll_u8_impl_isPrinted_1.f
  rw [tx_size, if_pos (by omega), bytes_tx, if_pos (by rw [List.length_map]; omega)]
  obtain ⟨i, e, g⟩ := idxO_mem xAll_u8_impl_isPrinted_1.z (fun x => prB (UInt8.ofNat x.toNat)) (l.map fun b => (b.toNat : Int)) (fun x hx => by
    obtain ⟨b, _, rfl⟩ := List.mem_map.mp hx
    unfold xAll_u8_impl_isPrinted_1.z
    rw [printed_b b, Option.bind_some, Int.toNat_natCast, UInt8.ofNat_toNat]) 0 (by decide)
  rw [e, Option.bind_some, g, List.all_map]
  have e2 : ((fun x : Int => prB (UInt8.ofNat x.toNat)) ∘ fun b : UInt8 => (b.toNat : Int)) = prB := by
    funext b
    show prB (UInt8.ofNat ((b.toNat : Int)).toNat) = prB b
    rw [Int.toNat_natCast, UInt8.ofNat_toNat]
  rw [e2]
theorem pb_pos (p m : Nat) (h : p + (m + 1) ≤ 1000) : (p : Int) < (p : Int) + ((m : Int) + 1) ∧ (0 : Int) ≤ (p : Int) ∧ wrap64 ((p : Int) + 1) = (p : Int) + 1 := ⟨by omega, by omega, w64 (by omega) (by omega)⟩
theorem printed_l : ∀ (M pre : List UInt8) (K : Nat), (pre ++ M).length ≤ 1000 → M.length < K → spec_l3Printed.l0 K (tx (pre ++ M)) (pre.length : Int) = some (M.all prB)
  | M, pre, 0, _, h => absurd h (Nat.not_lt_zero _)
  | [], pre, K + 1, _, _ => by
    unfold spec_l3Printed.l0
    rw [tx_size, List.append_nil, if_neg (Int.lt_irrefl _)]; rfl
  | b :: M, pre, K + 1, hl, hK => by
    have hl2 : pre.length + (M.length + 1) ≤ 1000 := by rw [List.length_append, List.length_cons] at hl; exact hl
    obtain ⟨q1, q2, q3⟩ := pb_pos pre.length M.length hl2
    have hlen := lenC pre b M
    have hbt := bt_at pre M b
    have e1 : pre ++ [b] ++ M = pre ++ b :: M := by simp
    have e2 : (((pre ++ [b]).length : Nat) : Int) = (pre.length : Int) + 1 := by simp
    have ih := printed_l M (pre ++ [b]) K (by rw [e1]; exact hl) (Nat.lt_of_succ_lt_succ hK)
    rw [e1, e2] at ih
    unfold spec_l3Printed.l0
    rw [tx_size, hlen, if_pos q1, if_pos q2, hbt, q3, List.all_cons]
    unfold prB
    by_cases c : 32 ≤ b.toNat
    · rw [if_neg (by omega), decide_eq_true c, Bool.true_and]
      by_cases d : b.toNat ≤ 126
      · rw [if_neg (by omega), decide_eq_true d, Bool.true_and]
        exact ih
      · rw [if_pos (by omega), decide_eq_false d, Bool.false_and]
    · rw [if_pos (by omega), decide_eq_false c, Bool.false_and, Bool.false_and]
theorem printed_S (K : Nat) (l : List UInt8) (h : l.length ≤ 1000) (hK : 1001 ≤ K) : spec_l3Printed.f K (tx l) = some (l.all prB) := printed_l l [] K h (by omega)
/-- what both read of a list -/
noncomputable def LO (s : List UInt8) : Option (List (List UInt8)) := if s.length ≤ 300 ∧ s.all prB = true then lq [] 0 s else none
def lAns : Option (List (List UInt8)) → List ByteArray × Bool
  | some L => (L.map tx, true)
  | none => ([], false)
theorem ListI (K : Nat) (s : List UInt8) (h : s.length ≤ 1000) (hK : 2000 ≤ K) : impl_ListOf.f K (tx s) = some (lAns (LO s)) := by
  unfold impl_ListOf.f impl_isPrinted.f LO
  rw [tx_size]
  by_cases c : s.length ≤ 300
  · rw [if_pos (by omega), printed_I s h]
    dsimp only [Option.bind_some]
    cases hp : s.all prB with
    | false => rw [if_neg (show ¬ false = true by decide), if_neg (fun hh => by cases hh.2)]; rfl
    | true =>
      have hr : Res [] (lq [] 0 s) (impl_listOf.f K (tx s)) := lqI s (by omega) s [] [] [] 0 K rfl (Or.inl rfl) (Nat.le_refl _) (by omega)
      rw [if_pos rfl, if_pos ⟨c, rfl⟩]
      cases hl : lq [] 0 s with
      | none =>
        rw [hl] at hr
        obtain ⟨X, e⟩ := hr
        rw [e, Option.bind_some]; rfl
      | some L =>
        rw [hl] at hr
        have e : impl_listOf.f K (tx s) = some (L.map tx, true) := hr
        rw [e, Option.bind_some]; rfl
  · rw [if_neg (by omega), if_neg (fun hh => c hh.1)]; rfl
theorem ListS (K : Nat) (s : List UInt8) (h : s.length ≤ 1000) (hK : 2000 ≤ K) : spec_ListOf.f K (tx s) = some (lAns (LO s)) := by
  obtain ⟨m, rfl⟩ : ∃ m, K = m + 1 := ⟨K - 1, by omega⟩
  have jt : spec_ListOf.j0 (m + 1) (tx s) true = some ([], false) := rfl
  unfold spec_ListOf.f LO
  rw [printed_S (m + 1) s h (by omega), Option.bind_some, tx_size]
  cases hp : s.all prB with
  | false => rw [if_neg (show ¬ false = true by decide), jt, if_neg (fun hh => by cases hh.2)]; rfl
  | true =>
    rw [if_pos rfl]
    by_cases c : s.length ≤ 300
    · have hr : Res [] (lq [] 0 s) (spec_l3List.f m (tx s)) := lqS s (by omega) s [] [] [] 0 m rfl (Or.inl rfl) (Nat.le_refl _) (by omega)
      rw [decide_eq_false (by omega), if_pos ⟨c, rfl⟩]
      unfold spec_ListOf.j0
      dsimp only
      rw [if_neg (show ¬ false = true by decide)]
      cases hl : lq [] 0 s with
      | none =>
        rw [hl] at hr
        obtain ⟨X, e⟩ := hr
        rw [e, Option.bind_some]; rfl
      | some L =>
        rw [hl] at hr
        have e : spec_l3List.f m (tx s) = some (L.map tx, true) := hr
        rw [e, Option.bind_some]; rfl
    · rw [decide_eq_true (by omega), jt, if_neg (fun hh => c hh.1)]; rfl
/-- what was read, joined, is read so again -/
theorem LO_again (s : List UInt8) (L : List (List UInt8)) (h : LO s = some L) : LO (Lib.join L [44]) = some L ∧ (Lib.join L [44]).length ≤ 301 ∧ (∀ T ∈ L, Pt T ∧ (∀ b ∈ T, prB b = true) ∧ T.length ≤ 301) ∧ L.length ≤ 301 := by
  unfold LO at h
  by_cases c : s.length ≤ 300 ∧ s.all prB = true
  · rw [if_pos c] at h
    have hp := lq_parts s [] 0 L rfl h
    have hb : ∀ T ∈ L, ∀ b ∈ T, prB b = true := fun T hT b hb => List.all_eq_true.mp c.2 b (lq_sub s [] 0 L h T hT b hb)
    have hlen := lq_len s [] 0 L h
    have hj := join_lenS1 L
    rw [List.length_nil] at hlen
    have hcount : ∀ (A : List (List UInt8)), A.length ≤ lenS A ∧ ∀ T ∈ A, T.length ≤ lenS A := fun A => by
      induction A with
      | nil => exact ⟨Nat.le_refl _, fun T hT => by cases hT⟩
      | cons X A ih =>
        rw [lenS_cons]
        refine ⟨by rw [List.length_cons]; omega, fun T hT => ?_⟩
        rcases List.mem_cons.mp hT with rfl | hT
        · omega
        · have := ih.2 T hT; omega
    have hc := hcount L
    have hall : (Lib.join L [44]).all prB = true := by
      rw [List.all_eq_true]
      intro b hb2
      rcases join_mem L b hb2 with rfl | ⟨T, hT, hbT⟩
      · rfl
      · exact hb T hT b hbT
    have hle : (Lib.join L [44]).length ≤ 300 := by omega
    refine ⟨?_, by omega, fun T hT => ⟨hp T hT, hb T hT, by have := hc.2 T hT; omega⟩, by omega⟩
    unfold LO
    rw [if_pos ⟨hle, hall⟩]
    exact lq_again L hp
  · rw [if_neg c] at h; cases h

/-! ### Weights -/
def dg (x : UInt8) : Nat := x.toNat - 48
def lead (x : UInt8) (f : Nat) : Option Nat := if x = 48 then some f else if x = 49 then (if f = 0 then some 1000 else none) else none
def frac : List UInt8 → Option Nat
  | [a] => if isDB a = true then some (100 * dg a) else none
  | [a, b] => if isDB a = true ∧ isDB b = true then some (100 * dg a + 10 * dg b) else none
  | [a, b, c] => if isDB a = true ∧ isDB b = true ∧ isDB c = true then some (100 * dg a + 10 * dg b + dg c) else none
  | _ => none
def wv : List UInt8 → Option Nat
  | [] => none
  | [x] => lead x 0
  | x :: y :: r => if y = 46 then (frac r).bind (lead x) else none
theorem lead_none (x : UInt8) (f : Nat) (h : x ≠ 48) (h2 : x ≠ 49) : lead x f = none := by unfold lead; rw [if_neg h, if_neg h2]
theorem wv_lead (x : UInt8) (r : List UInt8) (h : x ≠ 48) (h2 : x ≠ 49) : wv (x :: r) = none := by
  cases r with
  | nil => exact lead_none x 0 h h2
  | cons y r =>
    show (if y = 46 then (frac r).bind (lead x) else none) = none
    split
    · cases frac r with
      | none => rfl
      | some f => exact lead_none x f h h2
    · rfl
theorem dg_le (x : UInt8) (h : isDB x = true) : dg x ≤ 9 ∧ x.toNat = dg x + 48 := by
  unfold isDB at h
  simp only [Bool.and_eq_true, decide_eq_true_eq] at h
  unfold dg
  omega
theorem dec3 (a0 : Nat) (a b c : UInt8) (ha : isDB a = true) (hb : isDB b = true) (hc : isDB c = true) : Lib.decFrom a0 [a, b, c] = some (1000 * a0 + 100 * dg a + 10 * dg b + dg c) := by
  rw [dec_cons, if_pos ha, dec_cons, if_pos hb, dec_cons, if_pos hc]
  show some _ = some _
  congr 1
  unfold dg
  omega
theorem atoi_w (x a b c : UInt8) (hx : x = 48 ∨ x = 49) (ha : isDB a = true) (hb : isDB b = true) (hc : isDB c = true) : strconv_Atoi.f (tx [x, a, b, c]) = some (((1000 * dg x + 100 * dg a + 10 * dg b + dg c : Nat) : Int), none) := by
  have hdx : isDB x = true := by rcases hx with rfl | rfl <;> rfl
  have hd : Lib.decNat [x, a, b, c] = some (1000 * dg x + 100 * dg a + 10 * dg b + dg c) := by
    unfold Lib.decNat
    rw [if_neg (by exact Bool.false_ne_true), dec_cons, if_pos hdx, dec3 _ a b c ha hb hc]
    congr 1
    unfold dg
    omega
  have hat : Lib.atoi [x, a, b, c] = some ((1000 * dg x + 100 * dg a + 10 * dg b + dg c : Nat) : Int) := by
    show (if (x == 45) = true then (Lib.decNat [a, b, c]).map fun (m : Nat) => -(m : Int) else if (x == 43) = true then (Lib.decNat [a, b, c]).map fun (m : Nat) => (m : Int) else (Lib.decNat [x, a, b, c]).map fun (m : Nat) => (m : Int)) = _
    rw [if_neg (by rcases hx with rfl | rfl <;> decide), if_neg (by rcases hx with rfl | rfl <;> decide), hd]; rfl
  unfold strconv_Atoi.f
  rw [tx_size, if_pos (by simp : [x, a, b, c].length ≤ 18), tx_list, hat]
/-- what impl.weightOf answers -/
def WRes (r : Option Nat) (v : Option (Int × Bool)) : Prop :=
  match r with
  | some n => v = some ((n : Int), true) ∧ n ≤ 1000
  | none => ∃ m, v = some (m, false)
theorem wbig (x : UInt8) (hx : x = 48 ∨ x = 49) (f : Nat) (hf : f ≤ 999) : WRes (lead x f) (some (((1000 * dg x + f : Nat) : Int), decide (((1000 * dg x + f : Nat) : Int) ≤ 1000))) := by
  unfold lead
  rcases hx with rfl | rfl
  · rw [if_pos rfl]
    have e : dg 48 = 0 := rfl
    rw [e, decide_eq_true (by omega)]
    exact ⟨by simp, by omega⟩
  · have e : dg 49 = 1 := rfl
    rw [if_neg (by decide), if_pos rfl, e]
    by_cases c : f = 0
    · rw [if_pos c, c]
      exact ⟨rfl, Nat.le_refl _⟩
    · rw [if_neg c, decide_eq_false (by omega)]
      exact ⟨_, rfl⟩
/-- the end of impl.weightOf: a whole part, and digits -/
def wEnd (a b : List UInt8) : Option (Int × Bool) := if a = [48] ∨ a = [49] then (strconv_Atoi.f (tx (a ++ (b ++ [48, 48, 48]).take 3))).bind fun bt => some (bt.1, decide (bt.1 ≤ 1000)) else some (0, false)
theorem wE_no (a b : List UInt8) (h : ¬ (a = [48] ∨ a = [49])) : wEnd a b = some (0, false) := by unfold wEnd; rw [if_neg h]
theorem wE_yes (x a b c : UInt8) (t : List UInt8) (hx : x = 48 ∨ x = 49) (ht : (t ++ [48, 48, 48]).take 3 = [a, b, c]) (ha : isDB a = true) (hb : isDB b = true) (hc : isDB c = true) : WRes (lead x (100 * dg a + 10 * dg b + dg c)) (wEnd [x] t) := by
  have h1 := (dg_le a ha).1
  have h2 := (dg_le b hb).1
  have h3 := (dg_le c hc).1
  unfold wEnd
  rw [if_pos (by rcases hx with rfl | rfl <;> simp), ht]
  show WRes _ ((strconv_Atoi.f (tx [x, a, b, c])).bind fun bt => some (bt.1, decide (bt.1 ≤ 1000)))
  rw [atoi_w x a b c hx ha hb hc, Option.bind_some]
  have e : 1000 * dg x + 100 * dg a + 10 * dg b + dg c = 1000 * dg x + (100 * dg a + 10 * dg b + dg c) := by omega
  rw [e]
  exact wbig x hx _ (by omega)
theorem wroom (a b : List UInt8) (ha : a.length ≤ 1000) (hb : b.length ≤ 1000) : (tx b).size + 3 ≤ 9223372036854775807 ∧ (3 : Int) ≤ (((tx b ++ (⟨#[48, 48, 48]⟩ : ByteArray)).size : Nat) : Int) ∧ (tx a).size + ((tx b ++ (⟨#[48, 48, 48]⟩ : ByteArray)).extract 0 3).size ≤ 9223372036854775807 ∧ (tx b ++ (⟨#[48, 48, 48]⟩ : ByteArray)).extract 0 3 = tx ((b ++ [48, 48, 48]).take 3) := by
  have e : tx b ++ (⟨#[48, 48, 48]⟩ : ByteArray) = tx (b ++ [48, 48, 48]) := tx_app b [48, 48, 48]
  have e2 : (tx (b ++ [48, 48, 48])).extract 0 3 = tx ((b ++ [48, 48, 48]).take 3) := by rw [tx_cut]; rfl
  have hl : ((b ++ [48, 48, 48]).take 3).length ≤ 3 := by rw [List.length_take]; omega
  rw [e, e2, tx_size, tx_size, tx_size, tx_size, List.length_append]
  have : ([48, 48, 48] : List UInt8).length = 3 := rfl
  exact ⟨by omega, by omega, by omega, rfl⟩
theorem weight_cut (w a b : List UInt8) (f : Bool) (hl : w.length ≤ 1000) (ha : a.length ≤ 1000) (hb : b.length ≤ 1000) (hc : Lib.cut w [46] = (a, b, f)) (hf : f = false → b = []) : impl_weightOf.f (tx w) = (if (f = false ∨ (1 ≤ b.length ∧ b.length ≤ 3)) ∧ b.all isDB = true then wEnd a b else some (0, false)) := by
  obtain ⟨g1, g2, g3, g4⟩ := wroom a b ha hb
  have e46 : (⟨#[46]⟩ : ByteArray) = tx [46] := rfl
  have hcf : strings_Cut.f (tx w) (⟨#[46]⟩ : ByteArray) = some (tx a, tx b, f) := by
    unfold strings_Cut.f
    rw [e46, tx_size, if_pos (by omega), tx_list, tx_list, hc]
  have hfin : (if (tx a).toList = ([48] : List UInt8) then (if (tx b).size + 3 ≤ 9223372036854775807 then (if 0 ≤ 3 then (if (3 : Int) ≤ (((tx b ++ (⟨#[48, 48, 48]⟩ : ByteArray)).size : Nat) : Int) then (if (tx a).size + ((tx b ++ (⟨#[48, 48, 48]⟩ : ByteArray)).extract 0 3).size ≤ 9223372036854775807 then ((strconv_Atoi.f (tx a ++ ((tx b ++ (⟨#[48, 48, 48]⟩ : ByteArray)).extract 0 3))).bind fun bt => (some (bt.1, decide (bt.1 ≤ 1000)))) else (none)) else (none)) else (none)) else (none)) else (if (tx a).toList = ([49] : List UInt8) then (if (tx b).size + 3 ≤ 9223372036854775807 then (if 0 ≤ 3 then (if (3 : Int) ≤ (((tx b ++ (⟨#[48, 48, 48]⟩ : ByteArray)).size : Nat) : Int) then (if (tx a).size + ((tx b ++ (⟨#[48, 48, 48]⟩ : ByteArray)).extract 0 3).size ≤ 9223372036854775807 then ((strconv_Atoi.f (tx a ++ ((tx b ++ (⟨#[48, 48, 48]⟩ : ByteArray)).extract 0 3))).bind fun bt => (some (bt.1, decide (bt.1 ≤ 1000)))) else (none)) else (none)) else (none)) else (none)) else (some (0, false)))) = wEnd a b := by
    unfold wEnd
    rw [tx_toList, if_pos g1, if_pos (show (0 : Nat) ≤ 3 by decide), if_pos g2, if_pos g3, g4, tx_app]
    by_cases c1 : a = [48]
    · rw [if_pos c1, if_pos (Or.inl c1)]
    · rw [if_neg c1]
      by_cases c2 : a = [49]
      · rw [if_pos c2, if_pos (Or.inr c2)]
      · rw [if_neg c2, if_neg (fun h => h.elim c1 c2)]
  unfold impl_weightOf.f
  rw [hcf, Option.bind_some]
  dsimp only
  cases f with
  | false =>
    have hb0 := hf rfl
    rw [if_neg (show ¬ false = true by decide), digits_I b hb, Option.bind_some]
    by_cases hd : b.all isDB = true
    · rw [if_pos hd]
      exact hfin.trans (if_pos ⟨Or.inl rfl, hd⟩).symm
    · rw [if_neg hd, if_neg (fun h => hd h.2)]
  | true =>
    rw [if_pos rfl, withinR, Option.bind_some, tx_size]
    by_cases hr : 1 ≤ b.length ∧ b.length ≤ 3
    · rw [decide_eq_true (show (1 : Int) ≤ (b.length : Int) by omega), decide_eq_true (show (b.length : Int) ≤ 3 by omega), if_pos (by rfl), digits_I b hb, Option.bind_some]
      by_cases hd : b.all isDB = true
      · rw [if_pos hd]
        exact hfin.trans (if_pos ⟨Or.inr hr, hd⟩).symm
      · rw [if_neg hd, if_neg (fun h => hd h.2)]
    · have hf : (decide ((1 : Int) ≤ (b.length : Int)) && decide ((b.length : Int) ≤ 3)) = false := by
        rw [Bool.eq_false_iff]
        simp only [ne_eq, Bool.and_eq_true, decide_eq_true_eq]
        exact fun h => hr ⟨by omega, by omega⟩
      rw [hf, if_neg (show ¬ false = true by decide), if_neg (fun h => h.1.elim (fun h => by cases h) hr)]

/-! ### Both read weights alike -/
theorem frac_some : ∀ (t : List UInt8) (f : Nat), frac t = some f → t.all isDB = true ∧ (1 ≤ t.length ∧ t.length ≤ 3) ∧ f ≤ 999 ∧ ∀ x, WRes (lead x f) (wEnd [x] t)
  | [], f, h => by cases h
  | [a], f, h => by
    have d48 : isDB 48 = true := rfl
    have h' : (if isDB a = true then some (100 * dg a) else none) = some f := h
    by_cases ha : isDB a = true
    · rw [if_pos ha] at h'
      have hf := Option.some.inj h'
      have h1 := (dg_le a ha).1
      refine ⟨by rw [List.all_cons, ha]; rfl, ⟨Nat.le_refl _, (by decide : (1 : Nat) ≤ 3)⟩, by omega, fun x => ?_⟩
      by_cases hx : x = 48 ∨ x = 49
      · have := wE_yes x a 48 48 [a] hx rfl ha d48 d48
        have e : 100 * dg a + 10 * dg 48 + dg 48 = f := by
          have : dg 48 = 0 := rfl
          omega
        rw [e] at this
        exact this
      · rw [lead_none x f (fun h => hx (Or.inl h)) (fun h => hx (Or.inr h)), wE_no [x] [a] (fun h => hx (h.imp (fun e => (List.cons.inj e).1) (fun e => (List.cons.inj e).1)))]
        exact ⟨0, rfl⟩
    · rw [if_neg ha] at h'; cases h'
  | [a, b], f, h => by
    have d48 : isDB 48 = true := rfl
    have h' : (if isDB a = true ∧ isDB b = true then some (100 * dg a + 10 * dg b) else none) = some f := h
    by_cases hab : isDB a = true ∧ isDB b = true
    · rw [if_pos hab] at h'
      obtain ⟨ha, hb⟩ := hab
      have hf := Option.some.inj h'
      have h1 := (dg_le a ha).1
      have h2 := (dg_le b hb).1
      refine ⟨by rw [List.all_cons, List.all_cons, ha, hb]; rfl, ⟨(by decide : (1 : Nat) ≤ 2), (by decide : (2 : Nat) ≤ 3)⟩, by omega, fun x => ?_⟩
      by_cases hx : x = 48 ∨ x = 49
      · have := wE_yes x a b 48 [a, b] hx rfl ha hb d48
        have e : 100 * dg a + 10 * dg b + dg 48 = f := by
          have : dg 48 = 0 := rfl
          omega
        rw [e] at this
        exact this
      · rw [lead_none x f (fun h => hx (Or.inl h)) (fun h => hx (Or.inr h)), wE_no [x] [a, b] (fun h => hx (h.imp (fun e => (List.cons.inj e).1) (fun e => (List.cons.inj e).1)))]
        exact ⟨0, rfl⟩
    · rw [if_neg hab] at h'; cases h'
  | [a, b, c], f, h => by
    have h' : (if isDB a = true ∧ isDB b = true ∧ isDB c = true then some (100 * dg a + 10 * dg b + dg c) else none) = some f := h
    by_cases hab : isDB a = true ∧ isDB b = true ∧ isDB c = true
    · rw [if_pos hab] at h'
      obtain ⟨ha, hb, hc⟩ := hab
      have hf := Option.some.inj h'
      have h1 := (dg_le a ha).1
      have h2 := (dg_le b hb).1
      have h3 := (dg_le c hc).1
      refine ⟨by rw [List.all_cons, List.all_cons, List.all_cons, ha, hb, hc]; rfl, ⟨(by decide : (1 : Nat) ≤ 3), (by decide : (3 : Nat) ≤ 3)⟩, by omega, fun x => ?_⟩
      by_cases hx : x = 48 ∨ x = 49
      · have := wE_yes x a b c [a, b, c] hx rfl ha hb hc
        rw [hf] at this
        exact this
      · rw [lead_none x f (fun h => hx (Or.inl h)) (fun h => hx (Or.inr h)), wE_no [x] [a, b, c] (fun h => hx (h.imp (fun e => (List.cons.inj e).1) (fun e => (List.cons.inj e).1)))]
        exact ⟨0, rfl⟩
    · rw [if_neg hab] at h'; cases h'
  | _ :: _ :: _ :: _ :: _, f, h => by cases h
theorem frac_none : ∀ (t : List UInt8), frac t = none → ¬ ((1 ≤ t.length ∧ t.length ≤ 3) ∧ t.all isDB = true)
  | [], _, h => absurd h.1.1 (by decide)
  | [a], h, g => by
    have h' : (if isDB a = true then some (100 * dg a) else none) = none := h
    have g2 : (isDB a && true) = true := g.2
    rw [Bool.and_true] at g2
    rw [if_pos g2] at h'; cases h'
  | [a, b], h, g => by
    have h' : (if isDB a = true ∧ isDB b = true then some (100 * dg a + 10 * dg b) else none) = none := h
    have g2 := g.2
    rw [List.all_cons, List.all_cons, List.all_nil, Bool.and_true, Bool.and_eq_true] at g2
    rw [if_pos g2] at h'; cases h'
  | [a, b, c], h, g => by
    have h' : (if isDB a = true ∧ isDB b = true ∧ isDB c = true then some (100 * dg a + 10 * dg b + dg c) else none) = none := h
    have g2 := g.2
    rw [List.all_cons, List.all_cons, List.all_cons, List.all_nil, Bool.and_true, Bool.and_eq_true, Bool.and_eq_true] at g2
    rw [if_pos g2] at h'; cases h'
  | _ :: _ :: _ :: _ :: r, _, g => by
    have := g.1.2
    rw [List.length_cons, List.length_cons, List.length_cons, List.length_cons] at this
    omega
theorem wv_two (x y : UInt8) (r : List UInt8) : wv (x :: y :: r) = (if y = 46 then (frac r).bind (lead x) else none) := rfl
theorem weight_I (w : List UInt8) (hl : w.length ≤ 300) : WRes (wv w) (impl_weightOf.f (tx w)) := by
  rcases first_at 46 w with hm | ⟨a, b, e, ha⟩
  · rw [weight_cut w w [] false (by omega) (by omega) (by decide) (cut_none 46 w hm) (fun _ => rfl), if_pos ⟨Or.inl rfl, rfl⟩]
    match w, hm with
    | [], _ => exact ⟨0, rfl⟩
    | [x], _ =>
      have d48 : isDB 48 = true := rfl
      by_cases hx : x = 48 ∨ x = 49
      · exact wE_yes x 48 48 48 [] hx rfl d48 d48 d48
      · rw [wv_lead x [] (fun h => hx (Or.inl h)) (fun h => hx (Or.inr h)), wE_no [x] [] (fun h => hx (h.imp (fun e => (List.cons.inj e).1) (fun e => (List.cons.inj e).1)))]
        exact ⟨0, rfl⟩
    | x :: y :: r, hm =>
      have hy : y ≠ 46 := fun h => hm (by rw [h]; simp)
      rw [wv_two, if_neg hy, wE_no (x :: y :: r) [] (by simp)]
      exact ⟨0, rfl⟩
  · have hla : a.length + (b.length + 1) ≤ 300 := by rw [e, List.length_append, List.length_cons] at hl; exact hl
    rw [weight_cut w a b true (by omega) (by omega) (by omega) (by rw [e]; exact cut_at 46 a b ha) (fun h => by cases h), e]
    have no2 : ¬ (a = [48] ∨ a = [49]) → WRes none (if (true = false ∨ (1 ≤ b.length ∧ b.length ≤ 3)) ∧ b.all isDB = true then wEnd a b else some (0, false)) := fun h => by
      rw [wE_no a b h, ite_self]
      exact ⟨0, rfl⟩
    match a, ha, no2 with
    | [], _, no2 =>
      rw [List.nil_append, wv_lead 46 b (by decide) (by decide)]
      exact no2 (by simp)
    | [x], _, _ =>
      rw [List.singleton_append, wv_two, if_pos rfl]
      cases hf : frac b with
      | none =>
        have := frac_none b hf
        rw [if_neg (fun h => this ⟨h.1.resolve_left (by decide), h.2⟩)]
        exact ⟨0, rfl⟩
      | some f =>
        obtain ⟨h1, h2, _, h3⟩ := frac_some b f hf
        rw [if_pos ⟨Or.inr h2, h1⟩]
        exact h3 x
    | x :: y :: r, ha, no2 =>
      have hy : y ≠ 46 := fun h => ha (by rw [h]; simp)
      rw [List.cons_append, List.cons_append, wv_two, if_neg hy]
      exact no2 (by simp)
/-! the reference -/
def lw (n y : Nat) : List UInt8 → Option Nat
  | [] => if n > 1000 then none else some n
  | b :: M => if isDB b = true then lw (n + y * dg b) (y / 10) M else none
def toI : Option Nat → Int
  | some v => (v : Int)
  | none => -1
theorem wstep (n y p : Nat) (b : UInt8) (h : isDB b = true) (hn : n ≤ 5000) (hy : y ≤ 100) (hp : p ≤ 10) : wrap64 ((n : Int) + wrap64 ((y : Int) * (((b.toNat : Int) - 48) % 256))) = ((n + y * dg b : Nat) : Int) ∧ wrap64 (Int.tdiv (y : Int) 10) = ((y / 10 : Nat) : Int) ∧ wrap64 ((p : Int) + 1) = ((p + 1 : Nat) : Int) ∧ n + y * dg b ≤ n + 900 := by
  obtain ⟨h1, h2⟩ := dg_le b h
  have e : ((b.toNat : Int) - 48) % 256 = (dg b : Int) := by omega
  have hm : y * dg b ≤ 100 * 9 := Nat.mul_le_mul hy h1
  have hz : (y : Int) * (dg b : Int) = ((y * dg b : Nat) : Int) := (Int.natCast_mul _ _).symm
  have e1 : Int.tdiv (y : Int) 10 = ((y / 10 : Nat) : Int) := by rw [Int.tdiv_eq_ediv_of_nonneg (by omega)]; omega
  generalize y * dg b = z at *
  rw [e, hz, e1, w64 (x := (z : Int)) (by omega) (by omega), w64 (x := ((y / 10 : Nat) : Int)) (by omega) (by omega), w64 (x := (p : Int) + 1) (by omega) (by omega), w64 (by omega) (by omega)]
  exact ⟨by omega, rfl, by omega, by omega⟩
theorem wpos (p m : Nat) (h : 2 ≤ p) : (p : Int) < (p : Int) + ((m : Int) + 1) ∧ (0 : Int) ≤ (p : Int) ∧ ¬ (p : Int) = 1 := by omega
theorem wside (p m n z y K : Nat) (h2 : 2 ≤ p) (h6 : p + (m + 1) ≤ 10) (h3 : m + 1 ≤ 3) (hn : n + 1000 * (m + 1) ≤ 5000) (hy : y ≤ 100) (hK : m + 1 < K + 1) (s4 : n + z ≤ n + 900) : 2 ≤ p + 1 ∧ p + 1 + m ≤ 10 ∧ m ≤ 3 ∧ n + z + 1000 * m ≤ 5000 ∧ y / 10 ≤ 100 ∧ m < K := by omega
theorem weight_l : ∀ (M pre : List UInt8) (K n y : Nat), 2 ≤ pre.length → pre.length + M.length ≤ 10 → M.length ≤ 3 → n + 1000 * M.length ≤ 5000 → y ≤ 100 → M.length < K → spec_l3Weight.l0 K (tx (pre ++ M)) (n : Int) (y : Int) (pre.length : Int) = some (toI (lw n y M))
  | M, pre, 0, _, _, _, _, _, _, _, h => absurd h (Nat.not_lt_zero _)
  | [], pre, K + 1, n, y, h2, _, _, _, _, _ => by
    unfold spec_l3Weight.l0 lw
    rw [tx_size, List.append_nil, if_neg (Int.lt_irrefl _)]
    by_cases c : n > 1000
    · rw [if_pos (by omega), if_pos c]; rfl
    · rw [if_neg (by omega), if_neg c]; rfl
  | b :: M, pre, K + 1, n, y, h2, h6, h3, hn, hy, hK => by
    rw [List.length_cons] at h6 h3 hn hK
    obtain ⟨q1, q2, q3⟩ := wpos pre.length M.length h2
    have hlen := lenC pre b M
    have hbt := bt_at pre M b
    have e1 : pre ++ [b] ++ M = pre ++ b :: M := by simp
    have e2 : (pre ++ [b]).length = pre.length + 1 := by simp
    unfold spec_l3Weight.l0 lw
    rw [tx_size, hlen, if_pos q1, if_neg q3, if_pos q2, hbt, (dig_b b).2.1, Option.bind_some]
    by_cases c : isDB b = true
    · obtain ⟨s1, s2, s3, s4⟩ := wstep n y pre.length b c (by omega) hy (by omega)
      obtain ⟨z1, z2, z3, z4, z5, z6⟩ := wside pre.length M.length n (y * dg b) y K h2 h6 h3 hn hy hK s4
      have ih := weight_l M (pre ++ [b]) K (n + y * dg b) (y / 10) (by rw [e2]; exact z1) (by rw [e2]; exact z2) z3 z4 z5 z6
      rw [e1, e2] at ih
      rw [if_pos c, if_pos c, s1, s2, s3]
      exact ih
    · rw [if_neg c, if_neg c]; rfl

/-! ### The reference's weight -/
theorem lead_n (x : UInt8) (hx : x = 48 ∨ x = 49) (f : Nat) (hf : f ≤ 999) : lead x f = (if 1000 * dg x + f > 1000 then none else some (1000 * dg x + f)) := by
  unfold lead
  rcases hx with rfl | rfl
  · have e : dg 48 = 0 := rfl
    rw [if_pos rfl, e, if_neg (by omega)]; congr 1; omega
  · have e : dg 49 = 1 := rfl
    rw [if_neg (by decide), if_pos rfl, e]
    by_cases c : f = 0
    · rw [if_pos c, c, if_neg (by decide)]
    · rw [if_neg c, if_pos (by omega)]
theorem lw_frac (x : UInt8) (hx : x = 48 ∨ x = 49) : ∀ (t : List UInt8), 1 ≤ t.length → t.length ≤ 3 → lw (1000 * dg x) 100 t = (frac t).bind (lead x)
  | [], h, _ => absurd h (by decide)
  | [a], _, _ => by
    show (if isDB a = true then (if 1000 * dg x + 100 * dg a > 1000 then none else some (1000 * dg x + 100 * dg a)) else none) = (if isDB a = true then some (100 * dg a) else none).bind (lead x)
    by_cases ha : isDB a = true
    · have h1 := (dg_le a ha).1
      rw [if_pos ha, if_pos ha, Option.bind_some, lead_n x hx _ (by omega)]
    · rw [if_neg ha, if_neg ha]; rfl
  | [a, b], _, _ => by
    show (if isDB a = true then (if isDB b = true then (if 1000 * dg x + 100 * dg a + 100 / 10 * dg b > 1000 then none else some (1000 * dg x + 100 * dg a + 100 / 10 * dg b)) else none) else none) = (if isDB a = true ∧ isDB b = true then some (100 * dg a + 10 * dg b) else none).bind (lead x)
    by_cases ha : isDB a = true
    · by_cases hb : isDB b = true
      · have h1 := (dg_le a ha).1
        have h2 := (dg_le b hb).1
        have e : 1000 * dg x + 100 * dg a + 100 / 10 * dg b = 1000 * dg x + (100 * dg a + 10 * dg b) := by omega
        rw [if_pos ha, if_pos hb, if_pos (show isDB a = true ∧ isDB b = true from ⟨ha, hb⟩), Option.bind_some, lead_n x hx _ (by omega), e]
      · rw [if_pos ha, if_neg hb, if_neg (fun h => hb h.2)]; rfl
    · rw [if_neg ha, if_neg (fun h => ha h.1)]; rfl
  | [a, b, c], _, _ => by
    show (if isDB a = true then (if isDB b = true then (if isDB c = true then (if 1000 * dg x + 100 * dg a + 100 / 10 * dg b + 100 / 10 / 10 * dg c > 1000 then none else some (1000 * dg x + 100 * dg a + 100 / 10 * dg b + 100 / 10 / 10 * dg c)) else none) else none) else none) = (if isDB a = true ∧ isDB b = true ∧ isDB c = true then some (100 * dg a + 10 * dg b + dg c) else none).bind (lead x)
    by_cases ha : isDB a = true
    · by_cases hb : isDB b = true
      · by_cases hc : isDB c = true
        · have h1 := (dg_le a ha).1
          have h2 := (dg_le b hb).1
          have h3 := (dg_le c hc).1
          have e : 1000 * dg x + 100 * dg a + 100 / 10 * dg b + 100 / 10 / 10 * dg c = 1000 * dg x + (100 * dg a + 10 * dg b + dg c) := by omega
          rw [if_pos ha, if_pos hb, if_pos hc, if_pos (show isDB a = true ∧ isDB b = true ∧ isDB c = true from ⟨ha, hb, hc⟩), Option.bind_some, lead_n x hx _ (by omega), e]
        · rw [if_pos ha, if_pos hb, if_neg hc, if_neg (fun h => hc h.2.2)]; rfl
      · rw [if_pos ha, if_neg hb, if_neg (fun h => hb h.2.1)]; rfl
    · rw [if_neg ha, if_neg (fun h => ha h.1)]; rfl
  | _ :: _ :: _ :: _ :: r, _, h => by
    rw [List.length_cons, List.length_cons, List.length_cons, List.length_cons] at h
    omega
theorem frac_long : ∀ (t : List UInt8), ¬ (1 ≤ t.length ∧ t.length ≤ 3) → frac t = none
  | [], _ => rfl
  | [_], h => absurd ⟨by simp, by simp⟩ h
  | [_, _], h => absurd ⟨by simp, by simp⟩ h
  | [_, _, _], h => absurd ⟨by simp, by simp⟩ h
  | _ :: _ :: _ :: _ :: _, _ => rfl
theorem wv_long (x y : UInt8) (t : List UInt8) (h : ¬ (1 ≤ t.length ∧ t.length ≤ 3)) : wv (x :: y :: t) = none := by
  rw [wv_two, frac_long t h]
  split <;> rfl
theorem weight_x (k : Nat) (hk : 10 ≤ k) (x : UInt8) (hx : x = 48 ∨ x = 49) (r : List UInt8) : (if ((tx (x :: r)).size : Int) = 2 then (spec_l3Weight.j0 k (tx (x :: r)) true) else (spec_l3Weight.j0 k (tx (x :: r)) (decide (((tx (x :: r)).size : Int) > 5)))) = some (toI (wv (x :: r))) := by
  obtain ⟨m, rfl⟩ : ∃ m, k = m + 2 := ⟨k - 2, by omega⟩
  have jt : spec_l3Weight.j0 (m + 2) (tx (x :: r)) true = some (-1) := rfl
  have hs : ((tx (x :: r)).size : Int) = (r.length : Int) + 1 := by rw [tx_size]; simp
  have b0 : bt (tx (x :: r)) 0 = (x.toNat : Int) := bt_at [] r x
  have hd : isDB x = true := by rcases hx with rfl | rfl <;> rfl
  obtain ⟨d1, d2⟩ := dg_le x hd
  have e0 : 1000 * (((x.toNat : Int) - 48) % 256) = ((1000 * dg x : Nat) : Int) := by omega
  have hdx : dg x ≤ 1 := by rcases hx with rfl | rfl <;> decide
  rw [hs]
  cases r with
  | nil =>
    rw [if_neg (by decide), decide_eq_false (by decide)]
    unfold spec_l3Weight.j0
    try dsimp only
    rw [if_neg (show ¬ false = true by decide), hs, if_pos (by decide), b0, e0]
    unfold spec_l3Weight.l0
    try dsimp only
    rw [hs, if_neg (by decide), if_neg (by omega)]
    show _ = some (toI (lead x 0))
    rw [lead_n x hx 0 (by decide), if_neg (by omega)]; rfl
  | cons y t =>
    have hr : (((y :: t).length : Nat) : Int) = (t.length : Int) + 1 := by rw [List.length_cons]; omega
    rw [hr] at hs ⊢
    by_cases c0 : 1 ≤ t.length
    · rw [if_neg (by omega)]
      by_cases c5 : t.length ≤ 3
      · have b1 : bt (tx (x :: y :: t)) 1 = (y.toNat : Int) := bt_at [x] t y
        have w2 : wrap64 ((1 : Int) + 1) = 2 := w64 (by omega) (by omega)
        rw [decide_eq_false (by omega)]
        unfold spec_l3Weight.j0
        try dsimp only
        rw [if_neg (show ¬ false = true by decide), hs, if_pos (by omega), b0, e0]
        unfold spec_l3Weight.l0
        try dsimp only
        rw [hs, if_pos (by omega), if_pos rfl, if_pos (by omega), b1, w2, wv_two]
        by_cases cy : y = 46
        · rw [if_pos (show (y.toNat : Int) = 46 by rw [cy]; rfl), if_pos cy, ← lw_frac x hx t c0 c5]
          exact weight_l t [x, y] m (1000 * dg x) 100 (Nat.le_refl 2) (by show 2 + t.length ≤ 10; omega) c5 (by omega) (Nat.le_refl _) (by omega)
        · rw [if_neg (show ¬ (y.toNat : Int) = 46 from nbv y 46 cy), if_neg cy]; rfl
      · rw [decide_eq_true (by omega), jt, wv_long x y t (fun h => c5 h.2)]; rfl
    · rw [if_pos (by omega), jt, wv_long x y t (fun h => c0 h.1)]; rfl
theorem weight_S (k : Nat) (hk : 10 ≤ k) (w : List UInt8) : spec_l3Weight.f k (tx w) = some (toI (wv w)) := by
  obtain ⟨m, rfl⟩ : ∃ m, k = m + 1 := ⟨k - 1, by omega⟩
  unfold spec_l3Weight.f
  rw [tx_toList]
  cases w with
  | nil => rw [if_pos rfl]; rfl
  | cons x r =>
    have jt : spec_l3Weight.j0 (m + 1) (tx (x :: r)) true = some (-1) := rfl
    have hs : 0 < ((tx (x :: r)).size : Int) := by rw [tx_size, List.length_cons]; omega
    have b0 : bt (tx (x :: r)) 0 = (x.toNat : Int) := bt_at [] r x
    rw [if_neg (by simp), if_pos hs, b0]
    by_cases c8 : x = 48
    · rw [if_pos (show (x.toNat : Int) = 48 by rw [c8]; rfl)]
      exact weight_x (m + 1) hk x (Or.inl c8) r
    · rw [if_neg (show ¬ (x.toNat : Int) = 48 from nbv x 48 c8)]
      by_cases c9 : x = 49
      · rw [if_pos (show (x.toNat : Int) = 49 by rw [c9]; rfl)]
        exact weight_x (m + 1) hk x (Or.inr c9) r
      · rw [if_neg (show ¬ (x.toNat : Int) = 49 from nbv x 49 c9), jt, wv_lead x r c8 c9]; rfl

/-! ### Small letters; places in a row of texts -/
theorem low_map (H : List UInt8) : (⟨(tx H).data.map lowB⟩ : ByteArray) = tx (H.map lowB) := by
  apply ByteArray.ext
  simp [tx]
theorem small_f (H : List UInt8) (h : H.length ≤ 1000) : impl_small.f (tx H) = some (tx (H.map lowB)) := by
  unfold impl_small.f
  rw [tx_size, if_pos (by omega), low_map]
theorem lower_f (H : List UInt8) (h : H.length ≤ 1000) : spec_l1Lower.f (tx H) = some (tx (H.map lowB)) := by
  unfold spec_l1Lower.f
  rw [tx_size, if_pos (by omega), low_map]
theorem pos_l (p m : Nat) (h : p + (m + 1) ≤ 1000) : (p : Int) < (p : Int) + ((m : Int) + 1) ∧ (0 : Int) ≤ (p : Int) ∧ wrap64 ((p : Int) + 1) = (p : Int) + 1 := ⟨by omega, by omega, w64 (by omega) (by omega)⟩
theorem rd_mid (pre : List (List UInt8)) (s : List UInt8) (T : List (List UInt8)) : rdOf ByteArray.empty ((pre ++ s :: T).map tx) (pre.length : Int) = tx s := by
  have h : pre.length < ((pre ++ s :: T).map tx).length := by rw [List.length_map, List.length_append, List.length_cons]; omega
  unfold rdOf
  rw [List.getD_eq_getElem?_getD, Int.toNat_natCast, List.getElem?_eq_getElem h, List.getElem_map]
  simp
theorem lenP (A : List (List UInt8)) (b : List UInt8) (M : List (List UInt8)) : (((A ++ b :: M).length : Nat) : Int) = (A.length : Int) + ((M.length : Int) + 1) := by rw [List.length_append, List.length_cons]; omega

/-! ### Tokens; one choice -/
def isT : Option Bool → Bool
  | some true => true
  | _ => false
def tokB (b : UInt8) : Bool := isT (impl_isToken_1.f (b.toNat : Int))
def tokP (b : UInt8) : Bool := decide (impl_isToken_1.f (b.toNat : Int) = some (tokB b)) && decide (spec_l3TokenByte.f 40 (b.toNat : Int) = some (tokB b))
theorem tok_all : ((List.range 256).all fun n => tokP (UInt8.ofNat n)) = true := by decide +kernel
theorem tok_b (b : UInt8) : impl_isToken_1.f (b.toNat : Int) = some (tokB b) ∧ ∀ K, 40 ≤ K → spec_l3TokenByte.f K (b.toNat : Int) = some (tokB b) := by
  have g := byte_all tokP tok_all b
  unfold tokP at g
  simp only [Bool.and_eq_true, decide_eq_true_eq] at g
  exact ⟨g.1, fun K hK => mono_le (fun k => spec_l3TokenByte.f k (b.toNat : Int)) (fun k => spec_l3TokenByte.mono _ k) 40 K hK _ g.2⟩
def tokL (l : List UInt8) : Bool := (decide ((1 : Int) ≤ (l.length : Int)) && decide ((l.length : Int) ≤ 60)) && l.all tokB
theorem tokb_I (l : List UInt8) (h : l.length ≤ 1000) : xBytes_impl_isToken_1.f (tx l) = some (l.all tokB) := by
  unfold xBytes_impl_isToken_1.f xAll_u8_impl_isToken_1.f
  rw [tx_size, if_pos (by omega), bytes_tx, if_pos (by rw [List.length_map]; omega)]
  obtain ⟨i, e, g⟩ := idxO_mem xAll_u8_impl_isToken_1.z (fun x => tokB (UInt8.ofNat x.toNat)) (l.map fun b => (b.toNat : Int)) (fun x hx => by
    obtain ⟨b, _, rfl⟩ := List.mem_map.mp hx
    unfold xAll_u8_impl_isToken_1.z
    rw [(tok_b b).1, Option.bind_some, Int.toNat_natCast, UInt8.ofNat_toNat]) 0 (by decide)
  rw [e, Option.bind_some, g, List.all_map]
  have e2 : ((fun x : Int => tokB (UInt8.ofNat x.toNat)) ∘ fun b : UInt8 => (b.toNat : Int)) = tokB := by
    funext b
    show tokB (UInt8.ofNat ((b.toNat : Int)).toNat) = tokB b
    rw [Int.toNat_natCast, UInt8.ofNat_toNat]
  rw [e2]
theorem token_I (l : List UInt8) (h : l.length ≤ 1000) : impl_isToken.f (tx l) = some (tokL l) := by
  unfold impl_isToken.f tokL
  rw [tx_size, withinR, Option.bind_some]
  cases hw : (decide ((1 : Int) ≤ (l.length : Int)) && decide ((l.length : Int) ≤ 60)) with
  | true => rw [if_pos rfl, tokb_I l h, Option.bind_some, Bool.true_and]
  | false => rw [if_neg (by decide), Bool.false_and]
theorem token_l : ∀ (M pre : List UInt8) (K : Nat), (pre ++ M).length ≤ 1000 → M.length + 50 ≤ K → spec_l3Token.l0 K (tx (pre ++ M)) (pre.length : Int) = some (M.all tokB && (decide ((1 : Int) ≤ ((pre ++ M).length : Int)) && decide (((pre ++ M).length : Int) ≤ 60)))
  | M, pre, 0, _, h => absurd h (by omega)
  | [], pre, K + 1, _, _ => by
    unfold spec_l3Token.l0
    rw [tx_size, List.append_nil, if_neg (Int.lt_irrefl _), inR, Option.bind_some]; rfl
  | b :: M, pre, K + 1, hl, hK => by
    have hl2 : pre.length + (M.length + 1) ≤ 1000 := by rw [List.length_append, List.length_cons] at hl; exact hl
    obtain ⟨q1, q2, q3⟩ := pb_pos pre.length M.length hl2
    have hlen := lenC pre b M
    have hbt := bt_at pre M b
    have e1 : pre ++ [b] ++ M = pre ++ b :: M := by simp
    have e2 : (((pre ++ [b]).length : Nat) : Int) = (pre.length : Int) + 1 := by simp
    have ih := token_l M (pre ++ [b]) K (by rw [e1]; exact hl) (by rw [List.length_cons] at hK; omega)
    rw [e1, e2] at ih
    have ht := (tok_b b).2 K (by omega)
    unfold spec_l3Token.l0
    rw [tx_size, if_pos (by rw [hlen]; exact q1), if_pos q2, hbt, ht, Option.bind_some, List.all_cons, q3]
    cases hb : tokB b with
    | true => rw [if_pos rfl, Bool.true_and]; exact ih
    | false => rw [if_neg (by decide), Bool.false_and, Bool.false_and]
theorem token_S (K : Nat) (l : List UInt8) (h : l.length ≤ 1000) (hK : 1100 ≤ K) : spec_l3Token.f K (tx l) = some (tokL l) := by
  have := token_l l [] K h (by omega)
  unfold tokL
  rw [Bool.and_comm]
  exact this
theorem trimRight_f (K : Nat) (a : List UInt8) (h : ∀ b r, a = b :: r → b ≠ 32) (hl : a.length ≤ 1000) (hK : 1100 ≤ K) : strings_TrimRight.f K (tx a) (⟨#[32]⟩ : ByteArray) = some (tx (trimB a)) := by
  obtain ⟨m, rfl⟩ : ∃ m, K = m + 2 := ⟨K - 2, by omega⟩
  obtain ⟨i, j, e, hc, hz⟩ := trimB_form a
  have hi : i = 0 := by
    cases i with
    | zero => rfl
    | succ i => exact absurd rfl (h 32 (bl i ++ trimB a ++ bl j) e)
  subst hi
  have e' : a = trimB a ++ bl j := e.trans (by simp)
  have e32 : (⟨#[32]⟩ : ByteArray) = tx [32] := rfl
  have b32 : bt (tx [32]) 0 = 32 := bt_tx [32] 0 (by simp)
  have s32 : ((tx [32]).size : Int) = 1 := rfl
  unfold strings_TrimRight.f
  rw [e32, tx_toList, tx_toList]
  by_cases c0 : a = []
  · rw [if_pos c0]
    unfold strings_TrimRight.j0
    dsimp only
    rw [if_pos rfl]
    have : trimB a = [] := by
      rw [c0] at e'
      exact (List.append_eq_nil_iff.mp e'.symm).1 |> fun h => by rw [c0]; exact h
    rw [this, c0]
  · rw [if_neg c0]
    unfold strings_TrimRight.j0
    dsimp only
    rw [if_neg (by decide), s32, b32, if_pos rfl, if_pos (by decide)]
    unfold strings_TrimRight.j1 strings_trimRightByte.f
    dsimp only
    rw [if_pos (by decide), s32, if_pos (by decide), b32]
    have hA : ∀ r b, trimB a = r ++ [b] → b ≠ 32 := hc.2
    have hjl : j ≤ a.length := by
      have := congrArg List.length e'
      rw [List.length_append, List.length_replicate] at this
      omega
    have := trimR_I (trimB a) hA j m (by rw [← e']; omega) (by omega)
    rw [← e'] at this
    rw [this, Option.bind_some]
theorem trimLeft_f (K : Nat) (a : List UInt8) (h : ∀ r b, a = r ++ [b] → b ≠ 32) (hl : a.length ≤ 1000) (hK : 1100 ≤ K) : strings_TrimLeft.f K (tx a) (⟨#[32]⟩ : ByteArray) = some (tx (trimB a)) := by
  obtain ⟨m, rfl⟩ : ∃ m, K = m + 2 := ⟨K - 2, by omega⟩
  obtain ⟨i, j, e, hc, hz⟩ := trimB_form a
  have hj : j = 0 := by
    cases j with
    | zero => rfl
    | succ j => exact absurd rfl (h (bl i ++ trimB a ++ bl j) 32 (e.trans (by rw [bl_end]; simp)))
  subst hj
  have e' : a = bl i ++ trimB a := e.trans (by simp)
  have e32 : (⟨#[32]⟩ : ByteArray) = tx [32] := rfl
  have b32 : bt (tx [32]) 0 = 32 := bt_tx [32] 0 (by simp)
  have s32 : ((tx [32]).size : Int) = 1 := rfl
  unfold strings_TrimLeft.f
  rw [e32, tx_toList, tx_toList]
  by_cases c0 : a = []
  · rw [if_pos c0]
    unfold strings_TrimLeft.j0
    dsimp only
    rw [if_pos rfl]
    have : trimB a = [] := by
      rw [c0] at e'
      exact (List.append_eq_nil_iff.mp e'.symm).2 |> fun h => by rw [c0]; exact h
    rw [this, c0]
  · rw [if_neg c0]
    unfold strings_TrimLeft.j0
    dsimp only
    rw [if_neg (by decide), s32, b32, if_pos rfl, if_pos (by decide)]
    unfold strings_TrimLeft.j1 strings_trimLeftByte.f
    dsimp only
    rw [if_pos (by decide), s32, if_pos (by decide), b32]
    have hil : i ≤ a.length := by
      have := congrArg List.length e'
      rw [List.length_append, List.length_replicate] at this
      omega
    have := trimL_I (trimB a) hc.1 i m (by omega)
    rw [← e'] at this
    rw [this, Option.bind_some]
theorem prefixQ (s : List UInt8) (h : s.length ≤ 1000) : strings_CutPrefix.f (tx s) (⟨#[113, 61]⟩ : ByteArray) = some (if s.take 2 = [113, 61] then (tx (s.drop 2), true) else (tx s, false)) := by
  have e : (⟨#[113, 61]⟩ : ByteArray) = tx [113, 61] := rfl
  have e6 : ((tx [113, 61]).size : Int) = 2 := rfl
  unfold strings_CutPrefix.f stringslite_CutPrefix.f stringslite_HasPrefix.f
  rw [e, e6, tx_size, tx_toList [113, 61]]
  by_cases c : (s.length : Int) ≥ 2
  · have hx : (tx s).extract 0 (2 : Int).toNat = tx (s.take 2) := by rw [tx_cut]; rfl
    have hd : (tx s).extract (2 : Int).toNat s.length = tx (s.drop 2) := by
      rw [tx_cut]
      show tx ((s.drop 2).take (s.length - 2)) = _
      rw [List.take_of_length_le (by rw [List.length_drop]; exact Nat.le_refl _)]
    rw [if_pos c, if_pos (by decide), if_pos c, hx, tx_toList]
    by_cases hp : s.take 2 = [113, 61]
    · rw [hp]
      show ((some true).bind _).bind _ = _
      rw [Option.bind_some, if_pos rfl, if_pos (by decide), if_pos c, hd, if_pos rfl]; rfl
    · have hb : (s.take 2 == [113, 61]) = false := beq_eq_false_iff_ne.mpr hp
      rw [hb]
      show ((some false).bind _).bind _ = _
      rw [Option.bind_some, if_neg (show ¬ false = true by decide), if_neg hp]; rfl
  · have hp : ¬ s.take 2 = [113, 61] := fun hp => by
      have := congrArg List.length hp
      rw [List.length_take] at this
      have h2 : ([113, 61] : List UInt8).length = 2 := rfl
      omega
    rw [if_neg c, if_neg hp]
    show ((some false).bind _).bind _ = _
    rw [Option.bind_some, if_neg (show ¬ false = true by decide)]; rfl

/-! ### A text cut at a byte, by the specification -/
theorem cutS (c : UInt8) (ci : Int) (hc : ci = (c.toNat : Int)) (b : List UInt8) (f : Bool) : ∀ (a pre : List UInt8) (K : Nat), c ∉ a → (pre ++ a).length ≤ 10000 → b.length ≤ 10000 → a.length < K → spec_l1Cut.l0 K (tx (pre ++ (a ++ (if f = true then c :: b else [])))) ci (pre.length : Int) = some (tx (pre ++ a), (if f = true then tx b else (⟨#[]⟩ : ByteArray)), f)
  | a, pre, 0, _, _, _, h => absurd h (by omega)
  | [], pre, K + 1, ha, hl, hb, hK => by
    unfold spec_l1Cut.l0
    cases f with
    | false =>
      rw [if_neg (show ¬ false = true by decide), if_neg (show ¬ false = true by decide), List.append_nil, List.append_nil, tx_size, if_neg (Int.lt_irrefl _)]
    | true =>
      have hpl : pre.length ≤ 10000 := by simpa using hl
      rw [if_pos rfl, if_pos rfl, List.nil_append, List.append_nil]
      have hs : ((tx (pre ++ c :: b)).size : Int) = (pre.length : Int) + 1 + (b.length : Int) := by rw [tx_size]; simp; omega
      rw [hs, bt_at, if_pos (by omega), if_pos (by omega), if_pos hc.symm, if_pos (by omega), w64 (by omega) (by omega), if_pos (by omega), if_pos (by omega), tx_cut, tx_cut]
      have t1 : ((pre ++ c :: b).drop 0).take ((pre.length : Int).toNat - 0) = pre := by rw [List.drop_zero, Int.toNat_natCast, Nat.sub_zero, List.take_left]
      have t2 : ((pre ++ c :: b).drop ((pre.length : Int) + 1).toNat).take ((tx (pre ++ c :: b)).size - ((pre.length : Int) + 1).toNat) = b := by
        have e1 : pre ++ c :: b = (pre ++ [c]) ++ b := by simp
        have e2 : ((pre.length : Int) + 1).toNat = (pre ++ [c]).length := by simp
        rw [tx_size, e1, e2, List.drop_left, List.take_of_length_le (by simp; omega)]
      rw [t1, t2]
  | x :: a, pre, K + 1, ha, hl, hb, hK => by
    have hx : x ≠ c := fun h => ha (h ▸ List.mem_cons_self)
    have hpl : pre.length + (a.length + 1) ≤ 10000 := by simpa using hl
    have ih := cutS c ci hc b f a (pre ++ [x]) K (fun h => ha (List.mem_cons_of_mem _ h)) (by simp; omega) hb (by simp at hK; omega)
    have e1 : ∀ z : List UInt8, pre ++ [x] ++ z = pre ++ x :: z := fun z => by simp
    have e2 : (((pre ++ [x]).length : Nat) : Int) = (pre.length : Int) + 1 := by simp
    rw [e1, e1, e2] at ih
    have hxa : (x :: a) ++ (if f = true then c :: b else []) = x :: (a ++ (if f = true then c :: b else [])) := rfl
    rw [hxa]
    generalize a ++ (if f = true then c :: b else []) = m at ih ⊢
    have hs : ((tx (pre ++ x :: m)).size : Int) = (pre.length : Int) + 1 + (m.length : Int) := by rw [tx_size]; simp; omega
    unfold spec_l1Cut.l0
    rw [hs, bt_at, if_pos (by omega), if_pos (by omega), if_neg (fun hh => hx (UInt8.toNat_inj.mp (by omega))), w64 (by omega) (by omega), ih]
theorem cutS_at (c : UInt8) (ci : Int) (hc : ci = (c.toNat : Int)) (a b : List UInt8) (K : Nat) (ha : c ∉ a) (hl : a.length ≤ 10000) (hb : b.length ≤ 10000) (hK : a.length < K) : spec_l1Cut.f K (tx (a ++ c :: b)) ci = some (tx a, tx b, true) := by
  have := cutS c ci hc b true a [] K ha (by simpa using hl) hb hK
  rw [if_pos rfl, if_pos rfl] at this
  exact this
theorem cutS_none (c : UInt8) (ci : Int) (hc : ci = (c.toNat : Int)) (a : List UInt8) (K : Nat) (ha : c ∉ a) (hl : a.length ≤ 10000) (hK : a.length < K) : spec_l1Cut.f K (tx a) ci = some (tx a, (⟨#[]⟩ : ByteArray), false) := by
  have := cutS c ci hc [] false a [] K ha (by simpa using hl) (by simp) hK
  rw [if_neg (by decide), if_neg (by decide), List.append_nil] at this
  exact this

/-! ### One choice, and all -/
noncomputable def cutA (T : List UInt8) : List UInt8 := (Lib.cut T [59]).1
noncomputable def cutB (T : List UInt8) : List UInt8 := (Lib.cut T [59]).2.1
noncomputable def cutF (T : List UInt8) : Bool := (Lib.cut T [59]).2.2
noncomputable def nmC (T : List UInt8) : List UInt8 := (trimB (cutA T)).map lowB
noncomputable def wtC (T : List UInt8) : Option Nat := if cutF T = true then (if (trimB (cutB T)).take 2 = [113, 61] then wv ((trimB (cutB T)).drop 2) else none) else some 1000
noncomputable def cOf (T : List UInt8) : Option (List UInt8 × Nat) := if tokL (nmC T) = true then (wtC T).map (fun w => (nmC T, w)) else none
/-- how a text is cut at its first semicolon -/
theorem cut_form (T : List UInt8) (hl : T.length ≤ 1000) : (cutA T).length ≤ 1000 ∧ (cutB T).length ≤ 1000 ∧ (Core T → (∀ b r, cutA T = b :: r → b ≠ 32) ∧ (∀ r b, cutB T = r ++ [b] → b ≠ 32)) ∧ strings_Cut.f (tx T) (⟨#[59]⟩ : ByteArray) = some (tx (cutA T), tx (cutB T), cutF T) ∧ ∀ K, 1100 ≤ K → spec_l1Cut.f K (tx T) 59 = some (tx (cutA T), tx (cutB T), cutF T) := by
  have e59 : (⟨#[59]⟩ : ByteArray) = tx [59] := rfl
  have hcf : strings_Cut.f (tx T) (⟨#[59]⟩ : ByteArray) = some (tx (cutA T), tx (cutB T), cutF T) := by
    unfold strings_Cut.f
    rw [e59, tx_size, if_pos (by omega), tx_list, tx_list]; rfl
  rcases first_at 59 T with hm | ⟨a, b, e, ha⟩
  · have hc := cut_none 59 T hm
    have eA : cutA T = T := by unfold cutA; rw [hc]
    have eB : cutB T = [] := by unfold cutB; rw [hc]
    have eF : cutF T = false := by unfold cutF; rw [hc]
    rw [eA, eB, eF] at hcf ⊢
    refine ⟨hl, by decide, fun hC => ⟨fun b r h => hC.1 b r h, fun r b h => by simp at h⟩, hcf, fun K hK => ?_⟩
    exact cutS_none 59 59 rfl T K hm (by omega) (by omega)
  · have hc := cut_at 59 a b ha
    have eA : cutA T = a := by unfold cutA; rw [e, hc]
    have eB : cutB T = b := by unfold cutB; rw [e, hc]
    have eF : cutF T = true := by unfold cutF; rw [e, hc]
    have hla : a.length + (b.length + 1) ≤ 1000 := by rw [e, List.length_append, List.length_cons] at hl; exact hl
    rw [eA, eB, eF] at hcf ⊢
    refine ⟨by omega, by omega, fun hC => ⟨fun x r h => hC.1 x (r ++ 59 :: b) (by rw [e, h]; rfl), fun r x h => hC.2 (a ++ 59 :: r) x (by rw [e, h]; simp)⟩, hcf, fun K hK => ?_⟩
    rw [e]
    exact cutS_at 59 59 rfl a b K ha (by omega) (by omega) (by omega)
theorem weight_any (w : List UInt8) (hl : w.length ≤ 1000) : ∃ p, impl_weightOf.f (tx w) = some p := by
  have hE : ∀ a b : List UInt8, b.all isDB = true → ∃ p, wEnd a b = some p := fun a b hb => by
    by_cases h : a = [48] ∨ a = [49]
    · obtain ⟨x, rfl, hx⟩ : ∃ x, a = [x] ∧ (x = 48 ∨ x = 49) := by
        rcases h with rfl | rfl
        · exact ⟨48, rfl, Or.inl rfl⟩
        · exact ⟨49, rfl, Or.inr rfl⟩
      have d48 : isDB 48 = true := rfl
      obtain ⟨p, q, r, e, hp, hq, hr⟩ : ∃ p q r, (b ++ [48, 48, 48]).take 3 = [p, q, r] ∧ isDB p = true ∧ isDB q = true ∧ isDB r = true := by
        match b, hb with
        | [], _ => exact ⟨48, 48, 48, rfl, d48, d48, d48⟩
        | [p], hb => exact ⟨p, 48, 48, rfl, List.all_eq_true.mp hb p (by simp), d48, d48⟩
        | [p, q], hb => exact ⟨p, q, 48, rfl, List.all_eq_true.mp hb p (by simp), List.all_eq_true.mp hb q (by simp), d48⟩
        | p :: q :: r :: b, hb => exact ⟨p, q, r, rfl, List.all_eq_true.mp hb p (by simp), List.all_eq_true.mp hb q (by simp), List.all_eq_true.mp hb r (by simp)⟩
      have := wE_yes x p q r b hx e hp hq hr
      unfold WRes at this
      cases hz : lead x (100 * dg p + 10 * dg q + dg r) with
      | none => rw [hz] at this; obtain ⟨m, em⟩ := this; exact ⟨_, em⟩
      | some n => rw [hz] at this; exact ⟨_, this.1⟩
    · exact ⟨_, wE_no a b h⟩
  have fin : ∀ (a b : List UInt8) (f : Bool), ∃ p, (if (f = false ∨ (1 ≤ b.length ∧ b.length ≤ 3)) ∧ b.all isDB = true then wEnd a b else some (0, false)) = some p := fun a b f => by
    split
    · rename_i h
      exact hE a b h.2
    · exact ⟨_, rfl⟩
  rcases first_at 46 w with hm | ⟨a, b, e, ha⟩
  · rw [weight_cut w w [] false hl hl (by decide) (cut_none 46 w hm) (fun _ => rfl)]
    exact fin _ _ _
  · have hla : a.length + (b.length + 1) ≤ 1000 := by rw [e, List.length_append, List.length_cons] at hl; exact hl
    rw [weight_cut w a b true hl (by omega) (by omega) (by rw [e]; exact cut_at 46 a b ha) (fun h => by cases h)]
    exact fin _ _ _
def cAns1 (r : Option (List UInt8 × Nat)) (v : Option (ByteArray × Int × Bool)) : Prop :=
  match r with
  | some p => v = some (tx p.1, (p.2 : Int), true)
  | none => ∃ x y, v = some (x, y, false)
theorem nm_len (T : List UInt8) (hl : T.length ≤ 1000) : (trimB (cutA T)).length ≤ 1000 ∧ (nmC T).length ≤ 1000 ∧ (trimB (cutB T)).length ≤ 1000 := by
  obtain ⟨h1, h2, _⟩ := cut_form T hl
  have a := trimB_len (cutA T)
  have b := trimB_len (cutB T)
  unfold nmC
  rw [List.length_map]
  omega
theorem choice_I (K : Nat) (T : List UInt8) (hT : Core T) (hl : T.length ≤ 301) (hK : 1100 ≤ K) : cAns1 (cOf T) (impl_choiceOf.f K (tx T)) := by
  obtain ⟨g1, g2, g3, g4, _⟩ := cut_form T (by omega)
  obtain ⟨g5, g6⟩ := g3 hT
  obtain ⟨n1, n2, n3⟩ := nm_len T (by omega)
  have hs := small_f (trimB (cutA T)) n1
  have ht := token_I (nmC T) n2
  unfold impl_choiceOf.f
  rw [g4, Option.bind_some]
  dsimp only
  rw [trimRight_f K (cutA T) g5 g1 hK, Option.bind_some, hs, Option.bind_some]
  show cAns1 (cOf T) (if cutF T = true then _ else (impl_isToken.f (tx (nmC T))).bind fun t218 => some (tx (nmC T), 1000, t218))
  unfold cOf wtC
  cases hf : cutF T with
  | false =>
    rw [if_neg (show ¬ false = true by decide), if_neg (show ¬ false = true by decide), ht, Option.bind_some]
    cases hk : tokL (nmC T) with
    | true => rw [if_pos rfl]; exact rfl
    | false => rw [if_neg (by decide)]; exact ⟨_, _, rfl⟩
  | true =>
    rw [if_pos rfl, if_pos rfl, trimLeft_f K (cutB T) g6 g2 hK, Option.bind_some, prefixQ _ n3, Option.bind_some]
    by_cases c : (trimB (cutB T)).take 2 = [113, 61]
    · rw [if_pos c, if_pos c]
      have hB : (trimB (cutB T)).length ≤ 300 := by
        have a := trimB_len (cutB T)
        have : (cutB T).length ≤ 300 := by
          unfold cutF at hf
          unfold cutB
          rcases first_at 59 T with hm | ⟨a, b, e, ha⟩
          · rw [cut_none 59 T hm] at hf; cases hf
          · rw [e, cut_at 59 a b ha]
            rw [e, List.length_append, List.length_cons] at hl
            show b.length ≤ 300
            omega
        omega
      have hw := weight_I ((trimB (cutB T)).drop 2) (by rw [List.length_drop]; omega)
      dsimp only
      cases hv : wv ((trimB (cutB T)).drop 2) with
      | none =>
        rw [hv] at hw
        obtain ⟨m, em⟩ := hw
        rw [em, Option.bind_some]
        dsimp only
        rw [if_pos rfl, if_neg (show ¬ false = true by decide)]
        have : (if tokL (nmC T) = true then Option.map (fun w => (nmC T, w)) (none : Option Nat) else none) = none := by split <;> rfl
        rw [this]
        exact ⟨_, _, rfl⟩
      | some v =>
        rw [hv] at hw
        obtain ⟨em, _⟩ := hw
        rw [em, Option.bind_some]
        dsimp only
        rw [if_pos rfl, if_pos rfl]
        show cAns1 _ ((impl_isToken.f (tx (nmC T))).bind fun t217 => some (tx (nmC T), (v : Int), t217))
        rw [ht, Option.bind_some]
        cases hk : tokL (nmC T) with
        | true => rw [if_pos rfl]; exact rfl
        | false => rw [if_neg (by decide)]; exact ⟨_, _, rfl⟩
    · rw [if_neg c, if_neg c]
      have hn : (if tokL (nmC T) = true then Option.map (fun w => (nmC T, w)) (none : Option Nat) else none) = none := by split <;> rfl
      have hw := weight_any (trimB (cutB T)) n3
      obtain ⟨p, ep⟩ := hw
      dsimp only
      rw [ep, Option.bind_some, hn, if_neg (show ¬ false = true by decide)]
      exact ⟨_, _, rfl⟩

/-! ### All choices -/
noncomputable def cL (O : List S32) : List (List UInt8) → Option (List S32)
  | [] => some O
  | T :: M => match cOf T with
    | some p => cL (O ++ [⟨tx p.1, (p.2 : Int)⟩]) M
    | none => none
def cAns : Option (List S32) → List S32 × Bool
  | some L => (L, true)
  | none => ([], false)
noncomputable def CO (s : List UInt8) : Option (List S32) := match LO s with
  | some L => if L.length > 20 then none else cL [] L
  | none => none
theorem cL_cons (O : List S32) (T : List UInt8) (M : List (List UInt8)) : cL O (T :: M) = (match cOf T with | some p => cL (O ++ [⟨tx p.1, (p.2 : Int)⟩]) M | none => none) := rfl
theorem croom (O : List S32) (h : O.length ≤ 1000) : O.length < 5864062014805 := by omega
theorem chI : ∀ (M pre : List (List UInt8)) (O : List S32) (K : Nat), (∀ T ∈ M, Core T ∧ T.length ≤ 301) → (pre ++ M).length ≤ 1000 → O.length ≤ pre.length → M.length + 1101 ≤ K →
    impl_ChoicesOf.l0 K O ((pre ++ M).map tx) (((pre ++ M).length : Nat) : Int) (pre.length : Int) = some (cAns (cL O M))
  | M, pre, O, 0, _, _, _, h => absurd h (by omega)
  | [], pre, O, K + 1, _, _, _, _ => by
    unfold impl_ChoicesOf.l0
    rw [List.append_nil, if_neg (Int.lt_irrefl _)]; rfl
  | T :: M, pre, O, K + 1, hM, hl, hO, hK => by
    have hl2 : pre.length + (M.length + 1) ≤ 1000 := by rw [List.length_append, List.length_cons] at hl; exact hl
    obtain ⟨q1, q2, q3⟩ := pos_l pre.length M.length hl2
    have hlen := lenP pre T M
    have hmap : ((((pre ++ T :: M).map tx).length : Nat) : Int) = (pre.length : Int) + ((M.length : Int) + 1) := by rw [List.length_map]; exact hlen
    have hrd := rd_mid pre T M
    have e1 : pre ++ [T] ++ M = pre ++ T :: M := by simp
    have e2 : (((pre ++ [T]).length : Nat) : Int) = (pre.length : Int) + 1 := by simp
    have hK2 : M.length + 1101 ≤ K := by rw [List.length_cons] at hK; omega
    have ih := fun (O' : List S32) (hO' : O'.length ≤ (pre ++ [T]).length) => chI M (pre ++ [T]) O' K (fun X hX => hM X (List.mem_cons_of_mem _ hX)) (by rw [e1]; exact hl) hO' hK2
    rw [e1, e2, hlen] at ih
    obtain ⟨t1, t2⟩ := hM T List.mem_cons_self
    have hp := choice_I K T t1 t2 (by omega)
    unfold impl_ChoicesOf.l0
    rw [hlen, hmap, hrd, if_pos q1, if_pos q2, if_pos q1, q3, cL_cons]
    cases hpr : cOf T with
    | none =>
      rw [hpr] at hp
      obtain ⟨x, y, e⟩ := hp
      rw [e, Option.bind_some]
      dsimp only
      rw [if_neg (show ¬ false = true by decide)]; rfl
    | some p =>
      rw [hpr] at hp
      have e : impl_choiceOf.f K (tx T) = some (tx p.1, (p.2 : Int), true) := hp
      rw [e, Option.bind_some]
      dsimp only
      rw [if_pos rfl, if_pos (croom O (by omega))]
      exact ih _ (by rw [List.length_append, List.length_append]; exact Nat.add_le_add hO (Nat.le_refl 1))
theorem chS : ∀ (M pre : List (List UInt8)) (O : List S32) (K : Nat), (∀ T ∈ M, Core T ∧ T.length ≤ 301) → (pre ++ M).length ≤ 1000 → O.length ≤ pre.length → 2 * M.length + 1201 ≤ K →
    spec_ChoicesOf.l0 K O ((pre ++ M).map tx) (((pre ++ M).length : Nat) : Int) (pre.length : Int) = some (cAns (cL O M))
  | M, pre, O, 0, _, _, _, h => absurd h (by omega)
  | M, pre, O, 1, _, _, _, h => absurd h (by omega)
  | [], pre, O, K + 2, _, _, _, _ => by
    unfold spec_ChoicesOf.l0
    rw [List.append_nil, if_neg (Int.lt_irrefl _)]; rfl
  | T :: M, pre, O, K + 2, hM, hl, hO, hK => by
    have hl2 : pre.length + (M.length + 1) ≤ 1000 := by rw [List.length_append, List.length_cons] at hl; exact hl
    obtain ⟨q1, q2, q3⟩ := pos_l pre.length M.length hl2
    have hlen := lenP pre T M
    have hmap : ((((pre ++ T :: M).map tx).length : Nat) : Int) = (pre.length : Int) + ((M.length : Int) + 1) := by rw [List.length_map]; exact hlen
    have hrd := rd_mid pre T M
    have e1 : pre ++ [T] ++ M = pre ++ T :: M := by simp
    have e2 : (((pre ++ [T]).length : Nat) : Int) = (pre.length : Int) + 1 := by simp
    have hK2 : 2 * M.length + 1201 ≤ K := by rw [List.length_cons] at hK; omega
    have ih := fun (k : Nat) (hk : K ≤ k) (O' : List S32) (hO' : O'.length ≤ (pre ++ [T]).length) => chS M (pre ++ [T]) O' k (fun X hX => hM X (List.mem_cons_of_mem _ hX)) (by rw [e1]; exact hl) hO' (by omega)
    rw [e1, e2, hlen] at ih
    have hO2 : ∀ x : S32, (O ++ [x]).length ≤ (pre ++ [T]).length := fun x => by rw [List.length_append, List.length_append]; exact Nat.add_le_add hO (Nat.le_refl 1)
    obtain ⟨t1, t2⟩ := hM T List.mem_cons_self
    obtain ⟨g1, g2, _, _, g4⟩ := cut_form T (by omega)
    obtain ⟨n1, n2, n3⟩ := nm_len T (by omega)
    have hroom := croom O (by omega)
    have hs := lower_f (trimB (cutA T)) n1
    have hs2 : spec_l1Lower.f (tx (trimB (cutA T))) = some (tx (nmC T)) := hs
    unfold spec_ChoicesOf.l0
    rw [hlen, hmap, hrd, if_pos q1, if_pos q2, if_pos q1, q3, cL_cons, g4 (K + 1) (by omega), Option.bind_some]
    dsimp only
    rw [trimS (K + 1) (cutA T) (by omega) (by omega), Option.bind_some, hs2, Option.bind_some]
    unfold cOf wtC
    cases hf : cutF T with
    | false =>
      rw [if_neg (show ¬ false = true by decide), if_neg (show ¬ false = true by decide), token_S (K + 1) (nmC T) n2 (by omega), Option.bind_some]
      cases hk : tokL (nmC T) with
      | true =>
        rw [if_pos rfl, if_pos rfl, if_neg (by decide), if_pos hroom]
        exact ih (K + 1) (by omega) _ (hO2 _)
      | false => rw [if_neg (show ¬ false = true by decide), if_neg (show ¬ false = true by decide)]; rfl
    | true =>
      have hj : ∀ (bad : Bool), spec_ChoicesOf.j2 (K + 1) O (tx (trimB (cutB T))) ((pre ++ T :: M).map tx) ((pre.length : Int) + ((M.length : Int) + 1)) (pre.length : Int) bad (tx (nmC T)) 1000 = spec_ChoicesOf.j2 (K + 1) O (tx (trimB (cutB T))) ((pre ++ T :: M).map tx) ((pre.length : Int) + ((M.length : Int) + 1)) (pre.length : Int) bad (tx (nmC T)) 1000 := fun _ => rfl
      have jbad : spec_ChoicesOf.j2 (K + 1) O (tx (trimB (cutB T))) ((pre ++ T :: M).map tx) ((pre.length : Int) + ((M.length : Int) + 1)) (pre.length : Int) true (tx (nmC T)) 1000 = some ([], false) := rfl
      rw [if_pos rfl, if_pos rfl, trimS (K + 1) (cutB T) (by omega) (by omega), Option.bind_some, tx_size]
      have hnone : (if tokL (nmC T) = true then Option.map (fun w => (nmC T, w)) (none : Option Nat) else none) = none := by split <;> rfl
      by_cases c3 : (trimB (cutB T)).length < 3
      · rw [if_pos (by omega), jbad]
        have : (if (trimB (cutB T)).take 2 = [113, 61] then wv ((trimB (cutB T)).drop 2) else none) = none := by
          split
          · have : (trimB (cutB T)).drop 2 = [] := by
              rename_i hh
              have h2 := congrArg List.length hh
              rw [List.length_take] at h2
              have h3 : ([113, 61] : List UInt8).length = 2 := rfl
              exact List.drop_eq_nil_of_le (by omega)
            rw [this]; rfl
          · rfl
        rw [this, hnone]; rfl
      · have hx : (tx (trimB (cutB T))).extract 0 2 = tx ((trimB (cutB T)).take 2) := by rw [tx_cut]; rfl
        rw [if_neg (by omega), if_pos (show (0 : Nat) ≤ 2 by decide), if_pos (by omega), hx, tx_toList]
        by_cases c : (trimB (cutB T)).take 2 = [113, 61]
        · have hb : ((trimB (cutB T)).take 2 != [113, 61]) = false := by rw [c]; rfl
          have hd : (tx (trimB (cutB T))).extract 2 (trimB (cutB T)).length = tx ((trimB (cutB T)).drop 2) := by
            rw [tx_cut]
            show tx (((trimB (cutB T)).drop 2).take ((trimB (cutB T)).length - 2)) = _
            rw [List.take_of_length_le (by rw [List.length_drop]; exact Nat.le_refl _)]
          rw [hb, if_pos c]
          unfold spec_ChoicesOf.j2
          rw [if_neg (show ¬ false = true by decide), tx_size, if_pos (by omega), hd, weight_S K (by omega), Option.bind_some, token_S K (nmC T) n2 (by omega), Option.bind_some]
          cases hk : tokL (nmC T) with
          | false => rw [if_neg (show ¬ false = true by decide), if_neg (show ¬ false = true by decide)]; rfl
          | true =>
            rw [if_pos rfl, if_pos rfl]
            cases hv : wv ((trimB (cutB T)).drop 2) with
            | none => rw [if_pos (by decide)]; rfl
            | some v =>
              have e : toI (some v) = (v : Int) := rfl
              rw [e, if_neg (by omega), if_pos hroom, q3]
              exact ih K (Nat.le_refl _) _ (hO2 _)
        · have hb : ((trimB (cutB T)).take 2 != [113, 61]) = true := by rw [bne_iff_ne]; exact c
          rw [hb, jbad, if_neg c, hnone]; rfl
theorem LO_parts (s : List UInt8) (L : List (List UInt8)) (h : LO s = some L) : ∀ T ∈ L, Core T ∧ T.length ≤ 301 := fun T hT => by
  obtain ⟨_, _, h3, _⟩ := LO_again s L h
  exact ⟨(h3 T hT).1.2.2, (h3 T hT).2.2⟩
theorem ChoicesI (K : Nat) (s : List UInt8) (hl : s.length ≤ 1000) (hK : 2000 ≤ K) : impl_ChoicesOf.f K (tx s) = some (cAns (CO s)) := by
  obtain ⟨m, rfl⟩ : ∃ m, K = m + 1 := ⟨K - 1, by omega⟩
  have jt : ∀ X, impl_ChoicesOf.j0 (m + 1) X true = some ([], false) := fun X => rfl
  unfold impl_ChoicesOf.f CO
  rw [ListI (m + 1) s hl hK, Option.bind_some]
  cases hL : LO s with
  | none =>
    show (if false = true then _ else impl_ChoicesOf.j0 (m + 1) [] true) = _
    rw [if_neg (show ¬ false = true by decide), jt]; rfl
  | some L =>
    show (if true = true then impl_ChoicesOf.j0 (m + 1) (L.map tx) (decide (((L.map tx).length : Int) > 20)) else _) = some (cAns (if L.length > 20 then none else cL [] L))
    rw [if_pos rfl, List.length_map]
    by_cases c : L.length > 20
    · rw [decide_eq_true (by omega), jt, if_pos c]; rfl
    · rw [decide_eq_false (by omega), if_neg c]
      have := chI L [] [] m (LO_parts s L hL) (by rw [List.nil_append]; omega) (Nat.le_refl _) (by omega)
      rw [List.nil_append] at this
      unfold impl_ChoicesOf.j0
      dsimp only
      rw [if_neg (show ¬ false = true by decide), List.length_map]
      exact this
theorem ChoicesS (K : Nat) (s : List UInt8) (hl : s.length ≤ 1000) (hK : 2001 ≤ K) : spec_ChoicesOf.f K (tx s) = some (cAns (CO s)) := by
  obtain ⟨m, rfl⟩ : ∃ m, K = m + 1 := ⟨K - 1, by omega⟩
  have jt : ∀ X, spec_ChoicesOf.j0 (m + 1) X true = some ([], false) := fun X => rfl
  unfold spec_ChoicesOf.f CO
  rw [ListS (m + 1) s hl (by omega), Option.bind_some]
  cases hL : LO s with
  | none =>
    show (if false = true then _ else spec_ChoicesOf.j0 (m + 1) [] true) = _
    rw [if_neg (show ¬ false = true by decide), jt]; rfl
  | some L =>
    show (if true = true then spec_ChoicesOf.j0 (m + 1) (L.map tx) (decide (((L.map tx).length : Int) > 20)) else _) = some (cAns (if L.length > 20 then none else cL [] L))
    rw [if_pos rfl, List.length_map]
    by_cases c : L.length > 20
    · rw [decide_eq_true (by omega), jt, if_pos c]; rfl
    · rw [decide_eq_false (by omega), if_neg c]
      have := chS L [] [] m (LO_parts s L hL) (by rw [List.nil_append]; omega) (Nat.le_refl _) (by omega)
      rw [List.nil_append] at this
      unfold spec_ChoicesOf.j0
      dsimp only
      rw [if_neg (show ¬ false = true by decide), List.length_map]
      exact this
/-- what stands in choices that are read -/
def okC (x : S32) : Prop := 0 ≤ x.f1 ∧ x.f1 ≤ 1000
theorem wv_le (w : List UInt8) (v : Nat) (h : wv w = some v) (hl : w.length ≤ 300) : v ≤ 1000 := by
  have := weight_I w hl
  rw [h] at this
  exact this.2
theorem wtC_le (T : List UInt8) (hl : T.length ≤ 301) (v : Nat) (h : wtC T = some v) : v ≤ 1000 := by
  unfold wtC at h
  cases hf : cutF T with
  | false => rw [hf, if_neg (show ¬ false = true by decide)] at h; have := Option.some.inj h; omega
  | true =>
    rw [hf, if_pos rfl] at h
    split at h
    · refine wv_le _ v h ?_
      have a := trimB_len (cutB T)
      have : (cutB T).length ≤ 300 := by
        unfold cutB
        rcases first_at 59 T with hm | ⟨a, b, e, ha⟩
        · rw [cut_none 59 T hm]; exact Nat.zero_le _
        · rw [e, cut_at 59 a b ha]
          rw [e, List.length_append, List.length_cons] at hl
          show b.length ≤ 300
          omega
      rw [List.length_drop]; omega
    · cases h
theorem cL_ok : ∀ (M : List (List UInt8)) (O L : List S32), (∀ T ∈ M, T.length ≤ 301) → (∀ x ∈ O, okC x) → cL O M = some L → (∀ x ∈ L, okC x) ∧ L.length = O.length + M.length
  | [], O, L, _, hO, h => by
    cases (show some O = some L from h)
    exact ⟨hO, rfl⟩
  | T :: M, O, L, hM, hO, h => by
    rw [cL_cons] at h
    cases hp : cOf T with
    | none => rw [hp] at h; cases h
    | some p =>
      rw [hp] at h
      have hw : p.2 ≤ 1000 := by
        unfold cOf at hp
        split at hp
        · obtain ⟨w, h1, h2⟩ := Option.map_eq_some_iff.mp hp
          rw [← h2]
          exact wtC_le T (hM T List.mem_cons_self) w h1
        · cases hp
      obtain ⟨a, b⟩ := cL_ok M (O ++ [⟨tx p.1, (p.2 : Int)⟩]) L (fun X hX => hM X (List.mem_cons_of_mem _ hX)) (fun x hx => by
        rcases List.mem_append.mp hx with hx | hx
        · exact hO x hx
        · rw [List.mem_singleton.mp hx]
          exact ⟨Int.natCast_nonneg _, by show (p.2 : Int) ≤ 1000; omega⟩) h
      exact ⟨a, by rw [b, List.length_append, List.length_singleton, List.length_cons]; omega⟩
theorem CO_ok (s : List UInt8) (L : List S32) (h : CO s = some L) : (∀ x ∈ L, okC x) ∧ L.length ≤ 20 := by
  unfold CO at h
  cases hL : LO s with
  | none => rw [hL] at h; cases h
  | some P =>
    rw [hL] at h
    have h' : (if P.length > 20 then none else cL [] P) = some L := h
    by_cases c : P.length > 20
    · rw [if_pos c] at h'; cases h'
    · rw [if_neg c] at h'
      obtain ⟨a, b⟩ := cL_ok P [] L (fun T hT => (LO_parts s P hL T hT).2) (fun x hx => by cases hx) h'
      exact ⟨a, by rw [b, List.length_nil]; omega⟩

/-! ### The best choice -/
theorem rdC_mid (pre : List S32) (x : S32) (T : List S32) : rd_T32 (pre ++ x :: T) (pre.length : Int) = x := by
  unfold rd_T32
  rw [Int.toNat_natCast, List.getD_eq_getElem?_getD]
  simp
theorem lenCh (A : List S32) (b : S32) (M : List S32) : (((A ++ b :: M).length : Nat) : Int) = (A.length : Int) + ((M.length : Int) + 1) := by rw [List.length_append, List.length_cons]; omega
/-- the weight of the first choice with a name -/
def fm (c : List UInt8) : List S32 → Option Int
  | [] => none
  | x :: l => if x.f0.toList = c then some x.f1 else fm c l
def wF (L : List S32) (n : List UInt8) : Int := (fm (n.map lowB) L).getD ((fm [42] L).getD 0)
theorem fm_ok (c : List UInt8) : ∀ (L : List S32), (∀ x ∈ L, okC x) → ∀ v, fm c L = some v → 0 ≤ v ∧ v ≤ 1000
  | [], _, v, h => by cases h
  | x :: L, hL, v, h => by
    have h' : (if x.f0.toList = c then some x.f1 else fm c L) = some v := h
    by_cases e : x.f0.toList = c
    · rw [if_pos e] at h'
      cases h'
      exact hL x List.mem_cons_self
    · rw [if_neg e] at h'
      exact fm_ok c L (fun y hy => hL y (List.mem_cons_of_mem _ hy)) v h'
theorem wF_ok (L : List S32) (hL : ∀ x ∈ L, okC x) (n : List UInt8) : 0 ≤ wF L n ∧ wF L n ≤ 1000 := by
  unfold wF
  cases h : fm (n.map lowB) L with
  | some v => exact fm_ok _ L hL v h
  | none =>
    cases h2 : fm [42] L with
    | some v => exact fm_ok _ L hL v h2
    | none => exact ⟨Int.le_refl 0, by decide⟩
theorem idx_fm (c : ByteArray) : ∀ (l pre : List S32), ∃ i, idxO (impl_weightFor.p c) l (pre.length : Int) = some i ∧ (match fm c.toList l with | some v => i ≥ 0 ∧ (rd_T32 (pre ++ l) i).f1 = v | none => ¬ i ≥ 0)
  | [], pre => ⟨-1, rfl, by show ¬ (-1 : Int) ≥ 0; decide⟩
  | x :: l, pre => by
    unfold idxO impl_weightFor.p fm
    rw [Option.bind_some]
    by_cases e : x.f0.toList = c.toList
    · rw [if_pos (beq_iff_eq.mpr e), if_pos e]
      exact ⟨(pre.length : Int), rfl, by omega, by rw [rdC_mid]⟩
    · have hb : (x.f0.toList == c.toList) = false := beq_eq_false_iff_ne.mpr e
      rw [hb, if_neg (show ¬ false = true by decide), if_neg e]
      obtain ⟨i, h1, h2⟩ := idx_fm c l (pre ++ [x])
      have e1 : (((pre ++ [x]).length : Nat) : Int) = (pre.length : Int) + 1 := by simp
      have e2 : pre ++ [x] ++ l = pre ++ x :: l := by simp
      rw [e1] at h1
      rw [e2] at h2
      exact ⟨i, h1, h2⟩
theorem wr_fm (L : List S32) (c : ByteArray) (cs : List ByteArray) : impl_weightFor.r L (c :: cs) = (match fm c.toList L with | some v => some v | none => impl_weightFor.r L cs) := by
  obtain ⟨i, h1, h2⟩ := idx_fm c L []
  rw [List.nil_append] at h2
  have h1' : idxO (impl_weightFor.p c) L 0 = some i := h1
  rw [impl_weightFor.r, h1', Option.bind_some]
  cases h : fm c.toList L with
  | some v => rw [h] at h2; rw [if_pos h2.1, h2.2]
  | none => rw [h] at h2; rw [if_neg h2]
theorem weightFor_f (L : List S32) (n : List UInt8) (hL : L.length ≤ 1000) (hn : n.length ≤ 1000) : impl_weightFor.f L (tx n) = some (wF L n) := by
  unfold impl_weightFor.f wF
  have e42 : (⟨#[42]⟩ : ByteArray).toList = [42] := tx_toList [42]
  rw [small_f n hn, Option.bind_some, if_pos (by omega), wr_fm, tx_toList]
  cases h : fm (n.map lowB) L with
  | some v => rfl
  | none =>
    rw [wr_fm, e42]
    cases h2 : fm [42] L with
    | some v => rfl
    | none => rfl
def bst (L : List S32) : List UInt8 → Int → List (List UInt8) → List UInt8 × Int
  | b, m, [] => (b, m)
  | b, m, n :: r => if wF L n > m then bst L n (wF L n) r else bst L b m r
def bAns (r : Option (List S32)) (N : List (List UInt8)) : ByteArray × Bool := match r with
  | some L => (tx (bst L [] 0 N).1, decide ((bst L [] 0 N).2 > 0))
  | none => (tx [], false)
theorem bestI_l (L : List S32) (hL : L.length ≤ 1000) : ∀ (M pre : List (List UInt8)) (b : List UInt8) (m : Int) (K : Nat), (∀ n ∈ M, n.length ≤ 1000) → (pre ++ M).length ≤ 1000 → M.length < K →
    impl_BestChoice.l0 K L (tx b) m ((pre ++ M).map tx) (((pre ++ M).length : Nat) : Int) (pre.length : Int) = some (tx (bst L b m M).1, decide ((bst L b m M).2 > 0))
  | M, pre, b, m, 0, _, _, h => absurd h (Nat.not_lt_zero _)
  | [], pre, b, m, K + 1, _, _, _ => by
    unfold impl_BestChoice.l0
    rw [List.append_nil, if_neg (Int.lt_irrefl _)]; rfl
  | n :: M, pre, b, m, K + 1, hM, hl, hK => by
    have hl2 : pre.length + (M.length + 1) ≤ 1000 := by rw [List.length_append, List.length_cons] at hl; exact hl
    obtain ⟨q1, q2, q3⟩ := pos_l pre.length M.length hl2
    have hlen := lenP pre n M
    have hmap : ((((pre ++ n :: M).map tx).length : Nat) : Int) = (pre.length : Int) + ((M.length : Int) + 1) := by rw [List.length_map]; exact hlen
    have hrd := rd_mid pre n M
    have e1 : pre ++ [n] ++ M = pre ++ n :: M := by simp
    have e2 : (((pre ++ [n]).length : Nat) : Int) = (pre.length : Int) + 1 := by simp
    have ih := fun (b : List UInt8) (m : Int) => bestI_l L hL M (pre ++ [n]) b m K (fun X hX => hM X (List.mem_cons_of_mem _ hX)) (by rw [e1]; exact hl) (Nat.lt_of_succ_lt_succ hK)
    rw [e1, e2, hlen] at ih
    have hb : bst L b m (n :: M) = (if wF L n > m then bst L n (wF L n) M else bst L b m M) := rfl
    unfold impl_BestChoice.l0
    rw [hlen, hmap, hrd, if_pos q1, if_pos q2, if_pos q1, weightFor_f L n hL (hM n List.mem_cons_self), Option.bind_some, q3, hb]
    by_cases c : wF L n > m
    · rw [if_pos c, if_pos c]; exact ih n (wF L n)
    · rw [if_neg c, if_neg c]; exact ih b m
theorem tokens_all (N : List (List UInt8)) (h : ∀ n ∈ N, tokL n = true ∧ n.length ≤ 1000) (hl : N.length ≤ 1000) : xAll_str_impl_isToken.f (N.map tx) = some true := by
  unfold xAll_str_impl_isToken.f
  rw [List.length_map, if_pos (by omega)]
  obtain ⟨i, e, g⟩ := idxO_mem xAll_str_impl_isToken.z (fun _ => true) (N.map tx) (fun x hx => by
    obtain ⟨n, hn, rfl⟩ := List.mem_map.mp hx
    obtain ⟨h1, h2⟩ := h n hn
    unfold xAll_str_impl_isToken.z
    rw [token_I n h2, Option.bind_some, h1]) 0 (by decide)
  rw [e, Option.bind_some, g, List.all_eq_true.mpr (fun _ _ => rfl)]
theorem BestI (K : Nat) (s : List UInt8) (hs : s.length ≤ 1000) (N : List (List UInt8)) (h : ∀ n ∈ N, tokL n = true ∧ n.length ≤ 1000) (hl : N.length ≤ 20) (hK : 2000 ≤ K) : impl_BestChoice.f K (tx s) (N.map tx) = some (bAns (CO s) N) := by
  obtain ⟨m, rfl⟩ : ∃ m, K = m + 1 := ⟨K - 1, by omega⟩
  unfold impl_BestChoice.f
  rw [ChoicesI (m + 1) s hs hK, Option.bind_some]
  cases hC : CO s with
  | none =>
    show (if false = true then _ else impl_BestChoice.j0 (m + 1) (N.map tx) [] true) = _
    rw [if_neg (show ¬ false = true by decide)]; rfl
  | some L =>
    obtain ⟨_, hL⟩ := CO_ok s L hC
    show (if true = true then (if ((N.map tx).length : Int) > 20 then impl_BestChoice.j0 (m + 1) (N.map tx) L true else (xAll_str_impl_isToken.f (N.map tx)).bind fun t235 => impl_BestChoice.j0 (m + 1) (N.map tx) L (!t235)) else _) = _
    rw [if_pos rfl, List.length_map, if_neg (by omega), tokens_all N h (by omega), Option.bind_some]
    have := bestI_l L (by omega) N [] [] 0 m (fun n hn => (h n hn).2) (by rw [List.nil_append]; omega) (by omega)
    rw [List.nil_append] at this
    unfold impl_BestChoice.j0
    dsimp only
    rw [if_neg (show ¬ (!true) = true by decide), List.length_map]
    exact this
theorem back1 (p n : Nat) (h : p + 1 ≤ 1000) : ((p : Int) ≥ 0) ∧ (0 : Int) ≤ (p : Int) ∧ wrap64 ((p : Int) - 1) = (p : Int) - 1 := ⟨by omega, by omega, w64 (by omega) (by omega)⟩
/-- the reference looks from the end -/
theorem bestS_back (L : List S32) (hL : L.length ≤ 1000) (n : List UInt8) (hn : n.length ≤ 1000) (X : ByteArray) (m : Int) (Y : List ByteArray) (z1 z2 : Int) (K : Nat) : ∀ (p : Nat) (pre suf : List S32), L = pre ++ suf → pre.length = p →
    spec_BestChoice.l1 (K + p + 1) L X m (tx n) ((fm (n.map lowB) suf).getD (-1)) ((fm [42] suf).getD 0) ((p : Int) - 1) Y z1 z2 = spec_BestChoice.l1 (K + 1) L X m (tx n) ((fm (n.map lowB) L).getD (-1)) ((fm [42] L).getD 0) (-1) Y z1 z2
  | 0, pre, suf, e, hp => by
    have : pre = [] := List.eq_nil_of_length_eq_zero hp
    rw [this, List.nil_append] at e
    rw [e]; rfl
  | p + 1, pre, suf, e, hp => by
    obtain ⟨q, x, rfl⟩ : ∃ q x, pre = q ++ [x] := by
      rcases List.eq_nil_or_concat pre with h | ⟨q, x, h⟩
      · rw [h] at hp; cases hp
      · exact ⟨q, x, by rw [h, List.concat_eq_append]⟩
    have hq : q.length = p := by rw [List.length_append, List.length_singleton] at hp; omega
    have e2 : L = q ++ x :: suf := by rw [e]; simp
    have hlen : (L.length : Int) = (q.length : Int) + ((suf.length : Int) + 1) := by rw [e2]; exact lenCh q x suf
    have hr : rd_T32 L (p : Int) = x := by rw [← hq, e2]; exact rdC_mid q x suf
    have ih := bestS_back L hL n hn X m Y z1 z2 K p q (x :: suf) e2 hq
    have ep : ((p + 1 : Nat) : Int) - 1 = (p : Int) := by omega
    obtain ⟨b1, b2, b3⟩ := back1 p 0 (by omega)
    have e42 : ([42] : List UInt8) = [42] := rfl
    have f1 : fm (n.map lowB) (x :: suf) = (if x.f0.toList = n.map lowB then some x.f1 else fm (n.map lowB) suf) := rfl
    have f2 : fm [42] (x :: suf) = (if x.f0.toList = [42] then some x.f1 else fm [42] suf) := rfl
    rw [f1, f2] at ih
    generalize hR : spec_BestChoice.l1 (K + 1) L X m (tx n) ((fm (n.map lowB) L).getD (-1)) ((fm [42] L).getD 0) (-1) Y z1 z2 = R at ih ⊢
    rw [ep, show K + (p + 1) + 1 = (K + p + 1) + 1 by omega]
    unfold spec_BestChoice.l1
    rw [if_pos b1, if_pos b2, if_pos (by rw [hlen]; omega), lower_f n hn, Option.bind_some, hr, tx_toList (n.map lowB), b3]
    by_cases c1 : x.f0.toList = n.map lowB
    · rw [if_pos c1] at ih ⊢
      by_cases c2 : x.f0.toList = [42]
      · rw [if_pos c2] at ih ⊢; exact ih
      · rw [if_neg c2] at ih ⊢; exact ih
    · rw [if_neg c1] at ih ⊢
      by_cases c2 : x.f0.toList = [42]
      · rw [if_pos c2] at ih ⊢; exact ih
      · rw [if_neg c2] at ih ⊢; exact ih
theorem bestS_one (L : List S32) (hL : L.length ≤ 1000) (hok : ∀ x ∈ L, okC x) (n : List UInt8) (hn : n.length ≤ 1000) (X : ByteArray) (m : Int) (Y : List ByteArray) (z1 z2 : Int) (k : Nat) (hk : L.length ≤ k) :
    spec_BestChoice.l1 (k + 1) L X m (tx n) (-1) 0 (wrap64 ((L.length : Int) - 1)) Y z1 z2 = (if wF L n > m then spec_BestChoice.l0 (k - L.length) L (tx n) (wF L n) Y z1 (wrap64 (z2 + 1)) else spec_BestChoice.l0 (k - L.length) L X m Y z1 (wrap64 (z2 + 1))) := by
  have h := bestS_back L hL n hn X m Y z1 z2 (k - L.length) L.length L [] (by simp) rfl
  have e0 : (fm (n.map lowB) []).getD (-1) = -1 := rfl
  have e1 : (fm [42] []).getD 0 = 0 := rfl
  have hw : wrap64 ((L.length : Int) - 1) = (L.length : Int) - 1 := w64 (by omega) (by omega)
  rw [e0, e1, show k - L.length + L.length + 1 = k + 1 by omega] at h
  rw [hw, h]
  generalize hA : spec_BestChoice.l0 (k - L.length) L (tx n) (wF L n) Y z1 (wrap64 (z2 + 1)) = A
  generalize hB : spec_BestChoice.l0 (k - L.length) L X m Y z1 (wrap64 (z2 + 1)) = B
  unfold spec_BestChoice.l1
  rw [if_neg (show ¬ (-1 : Int) ≥ 0 by decide), hB]
  cases h1 : fm (n.map lowB) L with
  | some v =>
    have hv := (fm_ok _ L hok v h1).1
    have ew : wF L n = v := by unfold wF; rw [h1]; rfl
    rw [ew] at hA ⊢
    show (if v < 0 then _ else if v > m then spec_BestChoice.l0 (k - L.length) L (tx n) v Y z1 (wrap64 (z2 + 1)) else B) = _
    rw [if_neg (by omega), hA]
  | none =>
    have ew : wF L n = (fm [42] L).getD 0 := by unfold wF; rw [h1]; rfl
    rw [ew] at hA ⊢
    show (if (-1 : Int) < 0 then (if (fm [42] L).getD 0 > m then spec_BestChoice.l0 (k - L.length) L (tx n) ((fm [42] L).getD 0) Y z1 (wrap64 (z2 + 1)) else B) else _) = _
    rw [if_pos (by decide), hA]

theorem bytes_of (l : List Int) (h : ∀ x ∈ l, (Lit.int .u8 x).wf = true) : ∀ x ∈ l, 0 ≤ x ∧ x ≤ 255 := by
  intro x hx
  have := h x hx
  simp [Lit.wf, IntKind.min, IntKind.max, IntKind.bits, IntKind.signed] at this
  omega

/-! The cursor that draws an argument out of bytes -/
theorem and255 (y : Int) (h0 : 0 ≤ y) (h1 : y < 18446744073709551616) : bits .and .u64 y 255 = y % 256 := bits_mask .u64 64 (by decide) wraps_u64 8 (by decide) y h0 h1
theorem and255_range (s : Int) : 0 ≤ bits .and .u64 ((IntKind.u64.wrap s) / 1099511627776) 255 ∧ bits .and .u64 ((IntKind.u64.wrap s) / 1099511627776) 255 ≤ 255 := by
  have h : IntKind.u64.wrap s = s % 18446744073709551616 := IntKind.wrap_u64 s
  rw [h, and255 _ (by omega) (by omega)]
  omega
theorem rd_byte (l : List Int) (hc : ∀ x ∈ l, 0 ≤ x ∧ x ≤ 255) (i : Int) (h0 : 0 ≤ i) (h1 : i < l.length) : 0 ≤ rd l i ∧ rd l i ≤ 255 := by
  obtain ⟨n, rfl⟩ : ∃ n : Nat, i = (n : Int) := ⟨i.toNat, by omega⟩
  rw [rd_nat l n (by omega)]
  exact hc _ (List.getElem_mem _)
theorem next_ok (code : List Int) (hc : ∀ x ∈ code, 0 ≤ x ∧ x ≤ 255) (hb : code.length < 4611686018427387904) (a s : Int) (h0 : 0 ≤ a) (h1 : a < 4611686018427387904) :
    ∃ b s', spec_l1Cur_next.f code a s = some (b, a + 1, s') ∧ 0 ≤ b ∧ b ≤ 255 := by
  have hw : wrap64 (a + 1) = a + 1 := w64 (by omega) (by omega)
  unfold spec_l1Cur_next.f
  rw [hw]
  by_cases c : a < (code.length : Int)
  · have hr := rd_byte code hc a h0 c
    rw [if_pos c, if_pos h0, if_pos (by omega)]
    exact ⟨_, _, rfl, by rw [w64 (by omega) (by omega)]; exact hr⟩
  · rw [if_neg c, if_neg (by omega)]
    refine ⟨_, _, rfl, ?_⟩
    have hr := and255_range ((IntKind.u64.wrap (IntKind.u64.wrap (s * 6364136223846793005))) + 1442695040888963407)
    rw [w64 (by omega) (by omega)]
    exact hr
theorem tmod_range (x n : Int) (h : 0 ≤ x) (hn : 0 < n) : 0 ≤ Int.tmod x n ∧ Int.tmod x n < n := ⟨Int.tmod_nonneg n h, Int.tmod_lt_of_pos x hn⟩
theorem pick_ok (code : List Int) (hc : ∀ x ∈ code, 0 ≤ x ∧ x ≤ 255) (hb : code.length < 4611686018427387904) (a s n : Int) (h0 : 0 ≤ a) (h1 : a < 4611686018427380000) :
    ∃ v a' s', spec_l1Cur_pick.f code a s n = some (v, a', s') ∧ 0 ≤ v ∧ (v < n ∨ v = 0) ∧ a ≤ a' ∧ a' ≤ a + 2 := by
  unfold spec_l1Cur_pick.f
  by_cases c : n ≤ 1
  · rw [if_pos c]
    exact ⟨0, a, s, rfl, by omega, by omega, by omega, by omega⟩
  · rw [if_neg c]
    obtain ⟨b, s1, e1, hb0, hb1⟩ := next_ok code hc hb a s h0 (by omega)
    rw [e1, Option.bind_some]
    by_cases c2 : n > 200
    · rw [if_pos c2]
      obtain ⟨b2, s2, e2, hb2, hb3⟩ := next_ok code hc hb (a + 1) s1 (by omega) (by omega)
      try dsimp only
      rw [e2, Option.bind_some, if_neg (by omega)]
      have hw1 : wrap64 (b * 256) = b * 256 := w64 (by omega) (by omega)
      have hw2 : wrap64 (b * 256 + b2) = b * 256 + b2 := w64 (by omega) (by omega)
      have hr := tmod_range (b * 256 + b2) n (by omega) (by omega)
      refine ⟨_, _, _, rfl, ?_⟩
      simp only [hw1, hw2]
      exact ⟨hr.1, Or.inl hr.2, by omega, by omega⟩
    · rw [if_neg c2, if_neg (by omega)]
      have hr := tmod_range b n (by omega) (by omega)
      refine ⟨_, _, _, rfl, hr.1, Or.inl hr.2, ?_, ?_⟩ <;> dsimp only <;> omega
theorem one_ok (code : List Int) (hc : ∀ x ∈ code, 0 ≤ x ∧ x ≤ 255) (hb : code.length < 4611686018427387904) (a s n : Int) (h0 : 0 ≤ a) (h1 : a < 4611686018427380000) :
    ∃ v a' s', spec_l1Cur_one.f code a s n = some (v, a', s') ∧ a ≤ a' ∧ a' ≤ a + 2 := by
  unfold spec_l1Cur_one.f
  obtain ⟨v, a', s', e, h⟩ := pick_ok code hc hb a s n h0 h1
  rw [e, Option.bind_some]
  exact ⟨_, _, _, rfl, h.2.2⟩

/-! One of some texts -/
theorem of_ok (code : List Int) (hc : ∀ x ∈ code, 0 ≤ x ∧ x ≤ 255) (hb : code.length < 4611686018427387904) (l : List ByteArray) (hl : 0 < l.length) (a s : Int) (h0 : 0 ≤ a) (h1 : a < 4611686018427380000) :
    ∃ v a' s', spec_l1Cur_of.f code a s l = some (v, a', s') ∧ v ∈ l ∧ a ≤ a' ∧ a' ≤ a + 2 := by
  unfold spec_l1Cur_of.f
  obtain ⟨v, a', s', e, h⟩ := pick_ok code hc hb a s (l.length : Int) h0 h1
  rw [e, Option.bind_some, if_pos h.1]
  have c : v < (l.length : Int) := by omega
  try dsimp only
  rw [if_pos c]
  refine ⟨_, _, _, rfl, ?_, h.2.2⟩
  unfold rdOf
  rw [List.getD_eq_getElem?_getD, List.getElem?_eq_getElem (show v.toNat < l.length by omega)]
  exact List.getElem_mem _

/-! ### A spoilt text: its length -/
theorem at_dec (s : List UInt8) (i : Nat) (h : i < s.length) : ∃ A x B, s = A ++ x :: B ∧ A.length = i := by
  refine ⟨s.take i, s[i], s.drop (i + 1), ?_, by rw [List.length_take]; omega⟩
  rw [List.getElem_cons_drop, List.take_append_drop]
theorem cutAx (A : List UInt8) (x : UInt8) (B : List UInt8) : (tx (A ++ x :: B)).extract 0 (A.length : Int).toNat = tx A ∧ (tx (A ++ x :: B)).extract (A.length : Int).toNat (tx (A ++ x :: B)).size = tx (x :: B) ∧ (tx (A ++ x :: B)).extract ((A.length : Int) + 1).toNat (tx (A ++ x :: B)).size = tx B := by
  refine ⟨?_, ?_, ?_⟩
  · rw [tx_cut, List.drop_zero, Int.toNat_natCast, Nat.sub_zero, List.take_left]
  · rw [tx_cut, tx_size, Int.toNat_natCast, List.drop_left, List.take_of_length_le (by rw [List.length_append]; omega)]
  · have e1 : A ++ x :: B = (A ++ [x]) ++ B := by simp
    have e2 : ((A.length : Int) + 1).toNat = (A ++ [x]).length := by rw [List.length_append, List.length_singleton]; omega
    rw [tx_cut, tx_size, e1, e2, List.drop_left, List.take_of_length_le (by rw [List.length_append]; omega)]
theorem rndN (x y w t : Nat) (h1 : x ≤ 400) (h2 : y ≤ 400) (hw : w = 1) (ht : t = x + (y + 1)) : x + w ≤ 9223372036854775807 ∧ (x + w) + (y + 1) ≤ 9223372036854775807 ∧ (x + w) + y ≤ 9223372036854775807 ∧ x + y ≤ 9223372036854775807 ∧ (0 : Int) ≤ (x : Int) ∧ (x : Int) ≤ (t : Int) ∧ wrap64 ((x : Int) + 1) = (x : Int) + 1 ∧ (0 : Int) ≤ (x : Int) + 1 ∧ (x : Int) + 1 ≤ (t : Int) := ⟨by omega, by omega, by omega, by omega, by omega, by omega, w64 (by omega) (by omega), by omega, by omega⟩
theorem rnd (A : List UInt8) (x : UInt8) (B w : List UInt8) (h1 : A.length ≤ 400) (h2 : B.length ≤ 400) (hw : w.length = 1) : (tx A).size + (tx w).size ≤ 9223372036854775807 ∧ (tx (A ++ w)).size + (tx (x :: B)).size ≤ 9223372036854775807 ∧ (tx (A ++ w)).size + (tx B).size ≤ 9223372036854775807 ∧ (tx A).size + (tx B).size ≤ 9223372036854775807 ∧ (0 : Int) ≤ (A.length : Int) ∧ (A.length : Int) ≤ ((tx (A ++ x :: B)).size : Int) ∧ wrap64 ((A.length : Int) + 1) = (A.length : Int) + 1 ∧ (0 : Int) ≤ (A.length : Int) + 1 ∧ (A.length : Int) + 1 ≤ ((tx (A ++ x :: B)).size : Int) := by
  simp only [tx_size, List.length_append, List.length_cons]
  exact rndN A.length B.length w.length _ h1 h2 hw rfl
theorem wr1 (n : Nat) (h : n ≤ 1000) : wrap64 (((n + 1 : Nat) : Int) - 1) = (n : Int) := by rw [w64 (by omega) (by omega)]; omega
theorem natOf (v : Int) (n : Nat) (h0 : 0 ≤ v) (h1 : v < (n : Int) ∨ v = 0) (hn : 0 < n) : ∃ i : Nat, v = (i : Int) ∧ i < n := ⟨v.toNat, by omega, by omega⟩
theorem lenAB {A B s : List UInt8} {x : UInt8} {m : Nat} (h : s = A ++ x :: B) (hl : s.length ≤ m) : A.length ≤ m ∧ B.length ≤ m := by
  rw [h, List.length_append, List.length_cons] at hl
  omega
theorem aw6 (a a1 a2 a3 : Int) (h0 : 0 ≤ a) (h : a ≤ 2000) (h1 : a ≤ a1 ∧ a1 ≤ a + 2) (h2 : a1 ≤ a2 ∧ a2 ≤ a1 + 2) (h3 : a2 ≤ a3 ∧ a3 ≤ a2 + 2) : a ≤ a3 ∧ a3 ≤ a + 6 := by omega
theorem aw2 (a a1 : Int) (m : Int) (h0 : 0 ≤ a) (h : a ≤ m) (hm : m ≤ 100000) (h1 : a ≤ a1 ∧ a1 ≤ a + 2) : 0 ≤ a1 ∧ a1 ≤ m + 2 ∧ a1 < 4611686018427380000 := by omega
theorem aw0 (a : Int) (m : Int) (h : a ≤ m) (hm : m ≤ 100000) : a < 4611686018427380000 := by omega
theorem sizeI (s : List UInt8) : ((tx s).size : Int) = (s.length : Int) := by rw [tx_size]
theorem byte_w (w : List UInt8) (j : Nat) (hj : j < w.length) : strOfNums [bt (tx w) (j : Int)] = tx [w[j]] := by
  rw [bt_tx w j hj]
  show tx [UInt8.ofNat ((w[j].toNat : Int)).toNat] = _
  rw [Int.toNat_natCast, UInt8.ofNat_toNat]
theorem spoilt_round (code : List Int) (hcd : ∀ x ∈ code, 0 ≤ x ∧ x ≤ 255) (hb : code.length < 4611686018427387904) (w : List UInt8) (hw0 : 0 < w.length) (K n : Nat) (s : List UInt8) (a st : Int) (hs0 : s ≠ []) (hl : s.length ≤ 400) (hn : n ≤ 1000) (h0 : 0 ≤ a) (h1 : a ≤ 2000) :
    ∃ s' a' st', spec_l1Cur_spoilt.j1 (K + 1) (tx s) (tx w) ((n + 1 : Nat) : Int) true code a st = spec_l1Cur_spoilt.l0 K (tx s') (tx w) (n : Int) code a' st' ∧ s'.length ≤ s.length + 1 ∧ a ≤ a' ∧ a' ≤ a + 6 := by
  have hlen : 0 < s.length := List.length_pos_iff.mpr hs0
  obtain ⟨v1, a1, s1, e1, p1, p2, p3⟩ := pick_ok code hcd hb a st ((tx s).size : Int) h0 (aw0 a 2000 h1 (by decide))
  obtain ⟨b1, b2, b3⟩ := aw2 a a1 2000 h0 h1 (by decide) p3
  obtain ⟨v2, a2, s2, e2, q1, q2, q3⟩ := pick_ok code hcd hb a1 s1 ((tx w).size : Int) b1 b3
  obtain ⟨d1, d2, d3⟩ := aw2 a1 a2 2002 b1 b2 (by decide) q3
  obtain ⟨v3, a3, s3, e3, r1, r2, r3⟩ := pick_ok code hcd hb a2 s2 3 d1 d3
  obtain ⟨f1, f2⟩ := aw6 a a1 a2 a3 h0 h1 p3 q3 r3
  clear b1 b2 b3 d1 d2 d3 p3 q3 r3
  rw [sizeI] at p2 q2
  obtain ⟨i, rfl, hi2⟩ := natOf v1 s.length p1 p2 hlen
  obtain ⟨j, rfl, hj⟩ := natOf v2 w.length q1 q2 hw0
  obtain ⟨A, x, B, hAB, hA⟩ := at_dec s i hi2
  obtain ⟨lA, lB⟩ := lenAB hAB hl
  subst hA
  subst hAB
  obtain ⟨x1, x2, x3⟩ := cutAx A x B
  have hw := byte_w w j hj
  generalize w[j] = z at hw
  obtain ⟨g1, g2, g3, g4, g5, g6, g7, g8, g9⟩ := rnd A x B [z] lA lB rfl
  have hj5 : (j : Int) < ((tx w).size : Int) := by rw [sizeI]; exact Int.ofNat_lt.mpr hj
  clear p1 p2 q2 hlen hi2 h0 h1 hl lA lB
  unfold spec_l1Cur_spoilt.j1
  rw [if_pos rfl, e1, Option.bind_some]
  dsimp only
  rw [e2, Option.bind_some]
  dsimp only
  rw [if_pos q1, if_pos hj5, Option.bind_some, e3, Option.bind_some]
  dsimp only
  rw [hw, x1, x2, g7, x3, wr1 n hn]
  by_cases c1 : v3 = 0
  · rw [if_pos c1, if_pos g5, if_pos g6, if_pos g1, tx_app A, if_pos g2, tx_app (A ++ [z])]
    exact ⟨_, _, _, rfl, by simp only [List.length_append, List.length_cons, List.length_nil]; omega, f1, f2⟩
  · rw [if_neg c1]
    by_cases c2 : v3 = 1
    · rw [if_pos c2, if_pos g5, if_pos g6, if_pos g1, if_pos g8, if_pos g9, tx_app A, if_pos g3, tx_app (A ++ [z])]
      exact ⟨_, _, _, rfl, by simp only [List.length_append, List.length_cons, List.length_nil]; omega, f1, f2⟩
    · rw [if_neg c2, if_pos g5, if_pos g6, if_pos g8, if_pos g9, if_pos g4, tx_app A]
      exact ⟨_, _, _, rfl, by simp only [List.length_append, List.length_cons, List.length_nil]; omega, f1, f2⟩
theorem dpos (s : List UInt8) (h : s ≠ []) : decide (((tx s).size : Int) > 0) = true := by
  have : 0 < s.length := List.length_pos_iff.mpr h
  rw [sizeI]; exact decide_eq_true (Int.ofNat_lt.mpr this)
theorem spoilt_l (code : List Int) (hcd : ∀ x ∈ code, 0 ≤ x ∧ x ≤ 255) (hb : code.length < 4611686018427387904) (w : List UInt8) (hw0 : 0 < w.length) :
    ∀ (n K : Nat) (s : List UInt8) (a st : Int), 2 * n + 2 ≤ K → s.length + n ≤ 300 → 0 ≤ a → a + 6 * n ≤ 2000 →
      ∃ s' a' st', spec_l1Cur_spoilt.l0 K (tx s) (tx w) (n : Int) code a st = some (tx s', a', st') ∧ s'.length ≤ s.length + n ∧ 0 ≤ a' ∧ a' ≤ a + 6 * n
  | n, 0, s, a, st, h, _, _, _ => absurd h (by omega)
  | n, 1, s, a, st, h, _, _, _ => absurd h (by omega)
  | 0, K + 2, s, a, st, h, hL, h0, h1 => by
    unfold spec_l1Cur_spoilt.l0
    rw [if_neg (by omega)]
    unfold spec_l1Cur_spoilt.j1
    rw [if_neg (show ¬ false = true by decide)]
    exact ⟨s, a, st, rfl, by omega, h0, by omega⟩
  | n + 1, K + 2, s, a, st, h, hL, h0, h1 => by
    have hp : ((n + 1 : Nat) : Int) > 0 := by omega
    unfold spec_l1Cur_spoilt.l0
    rw [if_pos hp]
    by_cases hs0 : s = []
    · have hd : decide (((tx s).size : Int) > 0) = false := by rw [hs0]; decide
      unfold spec_l1Cur_spoilt.j1
      rw [hd, if_neg (show ¬ false = true by decide)]
      exact ⟨s, a, st, rfl, by omega, h0, by omega⟩
    · have hl : s.length ≤ 400 := by omega
      obtain ⟨s', a', st', e, hi', k1, k2⟩ := spoilt_round code hcd hb w hw0 K n s a st hs0 hl (by omega) h0 (by omega)
      rw [dpos s hs0, e]
      obtain ⟨s'', a'', st'', z1, z2, z3, z4⟩ := spoilt_l code hcd hb w hw0 n K s' a' st' (by omega) (by omega) (by omega) (by omega)
      exact ⟨s'', a'', st'', z1, by omega, z3, by omega⟩
theorem pkn (v : Int) (m : Nat) (h1 : 0 ≤ v) (h2 : v < (m : Int) ∨ v = 0) : ∃ n : Nat, v = (n : Int) ∧ n ≤ m := ⟨v.toNat, by omega, by omega⟩
theorem spoilt_ok (code : List Int) (hcd : ∀ x ∈ code, 0 ≤ x ∧ x ≤ 255) (hb : code.length < 4611686018427387904) (w : List UInt8) (hw0 : 0 < w.length) (K : Nat) (s : List UInt8) (a st : Int) (hK : 10 ≤ K) (hl : s.length ≤ 290) (h0 : 0 ≤ a) (h1 : a ≤ 1000) :
    ∃ s' a' st', spec_l1Cur_spoilt.f K code a st (tx s) (tx w) = some (tx s', a', st') ∧ s'.length ≤ s.length + 3 ∧ 0 ≤ a' ∧ a' ≤ a + 20 := by
  obtain ⟨v1, a1, s1, e1, p1, p2, p3⟩ := pick_ok code hcd hb a st 3 h0 (aw0 a 1000 h1 (by decide))
  obtain ⟨n, rfl, hn⟩ := pkn v1 3 p1 p2
  obtain ⟨s', a', st', z1, z2, z3, z4⟩ := spoilt_l code hcd hb w hw0 n K s a1 s1 (by omega) (by omega) (by omega) (by omega)
  unfold spec_l1Cur_spoilt.f
  rw [e1, Option.bind_some]
  exact ⟨s', a', st', z1, by omega, z3, by omega⟩

/-! ### Drawn texts: their lengths -/
theorem w_i (i n : Nat) (h : i < n) (h2 : n ≤ 1000) : wrap64 ((i : Int) + 1) = ((i + 1 : Nat) : Int) := by rw [w64 (by omega) (by omega)]; omega
def Byt (l : List Int) : Prop := ∀ x ∈ l, 0 ≤ x ∧ x ≤ 255
def Prt (l : List Int) : Prop := ∀ x ∈ l, 32 ≤ x ∧ x ≤ 126
theorem Prt.byt {l : List Int} (h : Prt l) : Byt l := fun x hx => by have := h x hx; omega
theorem bytes_l (code : List Int) (hc : ∀ x ∈ code, 0 ≤ x ∧ x ≤ 255) (hb : code.length < 4611686018427387904) :
    ∀ (n K : Nat) (l : List Int) (a s : Int), n < K → 0 ≤ a → a + n < 100000 → l.length + n ≤ 100 → Byt l →
      ∃ l' a' s', spec_l1Cur_bytes.l0 K l (n : Int) code a s = some (l', a', s') ∧ l'.length = l.length + n ∧ Byt l' ∧ 0 ≤ a' ∧ a' ≤ a + n
  | n, 0, l, a, s, h, _, _, _, _ => absurd h (by omega)
  | 0, K + 1, l, a, s, h, h0, h1, h2, h3 => by
    unfold spec_l1Cur_bytes.l0
    rw [if_neg (by omega)]
    exact ⟨l, a, s, rfl, rfl, h3, h0, by omega⟩
  | n + 1, K + 1, l, a, s, h, h0, h1, h2, h3 => by
    obtain ⟨b, s', e, b0, b1⟩ := next_ok code hc hb a s h0 (by omega)
    unfold spec_l1Cur_bytes.l0
    rw [if_pos (by omega), e, Option.bind_some]
    try dsimp only
    rw [if_pos (by omega), w64 (by omega) (by omega), show ((n + 1 : Nat) : Int) - 1 = (n : Int) by omega]
    obtain ⟨l', a2, s2, e2, r1, r2, r3, r4⟩ := bytes_l code hc hb n K (l ++ [b % 256]) (a + 1) s' (by omega) (by omega) (by omega) (by simp; omega) (fun x hx => by
      rcases List.mem_append.mp hx with hx | hx
      · exact h3 x hx
      · rw [List.mem_singleton.mp hx]; omega)
    exact ⟨l', a2, s2, e2, by rw [r1, List.length_append, List.length_singleton]; omega, r2, r3, by omega⟩
theorem four_ok : (([(⟨#[34]⟩ : ByteArray), (⟨#[92]⟩ : ByteArray), (⟨#[44]⟩ : ByteArray), (⟨#[32]⟩ : ByteArray)] : List ByteArray).all fun t => decide (0 < t.size) && decide (32 ≤ bt t 0) && decide (bt t 0 ≤ 126)) = true := by decide +kernel
theorem b32 (x : Int) (h : 0 ≤ x) : 32 ≤ (32 + x % 95) % 256 ∧ (32 + x % 95) % 256 ≤ 126 := by omega
theorem addm (a a1 a2 : Int) (m : Nat) (h : a1 ≤ a + 8) (h2 : a2 ≤ a1 + 8 * (m : Int)) : a2 ≤ a + 8 * ((m + 1 : Nat) : Int) := by omega
theorem printedD_l (code : List Int) (hc : ∀ x ∈ code, 0 ≤ x ∧ x ≤ 255) (hb : code.length < 4611686018427387904) :
    ∀ (m K i : Nat) (l : List Int) (a s : Int), i + m = l.length → m < K → l.length ≤ 100 → Byt l → 0 ≤ a → a + 8 * m < 200000 → (∀ j (h : j < l.length), j < i → 32 ≤ l[j] ∧ l[j] ≤ 126) →
      ∃ T a' s', spec_l1Cur_printed.l0 K l (l.length : Int) (i : Int) code a s = some (strOfNums T, a', s') ∧ T.length = l.length ∧ Prt T ∧ 0 ≤ a' ∧ a' ≤ a + 8 * m
  | m, 0, i, l, a, s, _, h, _, _, _, _, _ => absurd h (Nat.not_lt_zero _)
  | 0, K + 1, i, l, a, s, hi, h, hl, hB, h0, h1, hp => by
    unfold spec_l1Cur_printed.l0
    rw [if_neg (by omega)]
    refine ⟨l, a, s, rfl, rfl, fun x hx => ?_, h0, by omega⟩
    obtain ⟨j, hj, rfl⟩ := List.getElem_of_mem hx
    exact hp j hj (by omega)
  | m + 1, K + 1, i, l, a, s, hi, h, hl, hB, h0, h1, hp => by
    have hlt : i < l.length := by omega
    have hx := hB _ (List.getElem_mem hlt)
    have ht : Int.tmod (l[i]) 95 = l[i] % 95 := Int.tmod_eq_emod_of_nonneg hx.1
    have step : ∀ (y : Int) (a' s' : Int), 32 ≤ y → y ≤ 126 → 0 ≤ a' → a' ≤ a + 8 → ∀ l2 : List Int, l2 = l.set i y → ∃ T a2 s2, spec_l1Cur_printed.l0 K l2 (l.length : Int) ((i + 1 : Nat) : Int) code a' s' = some (strOfNums T, a2, s2) ∧ T.length = l.length ∧ Prt T ∧ 0 ≤ a2 ∧ a2 ≤ a + 8 * (m + 1 : Nat) := fun y a' s' y0 y1 g0 g1 l2 e2 => by
      have hll : l2.length = l.length := by rw [e2, List.length_set]
      have z := printedD_l code hc hb m K (i + 1) l2 a' s' (by omega) (by omega) (by omega) (fun x hx => by
        rw [e2] at hx
        rcases List.mem_or_eq_of_mem_set hx with hx | hx
        · exact hB x hx
        · omega) g0 (by omega) (fun j hj hji => by
        subst e2
        rw [List.getElem_set]
        split
        · exact ⟨y0, y1⟩
        · exact hp j (by rw [List.length_set] at hj; exact hj) (by omega))
      rw [hll] at z
      obtain ⟨T, a2, s2, z1, z2, z3, z4, z5⟩ := z
      exact ⟨T, a2, s2, z1, z2, z3, z4, addm a a' a2 m g1 z5⟩
    unfold spec_l1Cur_printed.l0
    rw [if_pos (by omega), if_pos (by omega), if_pos (by omega), Option.bind_some, rd_nat l i hlt, ht]
    clear ht
    obtain ⟨v, a1, s1, e1, p1, p2⟩ := one_ok code hc hb a s 4 h0 (by omega)
    have g0 : 0 ≤ a1 := Int.le_trans h0 p1
    have ga : a1 ≤ a + 8 := Int.le_trans p2 (by omega)
    have g1 : a1 < 4611686018427380000 := Int.lt_of_le_of_lt ga (by clear hx; omega)
    rw [e1, Option.bind_some]
    try dsimp only
    have hw : wrap64 ((i : Int) + 1) = ((i + 1 : Nat) : Int) := w_i i l.length hlt (Nat.le_trans hl (by decide))
    cases v with
    | true =>
      rw [if_pos rfl]
      obtain ⟨t, a2, s2, e2, q1, q2, q3⟩ := of_ok code hc hb ([(⟨#[34]⟩ : ByteArray), (⟨#[92]⟩ : ByteArray), (⟨#[44]⟩ : ByteArray), (⟨#[32]⟩ : ByteArray)] : List ByteArray) (by decide) a1 s1 g0 g1
      have k1 : 0 ≤ a2 := Int.le_trans g0 q2
      have k2 : a2 ≤ a + 8 := by clear e2 e1 q1 step hx; omega
      have g := List.all_eq_true.mp four_ok t q1
      simp only [Bool.and_eq_true, decide_eq_true_eq] at g
      rw [e2, Option.bind_some]
      try dsimp only
      rw [if_pos (Int.natCast_pos.mpr g.1.1), hw]
      exact step (bt t 0) a2 s2 g.1.2 g.2 k1 k2 _ (by rw [Int.toNat_natCast, List.set_set])
    | false =>
      rw [if_neg (show ¬ false = true by decide), hw]
      exact step ((32 + l[i] % 95) % 256) a1 s1 (b32 _ hx.1).1 (b32 _ hx.1).2 g0 ga _ (by rw [Int.toNat_natCast])
theorem son_tx (T : List Int) : strOfNums T = tx (T.map fun n => UInt8.ofNat n.toNat) := rfl
theorem printedD (code : List Int) (hc : ∀ x ∈ code, 0 ≤ x ∧ x ≤ 255) (hb : code.length < 4611686018427387904) (K : Nat) (hK : 200 ≤ K) (a st : Int) (h0 : 0 ≤ a) (h1 : a ≤ 10000) :
    ∃ s a' st', spec_l1Cur_printed.f K code a st = some (tx s, a', st') ∧ s.length ≤ 9 ∧ 0 ≤ a' ∧ a' ≤ a + 100 := by
  unfold spec_l1Cur_printed.f spec_l1Cur_bytes.f
  obtain ⟨v2, a2, s2, e2, q1, q2, q3, q4⟩ := pick_ok code hc hb a st 9 h0 (by omega)
  rw [e2, Option.bind_some]
  try dsimp only
  rw [w64 (by omega) (by omega)]
  obtain ⟨v3, a3, s3, e3, t1, t2, t3, t4⟩ := pick_ok code hc hb a2 s2 (v2 + 1) (by omega) (by omega)
  rw [e3, Option.bind_some]
  try dsimp only
  obtain ⟨n, rfl⟩ : ∃ n : Nat, v3 = (n : Int) := ⟨v3.toNat, by omega⟩
  obtain ⟨l, a4, s4, e4, r1, r2, r3, r4⟩ := bytes_l code hc hb n K [] a3 s3 (by omega) (by omega) (by omega) (by simp; omega) (fun x hx => by cases hx)
  rw [e4, Option.bind_some]
  try dsimp only
  have hll : l.length = n := by rw [r1]; exact Nat.zero_add n
  obtain ⟨T, a5, s5, e5, u1, u2, u3, u4⟩ := printedD_l code hc hb l.length K 0 l a4 s4 (Nat.zero_add _) (by omega) (by omega) r2 r3 (by omega) (fun j hj hji => absurd hji (Nat.not_lt_zero _))
  have e5' : spec_l1Cur_printed.l0 K l (l.length : Int) 0 code a4 s4 = some (strOfNums T, a5, s5) := e5
  rw [e5', son_tx]
  exact ⟨_, _, _, rfl, by rw [List.length_map]; omega, u3, by omega⟩
theorem quoteD_l : ∀ (M pre acc : List UInt8) (K : Nat), (pre ++ M).length ≤ 100 → acc.length ≤ 2 * pre.length + 1 → M.length < K → ∃ r, spec_QuoteOf.l0 K (tx (pre ++ M)) (tx acc) (pre.length : Int) = some (tx r, true) ∧ r.length ≤ acc.length + 2 * M.length + 1
  | M, pre, acc, 0, _, _, h => absurd h (Nat.not_lt_zero _)
  | [], pre, acc, K + 1, hl, ha, _ => by
    rw [List.append_nil] at hl ⊢
    have e34 : (⟨#[34]⟩ : ByteArray) = tx [34] := rfl
    unfold spec_QuoteOf.l0
    rw [tx_size, if_neg (Int.lt_irrefl _), tx_size, if_pos (by omega), e34, tx_app]
    exact ⟨_, rfl, by rw [List.length_append, List.length_singleton, List.length_nil]; omega⟩
  | b :: M, pre, acc, K + 1, hl, ha, hK => by
    have hl2 : pre.length + (M.length + 1) ≤ 100 := by rw [List.length_append, List.length_cons] at hl; exact hl
    obtain ⟨q1, q2, q3⟩ := pb_pos pre.length M.length (by omega)
    have hlen := lenC pre b M
    have hbt := bt_at pre M b
    have e1 : pre ++ [b] ++ M = pre ++ b :: M := by simp
    have e2 : (((pre ++ [b]).length : Nat) : Int) = (pre.length : Int) + 1 := by simp
    have e92 : (⟨#[92]⟩ : ByteArray) = tx [92] := rfl
    have hx : (tx (pre ++ b :: M)).extract (pre.length : Int).toNat ((pre.length : Int) + 1).toNat = tx [b] := by
      have h1 : ((pre.length : Int) + 1).toNat = pre.length + 1 := by omega
      rw [tx_cut, Int.toNat_natCast, h1, List.drop_left, Nat.add_sub_cancel_left]; rfl
    have s1 : ((tx (pre ++ b :: M)).size : Int) = (pre.length : Int) + ((M.length : Int) + 1) := by rw [tx_size]; exact hlen
    have g1 : (tx acc).size + 1 ≤ 9223372036854775807 := by rw [tx_size]; omega
    have g2 : (tx (acc ++ [92])).size + (tx [b]).size ≤ 9223372036854775807 := by rw [tx_size, tx_size, List.length_append, List.length_singleton, List.length_singleton]; omega
    have g3 : (tx acc).size + (tx [b]).size ≤ 9223372036854775807 := by rw [tx_size, tx_size, List.length_singleton]; omega
    have ih := fun (acc2 : List UInt8) (h : acc2.length ≤ acc.length + 2) => quoteD_l M (pre ++ [b]) acc2 K (by rw [e1]; exact hl) (by rw [List.length_append, List.length_singleton]; omega) (Nat.lt_of_succ_lt_succ hK)
    rw [e1, e2] at ih
    have p1 : (pre.length : Int) ≤ (pre.length : Int) + 1 := by omega
    have p2 : (pre.length : Int) + 1 ≤ (pre.length : Int) + ((M.length : Int) + 1) := by omega
    have esc : ∃ r, spec_QuoteOf.l0 K (tx (pre ++ b :: M)) (tx (acc ++ [92] ++ [b])) ((pre.length : Int) + 1) = some (tx r, true) ∧ r.length ≤ acc.length + 2 * (b :: M).length + 1 := by
      obtain ⟨r, z1, z2⟩ := ih (acc ++ [92] ++ [b]) (by simp)
      refine ⟨r, z1, ?_⟩
      rw [List.length_append, List.length_append, List.length_singleton, List.length_singleton] at z2
      rw [List.length_cons]; omega
    have one : ∃ r, spec_QuoteOf.l0 K (tx (pre ++ b :: M)) (tx (acc ++ [b])) ((pre.length : Int) + 1) = some (tx r, true) ∧ r.length ≤ acc.length + 2 * (b :: M).length + 1 := by
      obtain ⟨r, z1, z2⟩ := ih (acc ++ [b]) (by simp)
      refine ⟨r, z1, ?_⟩
      rw [List.length_append, List.length_singleton] at z2
      rw [List.length_cons]; omega
    unfold spec_QuoteOf.l0
    rw [s1, if_pos q1, if_pos q2, hbt, q3]
    by_cases c1 : (b.toNat : Int) = 34
    · rw [if_pos c1, if_pos g1, if_pos p1, if_pos p2, hx, e92, tx_app, if_pos g2, tx_app]
      exact esc
    · rw [if_neg c1]
      by_cases c2 : (b.toNat : Int) = 92
      · rw [if_pos c2, if_pos g1, if_pos p1, if_pos p2, hx, e92, tx_app, if_pos g2, tx_app]
        exact esc
      · rw [if_neg c2, if_pos p1, if_pos p2, hx, if_pos g3, tx_app]
        exact one
theorem quoteD (K : Nat) (hK : 1100 ≤ K) (l : List UInt8) (hl : l.length ≤ 9) : ∃ r f, spec_QuoteOf.f K (tx l) = some (tx r, f) ∧ r.length ≤ 30 := by
  obtain ⟨m, rfl⟩ : ∃ m, K = m + 1 := ⟨K - 1, by omega⟩
  have jt : spec_QuoteOf.j0 (m + 1) (tx l) true = some (tx [], false) := rfl
  have e34 : (⟨#[34]⟩ : ByteArray) = tx [34] := rfl
  unfold spec_QuoteOf.f
  rw [printed_S (m + 1) l (by omega) (by omega), Option.bind_some, tx_size]
  cases hp : l.all prB with
  | false =>
    rw [if_neg (show ¬ false = true by decide), jt]
    exact ⟨[], false, rfl, Nat.zero_le _⟩
  | true =>
    rw [if_pos rfl, decide_eq_false (by omega)]
    unfold spec_QuoteOf.j0
    dsimp only
    rw [if_neg (show ¬ false = true by decide), e34]
    obtain ⟨r, z1, z2⟩ := quoteD_l l [] [34] m (by rw [List.nil_append]; omega) (Nat.le_refl _) (by omega)
    refine ⟨r, true, z1, ?_⟩
    rw [List.length_singleton] at z2
    omega
theorem tx_ex (v : ByteArray) : ∃ s : List UInt8, v = tx s := ⟨v.data.toList, by apply ByteArray.ext; simp [tx]⟩
theorem droom (a b : List UInt8) (ha : a.length ≤ 1000) (hb : b.length ≤ 1000) : (tx a).size + 1 ≤ 9223372036854775807 ∧ (tx b).size + (tx (a ++ [44])).size ≤ 9223372036854775807 := by
  rw [tx_size, tx_size, tx_size, List.length_append, List.length_singleton]; omega
theorem stepa (a a1 : Int) (m : Int) (d : Int) (h0 : 0 ≤ a) (h : a ≤ m) (hm : m ≤ 5000) (hd : d ≤ 1000) (h1 : a ≤ a1) (h2 : a1 ≤ a + d) : 0 ≤ a1 ∧ a1 ≤ m + d ∧ a1 < 4611686018427380000 := by omega
theorem listD_l (code : List Int) (hcd : ∀ x ∈ code, 0 ≤ x ∧ x ≤ 255) (hb : code.length < 4611686018427387904) :
    ∀ (n K : Nat) (s : List UInt8) (a st : Int), n ≤ 10 → s.length + 31 * n ≤ 280 → 0 ≤ a → a + 110 * n ≤ 900 →
      ∃ s', spec_DrawListOf.l0 (K + n + 1200) (tx s) (n : Int) code a st = some (tx s') ∧ s'.length ≤ 300
  | 0, K, s, a, st, _, hs, h0, h1 => by
    have ew : (⟨#[34, 44, 92]⟩ : ByteArray) = tx [34, 44, 92] := rfl
    have hz : spec_DrawListOf.l0 (K + 0 + 1199 + 1) (tx s) ((0 : Nat) : Int) code a st = spec_DrawListOf.l0 (K + 0 + 1199 + 1) (tx s) ((0 : Nat) : Int) code a st := rfl
    obtain ⟨v1, a1, s1, e1, p3, p4⟩ := one_ok code hcd hb a st 4 h0 (by omega)
    show ∃ s', spec_DrawListOf.l0 (K + 1199 + 1) (tx s) ((0 : Nat) : Int) code a st = some (tx s') ∧ s'.length ≤ 300
    unfold spec_DrawListOf.l0
    rw [if_neg (by decide), e1, Option.bind_some]
    dsimp only
    cases v1 with
    | false =>
      rw [if_neg (show ¬ false = true by decide)]
      exact ⟨s, rfl, by omega⟩
    | true =>
      obtain ⟨s', a', st', z1, z2, _⟩ := spoilt_ok code hcd hb [34, 44, 92] (by decide) (K + 1199) s a1 s1 (by omega) (by omega) (by omega) (by omega)
      rw [if_pos rfl, ew, z1, Option.bind_some]
      exact ⟨s', rfl, by omega⟩
  | n + 1, K, s, a, st, hn, hs, h0, h1 => by
    obtain ⟨t, a1, s1, e1, t9, p1, p2⟩ := printedD code hcd hb (K + n + 1200) (by omega) a st h0 (by omega)
    obtain ⟨q, f, e2, hq⟩ := quoteD (K + n + 1200) (by omega) t t9
    obtain ⟨x, a2, s2, e3, hx, r1, r2⟩ := of_ok code hcd hb ([(⟨#[97]⟩ : ByteArray), (⟨#[32, 98, 32]⟩ : ByteArray), (⟨#[]⟩ : ByteArray), tx q, (⟨#[99, 32, 100]⟩ : ByteArray)] : List ByteArray) (by simp) a1 s1 p1 (by omega)
    obtain ⟨y, rfl⟩ := tx_ex x
    have hy : y.length ≤ 30 := by
      have hxs : (tx y).size ≤ 30 := by
        simp only [List.mem_cons, List.not_mem_nil, or_false] at hx
        rcases hx with h | h | h | h | h
        · rw [h]; decide
        · rw [h]; decide
        · rw [h]; decide
        · rw [h, tx_size]; exact hq
        · rw [h]; decide
      rw [tx_size] at hxs; exact hxs
    obtain ⟨g1, g2⟩ := droom y s (by omega) (by omega)
    have e44 : (⟨#[44]⟩ : ByteArray) = tx [44] := rfl
    have hp : ((n + 1 : Nat) : Int) > 0 := by omega
    have hw := wr1 n (by omega)
    obtain ⟨s', z1, z2⟩ := listD_l code hcd hb n K (s ++ (y ++ [44])) a2 s2 (by omega) (by rw [List.length_append, List.length_append, List.length_singleton]; omega) (by omega) (by omega)
    refine ⟨s', ?_, z2⟩
    rw [show K + (n + 1) + 1200 = (K + n + 1200) + 1 by omega]
    generalize hR : some (tx s') = R at z1 ⊢
    unfold spec_DrawListOf.l0
    rw [if_pos hp, e1, Option.bind_some]
    dsimp only
    rw [e2, Option.bind_some]
    dsimp only
    rw [e3, Option.bind_some]
    dsimp only
    rw [if_pos g1, e44, tx_app, if_pos g2, tx_app, hw]
    exact z1
theorem listD (code : List Int) (hcd : ∀ x ∈ code, 0 ≤ x ∧ x ≤ 255) (hb : code.length < 4611686018427387904) (K : Nat) (hK : 1300 ≤ K) : ∃ s, spec_DrawListOf.f K code = some (tx s) ∧ s.length ≤ 300 := by
  obtain ⟨v1, a1, s1, e1, p1, p2, p3, p4⟩ := pick_ok code hcd hb 0 0 5 (by decide) (by decide)
  obtain ⟨n, rfl, hn⟩ := pkn v1 5 p1 p2
  obtain ⟨s', z1, z2⟩ := listD_l code hcd hb n (K - n - 1200) [] a1 s1 (by omega) (by rw [List.length_nil]; omega) (by omega) (by omega)
  rw [show K - n - 1200 + n + 1200 = K by omega] at z1
  unfold spec_DrawListOf.f
  rw [e1, Option.bind_some]
  exact ⟨s', z1, z2⟩

/-! ### The reference's best choice; drawn choices -/
theorem bestS_l (L : List S32) (hL : L.length ≤ 20) (hok : ∀ x ∈ L, okC x) : ∀ (M pre : List (List UInt8)) (b : List UInt8) (m : Int) (K : Nat), (∀ n ∈ M, tokL n = true ∧ n.length ≤ 1000) → (pre ++ M).length ≤ 1000 → 22 * M.length + 1200 ≤ K →
    spec_BestChoice.l0 K L (tx b) m ((pre ++ M).map tx) (((pre ++ M).length : Nat) : Int) (pre.length : Int) = some (tx (bst L b m M).1, decide ((bst L b m M).2 > 0))
  | M, pre, b, m, 0, _, _, h => absurd h (by omega)
  | M, pre, b, m, 1, _, _, h => absurd h (by omega)
  | [], pre, b, m, K + 2, _, _, _ => by
    unfold spec_BestChoice.l0
    rw [List.append_nil, if_neg (Int.lt_irrefl _)]; rfl
  | n :: M, pre, b, m, K + 2, hM, hl, hK => by
    have hl2 : pre.length + (M.length + 1) ≤ 1000 := by rw [List.length_append, List.length_cons] at hl; exact hl
    obtain ⟨q1, q2, q3⟩ := pos_l pre.length M.length hl2
    have hlen := lenP pre n M
    have hmap : ((((pre ++ n :: M).map tx).length : Nat) : Int) = (pre.length : Int) + ((M.length : Int) + 1) := by rw [List.length_map]; exact hlen
    have hrd := rd_mid pre n M
    have e1 : pre ++ [n] ++ M = pre ++ n :: M := by simp
    have e2 : (((pre ++ [n]).length : Nat) : Int) = (pre.length : Int) + 1 := by simp
    rw [List.length_cons] at hK
    have ih := fun (b : List UInt8) (m : Int) => bestS_l L hL hok M (pre ++ [n]) b m (K - L.length) (fun X hX => hM X (List.mem_cons_of_mem _ hX)) (by rw [e1]; exact hl) (by omega)
    rw [e1, e2, hlen] at ih
    have hb : bst L b m (n :: M) = (if wF L n > m then bst L n (wF L n) M else bst L b m M) := rfl
    obtain ⟨t1, t2⟩ := hM n List.mem_cons_self
    have hone := bestS_one L (by omega) hok n t2 (tx b) m ((pre ++ n :: M).map tx) ((pre.length : Int) + ((M.length : Int) + 1)) (pre.length : Int) K (by omega)
    rw [q3] at hone
    rw [hlen, hb]
    generalize hR1 : some (tx (if wF L n > m then bst L n (wF L n) M else bst L b m M).1, decide ((if wF L n > m then bst L n (wF L n) M else bst L b m M).2 > 0)) = R
    unfold spec_BestChoice.l0
    rw [hmap, hrd, if_pos q1, if_pos q2, if_pos q1, token_S (K + 1) n t2 (by omega), Option.bind_some, t1, if_pos rfl, hone, ← hR1]
    by_cases c : wF L n > m
    · rw [if_pos c, if_pos c]; exact ih n (wF L n)
    · rw [if_neg c, if_neg c]; exact ih b m
theorem BestS (K : Nat) (s : List UInt8) (hs : s.length ≤ 1000) (N : List (List UInt8)) (h : ∀ n ∈ N, tokL n = true ∧ n.length ≤ 1000) (hl : N.length ≤ 20) (hK : 2100 ≤ K) : spec_BestChoice.f K (tx s) (N.map tx) = some (bAns (CO s) N) := by
  obtain ⟨m, rfl⟩ : ∃ m, K = m + 1 := ⟨K - 1, by omega⟩
  unfold spec_BestChoice.f
  rw [ChoicesS (m + 1) s hs (by omega), Option.bind_some]
  cases hC : CO s with
  | none =>
    show (if false = true then _ else spec_BestChoice.j0 (m + 1) (N.map tx) [] true) = _
    rw [if_neg (show ¬ false = true by decide)]; rfl
  | some L =>
    obtain ⟨hok, hL⟩ := CO_ok s L hC
    show (if true = true then spec_BestChoice.j0 (m + 1) (N.map tx) L (decide (((N.map tx).length : Int) > 20)) else _) = _
    rw [if_pos rfl, List.length_map, decide_eq_false (by omega)]
    have := bestS_l L hL hok N [] [] 0 m h (by rw [List.nil_append]; omega) (by omega)
    rw [List.nil_append] at this
    unfold spec_BestChoice.j0
    dsimp only
    rw [if_neg (show ¬ false = true by decide), List.length_map]
    exact this
theorem bst_in (L : List S32) : ∀ (N : List (List UInt8)) (b : List UInt8) (m : Int), (bst L b m N = (b, m)) ∨ ((bst L b m N).1 ∈ N ∧ (bst L b m N).2 = wF L (bst L b m N).1 ∧ (bst L b m N).2 > m)
  | [], b, m => Or.inl rfl
  | n :: N, b, m => by
    have hb : bst L b m (n :: N) = (if wF L n > m then bst L n (wF L n) N else bst L b m N) := rfl
    rw [hb]
    by_cases c : wF L n > m
    · rw [if_pos c]
      rcases bst_in L N n (wF L n) with h | ⟨h1, h2, h3⟩
      · rw [h]; exact Or.inr ⟨List.mem_cons_self, rfl, c⟩
      · exact Or.inr ⟨List.mem_cons_of_mem _ h1, h2, Int.lt_trans c h3⟩
    · rw [if_neg c]
      rcases bst_in L N b m with h | ⟨h1, h2, h3⟩
      · exact Or.inl h
      · exact Or.inr ⟨List.mem_cons_of_mem _ h1, h2, h3⟩
/-- what is best is offered, and best alone, too -/
theorem best_alone (C : Option (List S32)) (N : List (List UInt8)) (h : (bAns C N).2 = true) : ∃ b ∈ N, (bAns C N).1 = tx b ∧ bAns C [b] = (tx b, true) := by
  cases C with
  | none => cases h
  | some L =>
    have h' : decide ((bst L [] 0 N).2 > 0) = true := h
    have hp := of_decide_eq_true h'
    rcases bst_in L N [] 0 with e | ⟨h1, h2, h3⟩
    · rw [e] at hp; exact absurd hp (by decide)
    · refine ⟨(bst L [] 0 N).1, h1, rfl, ?_⟩
      have e : bst L [] 0 [(bst L [] 0 N).1] = (if wF L (bst L [] 0 N).1 > 0 then ((bst L [] 0 N).1, wF L (bst L [] 0 N).1) else ([], 0)) := rfl
      show (tx (bst L [] 0 [(bst L [] 0 N).1]).1, decide ((bst L [] 0 [(bst L [] 0 N).1]).2 > 0)) = _
      rw [e, if_pos (by rw [← h2]; exact hp), ← h2, h']
def names4 : List (List UInt8) := [[103, 122, 105, 112], [98, 114], [120], [110, 111, 110, 101]]
theorem names_all : (names4.all fun n => tokL n && decide (n.length ≤ 1000)) = true := by decide +kernel
theorem names_tok (n : List UInt8) (h : n ∈ names4) : tokL n = true ∧ n.length ≤ 1000 := by
  have g := List.all_eq_true.mp names_all n h
  simp only [Bool.and_eq_true, decide_eq_true_eq] at g
  exact g
def parts5 : List ByteArray := [(⟨#[103, 122, 105, 112]⟩ : ByteArray), (⟨#[98, 114]⟩ : ByteArray), (⟨#[42]⟩ : ByteArray), (⟨#[120]⟩ : ByteArray), (⟨#[71, 90, 73, 80]⟩ : ByteArray)]
def parts6 : List ByteArray := [(⟨#[]⟩ : ByteArray), (⟨#[59, 113, 61, 48, 46, 53]⟩ : ByteArray), (⟨#[59, 32, 113, 61, 49]⟩ : ByteArray), (⟨#[59, 113, 61, 48]⟩ : ByteArray), (⟨#[59, 113, 61, 48, 46, 48, 48, 49]⟩ : ByteArray), (⟨#[59, 113, 61, 49, 46, 48, 48, 48]⟩ : ByteArray)]
theorem p5_all : (parts5.all fun t => decide (t.size ≤ 10)) = true := by decide +kernel
theorem p6_all : (parts6.all fun t => decide (t.size ≤ 10)) = true := by decide +kernel
theorem chroom (a b s : List UInt8) (ha : a.length ≤ 1000) (hb : b.length ≤ 1000) (hs : s.length ≤ 1000) : (tx a).size + (tx b).size ≤ 9223372036854775807 ∧ (tx (a ++ b)).size + 2 ≤ 9223372036854775807 ∧ (tx s).size + (tx (a ++ b ++ [44, 32])).size ≤ 9223372036854775807 := by
  have e : ([44, 32] : List UInt8).length = 2 := rfl
  simp only [tx_size, List.length_append, e]; omega
theorem choicesD_l (code : List Int) (hcd : ∀ x ∈ code, 0 ≤ x ∧ x ≤ 255) (hb : code.length < 4611686018427387904) :
    ∀ (n K : Nat) (s : List UInt8) (a st : Int), n ≤ 10 → s.length + 22 * n ≤ 280 → 0 ≤ a → a + 4 * n ≤ 900 →
      ∃ s' a' st', spec_l1Cur_choices.l0 (K + n + 20) (tx s) (n : Int) code a st = some (tx s', a', st') ∧ s'.length ≤ 300 ∧ 0 ≤ a' ∧ a' ≤ a + 4 * n + 30
  | 0, K, s, a, st, _, hs, h0, h1 => by
    have ew : (⟨#[59, 113, 61, 46, 49, 44]⟩ : ByteArray) = tx [59, 113, 61, 46, 49, 44] := rfl
    obtain ⟨v1, a1, s1, e1, p3, p4⟩ := one_ok code hcd hb a st 8 h0 (by omega)
    show ∃ s' a' st', spec_l1Cur_choices.l0 (K + 19 + 1) (tx s) ((0 : Nat) : Int) code a st = some (tx s', a', st') ∧ s'.length ≤ 300 ∧ 0 ≤ a' ∧ a' ≤ a + 4 * ((0 : Nat) : Int) + 30
    unfold spec_l1Cur_choices.l0
    rw [if_neg (by decide), e1, Option.bind_some]
    dsimp only
    cases v1 with
    | false =>
      rw [if_neg (show ¬ false = true by decide)]
      exact ⟨s, a1, s1, rfl, by omega, by omega, by omega⟩
    | true =>
      obtain ⟨s', a', st', z1, z2, z3, z4⟩ := spoilt_ok code hcd hb [59, 113, 61, 46, 49, 44] (by decide) (K + 19) s a1 s1 (by omega) (by omega) (by omega) (by omega)
      rw [if_pos rfl, ew, z1, Option.bind_some]
      exact ⟨s', a', st', rfl, by omega, z3, by omega⟩
  | n + 1, K, s, a, st, hn, hs, h0, h1 => by
    obtain ⟨x, a1, s1, e1, hx, p1, p2⟩ := of_ok code hcd hb parts5 (by decide) a st h0 (by omega)
    obtain ⟨y, a2, s2, e2, hy, r1, r2⟩ := of_ok code hcd hb parts6 (by decide) a1 s1 (by omega) (by omega)
    have gx := of_decide_eq_true (List.all_eq_true.mp p5_all x hx)
    have gy := of_decide_eq_true (List.all_eq_true.mp p6_all y hy)
    obtain ⟨x, rfl⟩ := tx_ex x
    obtain ⟨y, rfl⟩ := tx_ex y
    rw [tx_size] at gx gy
    obtain ⟨g1, g2, g3⟩ := chroom x y s (by omega) (by omega) (by omega)
    have e44 : (⟨#[44, 32]⟩ : ByteArray) = tx [44, 32] := rfl
    have hp : ((n + 1 : Nat) : Int) > 0 := by omega
    have hw := wr1 n (by omega)
    have e22 : ([44, 32] : List UInt8).length = 2 := rfl
    obtain ⟨s', a', st', z1, z2, z3, z4⟩ := choicesD_l code hcd hb n K (s ++ (x ++ y ++ [44, 32])) a2 s2 (by omega) (by rw [List.length_append, List.length_append, List.length_append, e22]; omega) (by omega) (by omega)
    refine ⟨s', a', st', ?_, z2, z3, by omega⟩
    rw [show K + (n + 1) + 20 = (K + n + 20) + 1 by omega]
    generalize hR : some (tx s', a', st') = R at z1 ⊢
    unfold spec_l1Cur_choices.l0
    rw [if_pos hp]
    show ((spec_l1Cur_of.f code a st parts5).bind _) = R
    rw [e1, Option.bind_some]
    show ((spec_l1Cur_of.f code a1 s1 parts6).bind _) = R
    rw [e2, Option.bind_some]
    dsimp only
    rw [if_pos g1, tx_app, if_pos g2, e44, tx_app, if_pos g3, tx_app, hw]
    exact z1
theorem choicesD (code : List Int) (hcd : ∀ x ∈ code, 0 ≤ x ∧ x ≤ 255) (hb : code.length < 4611686018427387904) (K : Nat) (hK : 100 ≤ K) (a st : Int) (h0 : 0 ≤ a) (h1 : a ≤ 800) : ∃ s a' st', spec_l1Cur_choices.f K code a st = some (tx s, a', st') ∧ s.length ≤ 300 := by
  obtain ⟨v1, a1, s1, e1, p1, p2, p3, p4⟩ := pick_ok code hcd hb a st 5 h0 (by omega)
  obtain ⟨n, rfl, hn⟩ := pkn v1 5 p1 p2
  obtain ⟨s', a', st', z1, z2, _⟩ := choicesD_l code hcd hb n (K - n - 20) [] a1 s1 (by omega) (by rw [List.length_nil]; omega) (by omega) (by omega)
  rw [show K - n - 20 + n + 20 = K by omega] at z1
  unfold spec_l1Cur_choices.f
  rw [e1, Option.bind_some]
  exact ⟨s', a', st', z1, z2⟩
theorem bestD_l (code : List Int) (hcd : ∀ x ∈ code, 0 ≤ x ∧ x ≤ 255) (hb : code.length < 4611686018427387904) :
    ∀ (n K : Nat) (N : List (List UInt8)) (a st : Int), n ≤ 10 → N.length + n ≤ 20 → (∀ x ∈ N, x ∈ names4) → 0 ≤ a → a + 2 * n ≤ 800 →
      ∃ (s : List UInt8) (N' : List (List UInt8)), spec_DrawBestChoice.l0 (K + n + 120) (N.map tx) (n : Int) code a st = some (tx s, N'.map tx) ∧ s.length ≤ 300 ∧ N'.length ≤ 20 ∧ ∀ x ∈ N', x ∈ names4
  | 0, K, N, a, st, _, hs, hN, h0, h1 => by
    obtain ⟨s, a', st', z1, z2⟩ := choicesD code hcd hb (K + 119) (by omega) a st h0 (by omega)
    show ∃ (s : List UInt8) (N' : List (List UInt8)), spec_DrawBestChoice.l0 (K + 119 + 1) (N.map tx) ((0 : Nat) : Int) code a st = some (tx s, N'.map tx) ∧ s.length ≤ 300 ∧ N'.length ≤ 20 ∧ ∀ x ∈ N', x ∈ names4
    unfold spec_DrawBestChoice.l0
    rw [if_neg (by decide), z1, Option.bind_some]
    exact ⟨s, N, rfl, z2, by omega, hN⟩
  | n + 1, K, N, a, st, hn, hs, hN, h0, h1 => by
    obtain ⟨x, a1, s1, e1, hx, p1, p2⟩ := of_ok code hcd hb (names4.map tx) (by decide) a st h0 (by omega)
    obtain ⟨y, hy, rfl⟩ := List.mem_map.mp hx
    have hp : ((n + 1 : Nat) : Int) > 0 := by omega
    have hw := wr1 n (by omega)
    have hroom : (N.map tx).length < 8796093022208 := by rw [List.length_map]; omega
    have em : N.map tx ++ [tx y] = (N ++ [y]).map tx := by simp
    obtain ⟨s, N', z1, z2⟩ := bestD_l code hcd hb n K (N ++ [y]) a1 s1 (by omega) (by rw [List.length_append, List.length_singleton]; omega) (fun z hz => by
      rcases List.mem_append.mp hz with hz | hz
      · exact hN z hz
      · rw [List.mem_singleton.mp hz]; exact hy) (by omega) (by omega)
    refine ⟨s, N', ?_, z2⟩
    rw [show K + (n + 1) + 120 = (K + n + 120) + 1 by omega]
    generalize hR : some (tx s, N'.map tx) = R at z1 ⊢
    unfold spec_DrawBestChoice.l0
    rw [if_pos hp]
    show ((spec_l1Cur_of.f code a st (names4.map tx)).bind _) = R
    rw [e1, Option.bind_some]
    dsimp only
    rw [if_pos hroom, hw, em]
    exact z1
theorem bestD (code : List Int) (hcd : ∀ x ∈ code, 0 ≤ x ∧ x ≤ 255) (hb : code.length < 4611686018427387904) (K : Nat) (hK : 200 ≤ K) :
    ∃ (s : List UInt8) (N : List (List UInt8)), spec_DrawBestChoice.f K code = some (tx s, N.map tx) ∧ s.length ≤ 300 ∧ N.length ≤ 20 ∧ ∀ x ∈ N, x ∈ names4 := by
  obtain ⟨v1, a1, s1, e1, p1, p2, p3, p4⟩ := pick_ok code hcd hb 0 0 5 (by decide) (by decide)
  obtain ⟨n, rfl, hn⟩ := pkn v1 5 p1 p2
  obtain ⟨s', N', z1, z2⟩ := bestD_l code hcd hb n (K - n - 120) [] a1 s1 (by omega) (by rw [List.length_nil]; omega) (fun x hx => by cases hx) (by omega) (by omega)
  rw [show K - n - 120 + n + 120 = K by omega] at z1
  unfold spec_DrawBestChoice.f
  rw [e1, Option.bind_some]
  exact ⟨s', N', z1, z2⟩

/-! ### The law of choices -/
theorem sameT_l (l : List (List UInt8)) (hl : l.length ≤ 1000) : ∀ (M pre : List (List UInt8)) (K : Nat), l = pre ++ M → M.length < K → laws_sameTexts.l0 K (l.map tx) (l.map tx) (l.length : Int) (pre.length : Int) = some true
  | M, pre, 0, _, hK => absurd hK (Nat.not_lt_zero _)
  | [], pre, K + 1, e, _ => by
    have hp : pre = l := by rw [e, List.append_nil]
    rw [← hp]
    unfold laws_sameTexts.l0
    rw [if_neg (Int.lt_irrefl _)]
  | x :: M, pre, K + 1, e, hK => by
    have hlen : (l.length : Int) = (pre.length : Int) + ((M.length : Int) + 1) := by rw [e]; exact lenP pre x M
    have hmap : (((l.map tx).length : Nat) : Int) = (l.length : Int) := by rw [List.length_map]
    obtain ⟨q1, q2, q3⟩ := pos_l pre.length M.length (by omega)
    have hr : rdOf ByteArray.empty (l.map tx) (pre.length : Int) = tx x := by rw [e]; exact rd_mid pre x M
    have e2 : (((pre ++ [x]).length : Nat) : Int) = (pre.length : Int) + 1 := by simp
    have ih := sameT_l l hl M (pre ++ [x]) K (by rw [e, List.append_assoc]; rfl) (Nat.lt_of_succ_lt_succ hK)
    have hlt : (pre.length : Int) < (l.length : Int) := by rw [hlen]; exact q1
    rw [e2] at ih
    unfold laws_sameTexts.l0
    rw [hmap, if_pos hlt, if_pos q2, if_pos hlt, if_pos hlt, hr, if_pos rfl, q3]
    exact ih
theorem sameT (K : Nat) (l : List (List UInt8)) (hl : l.length ≤ 1000) (hK : 1001 ≤ K) : laws_sameTexts.f K (l.map tx) (l.map tx) = some true := by
  have hmap : (((l.map tx).length : Nat) : Int) = (l.length : Int) := by rw [List.length_map]
  unfold laws_sameTexts.f
  rw [if_pos rfl, hmap]
  exact sameT_l l hl l [] K rfl (by omega)
theorem tail_snoc (r : List (List UInt8)) (y : List UInt8) : Lib.joinTail [44] (r ++ [y]) = Lib.joinTail [44] r ++ ([44] ++ y) := by simp [Lib.joinTail]
theorem join_snoc (l : List (List UInt8)) (y : List UInt8) (h : l ≠ []) : Lib.join (l ++ [y]) [44] = Lib.join l [44] ++ [44] ++ y := by
  cases l with
  | nil => exact absurd rfl h
  | cons x r => rw [List.cons_append, Lib.join_cons, Lib.join_cons, tail_snoc]; simp
theorem LO_lenS (s : List UInt8) (L : List (List UInt8)) (h : LO s = some L) : lenS L ≤ 301 := by
  unfold LO at h
  by_cases c : s.length ≤ 300 ∧ s.all prB = true
  · rw [if_pos c] at h
    have := lq_len s [] 0 L h
    rw [List.length_nil] at this
    omega
  · rw [if_neg c] at h; cases h
theorem lroom (a b : List UInt8) (ha : a.length ≤ 1000) (hb : b.length ≤ 1000) : (tx a).size + 1 ≤ 9223372036854775807 ∧ (tx (a ++ [44])).size + (tx b).size ≤ 9223372036854775807 ∧ (tx a).size + (tx b).size ≤ 9223372036854775807 := by
  rw [tx_size, tx_size, tx_size, List.length_append, List.length_singleton]; omega
theorem lenS_pre (pre M : List (List UInt8)) (T : List UInt8) (h : lenS (pre ++ T :: M) ≤ 301) : (Lib.join pre [44]).length ≤ 301 ∧ T.length ≤ 301 := by
  have a := join_lenS1 pre
  rw [lenS_app, lenS_cons] at h
  omega
theorem again_l (t : List UInt8) (L : List (List UInt8)) (hL : LO t = some L) : ∀ (M pre : List (List UInt8)) (K : Nat), L = pre ++ M → M.length + 2100 ≤ K → laws_FnChoices.l2 K (L.map tx) true (tx (Lib.join pre [44])) (L.map tx) (L.length : Int) (pre.length : Int) = some true
  | M, pre, 0, _, hK => absurd hK (by omega)
  | [], pre, K + 1, e, hK => by
    have hp : pre = L := by rw [e, List.append_nil]
    obtain ⟨a1, a2, a3, a4⟩ := LO_again t L hL
    rw [List.length_nil] at hK
    have hI := ListI K (Lib.join L [44]) (by omega) (by omega)
    rw [a1] at hI
    rw [hp]
    unfold laws_FnChoices.l2
    rw [if_neg (Int.lt_irrefl _), hI, Option.bind_some, if_pos rfl]
    show (if true = true then (laws_sameTexts.f K (L.map tx) (L.map tx)).bind fun t381 => some t381 else some false) = some true
    rw [if_pos rfl, sameT K L (by omega) (by omega), Option.bind_some]
  | x :: M, pre, K + 1, e, hK => by
    have hl : L.length ≤ 301 := (LO_again t L hL).2.2.2
    have hlen : (L.length : Int) = (pre.length : Int) + ((M.length : Int) + 1) := by rw [e]; exact lenP pre x M
    have hmap : (((L.map tx).length : Nat) : Int) = (L.length : Int) := by rw [List.length_map]
    obtain ⟨q1, q2, q3⟩ := pos_l pre.length M.length (by omega)
    have hr : rdOf ByteArray.empty (L.map tx) (pre.length : Int) = tx x := by rw [e]; exact rd_mid pre x M
    have e2 : (((pre ++ [x]).length : Nat) : Int) = (pre.length : Int) + 1 := by simp
    have ih := again_l t L hL M (pre ++ [x]) K (by rw [e, List.append_assoc]; rfl) (by rw [List.length_cons] at hK; omega)
    have hlt : (pre.length : Int) < (L.length : Int) := by rw [hlen]; exact q1
    have hS := LO_lenS t L hL
    rw [e] at hS
    obtain ⟨k1, k2⟩ := lenS_pre pre M x hS
    obtain ⟨g1, g2, g3⟩ := lroom (Lib.join pre [44]) x (by omega) (by omega)
    have t44 : (⟨#[44]⟩ : ByteArray) = tx [44] := rfl
    rw [e2] at ih
    unfold laws_FnChoices.l2
    rw [hmap, if_pos hlt, if_pos q2, if_pos hlt, hr, q3, t44]
    by_cases c : pre = []
    · have e3 : Lib.join pre [44] ++ x = Lib.join (pre ++ [x]) [44] := by rw [c, List.nil_append, Lib.join_one]; rfl
      rw [if_neg (by rw [c]; decide), if_pos g3, tx_app, e3]
      exact ih
    · have : 0 < pre.length := List.length_pos_iff.mpr c
      rw [if_pos (show (pre.length : Int) > 0 by omega), if_pos g1, tx_app, if_pos g2, tx_app, ← join_snoc pre x c]
      exact ih
theorem law_j3 (K : Nat) (hK : 4000 ≤ K) (more : List Int) (hcd : ∀ x ∈ more, 0 ≤ x ∧ x ≤ 255) (hb : more.length < 4611686018427387904) : laws_FnChoices.j3 K more = some true := by
  obtain ⟨m, rfl⟩ : ∃ m, K = m + 2 := ⟨K - 2, by omega⟩
  obtain ⟨t, e, ht⟩ := listD more hcd hb (m + 1) (by omega)
  unfold laws_FnChoices.j3
  dsimp only
  rw [e, Option.bind_some, ListI (m + 1) t (by omega) (by omega), Option.bind_some, ListS (m + 1) t (by omega) (by omega), Option.bind_some]
  cases hL : LO t with
  | none =>
    have hz : laws_sameTexts.f (m + 1) (lAns none).1 (lAns none).1 = some true := sameT (m + 1) [] (by decide) (by omega)
    rw [if_neg (show ¬ ((lAns none).2 != (lAns none).2) = true by decide), hz, Option.bind_some]
    obtain ⟨k, rfl⟩ : ∃ k, m = k + 1 := ⟨m - 1, by omega⟩
    have hI := ListI k [] (by decide) (by omega)
    unfold laws_FnChoices.j4
    dsimp only
    rw [if_neg (show ¬ (!true) = true by decide)]
    show laws_FnChoices.l2 (k + 1) ([] : List ByteArray) false (tx []) [] 0 0 = some true
    unfold laws_FnChoices.l2
    rw [if_neg (by decide), hI, Option.bind_some, if_neg (show ¬ false = true by decide)]
  | some L =>
    have hl : L.length ≤ 301 := (LO_again t L hL).2.2.2
    have hz : laws_sameTexts.f (m + 1) (lAns (some L)).1 (lAns (some L)).1 = some true := sameT (m + 1) L (by omega) (by omega)
    rw [if_neg (show ¬ ((lAns (some L)).2 != (lAns (some L)).2) = true from by show ¬ (true != true) = true; decide), hz, Option.bind_some]
    unfold laws_FnChoices.j4
    dsimp only
    rw [if_neg (show ¬ (!true) = true by decide)]
    have := again_l t L hL L [] m rfl (by omega)
    have hmap : (((L.map tx).length : Nat) : Int) = (L.length : Int) := by rw [List.length_map]
    show laws_FnChoices.l2 m (L.map tx) true (tx []) (L.map tx) ((L.map tx).length : Int) 0 = some true
    rw [hmap]
    exact this
theorem law_l1 (more : List Int) (s b : List UInt8) (hs : s.length ≤ 300) (N : List (List UInt8)) (hN : N.length ≤ 20) (hb : bAns (CO s) [b] = (tx b, true)) (hbt : tokL b = true ∧ b.length ≤ 1000) (hj : ∀ k, 4000 ≤ k → laws_FnChoices.j3 k more = some true) :
    ∀ (M pre : List (List UInt8)) (f : Bool) (K : Nat), N = pre ++ M → (f = true ∨ b ∈ M) → M.length + 4001 ≤ K → laws_FnChoices.l1 K more (tx s) (tx b) f (N.map tx) (N.length : Int) (pre.length : Int) = some true
  | M, pre, f, 0, _, _, hK => absurd hK (by omega)
  | [], pre, f, K + 1, e, hf, hK => by
    have hp : pre = N := by rw [e, List.append_nil]
    have ht : f = true := hf.resolve_right (fun h => by cases h)
    rw [List.length_nil] at hK
    have hI := BestI K s (by omega) [b] (fun n hn => by rw [List.mem_singleton.mp hn]; exact hbt) (by simp) (by omega)
    rw [hb] at hI
    have e1 : ([tx b] : List ByteArray) = [b].map tx := rfl
    rw [hp, ht]
    unfold laws_FnChoices.l1
    rw [if_neg (Int.lt_irrefl _), e1, hI, Option.bind_some, if_pos rfl]
    show (if true = true then (if (tx b).toList = (tx b).toList then laws_FnChoices.j3 K more else some false) else some false) = some true
    rw [if_pos rfl, if_pos rfl]
    exact hj K (by omega)
  | n :: M, pre, f, K + 1, e, hf, hK => by
    have hlen : (N.length : Int) = (pre.length : Int) + ((M.length : Int) + 1) := by rw [e]; exact lenP pre n M
    have hmap : (((N.map tx).length : Nat) : Int) = (N.length : Int) := by rw [List.length_map]
    obtain ⟨q1, q2, q3⟩ := pos_l pre.length M.length (by omega)
    have hr : rdOf ByteArray.empty (N.map tx) (pre.length : Int) = tx n := by rw [e]; exact rd_mid pre n M
    have e2 : (((pre ++ [n]).length : Nat) : Int) = (pre.length : Int) + 1 := by simp
    have ih := fun (g : Bool) (hg : g = true ∨ b ∈ M) => law_l1 more s b hs N hN hb hbt hj M (pre ++ [n]) g K (by rw [e, List.append_assoc]; rfl) hg (by rw [List.length_cons] at hK; omega)
    have hlt : (pre.length : Int) < (N.length : Int) := by rw [hlen]; exact q1
    rw [e2] at ih
    unfold laws_FnChoices.l1
    rw [hmap, if_pos hlt, if_pos q2, if_pos hlt, hr, q3]
    by_cases c : f = true
    · rw [if_pos c]
      exact ih true (Or.inl rfl)
    · rw [if_neg c]
      refine ih _ ?_
      rcases List.mem_cons.mp (hf.resolve_left c) with h | h
      · left; rw [h]; exact beq_self_eq_true _
      · exact Or.inr h
theorem law_l0 (more : List Int) (s : List UInt8) (Y : List ByteArray) (b : ByteArray) (f : Bool) (L : List S32) (hok : ∀ x ∈ L, okC x) (hL : L.length ≤ 20) (R : Option Bool) (B : Nat) (hend : ∀ k, B ≤ k → (if f = true then laws_FnChoices.l1 k more (tx s) b false Y (Y.length : Int) 0 else laws_FnChoices.j3 k more) = R) :
    ∀ (M pre : List S32) (K : Nat), L = pre ++ M → M.length + B + 1 ≤ K → laws_FnChoices.l0 K more (tx s) Y b f L L (L.length : Int) (pre.length : Int) = R
  | M, pre, 0, _, hK => absurd hK (by omega)
  | [], pre, K + 1, e, hK => by
    have hp : pre = L := by rw [e, List.append_nil]
    rw [List.length_nil] at hK
    rw [hp, ← hend K (by omega)]
    generalize hQ : (if f = true then laws_FnChoices.l1 K more (tx s) b false Y (Y.length : Int) 0 else laws_FnChoices.j3 K more) = Q
    unfold laws_FnChoices.l0
    rw [if_neg (Int.lt_irrefl _), hQ]
  | x :: M, pre, K + 1, e, hK => by
    have hlen : (L.length : Int) = (pre.length : Int) + ((M.length : Int) + 1) := by rw [e]; exact lenCh pre x M
    obtain ⟨q1, q2, q3⟩ := pos_l pre.length M.length (by omega)
    have hr : rd_T32 L (pre.length : Int) = x := by rw [e]; exact rdC_mid pre x M
    have e2 : (((pre ++ [x]).length : Nat) : Int) = (pre.length : Int) + 1 := by simp
    have ih := law_l0 more s Y b f L hok hL R B hend M (pre ++ [x]) K (by rw [e, List.append_assoc]; rfl) (by rw [List.length_cons] at hK; omega)
    have hlt : (pre.length : Int) < (L.length : Int) := by rw [hlen]; exact q1
    obtain ⟨o1, o2⟩ := hok x (by rw [e]; exact List.mem_append_right _ List.mem_cons_self)
    rw [e2] at ih
    generalize hR : R = Q at ih ⊢
    unfold laws_FnChoices.l0
    rw [if_pos hlt, if_pos q2, if_pos hlt, if_pos hlt, hr, beq_self_eq_true, beq_self_eq_true, if_neg (show ¬ ((!true) || (!true)) = true by decide), if_neg (show ¬ x.f1 < 0 by omega), if_neg (show ¬ x.f1 > 1000 by omega), q3]
    exact ih
theorem FnChoices : laws_FnChoices.Pure := by
  intro code more hlen hlen2 hwf hlen3 hlen4 hwf2
  have hc := bytes_of code hwf
  have hc2 := bytes_of more hwf2
  refine ⟨9000, ?_⟩
  unfold laws_FnChoices.f
  by_cases c : (wrap64 ((code.length : Int) + (more.length : Int))) > 1048576
  · rw [if_pos c]
  rw [if_neg c]
  obtain ⟨s, N, e, hs, hN, hN4⟩ := bestD code hc (by omega) 9000 (by decide)
  have hj : ∀ k, 4000 ≤ k → laws_FnChoices.j3 k more = some true := fun k hk => law_j3 k hk more hc2 (by omega)
  have hNt : ∀ n ∈ N, tokL n = true ∧ n.length ≤ 1000 := fun n hn => names_tok n (hN4 n hn)
  rw [e, Option.bind_some]
  dsimp only
  rw [BestI 9000 s (by omega) N hNt hN (by decide), Option.bind_some, BestS 9000 s (by omega) N hNt hN (by decide), Option.bind_some, ChoicesI 9000 s (by omega) (by decide), Option.bind_some, ChoicesS 9000 s (by omega) (by decide), Option.bind_some]
  have e1 : ((bAns (CO s) N).2 != (bAns (CO s) N).2) = false := bne_self_eq_false _
  have e2 : ((cAns (CO s)).2 != (cAns (CO s)).2) = false := bne_self_eq_false _
  have e3 : (((cAns (CO s)).1.length : Int) != ((cAns (CO s)).1.length : Int)) = false := bne_self_eq_false _
  rw [e1, if_neg (show ¬ false = true by decide), if_pos rfl, e2, if_neg (show ¬ false = true by decide), e3]
  unfold laws_FnChoices.j0
  dsimp only
  rw [if_neg (show ¬ false = true by decide)]
  have hL : (∀ x ∈ (cAns (CO s)).1, okC x) ∧ (cAns (CO s)).1.length ≤ 20 := by
    cases h : CO s with
    | none => exact ⟨fun x hx => (by cases hx), Nat.zero_le _⟩
    | some L => exact CO_ok s L h
  refine law_l0 more s (N.map tx) (bAns (CO s) N).1 (bAns (CO s) N).2 (cAns (CO s)).1 hL.1 hL.2 (some true) 5000 (fun k hk => ?_) (cAns (CO s)).1 [] 8999 rfl (by omega)
  by_cases hb : (bAns (CO s) N).2 = true
  · rw [if_pos hb]
    obtain ⟨b, hb1, hb2, hb3⟩ := best_alone (CO s) N hb
    have hmap : (((N.map tx).length : Nat) : Int) = (N.length : Int) := by rw [List.length_map]
    rw [hb2, hmap]
    exact law_l1 more s b hs N hN hb3 (hNt b hb1) hj N [] false k rfl (Or.inr hb1) (by omega)
  · rw [if_neg hb]
    exact hj k (by omega)

end Go.Proofs.YtjkpomphkfecmaaGreatDoor.Pure
