/- A drawn text comes back from within quotes and out of a list of two, and what is set among drawn fields is told, as the reference tells it, and all else stays, for all drawings of at most 1048576 bytes. -/
import Derived.Test.YtjkpomphkfecmaaDoorPFnQuotedx12
import Derived.Test.YtjkpomphkfecmaaDoorPFnQuotedx13
import Derived.Lib.VarintBits
set_option linter.unusedVariables false
set_option linter.unusedSimpArgs false
namespace Go.Proofs.YtjkpomphkfecmaaDoor.Pure
open Go.RowKit Go.Proofs.YtjkpomphkfecmaaDoor.PFnQuoted Go.Proofs.YtjkpomphkfecmaaDoorW.PrintWords Go.Proofs.YtjkpomphkfecmaaDoorW.PrintLast

/-! Whole numbers and rows of them -/
theorem w64 {x : Int} (h : -9223372036854775808 ≤ x) (h2 : x < 9223372036854775808) : wrap64 x = x := by unfold wrap64; omega
theorem rd_nat (l : List Int) (n : Nat) (h : n < l.length) : rd l (n : Int) = l[n] := by
  unfold rd; simp [List.getD_eq_getElem?_getD, h]
theorem succ_cast (n : Nat) : ((n : Int) + 1) = ((n + 1 : Nat) : Int) := by omega

theorem bytes_of (l : List Int) (h : ∀ x ∈ l, (Lit.int .u8 x).wf = true) : ∀ x ∈ l, 0 ≤ x ∧ x ≤ 255 := by
  intro x hx
  have := h x hx
  simp [Lit.wf, IntKind.min, IntKind.max, IntKind.bits, IntKind.signed] at this
  omega

/-! The first place at which a predicate holds -/
theorem idxO_ge {α : Type} (p : α → Option Bool) (l : List α) : ∀ (n i : Int), 0 ≤ n → idxO p l n = some i → i = -1 ∨ n ≤ i := by
  induction l with
  | nil => intro n i hn h; left; exact (Option.some.inj h).symm
  | cons x xs ih =>
    intro n i hn h
    obtain ⟨b, hb, h2⟩ := Option.bind_eq_some_iff.mp h
    cases b with
    | true => right; have := Option.some.inj h2; omega
    | false => have := ih (n + 1) i (by omega) h2; omega
theorem idxO_all {α : Type} (p : α → Option Bool) (q : α → Bool) (h : ∀ x, p x = some (!q x)) (l : List α) : ∀ (n : Int), 0 ≤ n → ∃ i, idxO p l n = some i ∧ (!decide (i ≥ 0)) = l.all q := by
  induction l with
  | nil => intro n hn; exact ⟨-1, rfl, rfl⟩
  | cons x xs ih =>
    intro n hn
    unfold idxO
    rw [h x, Option.bind_some]
    cases hq : q x with
    | true =>
      obtain ⟨i, h1, h2⟩ := ih (n + 1) (by omega)
      exact ⟨i, h1, by rw [h2, List.all_cons, hq, Bool.true_and]⟩
    | false => exact ⟨n, rfl, by rw [List.all_cons, hq, Bool.false_and, decide_eq_true (show n ≥ 0 from hn)]; rfl⟩

/-! The cursor that draws an argument out of bytes -/
theorem and255 (y : Int) (h0 : 0 ≤ y) (h1 : y < 18446744073709551616) : bits .and .u64 y 255 = y % 256 := bits_mask .u64 64 (by decide) wraps_u64 8 (by decide) y h0 h1
theorem and255_range (s : Int) : 0 ≤ bits .and .u64 ((IntKind.u64.wrap s) / 1099511627776) 255 ∧ bits .and .u64 ((IntKind.u64.wrap s) / 1099511627776) 255 ≤ 255 := by
  have h : IntKind.u64.wrap s = s % 18446744073709551616 := IntKind.wrap_u64 s
  rw [h, and255 _ (by omega) (by omega)]
  omega
theorem rd_byte (l : List Int) (hc : ∀ x ∈ l, 0 ≤ x ∧ x ≤ 255) (i : Int) (h0 : 0 ≤ i) (h1 : i < l.length) : 0 ≤ rd l i ∧ rd l i ≤ 255 := by
  obtain ⟨n, rfl⟩ : ∃ n : Nat, i = (n : Int) := ⟨i.toNat, by omega⟩
  rw [rd_nat l n (by omega)]
  exact hc _ (List.getElem_mem _)
theorem next_ok (code : List Int) (hc : ∀ x ∈ code, 0 ≤ x ∧ x ≤ 255) (hb : code.length < 4611686018427387904) (a s : Int) (h0 : 0 ≤ a) (h1 : a < 4611686018427387904) :
    ∃ b s', spec_l1Cur_next.f code a s = some (b, a + 1, s') ∧ 0 ≤ b ∧ b ≤ 255 := by
  have hw : wrap64 (a + 1) = a + 1 := w64 (by omega) (by omega)
  unfold spec_l1Cur_next.f
  rw [hw]
  by_cases c : a < (code.length : Int)
  · have hr := rd_byte code hc a h0 c
    rw [if_pos c, if_pos h0, if_pos (by omega)]
    exact ⟨_, _, rfl, by rw [w64 (by omega) (by omega)]; exact hr⟩
  · rw [if_neg c, if_neg (by omega)]
    refine ⟨_, _, rfl, ?_⟩
    have hr := and255_range ((IntKind.u64.wrap (IntKind.u64.wrap (s * 6364136223846793005))) + 1442695040888963407)
    rw [w64 (by omega) (by omega)]
    exact hr
theorem tmod_range (x n : Int) (h : 0 ≤ x) (hn : 0 < n) : 0 ≤ Int.tmod x n ∧ Int.tmod x n < n := ⟨Int.tmod_nonneg n h, Int.tmod_lt_of_pos x hn⟩
theorem pick_ok (code : List Int) (hc : ∀ x ∈ code, 0 ≤ x ∧ x ≤ 255) (hb : code.length < 4611686018427387904) (a s n : Int) (h0 : 0 ≤ a) (h1 : a < 4611686018427380000) :
    ∃ v a' s', spec_l1Cur_pick.f code a s n = some (v, a', s') ∧ 0 ≤ v ∧ (v < n ∨ v = 0) ∧ a ≤ a' ∧ a' ≤ a + 2 := by
  unfold spec_l1Cur_pick.f
  by_cases c : n ≤ 1
  · rw [if_pos c]
    exact ⟨0, a, s, rfl, by omega, by omega, by omega, by omega⟩
  · rw [if_neg c]
    obtain ⟨b, s1, e1, hb0, hb1⟩ := next_ok code hc hb a s h0 (by omega)
    rw [e1, Option.bind_some]
    by_cases c2 : n > 200
    · rw [if_pos c2]
      obtain ⟨b2, s2, e2, hb2, hb3⟩ := next_ok code hc hb (a + 1) s1 (by omega) (by omega)
      try dsimp only
      rw [e2, Option.bind_some, if_neg (by omega)]
      have hw1 : wrap64 (b * 256) = b * 256 := w64 (by omega) (by omega)
      have hw2 : wrap64 (b * 256 + b2) = b * 256 + b2 := w64 (by omega) (by omega)
      have hr := tmod_range (b * 256 + b2) n (by omega) (by omega)
      refine ⟨_, _, _, rfl, ?_⟩
      simp only [hw1, hw2]
      exact ⟨hr.1, Or.inl hr.2, by omega, by omega⟩
    · rw [if_neg c2, if_neg (by omega)]
      have hr := tmod_range b n (by omega) (by omega)
      refine ⟨_, _, _, rfl, hr.1, Or.inl hr.2, ?_, ?_⟩ <;> dsimp only <;> omega
theorem one_ok (code : List Int) (hc : ∀ x ∈ code, 0 ≤ x ∧ x ≤ 255) (hb : code.length < 4611686018427387904) (a s n : Int) (h0 : 0 ≤ a) (h1 : a < 4611686018427380000) :
    ∃ v a' s', spec_l1Cur_one.f code a s n = some (v, a', s') ∧ a ≤ a' ∧ a' ≤ a + 2 := by
  unfold spec_l1Cur_one.f
  obtain ⟨v, a', s', e, h⟩ := pick_ok code hc hb a s n h0 h1
  rw [e, Option.bind_some]
  exact ⟨_, _, _, rfl, h.2.2⟩

/-! One of some texts -/
theorem of_ok (code : List Int) (hc : ∀ x ∈ code, 0 ≤ x ∧ x ≤ 255) (hb : code.length < 4611686018427387904) (l : List ByteArray) (hl : 0 < l.length) (a s : Int) (h0 : 0 ≤ a) (h1 : a < 4611686018427380000) :
    ∃ v a' s', spec_l1Cur_of.f code a s l = some (v, a', s') ∧ v ∈ l ∧ a ≤ a' ∧ a' ≤ a + 2 := by
  unfold spec_l1Cur_of.f
  obtain ⟨v, a', s', e, h⟩ := pick_ok code hc hb a s (l.length : Int) h0 h1
  rw [e, Option.bind_some, if_pos h.1]
  have c : v < (l.length : Int) := by omega
  try dsimp only
  rw [if_pos c]
  refine ⟨_, _, _, rfl, ?_, h.2.2⟩
  unfold rdOf
  rw [List.getD_eq_getElem?_getD, List.getElem?_eq_getElem (show v.toNat < l.length by omega)]
  exact List.getElem_mem _

/-! Texts as lists of their bytes -/
abbrev emp : ByteArray := ⟨#[]⟩
def Byt (l : List Int) : Prop := ∀ x ∈ l, 0 ≤ x ∧ x ≤ 255
theorem son_cut (T : List Int) (a b : Nat) : (strOfNums T).extract a b = strOfNums ((T.drop a).take (b - a)) := by
  apply ByteArray.ext
  apply Array.toList_inj.mp
  simp [strOfNums, List.map_take, List.map_drop]
theorem son_app (a b : List Int) : strOfNums a ++ strOfNums b = strOfNums (a ++ b) := by
  apply ByteArray.ext
  simp [strOfNums]
theorem bt_son (T : List Int) (hb : Byt T) (i : Nat) (h : i < T.length) : bt (strOfNums T) (i : Int) = T[i] := by
  have hs : (strOfNums T).size = T.length := strOfNums_size T
  have h1 : ((i : Int)).toNat < (strOfNums T).size := by rw [hs]; omega
  unfold bt
  rw [dif_pos h1]
  have hx := hb _ (List.getElem_mem h)
  have e : (strOfNums T)[((i : Int)).toNat]'h1 = UInt8.ofNat (T[i]).toNat := by
    simp [strOfNums, ByteArray.getElem_eq_getElem_data]
  rw [e]
  have : (UInt8.ofNat (T[i]).toNat).toNat = (T[i]).toNat := by
    rw [UInt8.toNat_ofNat']; omega
  rw [this]; omega
theorem son_bytes (s : ByteArray) : strOfNums (bytesOf s) = s := by
  apply ByteArray.ext
  apply Array.toList_inj.mp
  simp [strOfNums, bytesOf]
  exact (List.map_congr_left (g := id) (fun b _ => by simp)).trans (List.map_id _)
theorem bytes_byt (s : ByteArray) : Byt (bytesOf s) := by
  intro x hx
  unfold bytesOf at hx
  obtain ⟨b, _, rfl⟩ := List.mem_map.mp hx
  have := b.toNat_lt
  omega
theorem bytes_son (T : List Int) (hb : Byt T) : bytesOf (strOfNums T) = T := by
  unfold bytesOf strOfNums
  apply List.ext_getElem
  · simp
  · intro i h1 h2
    have hx := hb _ (List.getElem_mem h2)
    simp
    omega
def escB (b : Int) : List Int := if b = 34 ∨ b = 92 then [92, b] else [b]
def esc : List Int → List Int
  | [] => []
  | b :: bs => escB b ++ esc bs
theorem esc_app (a b : List Int) : esc (a ++ b) = esc a ++ esc b := by
  induction a with
  | nil => rfl
  | cons x xs ih => show escB x ++ esc (xs ++ b) = _; rw [ih, ← List.append_assoc]; rfl
theorem esc_len (a : List Int) : (esc a).length ≤ 2 * a.length := by
  induction a with
  | nil => decide
  | cons x xs ih =>
    show (escB x ++ esc xs).length ≤ _
    rw [List.length_append, List.length_cons]
    have : (escB x).length ≤ 2 := by unfold escB; split <;> simp
    omega
theorem loop_eq (s : ByteArray) : ∀ (n i : Nat) (r : List UInt8), s.size - i = n → ByteArray.toList.loop s i r = r.reverse ++ s.data.toList.drop i
  | 0, i, r, h => by
    rw [ByteArray.toList.loop.eq_def, if_neg (by omega), List.drop_of_length_le (by rw [Array.length_toList]; have : s.data.size = s.size := rfl; omega), List.append_nil]
  | n + 1, i, r, h => by
    have hi : i < s.data.toList.length := by rw [Array.length_toList]; have : s.data.size = s.size := rfl; omega
    rw [ByteArray.toList.loop.eq_def, if_pos (by omega), loop_eq s n (i + 1) _ (by omega), List.reverse_cons, List.append_assoc, List.drop_eq_getElem_cons hi]
    have e : s.get! i = s.data.toList[i] := by
      have h2 : i < s.data.size := by rw [Array.length_toList] at hi; exact hi
      show s.data[i]! = _
      rw [getElem!_pos s.data i h2]
      rfl
    rw [e]; rfl
theorem toList_eq (s : ByteArray) : s.toList = s.data.toList := by
  unfold ByteArray.toList
  rw [loop_eq s _ 0 [] rfl]; rfl
theorem toList_inj (a b : ByteArray) (h : a.toList = b.toList) : a = b := by
  rw [toList_eq, toList_eq] at h
  exact ByteArray.ext (Array.toList_inj.mp h)
theorem son_ne (x : Int) (T : List Int) : ¬ (strOfNums (x :: T)).toList = ([] : List UInt8) := by
  rw [toList_eq]; simp [strOfNums]
/-- the byte at a place -/
theorem bt_pre (pre rest : List Int) (b : Int) (hb : Byt (pre ++ b :: rest)) : bt (strOfNums (pre ++ b :: rest)) (pre.length : Int) = b := by
  rw [bt_son _ hb pre.length (by simp)]
  simp
theorem size_pre (pre rest : List Int) : ((strOfNums (pre ++ rest)).size : Int) = ((pre.length + rest.length : Nat) : Int) := by rw [strOfNums_size, List.length_append]
def okB (x : Int) : Prop := 32 ≤ x ∧ x ≤ 126
def Prt (l : List Int) : Prop := ∀ x ∈ l, 32 ≤ x ∧ x ≤ 126
theorem Prt.byt {l : List Int} (h : Prt l) : Byt l := fun x hx => by have := h x hx; omega
theorem prt_z (x : Int) : xAll_u8_impl_isPrinted_1.z x = some (!(decide (32 ≤ x) && decide (x ≤ 126))) := by
  unfold xAll_u8_impl_isPrinted_1.z impl_isPrinted_1.f
  by_cases c : x ≥ 32
  · rw [if_pos c, Option.bind_some, decide_eq_true (show 32 ≤ x from c), Bool.true_and]
  · rw [if_neg c, Option.bind_some, decide_eq_false (show ¬ 32 ≤ x from c), Bool.false_and]
theorem printed_I (T : List Int) (hp : Prt T) (n : Int) (hl : (T.length : Int) ≤ n) (hs : T.length < 1000000) : impl_isPrinted.f (strOfNums T) n = some true := by
  unfold impl_isPrinted.f xBytes_impl_isPrinted_1.f xAll_u8_impl_isPrinted_1.f
  rw [strOfNums_size, if_pos hl, if_pos hs, bytes_son T hp.byt, if_pos (by omega)]
  obtain ⟨i, e, h⟩ := idxO_all xAll_u8_impl_isPrinted_1.z (fun x => decide (32 ≤ x) && decide (x ≤ 126)) prt_z T 0 (by decide)
  rw [e, Option.bind_some, h]
  have : (T.all fun x => decide (32 ≤ x) && decide (x ≤ 126)) = true := List.all_eq_true.mpr fun x hx => by
    have := hp x hx
    rw [decide_eq_true this.1, decide_eq_true this.2]; rfl
  rw [this]; rfl
theorem w_at (pre rest : List Int) (b : Int) (h : (pre ++ b :: rest).length ≤ 1000) : wrap64 ((pre.length : Int) + 1) = ((pre ++ [b]).length : Int) := by
  rw [List.length_append, List.length_cons] at h
  rw [w64 (by omega) (by omega), List.length_append]; rfl
theorem quoteI_l : ∀ (M pre acc : List Int) (K : Nat), Byt (pre ++ M) → (pre ++ M).length ≤ 1000 → acc.length ≤ 2 * pre.length + 1 → M.length < K → impl_QuoteOf.l0 K (strOfNums (pre ++ M)) acc (((pre ++ M).length : Nat) : Int) (pre.length : Int) = some (strOfNums (acc ++ esc M ++ [34]), true)
  | M, pre, acc, 0, _, _, _, h => absurd h (Nat.not_lt_zero _)
  | [], pre, acc, K + 1, hb, hl, ha, h => by
    unfold impl_QuoteOf.l0
    rw [List.append_nil] at *
    rw [if_neg (Int.lt_irrefl _), if_pos (by omega)]
    show _ = some (strOfNums (acc ++ [] ++ [34]), true)
    rw [List.append_nil]
  | b :: M, pre, acc, K + 1, hb, hl, ha, h => by
    have hlen : (pre ++ b :: M).length = pre.length + (M.length + 1) := by rw [List.length_append, List.length_cons]
    have hK : M.length < K := by rw [List.length_cons] at h; omega
    have e1 := bt_pre pre M b hb
    have hw := w_at pre M b hl
    have hre : pre ++ b :: M = (pre ++ [b]) ++ M := by rw [List.append_assoc]; rfl
    have hpl : (pre ++ [b]).length = pre.length + 1 := by rw [List.length_append]; rfl
    have ih := fun (acc' : List Int) (h' : acc'.length ≤ 2 * (pre ++ [b]).length + 1) => quoteI_l M (pre ++ [b]) acc' K (hre ▸ hb) (hre ▸ hl) h' hK
    rw [← hre] at ih
    have hlt : (pre.length : Int) < ((pre ++ b :: M).length : Int) := by omega
    have a1 : acc.length < 140737488355328 := by omega
    have a2 : (acc ++ [92]).length < 140737488355328 := by rw [List.length_append, List.length_singleton]; omega
    have hsz : (pre.length : Int) < ((strOfNums (pre ++ b :: M)).size : Int) := by rw [strOfNums_size]; exact hlt
    unfold impl_QuoteOf.l0
    rw [if_pos hlt, if_pos (by omega), if_pos hsz, e1, hw]
    have e3 : esc (b :: M) = escB b ++ esc M := rfl
    by_cases c1 : b = 34
    · rw [if_pos c1, if_pos a1, Option.bind_some, if_pos a2, ih (acc ++ [92] ++ [b]) (by simp only [List.length_append, List.length_singleton]; omega), e3]
      unfold escB
      rw [if_pos (Or.inl c1)]
      simp only [List.append_assoc, List.cons_append, List.nil_append]
    rw [if_neg c1]
    by_cases c2 : b = 92
    · rw [if_pos c2, if_pos a1, Option.bind_some, if_pos a2, ih (acc ++ [92] ++ [b]) (by simp only [List.length_append, List.length_singleton]; omega), e3]
      unfold escB
      rw [if_pos (Or.inr c2)]
      simp only [List.append_assoc, List.cons_append, List.nil_append]
    rw [if_neg c2, if_pos a1, ih (acc ++ [b]) (by simp only [List.length_append, List.length_singleton]; omega), e3]
    unfold escB
    rw [if_neg (fun z => z.elim c1 c2)]
    simp only [List.append_assoc, List.cons_append, List.nil_append]
theorem one_cut (pre M : List Int) (b : Int) (x : Int) (hx : x = ((pre ++ [b]).length : Int)) : (strOfNums (pre ++ b :: M)).extract ((pre.length : Int)).toNat x.toNat = strOfNums [b] := by
  subst hx
  rw [son_cut]
  have : ((pre ++ [b]).length : Int).toNat - (pre.length : Int).toNat = 1 := by rw [List.length_append, List.length_singleton]; omega
  rw [this, Int.toNat_natCast, List.drop_left]; rfl
theorem quoteS_l : ∀ (M pre acc : List Int) (K : Nat), Byt (pre ++ M) → (pre ++ M).length ≤ 1000 → acc.length ≤ 2 * pre.length + 1 → M.length < K → spec_QuoteOf.l0 K (strOfNums (pre ++ M)) (strOfNums acc) (pre.length : Int) = some (strOfNums (acc ++ esc M ++ [34]), true)
  | M, pre, acc, 0, _, _, _, h => absurd h (Nat.not_lt_zero _)
  | [], pre, acc, K + 1, hb, hl, ha, h => by
    unfold spec_QuoteOf.l0
    rw [List.append_nil] at *
    rw [strOfNums_size, if_neg (Int.lt_irrefl _), strOfNums_size, if_pos (by omega)]
    show some (strOfNums acc ++ strOfNums [34], true) = some (strOfNums (acc ++ [] ++ [34]), true)
    rw [List.append_nil, son_app]
  | b :: M, pre, acc, K + 1, hb, hl, ha, h => by
    have hlen : (pre ++ b :: M).length = pre.length + (M.length + 1) := by rw [List.length_append, List.length_cons]
    have hK : M.length < K := by rw [List.length_cons] at h; omega
    have e1 := bt_pre pre M b hb
    have hw := w_at pre M b hl
    have hre : pre ++ b :: M = (pre ++ [b]) ++ M := by rw [List.append_assoc]; rfl
    have hpl : (pre ++ [b]).length = pre.length + 1 := by rw [List.length_append]; rfl
    have ih := fun (acc' : List Int) (h' : acc'.length ≤ 2 * (pre ++ [b]).length + 1) => quoteS_l M (pre ++ [b]) acc' K (hre ▸ hb) (hre ▸ hl) h' hK
    rw [← hre] at ih
    have hlt : (pre.length : Int) < ((pre ++ b :: M).length : Int) := by omega
    have a1 : acc.length + 1 ≤ 9223372036854775807 := by omega
    have a2 : (acc ++ [92]).length + 1 ≤ 9223372036854775807 := by rw [List.length_append, List.length_singleton]; omega
    have q1 : (pre.length : Int) ≤ ((pre ++ [b]).length : Int) := by omega
    have q2 : ((pre ++ [b]).length : Int) ≤ ((pre ++ b :: M).length : Int) := by omega
    have hcut := one_cut pre M b _ rfl
    have f92 : strOfNums acc ++ (⟨#[92]⟩ : ByteArray) = strOfNums (acc ++ [92]) := son_app acc [92]
    unfold spec_QuoteOf.l0
    rw [strOfNums_size, if_pos hlt, if_pos (by omega), e1, hw, hcut, f92, strOfNums_size, strOfNums_size, strOfNums_size, List.length_singleton, son_app, son_app]
    have e3 : esc (b :: M) = escB b ++ esc M := rfl
    by_cases c1 : b = 34
    · rw [if_pos c1, if_pos a1, if_pos q1, if_pos q2, if_pos a2, ih (acc ++ [92] ++ [b]) (by simp only [List.length_append, List.length_singleton]; omega), e3]
      unfold escB
      rw [if_pos (Or.inl c1)]
      simp only [List.append_assoc, List.cons_append, List.nil_append]
    rw [if_neg c1]
    by_cases c2 : b = 92
    · rw [if_pos c2, if_pos a1, if_pos q1, if_pos q2, if_pos a2, ih (acc ++ [92] ++ [b]) (by simp only [List.length_append, List.length_singleton]; omega), e3]
      unfold escB
      rw [if_pos (Or.inr c2)]
      simp only [List.append_assoc, List.cons_append, List.nil_append]
    rw [if_neg c2, if_pos q1, if_pos q2, if_pos a1, ih (acc ++ [b]) (by simp only [List.length_append, List.length_singleton]; omega), e3]
    unfold escB
    rw [if_neg (fun z => z.elim c1 c2)]
    simp only [List.append_assoc, List.cons_append, List.nil_append]

/-! Back from within quotes, and out of a list -/
theorem printedS_l : ∀ (M pre : List Int) (K : Nat), Prt (pre ++ M) → (pre ++ M).length ≤ 1000 → M.length < K → spec_l3Printed.l0 K (strOfNums (pre ++ M)) (pre.length : Int) = some true
  | M, pre, 0, _, _, h => absurd h (Nat.not_lt_zero _)
  | [], pre, K + 1, hb, hl, h => by
    unfold spec_l3Printed.l0
    rw [List.append_nil] at *
    rw [strOfNums_size, if_neg (Int.lt_irrefl _)]
  | b :: M, pre, K + 1, hb, hl, h => by
    have hlen : (pre ++ b :: M).length = pre.length + (M.length + 1) := by rw [List.length_append, List.length_cons]
    have hK : M.length < K := by rw [List.length_cons] at h; omega
    have e1 := bt_pre pre M b hb.byt
    have hx := hb b (List.mem_append_right _ List.mem_cons_self)
    have hw := w_at pre M b hl
    have hre : pre ++ b :: M = (pre ++ [b]) ++ M := by rw [List.append_assoc]; rfl
    have ih := printedS_l M (pre ++ [b]) K (hre ▸ hb) (hre ▸ hl) hK
    rw [← hre] at ih
    unfold spec_l3Printed.l0
    rw [strOfNums_size, if_pos (by omega), if_pos (by omega), e1, if_neg (by omega), if_neg (by omega), hw]
    exact ih
theorem quoteI (L : List Int) (hp : Prt L) (hl : L.length ≤ 100) (K : Nat) (hK : 101 ≤ K) : impl_QuoteOf.f K (strOfNums L) = some (strOfNums (34 :: esc L ++ [34]), true) := by
  unfold impl_QuoteOf.f
  rw [printed_I L hp 100 (by omega) (by omega), Option.bind_some, if_pos rfl, strOfNums_size]
  exact quoteI_l L [] [34] K hp.byt (by simp; omega) (by decide) (by omega)
theorem quoteS (L : List Int) (hp : Prt L) (hl : L.length ≤ 100) (K : Nat) (hK : 102 ≤ K) : spec_QuoteOf.f K (strOfNums L) = some (strOfNums (34 :: esc L ++ [34]), true) := by
  unfold spec_QuoteOf.f
  have e : spec_l3Printed.f K (strOfNums L) = some true := printedS_l L [] K hp (by simp; omega) (by omega)
  obtain ⟨k, rfl⟩ : ∃ k, K = k + 1 := ⟨K - 1, by omega⟩
  rw [e, Option.bind_some, if_pos rfl, strOfNums_size, decide_eq_false (by omega)]
  unfold spec_QuoteOf.j0
  dsimp only
  rw [if_neg (show ¬ false = true by decide)]
  exact quoteS_l L [] [34] k hp.byt (by simp; omega) (by decide) (by omega)
theorem escB_prt (b : Int) (h : 32 ≤ b ∧ b ≤ 126) : Prt (escB b) := by
  unfold escB
  split
  · intro x hx
    simp only [List.mem_cons, List.not_mem_nil, or_false] at hx
    rcases hx with hx | hx <;> omega
  · intro x hx
    rw [List.mem_singleton.mp hx]; exact h
theorem esc_prt : ∀ (L : List Int), Prt L → Prt (esc L)
  | [], _ => fun x hx => absurd hx List.not_mem_nil
  | b :: bs, h => fun x hx => by
    rcases List.mem_append.mp (show x ∈ escB b ++ esc bs from hx) with hx | hx
    · exact escB_prt b (h b List.mem_cons_self) x hx
    · exact esc_prt bs (fun y hy => h y (List.mem_cons_of_mem _ hy)) x hx
theorem unq_l : ∀ (M pre acc : List Int) (K : Nat), Prt (pre ++ esc M) → (pre ++ esc M).length ≤ 1000 → acc.length ≤ 1000 → acc.length + M.length ≤ 1000 → M.length < K → impl_UnquoteOf.l0 K acc (strOfNums (pre ++ esc M)) (pre.length : Int) = ((impl_isPrinted.f (strOfNums (acc ++ M)) 100).bind fun t181 => (if t181 = true then (some (strOfNums (acc ++ M), true)) else (some ((⟨#[]⟩ : ByteArray), false))))
  | M, pre, acc, 0, _, _, _, _, h => absurd h (Nat.not_lt_zero _)
  | [], pre, acc, K + 1, hb, hl, ha, hs, h => by
    unfold impl_UnquoteOf.l0
    have e : esc [] = [] := rfl
    rw [e, List.append_nil] at *
    rw [strOfNums_size, if_neg (Int.lt_irrefl _), List.append_nil]
  | b :: M, pre, acc, K + 1, hb, hl, ha, hs, h => by
    have hK : M.length < K := by rw [List.length_cons] at h; omega
    have hs2 : acc.length + 1 + M.length ≤ 1000 := by rw [List.length_cons] at hs; omega
    have e3 : esc (b :: M) = escB b ++ esc M := rfl
    have ha2 : (acc ++ [b]).length = acc.length + 1 := by rw [List.length_append]; rfl
    have hacc : acc ++ b :: M = (acc ++ [b]) ++ M := by rw [List.append_assoc]; rfl
    rw [e3] at hb hl ⊢
    have a1 : acc.length < 140737488355328 := by omega
    by_cases c : b = 34 ∨ b = 92
    · have eb : escB b = [92, b] := by unfold escB; rw [if_pos c]
      rw [eb] at hb hl ⊢
      have r1 : pre ++ ([92, b] ++ esc M) = pre ++ 92 :: (b :: esc M) := rfl
      have r2 : pre ++ ([92, b] ++ esc M) = (pre ++ [92]) ++ b :: esc M := by rw [List.append_assoc]; rfl
      have r3 : pre ++ ([92, b] ++ esc M) = (pre ++ [92] ++ [b]) ++ esc M := by simp only [List.append_assoc]; rfl
      have b1 : bt (strOfNums (pre ++ ([92, b] ++ esc M))) (pre.length : Int) = 92 := bt_pre pre (b :: esc M) 92 hb.byt
      have b2 : bt (strOfNums (pre ++ ([92, b] ++ esc M))) ((pre ++ [92]).length : Int) = b := by
        have hbb := hb.byt
        rw [r2] at hbb ⊢
        exact bt_pre (pre ++ [92]) (esc M) b hbb
      have w1 : wrap64 ((pre.length : Int) + 1) = ((pre ++ [92]).length : Int) := w_at pre (b :: esc M) 92 hl
      have w2 : wrap64 (((pre ++ [92]).length : Int) + 1) = ((pre ++ [92] ++ [b]).length : Int) := w_at (pre ++ [92]) (esc M) b (r2 ▸ hl)
      have hlen : (pre ++ ([92, b] ++ esc M)).length = pre.length + 2 + (esc M).length := by simp only [List.length_append, List.length_cons, List.length_nil]; omega
      have hl1 : (pre ++ [92]).length = pre.length + 1 := by rw [List.length_append]; rfl
      have ih := unq_l M (pre ++ [92] ++ [b]) (acc ++ [b]) K (r3 ▸ hb) (r3 ▸ hl) (by omega) (by omega) hK
      rw [← r3, ← hacc] at ih
      unfold impl_UnquoteOf.l0
      rw [strOfNums_size, if_pos (by omega), if_pos (by omega), b1, if_neg (by decide), if_pos rfl, w1, if_neg (by omega), if_pos (by omega), if_pos (by omega), if_pos a1, b2, w2]
      exact ih
    · have eb : escB b = [b] := by unfold escB; rw [if_neg c]
      rw [eb] at hb hl ⊢
      have r3 : pre ++ ([b] ++ esc M) = (pre ++ [b]) ++ esc M := by rw [List.append_assoc]
      have b1 : bt (strOfNums (pre ++ ([b] ++ esc M))) (pre.length : Int) = b := bt_pre pre (esc M) b hb.byt
      have w1 : wrap64 ((pre.length : Int) + 1) = ((pre ++ [b]).length : Int) := w_at pre (esc M) b hl
      have hlen : (pre ++ ([b] ++ esc M)).length = pre.length + 1 + (esc M).length := by simp only [List.length_append, List.length_cons, List.length_nil]; omega
      have ih := unq_l M (pre ++ [b]) (acc ++ [b]) K (r3 ▸ hb) (r3 ▸ hl) (by omega) (by omega) hK
      rw [← r3, ← hacc] at ih
      unfold impl_UnquoteOf.l0
      rw [strOfNums_size, if_pos (by omega), if_pos (by omega), b1, if_neg (fun z => c (Or.inl z)), if_neg (fun z => c (Or.inr z)), if_pos a1, w1]
      exact ih
theorem unquote_ok (L : List Int) (hp : Prt L) (hl : L.length ≤ 100) (K : Nat) (hK : 110 ≤ K) : impl_UnquoteOf.f K (strOfNums (34 :: esc L ++ [34])) = some (strOfNums L, true) := by
  have he := esc_prt L hp
  have hel := esc_len L
  have hlen : (34 :: esc L ++ [34]).length = (esc L).length + 2 := by simp only [List.length_append, List.length_cons, List.length_nil]
  have hPrt : Prt (34 :: esc L ++ [34]) := fun x hx => by
    simp only [List.mem_append, List.mem_cons, List.not_mem_nil, or_false] at hx
    rcases hx with (hx | hx) | hx
    · omega
    · exact he x hx
    · omega
  have b0 : bt (strOfNums (34 :: esc L ++ [34])) 0 = 34 := bt_pre [] (esc L ++ [34]) 34 (show Byt ([] ++ 34 :: (esc L ++ [34])) from hPrt.byt)
  have bz : bt (strOfNums (34 :: esc L ++ [34])) (((34 :: esc L).length : Nat) : Int) = 34 := bt_pre (34 :: esc L) [] 34 hPrt.byt
  have w1 : wrap64 ((((34 :: esc L ++ [34]).length : Nat) : Int) - 1) = (((34 :: esc L).length : Nat) : Int) := by
    rw [hlen, List.length_cons, w64 (by omega) (by omega)]; omega
  have hcut : (strOfNums (34 :: esc L ++ [34])).extract 1 ((((34 :: esc L).length : Nat) : Int)).toNat = strOfNums (esc L) := by
    rw [son_cut, Int.toNat_natCast, List.length_cons, Nat.add_sub_cancel]
    show strOfNums ((esc L ++ [34]).take (esc L).length) = _
    rw [List.take_left]
  have hu := unq_l L [] [] (K - 1) (by simpa using he) (by simp; omega) (by decide) (by simp; omega) (by omega)
  simp only [List.nil_append, List.length_nil] at hu
  rw [printed_I L hp 100 (by omega) (by omega), Option.bind_some, if_pos rfl] at hu
  obtain ⟨k, rfl⟩ : ∃ k, K = k + 1 := ⟨K - 1, by omega⟩
  have hl2 : (34 :: esc L).length = (esc L).length + 1 := rfl
  unfold impl_UnquoteOf.f
  rw [strOfNums_size, if_neg (by omega), if_pos (by omega), b0, if_pos rfl, w1, if_pos (by omega), if_pos (by omega), bz]
  unfold impl_UnquoteOf.j0
  dsimp only
  rw [if_neg (by decide), strOfNums_size, w1, if_pos (by omega), if_pos (by omega), hcut]
  exact hu

/-! A list of two quoted texts -/
abbrev spc : ByteArray := ⟨#[32]⟩
theorem right_ok (Z : List Int) (a : Int) (hb : Byt (Z ++ [a])) (hl : Z.length ≤ 1000) (ha : a ≠ 32) (K : Nat) : strings_trimRightByte.f (K + 1) (strOfNums (Z ++ [a])) 32 = some (strOfNums (Z ++ [a])) := by
  have hlen : (Z ++ [a]).length = Z.length + 1 := by rw [List.length_append]; rfl
  have w : wrap64 ((((Z ++ [a]).length : Nat) : Int) - 1) = (Z.length : Int) := by rw [hlen, w64 (by omega) (by omega)]; omega
  unfold strings_trimRightByte.f strings_trimRightByte.l0
  rw [strOfNums_size, if_pos (by omega), w, if_pos (by omega), if_pos (by omega), bt_pre Z [] a hb, if_neg ha]
theorem left_ok (Z : List Int) (a : Int) (hb : Byt (a :: Z)) (ha : a ≠ 32) (K : Nat) : strings_trimLeftByte.l0 (K + 1) (strOfNums (a :: Z)) 32 = some (strOfNums (a :: Z)) := by
  have hlen : (a :: Z).length = Z.length + 1 := rfl
  have e : bt (strOfNums (a :: Z)) 0 = a := bt_pre [] Z a hb
  unfold strings_trimLeftByte.l0
  rw [strOfNums_size, if_pos (by omega), if_pos (by omega), e, if_neg ha]
theorem left_sp (Z : List Int) (a : Int) (hb : Byt (32 :: a :: Z)) (ha : a ≠ 32) (K : Nat) : strings_trimLeftByte.l0 (K + 2) (strOfNums (32 :: a :: Z)) 32 = some (strOfNums (a :: Z)) := by
  have hlen : (32 :: a :: Z).length = Z.length + 2 := rfl
  have e : bt (strOfNums (32 :: a :: Z)) 0 = 32 := bt_pre [] (a :: Z) 32 hb
  have hcut : (strOfNums (32 :: a :: Z)).extract 1 (32 :: a :: Z).length = strOfNums (a :: Z) := by
    rw [son_cut]
    show strOfNums ((a :: Z).take ((32 :: a :: Z).length - 1)) = _
    rw [List.take_of_length_le (by rw [hlen, List.length_cons]; omega)]
  rw [show K + 2 = (K + 1) + 1 from rfl]
  unfold strings_trimLeftByte.l0
  rw [strOfNums_size, if_pos (by omega), if_pos (by omega), e, if_pos rfl, if_pos (by omega), hcut]
  exact left_ok Z a (fun x hx => hb x (List.mem_cons_of_mem _ hx)) ha K
theorem spc_ne : (spc.toList == ([] : List UInt8)) = false := by decide +kernel
theorem trim_of (z t : ByteArray) (hz : ¬ z.toList = ([] : List UInt8)) (K : Nat) (h1 : strings_trimRightByte.f (K + 2) z 32 = some z) (h2 : strings_trimLeftByte.l0 (K + 2) z 32 = some t) : strings_Trim.f (K + 4) z spc = some t := by
  have b : bt spc 0 = 32 := by decide +kernel
  unfold strings_Trim.f
  rw [if_neg hz, spc_ne, show K + 4 = (K + 2) + 1 + 1 from rfl]
  unfold strings_Trim.j0
  dsimp only
  rw [if_neg (show ¬ false = true by decide), if_pos (by decide), if_pos (by decide), b, decide_eq_true (by decide)]
  unfold strings_Trim.j1
  dsimp only
  rw [if_pos rfl, if_pos (by decide), b, h1, Option.bind_some]
  have h3 : strings_trimLeftByte.f (K + 2) z 32 = some t := h2
  rw [h3]; rfl
section
variable (out : List ByteArray) (bg : Int)
theorem at_pre (pre rest : List Int) (b : Int) (h : (pre ++ b :: rest).length ≤ 1000) : (pre.length : Int) ≤ (((pre ++ b :: rest).length : Nat) : Int) ∧ ¬ (pre.length : Int) = (((pre ++ b :: rest).length : Nat) : Int) ∧ 0 ≤ (pre.length : Int) ∧ (pre.length : Int) < (((pre ++ b :: rest).length : Nat) : Int) := by
  rw [List.length_append, List.length_cons] at *; omega
theorem stepQ (pre rest : List Int) (hb : Byt (pre ++ 34 :: rest)) (h : (pre ++ 34 :: rest).length ≤ 1000) (q : Bool) (k : Nat) : impl_listOf.l0 (k + 2) (strOfNums (pre ++ 34 :: rest)) out bg q (pre.length : Int) = impl_listOf.l0 k (strOfNums (pre ++ 34 :: rest)) out bg (!q) ((pre ++ [34]).length : Int) := by
  obtain ⟨q1, q2, q3, q4⟩ := at_pre pre rest 34 h
  have e := bt_pre pre rest 34 hb
  have w := w_at pre rest 34 h
  rw [show k + 2 = k + 1 + 1 from rfl]
  conv => lhs; unfold impl_listOf.l0
  rw [strOfNums_size, if_pos q1, if_neg q2, if_pos q3, if_pos q4, e, if_neg (by decide)]
  conv => lhs; unfold impl_listOf.j1
  try dsimp only
  rw [if_neg (show ¬ false = true by decide), strOfNums_size, if_pos q3, if_pos q4, e, if_pos rfl, w]
theorem stepIn (pre rest : List Int) (b : Int) (hb : Byt (pre ++ b :: rest)) (h : (pre ++ b :: rest).length ≤ 1000) (h34 : ¬ b = 34) (h92 : ¬ b = 92) (k : Nat) : impl_listOf.l0 (k + 3) (strOfNums (pre ++ b :: rest)) out bg true (pre.length : Int) = impl_listOf.l0 k (strOfNums (pre ++ b :: rest)) out bg true ((pre ++ [b]).length : Int) := by
  obtain ⟨q1, q2, q3, q4⟩ := at_pre pre rest b h
  have e := bt_pre pre rest b hb
  have w := w_at pre rest b h
  rw [show k + 3 = k + 1 + 1 + 1 from rfl]
  conv => lhs; unfold impl_listOf.l0
  rw [strOfNums_size, if_pos q1, if_neg q2, if_pos q3, if_pos q4, e]
  have e2 : (if b = 44 then impl_listOf.j1 (k + 1 + 1) (strOfNums (pre ++ b :: rest)) out bg true (pre.length : Int) (!true) else impl_listOf.j1 (k + 1 + 1) (strOfNums (pre ++ b :: rest)) out bg true (pre.length : Int) false) = impl_listOf.j1 (k + 1 + 1) (strOfNums (pre ++ b :: rest)) out bg true (pre.length : Int) false := by
    by_cases c : b = 44
    · rw [if_pos c]; rfl
    · rw [if_neg c]
  rw [e2]
  conv => lhs; unfold impl_listOf.j1
  try dsimp only
  rw [if_neg (show ¬ false = true by decide), strOfNums_size, if_pos q3, if_pos q4, e, if_neg h34, if_neg h92]
  conv => lhs; unfold impl_listOf.j2
  try dsimp only
  rw [if_neg (show ¬ false = true by decide), w]
theorem stepSp (pre rest : List Int) (hb : Byt (pre ++ 32 :: rest)) (h : (pre ++ 32 :: rest).length ≤ 1000) (k : Nat) : impl_listOf.l0 (k + 3) (strOfNums (pre ++ 32 :: rest)) out bg false (pre.length : Int) = impl_listOf.l0 k (strOfNums (pre ++ 32 :: rest)) out bg false ((pre ++ [32]).length : Int) := by
  obtain ⟨q1, q2, q3, q4⟩ := at_pre pre rest 32 h
  have e := bt_pre pre rest 32 hb
  have w := w_at pre rest 32 h
  rw [show k + 3 = k + 1 + 1 + 1 from rfl]
  conv => lhs; unfold impl_listOf.l0
  rw [strOfNums_size, if_pos q1, if_neg q2, if_pos q3, if_pos q4, e, if_neg (by decide)]
  conv => lhs; unfold impl_listOf.j1
  try dsimp only
  rw [if_neg (show ¬ false = true by decide), strOfNums_size, if_pos q3, if_pos q4, e, if_neg (by decide), if_neg (by decide)]
  conv => lhs; unfold impl_listOf.j2
  try dsimp only
  rw [if_neg (show ¬ false = true by decide), w]
theorem stepEsc (pre rest : List Int) (c : Int) (hb : Byt (pre ++ 92 :: c :: rest)) (h : (pre ++ 92 :: c :: rest).length ≤ 1000) (hne : rest ≠ []) (k : Nat) : impl_listOf.l0 (k + 3) (strOfNums (pre ++ 92 :: c :: rest)) out bg true (pre.length : Int) = impl_listOf.l0 k (strOfNums (pre ++ 92 :: c :: rest)) out bg true ((pre ++ [92] ++ [c]).length : Int) := by
  obtain ⟨q1, q2, q3, q4⟩ := at_pre pre (c :: rest) 92 h
  have e := bt_pre pre (c :: rest) 92 hb
  have w := w_at pre (c :: rest) 92 h
  have r2 : pre ++ 92 :: c :: rest = (pre ++ [92]) ++ c :: rest := by rw [List.append_assoc]; rfl
  have w2 := w_at (pre ++ [92]) rest c (r2 ▸ h)
  obtain ⟨_, p2, _, _⟩ := at_pre (pre ++ [92]) rest c (r2 ▸ h)
  rw [← r2] at p2
  rw [show k + 3 = k + 1 + 1 + 1 from rfl]
  conv => lhs; unfold impl_listOf.l0
  rw [strOfNums_size, if_pos q1, if_neg q2, if_pos q3, if_pos q4, e, if_neg (by decide)]
  conv => lhs; unfold impl_listOf.j1
  try dsimp only
  rw [if_neg (show ¬ false = true by decide), strOfNums_size, if_pos q3, if_pos q4, e, if_neg (by decide), if_pos rfl]
  conv => lhs; unfold impl_listOf.j2
  try dsimp only
  rw [if_pos rfl, strOfNums_size, w, if_neg p2, w2]
theorem inQ : ∀ (M pre tail : List Int) (k : Nat), Prt M → Byt (pre ++ (esc M ++ tail)) → (pre ++ (esc M ++ tail)).length ≤ 1000 → tail ≠ [] → impl_listOf.l0 (k + 3 * M.length) (strOfNums (pre ++ (esc M ++ tail))) out bg true (pre.length : Int) = impl_listOf.l0 k (strOfNums (pre ++ (esc M ++ tail))) out bg true ((pre ++ esc M).length : Int)
  | [], pre, tail, k, _, _, _, _ => by
    have e : esc [] = [] := rfl
    rw [e, List.append_nil]; rfl
  | b :: M, pre, tail, k, hp, hb, hl, ht => by
    have e3 : esc (b :: M) = escB b ++ esc M := rfl
    have hpM : Prt M := fun x hx => hp x (List.mem_cons_of_mem _ hx)
    rw [e3] at hb hl ⊢
    rw [show k + 3 * (b :: M).length = (k + 3 * M.length) + 3 by rw [List.length_cons]; omega]
    by_cases c : b = 34 ∨ b = 92
    · have eb : escB b = [92, b] := by unfold escB; rw [if_pos c]
      rw [eb] at hb hl ⊢
      have r1 : pre ++ ([92, b] ++ esc M ++ tail) = pre ++ 92 :: b :: (esc M ++ tail) := rfl
      have r3 : pre ++ ([92, b] ++ esc M ++ tail) = (pre ++ [92] ++ [b]) ++ (esc M ++ tail) := by simp only [List.append_assoc]; rfl
      have r4 : pre ++ ([92, b] ++ esc M) = (pre ++ [92] ++ [b]) ++ esc M := by simp only [List.append_assoc]; rfl
      have hne : esc M ++ tail ≠ [] := fun z => ht (List.append_eq_nil_iff.mp z).2
      have s := stepEsc out bg pre (esc M ++ tail) b (r1 ▸ hb) (r1 ▸ hl) hne (k + 3 * M.length)
      rw [← r1] at s
      have ih := inQ M (pre ++ [92] ++ [b]) tail k hpM (r3 ▸ hb) (r3 ▸ hl) ht
      rw [← r3, ← r4] at ih
      rw [s, ih]
    · have eb : escB b = [b] := by unfold escB; rw [if_neg c]
      rw [eb] at hb hl ⊢
      have r1 : pre ++ ([b] ++ esc M ++ tail) = pre ++ b :: (esc M ++ tail) := rfl
      have r3 : pre ++ ([b] ++ esc M ++ tail) = (pre ++ [b]) ++ (esc M ++ tail) := by simp only [List.append_assoc]
      have r4 : pre ++ ([b] ++ esc M) = (pre ++ [b]) ++ esc M := by simp only [List.append_assoc]
      have s := stepIn out bg pre (esc M ++ tail) b (r1 ▸ hb) (r1 ▸ hl) (fun z => c (Or.inl z)) (fun z => c (Or.inr z)) (k + 3 * M.length)
      rw [← r1] at s
      have ih := inQ M (pre ++ [b]) tail k hpM (r3 ▸ hb) (r3 ▸ hl) ht
      rw [← r3, ← r4] at ih
      rw [s, ih]
theorem stepComma (pre rest : List Int) (B : Nat) (t : ByteArray) (hb : Byt (pre ++ 44 :: rest)) (h : (pre ++ 44 :: rest).length ≤ 1000) (hB : B ≤ pre.length) (k : Nat) (ho : out.length ≤ 100)
    (htr : strings_Trim.f k ((strOfNums (pre ++ 44 :: rest)).extract B pre.length) spc = some t) (hne : ¬ t.toList = ([] : List UInt8)) :
    impl_listOf.l0 (k + 2) (strOfNums (pre ++ 44 :: rest)) out (B : Int) false (pre.length : Int) = impl_listOf.l0 k (strOfNums (pre ++ 44 :: rest)) (out ++ [t]) ((pre ++ [44]).length : Int) false ((pre ++ [44]).length : Int) := by
  obtain ⟨q1, q2, q3, q4⟩ := at_pre pre rest 44 h
  have e := bt_pre pre rest 44 hb
  have w := w_at pre rest 44 h
  rw [show k + 2 = k + 1 + 1 from rfl]
  conv => lhs; unfold impl_listOf.l0
  rw [strOfNums_size, if_pos q1, if_neg q2, if_pos q3, if_pos q4, e, if_pos rfl]
  conv => lhs; unfold impl_listOf.j1
  try dsimp only
  have hx : (strOfNums (pre ++ 44 :: rest)).extract ((B : Int)).toNat ((pre.length : Int)).toNat = (strOfNums (pre ++ 44 :: rest)).extract B pre.length := rfl
  rw [if_pos (show (!false) = true by decide), strOfNums_size, if_pos (by omega), if_pos (by omega), if_pos q1, hx, htr, Option.bind_some, if_neg hne, if_pos (by omega), w]
theorem stepEnd (T : List Int) (B : Nat) (t : ByteArray) (h : T.length ≤ 1000) (hB : B ≤ T.length) (k : Nat) (ho : out.length ≤ 100)
    (htr : strings_Trim.f (k + 1) ((strOfNums T).extract B T.length) spc = some t) (hne : ¬ t.toList = ([] : List UInt8)) :
    impl_listOf.l0 (k + 3) (strOfNums T) out (B : Int) false (T.length : Int) = some (out ++ [t], true) := by
  have w : wrap64 ((T.length : Int) + 1) = (T.length : Int) + 1 := w64 (by omega) (by omega)
  rw [show k + 3 = k + 1 + 1 + 1 from rfl]
  conv => lhs; unfold impl_listOf.l0
  rw [strOfNums_size, if_pos (Int.le_refl _), if_pos rfl]
  conv => lhs; unfold impl_listOf.j1
  try dsimp only
  have hx : (strOfNums T).extract ((B : Int)).toNat ((T.length : Int)).toNat = (strOfNums T).extract B T.length := rfl
  rw [if_pos rfl, strOfNums_size, if_pos (by omega), if_pos (by omega), if_pos (Int.le_refl _), hx, htr, Option.bind_some, if_neg hne, if_pos (by omega), w]
  conv => lhs; unfold impl_listOf.l0
  rw [strOfNums_size, if_neg (by omega)]
  rfl
end

/-! The list of two quoted texts, whole -/
theorem quoted_prt (E : List Int) (he : Prt E) : Prt (34 :: E ++ [34]) := fun x hx => by
  simp only [List.mem_append, List.mem_cons, List.not_mem_nil, or_false] at hx
  rcases hx with (hx | hx) | hx
  · omega
  · exact he x hx
  · omega
theorem cut_mid (a b c : List Int) : (strOfNums (a ++ (b ++ c))).extract a.length (a ++ b).length = strOfNums b := by
  rw [son_cut, List.drop_left, List.length_append, Nat.add_sub_cancel_left, List.take_left]
theorem trim_q (E : List Int) (he : Prt E) (hl : E.length ≤ 500) (K : Nat) : strings_Trim.f (K + 4) (strOfNums (34 :: E ++ [34])) spc = some (strOfNums (34 :: E ++ [34])) := by
  have hp := quoted_prt E he
  refine trim_of _ _ (son_ne 34 (E ++ [34])) K ?_ ?_
  · exact right_ok (34 :: E) 34 hp.byt (by rw [List.length_cons]; omega) (by decide) (K + 1)
  · exact left_ok (E ++ [34]) 34 (show Byt (34 :: (E ++ [34])) from hp.byt) (by decide) (K + 1)
theorem trim_sq (E : List Int) (he : Prt E) (hl : E.length ≤ 500) (K : Nat) : strings_Trim.f (K + 4) (strOfNums (32 :: 34 :: E ++ [34])) spc = some (strOfNums (34 :: E ++ [34])) := by
  have hp := quoted_prt E he
  have hp2 : Prt (32 :: 34 :: E ++ [34]) := fun x hx => by
    rcases List.mem_cons.mp (show x ∈ 32 :: (34 :: E ++ [34]) from hx) with hx | hx
    · omega
    · exact hp x hx
  refine trim_of _ _ (son_ne 32 (34 :: E ++ [34])) K ?_ ?_
  · exact right_ok (32 :: 34 :: E) 34 hp2.byt (by simp only [List.length_cons]; omega) (by decide) (K + 1)
  · exact left_sp (E ++ [34]) 34 (show Byt (32 :: 34 :: (E ++ [34])) from hp2.byt) (by decide) K
theorem two_ok (M : List Int) (hM : Prt M) (hl : M.length ≤ 100) (K : Nat) (hK : 700 ≤ K) :
    impl_listOf.f K (strOfNums ((34 :: esc M ++ [34]) ++ ([44, 32] ++ (34 :: esc M ++ [34])))) = some ([strOfNums (34 :: esc M ++ [34]), strOfNums (34 :: esc M ++ [34])], true) := by
  have he := esc_prt M hM
  have hel := esc_len M
  obtain ⟨k, rfl⟩ : ∃ k, K = ((((((((((k + 3) + 3) + 2) + 3 * M.length) + 2) + 3) + 2) + 2) + 3 * M.length) + 2) := ⟨K - 6 * M.length - 19, by omega⟩
  have hQ := quoted_prt (esc M) he
  generalize hE : esc M = E at *
  have hT : Prt ((34 :: E ++ [34]) ++ ([44, 32] ++ (34 :: E ++ [34]))) := fun x hx => by
    rcases List.mem_append.mp hx with hx | hx
    · exact hQ x hx
    · rcases List.mem_append.mp hx with hx | hx
      · simp only [List.mem_cons, List.not_mem_nil, or_false] at hx; omega
      · exact hQ x hx
  have hlen : ((34 :: E ++ [34]) ++ ([44, 32] ++ (34 :: E ++ [34]))).length ≤ 1000 := by simp only [List.length_append, List.length_cons, List.length_nil]; omega
  -- the ways in which the text is cut
  have t1 : (34 :: E ++ [34]) ++ ([44, 32] ++ (34 :: E ++ [34])) = [] ++ 34 :: (E ++ ([34, 44, 32, 34] ++ (E ++ [34]))) := by simp only [List.append_assoc, List.cons_append, List.nil_append]
  have t2 : (34 :: E ++ [34]) ++ ([44, 32] ++ (34 :: E ++ [34])) = [34] ++ (E ++ ([34, 44, 32, 34] ++ (E ++ [34]))) := by simp only [List.append_assoc, List.cons_append, List.nil_append]
  have t3 : (34 :: E ++ [34]) ++ ([44, 32] ++ (34 :: E ++ [34])) = ([34] ++ E) ++ 34 :: ([44, 32, 34] ++ (E ++ [34])) := by simp only [List.append_assoc, List.cons_append, List.nil_append]
  have t4 : (34 :: E ++ [34]) ++ ([44, 32] ++ (34 :: E ++ [34])) = ([34] ++ E ++ [34]) ++ 44 :: ([32, 34] ++ (E ++ [34])) := by simp only [List.append_assoc, List.cons_append, List.nil_append]
  have t5 : (34 :: E ++ [34]) ++ ([44, 32] ++ (34 :: E ++ [34])) = ([34] ++ E ++ [34] ++ [44]) ++ 32 :: ([34] ++ (E ++ [34])) := by simp only [List.append_assoc, List.cons_append, List.nil_append]
  have t6 : (34 :: E ++ [34]) ++ ([44, 32] ++ (34 :: E ++ [34])) = ([34] ++ E ++ [34] ++ [44] ++ [32]) ++ 34 :: (E ++ [34]) := by simp only [List.append_assoc, List.cons_append, List.nil_append]
  have t7 : (34 :: E ++ [34]) ++ ([44, 32] ++ (34 :: E ++ [34])) = ([34] ++ E ++ [34] ++ [44] ++ [32] ++ [34]) ++ (E ++ [34]) := by simp only [List.append_assoc, List.cons_append, List.nil_append]
  have t8 : (34 :: E ++ [34]) ++ ([44, 32] ++ (34 :: E ++ [34])) = ([34] ++ E ++ [34] ++ [44] ++ [32] ++ [34] ++ E) ++ 34 :: [] := by simp only [List.append_assoc, List.cons_append, List.nil_append]
  have t9 : (34 :: E ++ [34]) ++ ([44, 32] ++ (34 :: E ++ [34])) = ([34] ++ E ++ [34] ++ [44]) ++ ((32 :: 34 :: E ++ [34]) ++ []) := by simp only [List.append_assoc, List.cons_append, List.nil_append]
  have t0 : (34 :: E ++ [34]) ++ ([44, 32] ++ (34 :: E ++ [34])) = [] ++ ((34 :: E ++ [34]) ++ ([44, 32, 34] ++ (E ++ [34]))) := by simp only [List.append_assoc, List.cons_append, List.nil_append]
  generalize hTT : (34 :: E ++ [34]) ++ ([44, 32] ++ (34 :: E ++ [34])) = T at *
  have hB := hT.byt
  have s1 := stepQ [] ((0 : Nat) : Int) [] (E ++ ([34, 44, 32, 34] ++ (E ++ [34]))) (t1 ▸ hB) (t1 ▸ hlen) false ((((((((((k + 3) + 3) + 2) + 3 * M.length) + 2) + 3) + 2) + 2) + 3 * M.length))
  rw [← t1] at s1
  have s2 := inQ [] ((0 : Nat) : Int) M [34] ([34, 44, 32, 34] ++ (E ++ [34])) (((((((((k + 3) + 3) + 2) + 3 * M.length) + 2) + 3) + 2) + 2)) hM (by rw [hE]; exact t2 ▸ hB) (by rw [hE]; exact t2 ▸ hlen) (by simp)
  rw [hE, ← t2] at s2
  have s3 := stepQ [] ((0 : Nat) : Int) ([34] ++ E) ([44, 32, 34] ++ (E ++ [34])) (t3 ▸ hB) (t3 ▸ hlen) true ((((((((k + 3) + 3) + 2) + 3 * M.length) + 2) + 3) + 2))
  rw [← t3] at s3
  have c4 : (strOfNums T).extract 0 ([34] ++ E ++ [34]).length = strOfNums (34 :: E ++ [34]) := by
    have z := cut_mid [] (34 :: E ++ [34]) ([44, 32, 34] ++ (E ++ [34]))
    rw [← t0] at z
    exact z
  have s4 := stepComma [] ([34] ++ E ++ [34]) ([32, 34] ++ (E ++ [34])) 0 (strOfNums (34 :: E ++ [34])) (t4 ▸ hB) (t4 ▸ hlen) (Nat.zero_le _) (((((((k + 3) + 3) + 2) + 3 * M.length) + 2) + 3)) (by decide) (by
    rw [← t4, c4]
    rw [show (k + 3 + 3 + 2 + 3 * M.length + 2 + 3) = (k + 3 + 3 + 2 + 3 * M.length + 1) + 4 from rfl]
    exact trim_q E he (by omega) _) (son_ne 34 (E ++ [34]))
  rw [← t4] at s4
  have s5 := stepSp [strOfNums (34 :: E ++ [34])] (([34] ++ E ++ [34] ++ [44]).length : Int) ([34] ++ E ++ [34] ++ [44]) ([34] ++ (E ++ [34])) (t5 ▸ hB) (t5 ▸ hlen) ((((((k + 3) + 3) + 2) + 3 * M.length) + 2))
  rw [← t5] at s5
  have s6 := stepQ [strOfNums (34 :: E ++ [34])] (([34] ++ E ++ [34] ++ [44]).length : Int) ([34] ++ E ++ [34] ++ [44] ++ [32]) (E ++ [34]) (t6 ▸ hB) (t6 ▸ hlen) false (((((k + 3) + 3) + 2) + 3 * M.length))
  rw [← t6] at s6
  have s7 := inQ [strOfNums (34 :: E ++ [34])] (([34] ++ E ++ [34] ++ [44]).length : Int) M ([34] ++ E ++ [34] ++ [44] ++ [32] ++ [34]) [34] ((((k + 3) + 3) + 2)) hM (by rw [hE]; exact t7 ▸ hB) (by rw [hE]; exact t7 ▸ hlen) (by simp)
  rw [hE, ← t7] at s7
  have s8 := stepQ [strOfNums (34 :: E ++ [34])] (([34] ++ E ++ [34] ++ [44]).length : Int) ([34] ++ E ++ [34] ++ [44] ++ [32] ++ [34] ++ E) [] (t8 ▸ hB) (t8 ▸ hlen) true ((k + 3) + 3)
  rw [← t8] at s8
  have hTl : ([34] ++ E ++ [34] ++ [44] ++ [32] ++ [34] ++ E ++ [34]) = T := by rw [t8]
  have c9 : (strOfNums T).extract ([34] ++ E ++ [34] ++ [44]).length T.length = strOfNums (32 :: 34 :: E ++ [34]) := by
    have z := cut_mid ([34] ++ E ++ [34] ++ [44]) (32 :: 34 :: E ++ [34]) []
    rw [← t9] at z
    rw [← z]
    congr 1
    rw [t9]; simp
  have s9 := stepEnd [strOfNums (34 :: E ++ [34])] T ([34] ++ E ++ [34] ++ [44]).length (strOfNums (34 :: E ++ [34])) hlen (by rw [t9]; simp) (k + 3) (by simp) (by
    rw [c9]
    exact trim_sq E he (by omega) k) (son_ne 34 (E ++ [34]))
  rw [Bool.not_false, List.nil_append] at s1
  rw [Bool.not_true] at s3
  rw [List.nil_append] at s4
  rw [Bool.not_false] at s6
  rw [Bool.not_true] at s8
  show impl_listOf.l0 _ (strOfNums T) [] ((0 : Nat) : Int) false ((([] : List Int).length : Nat) : Int) = _
  rw [s1, s2, s3, s4, s5, s6, s7, s8, s9]
  rfl
theorem list_ok (M : List Int) (hM : Prt M) (hl : M.length ≤ 60) (K : Nat) (hK : 700 ≤ K) :
    impl_ListOf.f K (strOfNums ((34 :: esc M ++ [34]) ++ ([44, 32] ++ (34 :: esc M ++ [34])))) = some ([strOfNums (34 :: esc M ++ [34]), strOfNums (34 :: esc M ++ [34])], true) := by
  have he := esc_prt M hM
  have hel := esc_len M
  have hQ := quoted_prt (esc M) he
  have hT : Prt ((34 :: esc M ++ [34]) ++ ([44, 32] ++ (34 :: esc M ++ [34]))) := fun x hx => by
    rcases List.mem_append.mp hx with hx | hx
    · exact hQ x hx
    · rcases List.mem_append.mp hx with hx | hx
      · simp only [List.mem_cons, List.not_mem_nil, or_false] at hx; omega
      · exact hQ x hx
  have hlen : ((34 :: esc M ++ [34]) ++ ([44, 32] ++ (34 :: esc M ++ [34]))).length ≤ 246 := by simp only [List.length_append, List.length_cons, List.length_nil]; omega
  unfold impl_ListOf.f
  rw [printed_I _ hT 300 (by omega) (by omega), Option.bind_some, if_pos rfl, two_ok M hM (by omega) K hK, Option.bind_some, if_pos rfl]

/-! Fields -/
theorem mono_le {α : Type} (F : Nat → Option α) (h : ∀ k, LeO (F k) (F (k + 1))) (a b : Nat) (hab : a ≤ b) (r : α) (e : F a = some r) : F b = some r := by
  obtain ⟨d, rfl⟩ := Nat.le.dest hab
  clear hab
  induction d with
  | zero => exact e
  | succ d ih => exact h (a + d) r ih
def names8 : List ByteArray := [⟨#[65, 103, 101]⟩, ⟨#[97, 103, 101]⟩, ⟨#[69, 84, 97, 103]⟩, ⟨#[86, 97, 114, 121]⟩, ⟨#[88, 45, 65]⟩, ⟨#[65, 99, 99, 101, 112, 116]⟩, ⟨#[]⟩, ⟨#[97, 32, 98]⟩]
def vals8 : List ByteArray := [⟨#[49]⟩, ⟨#[97, 44, 32, 98]⟩, ⟨#[]⟩, ⟨#[34, 120, 34]⟩, ⟨#[122, 59, 113, 61, 49]⟩, ⟨#[32, 120]⟩, ⟨#[120, 32]⟩, ⟨#[10]⟩]
def isT : Option Bool → Bool
  | some true => true
  | _ => false
def nmOK (n : ByteArray) : Bool := isT (impl_isToken.f n)
def vlOK (v : ByteArray) : Bool := isT (impl_GoodField.f 40 (⟨#[97, 103, 101]⟩ : ByteArray) v)
theorem names_all : (names8.all fun n => decide (impl_isToken.f n = some (nmOK n)) && decide (spec_l3Token.f 120 n = some (nmOK n)) && decide (n.size < 1000)) = true := by decide +kernel
theorem pairs_all : (names8.all fun n => vals8.all fun v => decide (impl_GoodField.f 40 n v = some (nmOK n && vlOK v)) && decide (spec_GoodField.f 120 n v = some (nmOK n && vlOK v))) = true := by decide +kernel
def FF (x : S31) : Prop := x.f0 ∈ names8 ∧ x.f1 ∈ vals8
def gd (x : S31) : Bool := nmOK x.f0 && vlOK x.f1
theorem name_facts (n : ByteArray) (h : n ∈ names8) : impl_isToken.f n = some (nmOK n) ∧ (∀ K, 120 ≤ K → spec_l3Token.f K n = some (nmOK n)) ∧ n.size < 1000 := by
  have g := List.all_eq_true.mp names_all n h
  simp only [Bool.and_eq_true, decide_eq_true_eq] at g
  exact ⟨g.1.1, fun K hK => mono_le (fun k => spec_l3Token.f k n) (fun k => spec_l3Token.mono n k) 120 K hK _ g.1.2, g.2⟩
theorem good_facts (x : S31) (h : FF x) (K : Nat) (hK : 120 ≤ K) : impl_GoodField.f K x.f0 x.f1 = some (gd x) ∧ spec_GoodField.f K x.f0 x.f1 = some (gd x) := by
  have g := List.all_eq_true.mp (List.all_eq_true.mp pairs_all x.f0 h.1) x.f1 h.2
  simp only [Bool.and_eq_true, decide_eq_true_eq] at g
  exact ⟨mono_le (fun k => impl_GoodField.f k x.f0 x.f1) (fun k => impl_GoodField.mono x.f0 x.f1 k) 40 K (by omega) _ g.1, mono_le (fun k => spec_GoodField.f k x.f0 x.f1) (fun k => spec_GoodField.mono x.f0 x.f1 k) 120 K hK _ g.2⟩
theorem idxO_mem {α : Type} (p : α → Option Bool) (q : α → Bool) (l : List α) (h : ∀ x ∈ l, p x = some (!q x)) : ∀ (n : Int), 0 ≤ n → ∃ i, idxO p l n = some i ∧ (!decide (i ≥ 0)) = l.all q := by
  induction l with
  | nil => intro n hn; exact ⟨-1, rfl, rfl⟩
  | cons x xs ih =>
    intro n hn
    unfold idxO
    rw [h x List.mem_cons_self, Option.bind_some]
    cases hq : q x with
    | true =>
      obtain ⟨i, h1, h2⟩ := ih (fun y hy => h y (List.mem_cons_of_mem _ hy)) (n + 1) (by omega)
      exact ⟨i, h1, by rw [h2, List.all_cons, hq, Bool.true_and]⟩
    | false => exact ⟨n, rfl, by rw [List.all_cons, hq, Bool.false_and, decide_eq_true (show n ≥ 0 from hn)]; rfl⟩
theorem areI (l : List S31) (h : ∀ x ∈ l, FF x) (hl : l.length ≤ 1000) (K : Nat) (hK : 120 ≤ K) : impl_areFields.f K l = some (decide (l.length ≤ 40) && l.all gd) := by
  unfold impl_areFields.f
  by_cases c : (l.length : Int) ≤ 40
  · rw [if_pos c, decide_eq_true (show l.length ≤ 40 by omega), Bool.true_and]
    unfold xAll_T31_impl_GoodField.f
    rw [if_pos (by omega)]
    obtain ⟨i, e, g⟩ := idxO_mem (xAll_T31_impl_GoodField.z K) gd l (fun x hx => by
      unfold xAll_T31_impl_GoodField.z
      rw [(good_facts x (h x hx) K hK).1]; rfl) 0 (by decide)
    rw [e, Option.bind_some, Option.bind_some, g]
  · rw [if_neg c, decide_eq_false (show ¬ l.length ≤ 40 by omega), Bool.false_and]
theorem rd_at (l : List S31) (i : Nat) (h : i < l.length) : rd_T31 l (i : Int) = l[i] := by
  unfold rd_T31
  rw [List.getD_eq_getElem?_getD, Int.toNat_natCast, List.getElem?_eq_getElem h]; rfl
theorem w_i (i n : Nat) (h : i < n) (h2 : n ≤ 1000) : wrap64 ((i : Int) + 1) = ((i + 1 : Nat) : Int) := by rw [w64 (by omega) (by omega)]; omega
theorem c_lt (i n : Nat) (h : i < n) : (i : Int) < (n : Int) := Int.ofNat_lt.mpr h
theorem fieldsS_l (l : List S31) (h : ∀ x ∈ l, FF x) (hl : l.length ≤ 1000) : ∀ (m K i : Nat), i + m = l.length → m + 120 < K → spec_l3Fields.l0 K l l (l.length : Int) (i : Int) = some ((l.drop i).all gd && decide (l.length ≤ 40))
  | m, 0, i, _, hK => absurd hK (Nat.not_lt_zero _)
  | 0, K + 1, i, hi, hK => by
    have e : i = l.length := hi
    subst e
    unfold spec_l3Fields.l0
    rw [if_neg (Int.lt_irrefl _), List.drop_length]
    by_cases c : l.length ≤ 40
    · rw [decide_eq_true c, decide_eq_true (by omega)]; rfl
    · rw [decide_eq_false c, decide_eq_false (by omega)]; rfl
  | m + 1, K + 1, i, hi, hK => by
    have hlt : i < l.length := by omega
    unfold spec_l3Fields.l0
    rw [if_pos (c_lt _ _ hlt), if_pos (Int.natCast_nonneg i), if_pos (c_lt _ _ hlt), rd_at l i hlt, (good_facts _ (h _ (List.getElem_mem hlt)) K (by omega)).2, Option.bind_some, List.drop_eq_getElem_cons hlt, List.all_cons]
    cases gd l[i] with
    | true =>
      rw [if_pos rfl, w_i i _ hlt hl, fieldsS_l l h hl m K (i + 1) (by omega) (by omega), Bool.true_and]
    | false => rw [if_neg (show ¬ false = true by decide)]; rfl
theorem fieldsS (l : List S31) (h : ∀ x ∈ l, FF x) (hl : l.length ≤ 1000) (K : Nat) (hK : 1200 ≤ K) : spec_l3Fields.f K l = some (l.all gd && decide (l.length ≤ 40)) :=
  fieldsS_l l h hl l.length K 0 (Nat.zero_add _) (by omega)
def low (s : ByteArray) : ByteArray := ⟨s.data.map lowB⟩
def eqn (a b : ByteArray) : Bool := (low a).toList == (low b).toList
theorem eqn_refl (a : ByteArray) : eqn a a = true := by unfold eqn; exact beq_self_eq_true _
theorem eqn_iff (a b : ByteArray) : eqn a b = true ↔ (low a).toList = (low b).toList := by unfold eqn; exact beq_iff_eq
theorem smallI (n : ByteArray) (h : n ∈ names8) : impl_small.f n = some (low n) := by
  unfold impl_small.f
  rw [if_pos (Nat.lt_trans (name_facts n h).2.2 (by decide))]; rfl
theorem lowS (n : ByteArray) (h : n ∈ names8) : spec_l1Lower.f n = some (low n) := by
  unfold spec_l1Lower.f
  rw [if_pos (Nat.lt_trans (name_facts n h).2.2 (by decide))]; rfl
def setL (n v : ByteArray) : List S31 → Bool → List S31
  | [], done => if done then [] else [⟨n, v⟩]
  | x :: xs, done => if eqn x.f0 n then (if done then setL n v xs true else ⟨x.f0, v⟩ :: setL n v xs true) else x :: setL n v xs done
def finS (m : List S31) : List S31 × Bool := if (m.length : Int) > 40 then ([], false) else (m, true)
theorem setI_l (l : List S31) (n v : ByteArray) (h : ∀ x ∈ l, FF x) (hn : n ∈ names8) (hl : l.length ≤ 1000) : ∀ (m K i : Nat) (acc : List S31) (done : Bool), i + m = l.length → m < K → acc.length ≤ i → impl_SetField.l0 K acc done l (l.length : Int) (i : Int) n v = some (finS (acc ++ setL n v (l.drop i) done))
  | m, 0, i, acc, done, _, hK, _ => absurd hK (Nat.not_lt_zero _)
  | 0, K + 1, i, acc, done, hi, hK, ha => by
    have e : i = l.length := hi
    subst e
    unfold impl_SetField.l0
    rw [if_neg (Int.lt_irrefl _), List.drop_length]
    unfold finS setL
    cases done with
    | true =>
      rw [if_pos rfl, if_pos rfl, List.append_nil]
      split <;> rfl
    | false =>
      rw [if_neg (show ¬ false = true by decide), if_neg (show ¬ false = true by decide), if_pos (by omega), Option.bind_some]
      split <;> rfl
  | m + 1, K + 1, i, acc, done, hi, hK, ha => by
    have hlt : i < l.length := by omega
    have hx := h _ (List.getElem_mem hlt)
    have hla : acc.length < 4398046511104 := by omega
    unfold impl_SetField.l0
    rw [if_pos (c_lt _ _ hlt), if_pos (Int.natCast_nonneg i), if_pos (c_lt _ _ hlt), rd_at l i hlt, smallI _ hx.1, Option.bind_some, smallI n hn, Option.bind_some, w_i i _ hlt hl, List.drop_eq_getElem_cons hlt]
    have e2 : setL n v (l[i] :: l.drop (i + 1)) done = if eqn l[i].f0 n then (if done then setL n v (l.drop (i + 1)) true else ⟨l[i].f0, v⟩ :: setL n v (l.drop (i + 1)) true) else l[i] :: setL n v (l.drop (i + 1)) done := rfl
    rw [e2]
    by_cases c : (low l[i].f0).toList = (low n).toList
    · rw [if_pos c, if_pos ((eqn_iff _ _).mpr c)]
      cases done with
      | true =>
        rw [if_pos rfl, if_pos rfl]
        exact setI_l l n v h hn hl m K (i + 1) acc true (by omega) (by omega) (by omega)
      | false =>
        rw [if_neg (show ¬ false = true by decide), if_neg (show ¬ false = true by decide), if_pos hla, setI_l l n v h hn hl m K (i + 1) _ true (by omega) (by omega) (by simp; omega), List.append_assoc]; rfl
    · rw [if_neg c, if_neg (fun z => c ((eqn_iff _ _).mp z)), if_pos hla, setI_l l n v h hn hl m K (i + 1) _ done (by omega) (by omega) (by simp; omega), List.append_assoc]; rfl
theorem isS (a b n : ByteArray) (ha : a ∈ names8) (hn : n ∈ names8) : spec_l3Is.f a b n = some (eqn a n) := by
  unfold spec_l3Is.f
  rw [lowS a ha, Option.bind_some, lowS n hn]; rfl
theorem setS_l (l : List S31) (n v : ByteArray) (h : ∀ x ∈ l, FF x) (hn : n ∈ names8) (hl : l.length ≤ 1000) : ∀ (m K i : Nat) (acc : List S31) (done : Bool), i + m = l.length → m < K → acc.length ≤ i → spec_l3Set.l0 K acc done l (l.length : Int) (i : Int) n v = some (acc ++ setL n v (l.drop i) done)
  | m, 0, i, acc, done, _, hK, _ => absurd hK (Nat.not_lt_zero _)
  | 0, K + 1, i, acc, done, hi, hK, ha => by
    have e : i = l.length := hi
    subst e
    unfold spec_l3Set.l0
    rw [if_neg (Int.lt_irrefl _), List.drop_length]
    unfold setL
    cases done with
    | true => rw [if_pos rfl, if_pos rfl, List.append_nil]
    | false => rw [if_neg (show ¬ false = true by decide), if_neg (show ¬ false = true by decide), if_pos (by omega)]
  | m + 1, K + 1, i, acc, done, hi, hK, ha => by
    have hlt : i < l.length := by omega
    have hx := h _ (List.getElem_mem hlt)
    have hla : acc.length < 4398046511104 := by omega
    unfold spec_l3Set.l0
    rw [if_pos (c_lt _ _ hlt), if_pos (Int.natCast_nonneg i), if_pos (c_lt _ _ hlt), rd_at l i hlt, isS _ _ n hx.1 hn, Option.bind_some, w_i i _ hlt hl, List.drop_eq_getElem_cons hlt]
    have e2 : setL n v (l[i] :: l.drop (i + 1)) done = if eqn l[i].f0 n then (if done then setL n v (l.drop (i + 1)) true else ⟨l[i].f0, v⟩ :: setL n v (l.drop (i + 1)) true) else l[i] :: setL n v (l.drop (i + 1)) done := rfl
    rw [e2]
    cases eqn l[i].f0 n with
    | true =>
      rw [if_pos rfl, if_pos rfl]
      cases done with
      | true =>
        rw [if_pos rfl, if_pos rfl]
        exact setS_l l n v h hn hl m K (i + 1) acc true (by omega) (by omega) (by omega)
      | false =>
        rw [if_neg (show ¬ false = true by decide), if_neg (show ¬ false = true by decide), if_pos hla, setS_l l n v h hn hl m K (i + 1) _ true (by omega) (by omega) (by simp; omega), List.append_assoc]; rfl
    | false =>
      rw [if_neg (show ¬ false = true by decide), if_neg (show ¬ false = true by decide), if_pos hla, setS_l l n v h hn hl m K (i + 1) _ done (by omega) (by omega) (by simp; omega), List.append_assoc]; rfl
def resS (l : List S31) (f : S31) : List S31 × Bool := if l.all gd && decide (l.length ≤ 40) && gd f then finS (setL f.f0 f.f1 l false) else ([], false)
theorem setFieldI (l : List S31) (f : S31) (h : ∀ x ∈ l, FF x) (hf : FF f) (hl : l.length ≤ 1000) (K : Nat) (hK : 1300 ≤ K) : impl_SetField.f K l f.f0 f.f1 = some (resS l f) := by
  obtain ⟨k, rfl⟩ : ∃ k, K = k + 1 := ⟨K - 1, by omega⟩
  unfold impl_SetField.f resS
  rw [areI l h hl _ (by omega), Option.bind_some, Bool.and_comm (decide (l.length ≤ 40))]
  cases (l.all gd && decide (l.length ≤ 40)) with
  | false =>
    rw [if_neg (show ¬ false = true by decide), Bool.false_and, if_neg (show ¬ false = true by decide)]
    unfold impl_SetField.j0
    rfl
  | true =>
    rw [if_pos rfl, (good_facts f hf _ (by omega)).1, Option.bind_some, Bool.true_and]
    unfold impl_SetField.j0
    cases gd f with
    | false => rfl
    | true =>
      dsimp only
      rw [if_neg (by decide), if_pos rfl]
      exact setI_l l f.f0 f.f1 h hf.1 hl l.length k 0 [] false (Nat.zero_add _) (by omega) (Nat.le_refl _)
theorem setFieldS (l : List S31) (f : S31) (h : ∀ x ∈ l, FF x) (hf : FF f) (hl : l.length ≤ 1000) (K : Nat) (hK : 1300 ≤ K) : spec_SetField.f K l f.f0 f.f1 = some (resS l f) := by
  obtain ⟨k, rfl⟩ : ∃ k, K = k + 1 := ⟨K - 1, by omega⟩
  unfold spec_SetField.f resS
  rw [fieldsS l h hl _ (by omega), Option.bind_some]
  cases (l.all gd && decide (l.length ≤ 40)) with
  | false =>
    rw [if_neg (show ¬ false = true by decide), Bool.false_and, if_neg (show ¬ false = true by decide)]
    unfold spec_SetField.j0
    rfl
  | true =>
    rw [if_pos rfl, (good_facts f hf _ (by omega)).2, Option.bind_some, Bool.true_and]
    unfold spec_SetField.j0
    cases gd f with
    | false => rfl
    | true =>
      dsimp only
      rw [if_neg (by decide), if_pos rfl]
      have e : spec_l3Set.f k l f.f0 f.f1 = some (setL f.f0 f.f1 l false) := setS_l l f.f0 f.f1 h hf.1 hl l.length k 0 [] false (Nat.zero_add _) (by omega) (Nat.le_refl _)
      rw [e, Option.bind_some]
      unfold finS
      split <;> rfl

/-! FnQuoted -/
def valsL (n : ByteArray) : List S31 → List ByteArray
  | [] => []
  | x :: xs => if eqn x.f0 n then x.f1 :: valsL n xs else valsL n xs
theorem valsI_l (l : List S31) (n : ByteArray) (h : ∀ x ∈ l, x.f0 ∈ names8) (hn : n ∈ names8) (hl : l.length ≤ 1000) : ∀ (m K i : Nat) (acc : List ByteArray), i + m = l.length → m < K → acc.length ≤ i → impl_valuesOf.l0 K n acc l (l.length : Int) (i : Int) = some (acc ++ valsL n (l.drop i))
  | m, 0, i, acc, _, hK, _ => absurd hK (Nat.not_lt_zero _)
  | 0, K + 1, i, acc, hi, hK, ha => by
    have e : i = l.length := hi
    subst e
    unfold impl_valuesOf.l0
    rw [if_neg (Int.lt_irrefl _), List.drop_length]
    show _ = some (acc ++ [])
    rw [List.append_nil]
  | m + 1, K + 1, i, acc, hi, hK, ha => by
    have hlt : i < l.length := by omega
    have hx := h _ (List.getElem_mem hlt)
    have hla : acc.length < 8796093022208 := by omega
    have e2 : valsL n (l[i] :: l.drop (i + 1)) = if eqn l[i].f0 n then l[i].f1 :: valsL n (l.drop (i + 1)) else valsL n (l.drop (i + 1)) := rfl
    unfold impl_valuesOf.l0
    rw [if_pos (c_lt _ _ hlt), if_pos (Int.natCast_nonneg i), if_pos (c_lt _ _ hlt), rd_at l i hlt, smallI _ hx, Option.bind_some, smallI n hn, Option.bind_some, w_i i _ hlt hl, List.drop_eq_getElem_cons hlt, e2]
    by_cases c : (low l[i].f0).toList = (low n).toList
    · rw [if_pos c, if_pos ((eqn_iff _ _).mpr c), if_pos hla, valsI_l l n h hn hl m K (i + 1) _ (by omega) (by omega) (by simp; omega), List.append_assoc]; rfl
    · rw [if_neg c, if_neg (fun z => c ((eqn_iff _ _).mp z))]
      exact valsI_l l n h hn hl m K (i + 1) acc (by omega) (by omega) (by omega)
theorem valsS_l (l : List S31) (n : ByteArray) (h : ∀ x ∈ l, x.f0 ∈ names8) (hn : n ∈ names8) (hl : l.length ≤ 1000) : ∀ (m K i : Nat) (acc : List ByteArray), i + m = l.length → m < K → acc.length ≤ i → spec_l3Values.l0 K n acc l (l.length : Int) (i : Int) = some (acc ++ valsL n (l.drop i))
  | m, 0, i, acc, _, hK, _ => absurd hK (Nat.not_lt_zero _)
  | 0, K + 1, i, acc, hi, hK, ha => by
    have e : i = l.length := hi
    subst e
    unfold spec_l3Values.l0
    rw [if_neg (Int.lt_irrefl _), List.drop_length]
    show _ = some (acc ++ [])
    rw [List.append_nil]
  | m + 1, K + 1, i, acc, hi, hK, ha => by
    have hlt : i < l.length := by omega
    have hx := h _ (List.getElem_mem hlt)
    have hla : acc.length < 8796093022208 := by omega
    have e2 : valsL n (l[i] :: l.drop (i + 1)) = if eqn l[i].f0 n then l[i].f1 :: valsL n (l.drop (i + 1)) else valsL n (l.drop (i + 1)) := rfl
    unfold spec_l3Values.l0
    rw [if_pos (c_lt _ _ hlt), if_pos (Int.natCast_nonneg i), if_pos (c_lt _ _ hlt), rd_at l i hlt, isS _ _ n hx hn, Option.bind_some, w_i i _ hlt hl, List.drop_eq_getElem_cons hlt, e2]
    cases eqn l[i].f0 n with
    | true => rw [if_pos rfl, if_pos rfl, if_pos hla, valsS_l l n h hn hl m K (i + 1) _ (by omega) (by omega) (by simp; omega), List.append_assoc]; rfl
    | false =>
      rw [if_neg (show ¬ false = true by decide), if_neg (show ¬ false = true by decide)]
      exact valsS_l l n h hn hl m K (i + 1) acc (by omega) (by omega) (by omega)
def okL (l : List S31) : Prop := l.all gd = true ∧ l.length ≤ 40
theorem valuesI (l : List S31) (n : ByteArray) (h : ∀ x ∈ l, FF x) (ho : okL l) (hn : n ∈ names8) (hk : nmOK n = true) (K : Nat) (hK : 1300 ≤ K) : impl_ValuesOf.f K l n = some (valsL n l, true) := by
  have hl : l.length ≤ 1000 := by have := ho.2; omega
  unfold impl_ValuesOf.f
  rw [areI l h hl K (by omega), ho.1, decide_eq_true ho.2, Option.bind_some, if_pos (by decide), (name_facts n hn).1, hk, Option.bind_some, if_pos rfl]
  have e : impl_valuesOf.f K l n = some (valsL n l) := valsI_l l n (fun x hx => (h x hx).1) hn hl l.length K 0 [] (Nat.zero_add _) (by omega) (Nat.le_refl _)
  rw [e]; rfl
theorem valuesS (l : List S31) (n : ByteArray) (h : ∀ x ∈ l, FF x) (ho : okL l) (hn : n ∈ names8) (hk : nmOK n = true) (K : Nat) (hK : 1300 ≤ K) : spec_ValuesOf.f K l n = some (valsL n l, true) := by
  have hl : l.length ≤ 1000 := by have := ho.2; omega
  unfold spec_ValuesOf.f
  rw [fieldsS l h hl K (by omega), ho.1, decide_eq_true ho.2, Option.bind_some, if_pos (by decide), (name_facts n hn).2.1 K (by omega), hk, Option.bind_some, if_pos rfl]
  have e : spec_l3Values.f K l n = some (valsL n l) := valsS_l l n (fun x hx => (h x hx).1) hn hl l.length K 0 [] (Nat.zero_add _) (by omega) (Nat.le_refl _)
  rw [e]; rfl
theorem set_vals (n v : ByteArray) : ∀ (l : List S31) (done : Bool), valsL n (setL n v l done) = if done then [] else [v]
  | [], true => rfl
  | [], false => by
    show valsL n [⟨n, v⟩] = [v]
    unfold valsL
    rw [if_pos (eqn_refl n)]; rfl
  | x :: xs, done => by
    unfold setL
    cases c : eqn x.f0 n with
    | true =>
      rw [if_pos rfl]
      cases done with
      | true => rw [if_pos rfl, set_vals n v xs true]
      | false =>
        rw [if_neg (show ¬ false = true by decide)]
        unfold valsL
        dsimp only
        rw [c, if_pos rfl, set_vals n v xs true]; rfl
    | false =>
      rw [if_neg (show ¬ false = true by decide)]
      unfold valsL
      rw [c, if_neg (show ¬ false = true by decide), set_vals n v xs done]
theorem eqn_trans (a b c : ByteArray) (h : eqn a b = true) (h2 : eqn b c = false) : eqn a c = false := by
  have e := (eqn_iff _ _).mp h
  unfold eqn at *
  rw [e]; exact h2
theorem set_other (n v q : ByteArray) (hq : eqn n q = false) : ∀ (l : List S31) (done : Bool), valsL q (setL n v l done) = valsL q l
  | [], true => rfl
  | [], false => by
    show valsL q [⟨n, v⟩] = []
    unfold valsL
    rw [hq, if_neg (show ¬ false = true by decide)]; rfl
  | x :: xs, done => by
    unfold setL
    cases c : eqn x.f0 n with
    | true =>
      have c2 := eqn_trans _ _ _ c hq
      rw [if_pos rfl]
      have e : valsL q (x :: xs) = valsL q xs := by
        conv => lhs; unfold valsL
        rw [c2, if_neg (show ¬ false = true by decide)]
      cases done with
      | true => rw [if_pos rfl, set_other n v q hq xs true, e]
      | false =>
        rw [if_neg (show ¬ false = true by decide), e]
        conv => lhs; unfold valsL
        dsimp only
        rw [c2, if_neg (show ¬ false = true by decide), set_other n v q hq xs true]
    | false =>
      rw [if_neg (show ¬ false = true by decide)]
      unfold valsL
      rw [set_other n v q hq xs done]
theorem gd_and (n v : ByteArray) : gd ⟨n, v⟩ = (nmOK n && vlOK v) := rfl
theorem set_keeps (f : S31) (hf : FF f) (hg : gd f = true) : ∀ (l : List S31) (done : Bool), (∀ x ∈ l, FF x) → l.all gd = true → (∀ x ∈ setL f.f0 f.f1 l done, FF x) ∧ (setL f.f0 f.f1 l done).all gd = true
  | [], true, _, _ => ⟨fun x hx => absurd hx List.not_mem_nil, rfl⟩
  | [], false, _, _ => by
    refine ⟨fun x hx => ?_, ?_⟩
    · rw [List.mem_singleton.mp (show x ∈ [(⟨f.f0, f.f1⟩ : S31)] from hx)]; exact hf
    · show ([(⟨f.f0, f.f1⟩ : S31)].all gd) = true
      rw [List.all_cons, List.all_nil, Bool.and_true]; exact hg
  | x :: xs, done, h, hl => by
    rw [List.all_cons, Bool.and_eq_true] at hl
    have hx := h x List.mem_cons_self
    have hxs := fun y hy => h y (List.mem_cons_of_mem x hy)
    have hgx := hl.1
    have e : setL f.f0 f.f1 (x :: xs) done = if eqn x.f0 f.f0 then (if done then setL f.f0 f.f1 xs true else ⟨x.f0, f.f1⟩ :: setL f.f0 f.f1 xs true) else x :: setL f.f0 f.f1 xs done := rfl
    rw [e]
    have iht := set_keeps f hf hg xs true hxs hl.2
    have ihd := set_keeps f hf hg xs done hxs hl.2
    have hnew : gd ⟨x.f0, f.f1⟩ = true := by
      unfold gd at hgx hg ⊢
      rw [Bool.and_eq_true] at hgx hg
      rw [hgx.1, hg.2]; rfl
    cases eqn x.f0 f.f0 with
    | true =>
      rw [if_pos rfl]
      cases done with
      | true => rw [if_pos rfl]; exact iht
      | false =>
        rw [if_neg (show ¬ false = true by decide)]
        refine ⟨fun y hy => ?_, by rw [List.all_cons, hnew, iht.2]; rfl⟩
        rcases List.mem_cons.mp hy with hy | hy
        · rw [hy]; exact ⟨hx.1, hf.2⟩
        · exact iht.1 y hy
    | false =>
      rw [if_neg (show ¬ false = true by decide)]
      refine ⟨fun y hy => ?_, by rw [List.all_cons, hgx, ihd.2]; rfl⟩
      rcases List.mem_cons.mp hy with hy | hy
      · rw [hy]; exact hx
      · exact ihd.1 y hy
theorem set_len (n v : ByteArray) : ∀ (l : List S31) (done : Bool), (setL n v l done).length ≤ l.length + 1
  | [], true => Nat.zero_le _
  | [], false => Nat.le_refl _
  | x :: xs, done => by
    have e : setL n v (x :: xs) done = if eqn x.f0 n then (if done then setL n v xs true else ⟨x.f0, v⟩ :: setL n v xs true) else x :: setL n v xs done := rfl
    have iht := set_len n v xs true
    have ihd := set_len n v xs done
    rw [e, List.length_cons]
    cases eqn x.f0 n with
    | true =>
      rw [if_pos rfl]
      cases done with
      | true => rw [if_pos rfl]; omega
      | false => rw [if_neg (show ¬ false = true by decide), List.length_cons]; omega
    | false => rw [if_neg (show ¬ false = true by decide), List.length_cons]; omega
theorem sameF_l (l : List S31) (hl : l.length ≤ 1000) : ∀ (m K i : Nat), i + m = l.length → m < K → laws_sameFields.l0 K l l (l.length : Int) (i : Int) = some true
  | m, 0, i, _, hK => absurd hK (Nat.not_lt_zero _)
  | 0, K + 1, i, hi, hK => by
    have e : i = l.length := hi
    subst e
    unfold laws_sameFields.l0
    rw [if_neg (Int.lt_irrefl _)]
  | m + 1, K + 1, i, hi, hK => by
    have hlt : i < l.length := by omega
    unfold laws_sameFields.l0
    rw [if_pos (c_lt _ _ hlt), if_pos (Int.natCast_nonneg i), if_pos (c_lt _ _ hlt), if_pos (c_lt _ _ hlt), if_neg (by simp), w_i i _ hlt hl]
    exact sameF_l l hl m K (i + 1) (by omega) (by omega)
theorem sameT_l (l : List ByteArray) (hl : l.length ≤ 1000) : ∀ (m K i : Nat), i + m = l.length → m < K → laws_sameTexts.l0 K l l (l.length : Int) (i : Int) = some true
  | m, 0, i, _, hK => absurd hK (Nat.not_lt_zero _)
  | 0, K + 1, i, hi, hK => by
    have e : i = l.length := hi
    subst e
    unfold laws_sameTexts.l0
    rw [if_neg (Int.lt_irrefl _)]
  | m + 1, K + 1, i, hi, hK => by
    have hlt : i < l.length := by omega
    unfold laws_sameTexts.l0
    rw [if_pos (c_lt _ _ hlt), if_pos (Int.natCast_nonneg i), if_pos (c_lt _ _ hlt), if_pos (c_lt _ _ hlt), if_pos rfl, w_i i _ hlt hl]
    exact sameT_l l hl m K (i + 1) (by omega) (by omega)
theorem vals_len (n : ByteArray) : ∀ l : List S31, (valsL n l).length ≤ l.length
  | [] => Nat.le_refl _
  | x :: xs => by
    have ih := vals_len n xs
    unfold valsL
    rw [List.length_cons]
    split
    · rw [List.length_cons]; omega
    · omega
theorem vals_nil (n q v : ByteArray) (h : (valsL q [⟨n, v⟩]).length = 0) : eqn n q = false := by
  cases c : eqn n q with
  | false => rfl
  | true =>
    unfold valsL at h
    rw [if_pos c] at h
    exact absurd h (by simp)
theorem l0_ok (l : List S31) (f : S31) (h : ∀ x ∈ l, FF x) (hf : FF f) (ho : okL l) (hg : gd f = true) (hm : (setL f.f0 f.f1 l false).length ≤ 40) : ∀ (m K i : Nat), i + m = l.length → m + 1400 < K →
    laws_FnQuoted.l0 K l (setL f.f0 f.f1 l false) l (l.length : Int) (i : Int) f.f0 f.f1 = some true
  | m, 0, i, _, hK => absurd hK (Nat.not_lt_zero _)
  | 0, K + 1, i, hi, hK => by
    have e : i = l.length := hi
    subst e
    unfold laws_FnQuoted.l0
    rw [if_neg (Int.lt_irrefl _)]
  | m + 1, K + 1, i, hi, hK => by
    have hlt : i < l.length := by omega
    have hx := h _ (List.getElem_mem hlt)
    have hl : l.length ≤ 1000 := by have := ho.2; omega
    have hgx : gd l[i] = true := List.all_eq_true.mp ho.1 _ (List.getElem_mem hlt)
    have hnx : nmOK l[i].f0 = true := by unfold gd at hgx; rw [Bool.and_eq_true] at hgx; exact hgx.1
    have hk := set_keeps f hf hg l false h ho.1
    have hf1 : ∀ x ∈ [f], FF x := fun x hx => by rw [List.mem_singleton.mp hx]; exact hf
    have ho1 : okL [f] := ⟨by rw [List.all_cons, hg]; rfl, by show 1 ≤ 40; decide⟩
    have ih := l0_ok l f h hf ho hg hm m K (i + 1) (by omega) (by omega)
    unfold laws_FnQuoted.l0
    rw [if_pos (c_lt _ _ hlt), if_pos (Int.natCast_nonneg i), if_pos (c_lt _ _ hlt), rd_at l i hlt, valuesS l _ h ho hx.1 hnx K (by omega), Option.bind_some, valuesI _ _ hk.1 ⟨hk.2, hm⟩ hx.1 hnx K (by omega), Option.bind_some]
    have e1 : spec_ValuesOf.f K [(⟨f.f0, f.f1⟩ : S31)] l[i].f0 = some (valsL l[i].f0 [f], true) := valuesS [f] _ hf1 ho1 hx.1 hnx K (by omega)
    rw [e1, Option.bind_some]
    dsimp only
    rw [if_pos rfl, if_pos rfl, w_i i _ hlt hl]
    by_cases c : ((valsL l[i].f0 [f]).length : Int) = 0
    · rw [if_pos c]
      have hq : eqn f.f0 l[i].f0 = false := vals_nil f.f0 l[i].f0 f.f1 (by
        have z : (valsL l[i].f0 [(⟨f.f0, f.f1⟩ : S31)]).length = (valsL l[i].f0 [f]).length := rfl
        rw [z]; omega)
      rw [set_other f.f0 f.f1 l[i].f0 hq l false]
      have hvl := vals_len l[i].f0 l
      have es : laws_sameTexts.f K (valsL l[i].f0 l) (valsL l[i].f0 l) = some true := by
        unfold laws_sameTexts.f
        rw [if_pos rfl]
        exact sameT_l _ (by omega) _ K 0 (Nat.zero_add _) (by omega)
      rw [es, Option.bind_some, if_pos rfl]
      exact ih
    · rw [if_neg c]
      exact ih
theorem field_ok (code : List Int) (hc : ∀ x ∈ code, 0 ≤ x ∧ x ≤ 255) (hb : code.length < 4611686018427387904) (a s : Int) (h0 : 0 ≤ a) (h1 : a < 1000000) :
    ∃ n v a' s', spec_l1Cur_field.f code a s = some (n, v, a', s') ∧ n ∈ names8 ∧ v ∈ vals8 ∧ a ≤ a' ∧ a' ≤ a + 8 := by
  have N6 : ∀ x, x ∈ ([(⟨#[65, 103, 101]⟩ : ByteArray), (⟨#[97, 103, 101]⟩ : ByteArray), (⟨#[69, 84, 97, 103]⟩ : ByteArray), (⟨#[86, 97, 114, 121]⟩ : ByteArray), (⟨#[88, 45, 65]⟩ : ByteArray), (⟨#[65, 99, 99, 101, 112, 116]⟩ : ByteArray)] : List ByteArray) → x ∈ names8 := fun x hx => by
    unfold names8
    simp only [List.mem_cons, List.not_mem_nil, or_false] at hx ⊢
    rcases hx with h | h | h | h | h | h <;> simp [h]
  have N2 : ∀ x, x ∈ ([(⟨#[]⟩ : ByteArray), (⟨#[97, 32, 98]⟩ : ByteArray)] : List ByteArray) → x ∈ names8 := fun x hx => by
    unfold names8
    simp only [List.mem_cons, List.not_mem_nil, or_false] at hx ⊢
    rcases hx with h | h <;> simp [h]
  have V5 : ∀ x, x ∈ ([(⟨#[49]⟩ : ByteArray), (⟨#[97, 44, 32, 98]⟩ : ByteArray), (⟨#[]⟩ : ByteArray), (⟨#[34, 120, 34]⟩ : ByteArray), (⟨#[122, 59, 113, 61, 49]⟩ : ByteArray)] : List ByteArray) → x ∈ vals8 := fun x hx => by
    unfold vals8
    simp only [List.mem_cons, List.not_mem_nil, or_false] at hx ⊢
    rcases hx with h | h | h | h | h <;> simp [h]
  have V3 : ∀ x, x ∈ ([(⟨#[32, 120]⟩ : ByteArray), (⟨#[120, 32]⟩ : ByteArray), (⟨#[10]⟩ : ByteArray)] : List ByteArray) → x ∈ vals8 := fun x hx => by
    unfold vals8
    simp only [List.mem_cons, List.not_mem_nil, or_false] at hx ⊢
    rcases hx with h | h | h <;> simp [h]
  unfold spec_l1Cur_field.f
  obtain ⟨n, a1, s1, e1, p1, p2, p3⟩ := of_ok code hc hb ([(⟨#[65, 103, 101]⟩ : ByteArray), (⟨#[97, 103, 101]⟩ : ByteArray), (⟨#[69, 84, 97, 103]⟩ : ByteArray), (⟨#[86, 97, 114, 121]⟩ : ByteArray), (⟨#[88, 45, 65]⟩ : ByteArray), (⟨#[65, 99, 99, 101, 112, 116]⟩ : ByteArray)] : List ByteArray) (by decide) a s h0 (by omega)
  rw [e1, Option.bind_some]
  try dsimp only
  obtain ⟨v, a2, s2, e2, q1, q2, q3⟩ := of_ok code hc hb ([(⟨#[49]⟩ : ByteArray), (⟨#[97, 44, 32, 98]⟩ : ByteArray), (⟨#[]⟩ : ByteArray), (⟨#[34, 120, 34]⟩ : ByteArray), (⟨#[122, 59, 113, 61, 49]⟩ : ByteArray)] : List ByteArray) (by decide) a1 s1 (by omega) (by omega)
  rw [e2, Option.bind_some]
  try dsimp only
  obtain ⟨t, a3, s3, e3, r1, r2, r3, r4⟩ := pick_ok code hc hb a2 s2 60 (by omega) (by omega)
  rw [e3, Option.bind_some]
  try dsimp only
  by_cases c0 : t = 0
  · rw [if_pos c0]
    obtain ⟨n2, a4, s4, e4, t1, t2, t3⟩ := of_ok code hc hb ([(⟨#[]⟩ : ByteArray), (⟨#[97, 32, 98]⟩ : ByteArray)] : List ByteArray) (by decide) a3 s3 (by omega) (by omega)
    rw [e4, Option.bind_some]
    exact ⟨n2, v, a4, s4, rfl, N2 _ t1, V5 _ q1, by omega, by omega⟩
  rw [if_neg c0]
  by_cases c1 : t = 1
  · rw [if_pos c1]
    obtain ⟨n2, a4, s4, e4, t1, t2, t3⟩ := of_ok code hc hb ([(⟨#[32, 120]⟩ : ByteArray), (⟨#[120, 32]⟩ : ByteArray), (⟨#[10]⟩ : ByteArray)] : List ByteArray) (by decide) a3 s3 (by omega) (by omega)
    rw [e4, Option.bind_some]
    exact ⟨n, n2, a4, s4, rfl, N6 _ p1, V3 _ t1, by omega, by omega⟩
  rw [if_neg c1]
  exact ⟨n, v, a3, s3, rfl, N6 _ p1, V5 _ q1, by omega, by omega⟩
theorem fields_l (code : List Int) (hc : ∀ x ∈ code, 0 ≤ x ∧ x ≤ 255) (hb : code.length < 4611686018427387904) :
    ∀ (n K : Nat) (l : List S31) (a s : Int), n < K → 0 ≤ a → a + 8 * n < 100000 → l.length + n ≤ 41 → (∀ x ∈ l, FF x) →
      ∃ l' a' s', spec_l1Cur_fields.l0 K l (n : Int) code a s = some (l', a', s') ∧ l'.length ≤ 41 ∧ (∀ x ∈ l', FF x) ∧ 0 ≤ a' ∧ a' < 100000
  | n, 0, l, a, s, h, _, _, _, _ => absurd h (by omega)
  | 0, K + 1, l, a, s, h, h0, h1, h2, h3 => by
    unfold spec_l1Cur_fields.l0
    rw [if_neg (by omega)]
    exact ⟨l, a, s, rfl, by omega, h3, h0, by omega⟩
  | n + 1, K + 1, l, a, s, h, h0, h1, h2, h3 => by
    obtain ⟨nm, v, a', s', e, hn, hv, q1, q2⟩ := field_ok code hc hb a s h0 (by omega)
    unfold spec_l1Cur_fields.l0
    rw [if_pos (by omega), e, Option.bind_some]
    try dsimp only
    rw [if_pos (by omega), w64 (by omega) (by omega), show ((n + 1 : Nat) : Int) - 1 = (n : Int) by omega]
    exact fields_l code hc hb n K (l ++ [⟨nm, v⟩]) a' s' (by omega) (by omega) (by omega) (by simp; omega) (fun x hx => by
      rcases List.mem_append.mp hx with hx | hx
      · exact h3 x hx
      · rw [List.mem_singleton.mp hx]; exact ⟨hn, hv⟩)
theorem drawSet_ok (code : List Int) (hc : ∀ x ∈ code, 0 ≤ x ∧ x ≤ 255) (hb : code.length < 4611686018427387904) (K : Nat) (hK : 100 ≤ K) :
    ∃ l n v, spec_DrawSetField.f K code = some (l, n, v) ∧ l.length ≤ 41 ∧ (∀ x ∈ l, FF x) ∧ n ∈ names8 ∧ v ∈ vals8 := by
  unfold spec_DrawSetField.f spec_l1Cur_fields.f
  obtain ⟨v, a1, s1, e1, p1, p2, p3, p4⟩ := pick_ok code hc hb 0 0 6 (by omega) (by omega)
  rw [e1, Option.bind_some]
  try dsimp only
  obtain ⟨v2, a2, s2, e2, q1, q2⟩ := one_ok code hc hb a1 s1 40 (by omega) (by omega)
  rw [e2, Option.bind_some]
  try dsimp only
  obtain ⟨K', rfl⟩ : ∃ K', K = K' + 1 := ⟨K - 1, by omega⟩
  have fin : ∀ (l : List S31) (a s : Int), 0 ≤ a → a < 100000 → l.length ≤ 41 → (∀ x ∈ l, FF x) → ∃ l' n v, ((spec_l1Cur_field.f code a s).bind fun bt253 => (some (l, bt253.1, bt253.2.1))) = some (l', n, v) ∧ l'.length ≤ 41 ∧ (∀ x ∈ l', FF x) ∧ n ∈ names8 ∧ v ∈ vals8 := fun l a s g0 g1 g2 g3 => by
    obtain ⟨nm, w, a', s', e, hn, hv, _, _⟩ := field_ok code hc hb a s g0 (by omega)
    rw [e]
    exact ⟨l, nm, w, rfl, g2, g3, hn, hv⟩
  cases v2
  · rw [if_neg (show ¬ false = true by decide)]
    unfold spec_l1Cur_fields.j0
    try dsimp only
    obtain ⟨n, rfl⟩ : ∃ n : Nat, v = (n : Int) := ⟨v.toNat, by omega⟩
    obtain ⟨l', a', s', e, r1, r2, r3, r4⟩ := fields_l code hc hb n K' [] a2 s2 (by omega) (by omega) (by omega) (by simp; omega) (fun x hx => by cases hx)
    rw [e, Option.bind_some]
    exact fin l' a' s' r3 r4 r1 r2
  · rw [if_pos rfl]
    obtain ⟨v3, a3, s3, e3, t1, t2, t3, t4⟩ := pick_ok code hc hb a2 s2 2 (by omega) (by omega)
    rw [e3, Option.bind_some]
    unfold spec_l1Cur_fields.j0
    try dsimp only
    rw [w64 (by omega) (by omega)]
    obtain ⟨n, hn⟩ : ∃ n : Nat, 40 + v3 = (n : Int) := ⟨(40 + v3).toNat, by omega⟩
    rw [hn]
    obtain ⟨l', a', s', e, r1, r2, r3, r4⟩ := fields_l code hc hb n K' [] a3 s3 (by omega) (by omega) (by omega) (by simp; omega) (fun x hx => by cases hx)
    rw [e, Option.bind_some]
    exact fin l' a' s' r3 r4 r1 r2
theorem j1_ok (code : List Int) (hc : ∀ x ∈ code, 0 ≤ x ∧ x ≤ 255) (hb : code.length < 4611686018427387904) (K : Nat) (hK : 3000 ≤ K) : laws_FnQuoted.j1 K code = some true := by
  obtain ⟨k, rfl⟩ : ∃ k, K = k + 1 + 1 + 1 := ⟨K - 3, by omega⟩
  obtain ⟨l, n, v, e, hl, h, hn, hv⟩ := drawSet_ok code hc hb (k + 1 + 1) (by omega)
  have hf : FF ⟨n, v⟩ := ⟨hn, hv⟩
  have i1 := setFieldI l ⟨n, v⟩ h hf (by omega) (k + 1 + 1) (by omega)
  have i2 := setFieldS l ⟨n, v⟩ h hf (by omega) (k + 1 + 1) (by omega)
  unfold laws_FnQuoted.j1
  try dsimp only
  rw [e, Option.bind_some]
  dsimp only at i1 i2 ⊢
  rw [i1, Option.bind_some, i2, Option.bind_some]
  have hne : ∀ b : Bool, (b != b) = false := fun b => by cases b <;> rfl
  rw [hne, if_neg (show ¬ false = true by decide)]
  unfold resS
  have sl := set_len n v l false
  cases c : (l.all gd && decide (l.length ≤ 40) && gd ⟨n, v⟩) with
  | false =>
    rw [if_neg (show ¬ false = true by decide)]
    have es : laws_sameFields.f (k + 1 + 1) [] [] = some true := by
      unfold laws_sameFields.f
      rw [if_pos rfl]
      exact sameF_l [] (by decide) 0 _ 0 rfl (by omega)
    dsimp only
    rw [es, Option.bind_some]
    unfold laws_FnQuoted.j2
    dsimp only
    rw [if_neg (by decide), if_neg (by decide)]
    rfl
  | true =>
    rw [if_pos rfl]
    rw [Bool.and_eq_true, Bool.and_eq_true] at c
    have ho : okL l := ⟨c.1.1, of_decide_eq_true c.1.2⟩
    have hk := set_keeps ⟨n, v⟩ hf c.2 l false h c.1.1
    dsimp only at hk
    unfold finS
    by_cases c2 : ((setL n v l false).length : Int) > 40
    · rw [if_pos c2]
      have es : laws_sameFields.f (k + 1 + 1) [] [] = some true := by
        unfold laws_sameFields.f
        rw [if_pos rfl]
        exact sameF_l [] (by decide) 0 _ 0 rfl (by omega)
      dsimp only
      rw [es, Option.bind_some]
      unfold laws_FnQuoted.j2
      dsimp only
      rw [if_neg (by decide), if_neg (by decide)]
      rfl
    · rw [if_neg c2]
      have hm : (setL n v l false).length ≤ 40 := by omega
      have es : laws_sameFields.f (k + 1 + 1) (setL n v l false) (setL n v l false) = some true := by
        unfold laws_sameFields.f
        rw [if_pos rfl]
        exact sameF_l _ (by omega) _ _ 0 (Nat.zero_add _) (by omega)
      have hnm : nmOK n = true := by have z := c.2; unfold gd at z; rw [Bool.and_eq_true] at z; exact z.1
      have ev := valuesI (setL n v l false) n hk.1 ⟨hk.2, hm⟩ hn hnm (k + 1) (by omega)
      rw [set_vals n v l false, if_neg (show ¬ false = true by decide)] at ev
      have ej : impl_JoinedOf.f (k + 1) (setL n v l false) n = some (v, true) := by
        unfold impl_JoinedOf.f
        rw [ev]; rfl
      dsimp only
      rw [es, Option.bind_some]
      unfold laws_FnQuoted.j2
      dsimp only
      rw [if_neg (by decide), if_pos rfl, ev, Option.bind_some, ej, Option.bind_some]
      dsimp only
      rw [if_pos rfl, if_pos rfl, if_pos (show ((([v] : List ByteArray).length : Nat) : Int) = 1 from rfl), if_pos (show (0 : Int) < ((([v] : List ByteArray).length : Nat) : Int) from (by show (0 : Int) < 1; decide)), if_pos (show (rdOf ByteArray.empty [v] 0).toList = v.toList from rfl)]
      unfold laws_FnQuoted.j3
      dsimp only
      rw [if_neg (by simp)]
      exact l0_ok l ⟨n, v⟩ h hf ho c.2 hm l.length k 0 (Nat.zero_add _) (by have := ho.2; omega)

/-! The drawn text, and the law -/
theorem bytes_l (code : List Int) (hc : ∀ x ∈ code, 0 ≤ x ∧ x ≤ 255) (hb : code.length < 4611686018427387904) :
    ∀ (n K : Nat) (l : List Int) (a s : Int), n < K → 0 ≤ a → a + n < 100000 → l.length + n ≤ 100 → Byt l →
      ∃ l' a' s', spec_l1Cur_bytes.l0 K l (n : Int) code a s = some (l', a', s') ∧ l'.length = l.length + n ∧ Byt l' ∧ 0 ≤ a' ∧ a' < 100000
  | n, 0, l, a, s, h, _, _, _, _ => absurd h (by omega)
  | 0, K + 1, l, a, s, h, h0, h1, h2, h3 => by
    unfold spec_l1Cur_bytes.l0
    rw [if_neg (by omega)]
    exact ⟨l, a, s, rfl, rfl, h3, h0, by omega⟩
  | n + 1, K + 1, l, a, s, h, h0, h1, h2, h3 => by
    obtain ⟨b, s', e, b0, b1⟩ := next_ok code hc hb a s h0 (by omega)
    unfold spec_l1Cur_bytes.l0
    rw [if_pos (by omega), e, Option.bind_some]
    try dsimp only
    rw [if_pos (by omega), w64 (by omega) (by omega), show ((n + 1 : Nat) : Int) - 1 = (n : Int) by omega]
    obtain ⟨l', a2, s2, e2, r1, r2, r3, r4⟩ := bytes_l code hc hb n K (l ++ [b % 256]) (a + 1) s' (by omega) (by omega) (by omega) (by simp; omega) (fun x hx => by
      rcases List.mem_append.mp hx with hx | hx
      · exact h3 x hx
      · rw [List.mem_singleton.mp hx]; omega)
    exact ⟨l', a2, s2, e2, by rw [r1, List.length_append, List.length_singleton]; omega, r2, r3, r4⟩
theorem four_ok : (([(⟨#[34]⟩ : ByteArray), (⟨#[92]⟩ : ByteArray), (⟨#[44]⟩ : ByteArray), (⟨#[32]⟩ : ByteArray)] : List ByteArray).all fun t => decide (0 < t.size) && decide (32 ≤ bt t 0) && decide (bt t 0 ≤ 126)) = true := by decide +kernel
theorem b32 (x : Int) (h : 0 ≤ x) : 32 ≤ (32 + x % 95) % 256 ∧ (32 + x % 95) % 256 ≤ 126 := by omega
theorem printed_l (code : List Int) (hc : ∀ x ∈ code, 0 ≤ x ∧ x ≤ 255) (hb : code.length < 4611686018427387904) :
    ∀ (m K i : Nat) (l : List Int) (a s : Int), i + m = l.length → m < K → l.length ≤ 100 → Byt l → 0 ≤ a → a + 8 * m < 200000 → (∀ j (h : j < l.length), j < i → 32 ≤ l[j] ∧ l[j] ≤ 126) →
      ∃ T a' s', spec_l1Cur_printed.l0 K l (l.length : Int) (i : Int) code a s = some (strOfNums T, a', s') ∧ T.length = l.length ∧ Prt T
  | m, 0, i, l, a, s, _, h, _, _, _, _, _ => absurd h (Nat.not_lt_zero _)
  | 0, K + 1, i, l, a, s, hi, h, hl, hB, h0, h1, hp => by
    unfold spec_l1Cur_printed.l0
    rw [if_neg (by omega)]
    refine ⟨l, a, s, rfl, rfl, fun x hx => ?_⟩
    obtain ⟨j, hj, rfl⟩ := List.getElem_of_mem hx
    exact hp j hj (by omega)
  | m + 1, K + 1, i, l, a, s, hi, h, hl, hB, h0, h1, hp => by
    have hlt : i < l.length := by omega
    have hx := hB _ (List.getElem_mem hlt)
    have ht : Int.tmod (l[i]) 95 = l[i] % 95 := Int.tmod_eq_emod_of_nonneg hx.1
    have step : ∀ (y : Int) (a' s' : Int), 32 ≤ y → y ≤ 126 → 0 ≤ a' → a' ≤ a + 8 → ∀ l2 : List Int, l2 = l.set i y → ∃ T a2 s2, spec_l1Cur_printed.l0 K l2 (l.length : Int) ((i + 1 : Nat) : Int) code a' s' = some (strOfNums T, a2, s2) ∧ T.length = l.length ∧ Prt T := fun y a' s' y0 y1 g0 g1 l2 e2 => by
      have hll : l2.length = l.length := by rw [e2, List.length_set]
      have z := printed_l code hc hb m K (i + 1) l2 a' s' (by omega) (by omega) (by omega) (fun x hx => by
        rw [e2] at hx
        rcases List.mem_or_eq_of_mem_set hx with hx | hx
        · exact hB x hx
        · omega) g0 (by omega) (fun j hj hji => by
        subst e2
        rw [List.getElem_set]
        split
        · exact ⟨y0, y1⟩
        · exact hp j (by rw [List.length_set] at hj; exact hj) (by omega))
      rw [hll] at z
      exact z
    unfold spec_l1Cur_printed.l0
    rw [if_pos (by omega), if_pos (by omega), if_pos (by omega), Option.bind_some, rd_nat l i hlt, ht]
    clear ht
    obtain ⟨v, a1, s1, e1, p1, p2⟩ := one_ok code hc hb a s 4 h0 (by omega)
    have g0 : 0 ≤ a1 := Int.le_trans h0 p1
    have ga : a1 ≤ a + 8 := Int.le_trans p2 (by omega)
    have g1 : a1 < 4611686018427380000 := Int.lt_of_le_of_lt ga (by clear hx; omega)
    rw [e1, Option.bind_some]
    try dsimp only
    have hw : wrap64 ((i : Int) + 1) = ((i + 1 : Nat) : Int) := w_i i l.length hlt (Nat.le_trans hl (by decide))
    cases v with
    | true =>
      rw [if_pos rfl]
      obtain ⟨t, a2, s2, e2, q1, q2, q3⟩ := of_ok code hc hb ([(⟨#[34]⟩ : ByteArray), (⟨#[92]⟩ : ByteArray), (⟨#[44]⟩ : ByteArray), (⟨#[32]⟩ : ByteArray)] : List ByteArray) (by decide) a1 s1 g0 g1
      have k1 : 0 ≤ a2 := Int.le_trans g0 q2
      have k2 : a2 ≤ a + 8 := by clear e2 e1 q1 step hx; omega
      have g := List.all_eq_true.mp four_ok t q1
      simp only [Bool.and_eq_true, decide_eq_true_eq] at g
      rw [e2, Option.bind_some]
      try dsimp only
      rw [if_pos (Int.natCast_pos.mpr g.1.1), hw]
      exact step (bt t 0) a2 s2 g.1.2 g.2 k1 k2 _ (by rw [Int.toNat_natCast, List.set_set])
    | false =>
      rw [if_neg (show ¬ false = true by decide), hw]
      exact step ((32 + l[i] % 95) % 256) a1 s1 (b32 _ hx.1).1 (b32 _ hx.1).2 g0 ga _ (by rw [Int.toNat_natCast])
theorem drawQ_ok (code : List Int) (hc : ∀ x ∈ code, 0 ≤ x ∧ x ≤ 255) (hb : code.length < 4611686018427387904) (K : Nat) (hK : 200 ≤ K) :
    ∃ s, spec_DrawQuoteOf.f K code = some s ∧ (s ∈ ([(⟨#[10]⟩ : ByteArray), (⟨#[127]⟩ : ByteArray)] : List ByteArray) ∨ ∃ L, s = strOfNums L ∧ L.length ≤ 8 ∧ Prt L) := by
  unfold spec_DrawQuoteOf.f
  obtain ⟨v, a1, s1, e1, p1, p2⟩ := one_ok code hc hb 0 0 20 (by omega) (by omega)
  rw [e1, Option.bind_some]
  try dsimp only
  cases v with
  | true =>
    rw [if_pos rfl]
    obtain ⟨t, a2, s2, e2, q1, q2, q3⟩ := of_ok code hc hb ([(⟨#[10]⟩ : ByteArray), (⟨#[127]⟩ : ByteArray)] : List ByteArray) (by decide) a1 s1 (by omega) (by omega)
    rw [e2, Option.bind_some]
    exact ⟨t, rfl, Or.inl q1⟩
  | false =>
    rw [if_neg (show ¬ false = true by decide)]
    unfold spec_l1Cur_printed.f spec_l1Cur_bytes.f
    obtain ⟨v2, a2, s2, e2, q1, q2, q3, q4⟩ := pick_ok code hc hb a1 s1 9 (by omega) (by omega)
    rw [e2, Option.bind_some]
    try dsimp only
    rw [w64 (by omega) (by omega)]
    obtain ⟨v3, a3, s3, e3, t1, t2, t3, t4⟩ := pick_ok code hc hb a2 s2 (v2 + 1) (by omega) (by omega)
    rw [e3, Option.bind_some]
    try dsimp only
    obtain ⟨n, rfl⟩ : ∃ n : Nat, v3 = (n : Int) := ⟨v3.toNat, by omega⟩
    obtain ⟨l, a4, s4, e4, r1, r2, r3, r4⟩ := bytes_l code hc hb n K [] a3 s3 (by omega) (by omega) (by omega) (by simp; omega) (fun x hx => by cases hx)
    rw [e4, Option.bind_some]
    try dsimp only
    have hll : l.length = n := by rw [r1]; exact Nat.zero_add n
    obtain ⟨T, a5, s5, e5, u1, u2⟩ := printed_l code hc hb l.length K 0 l a4 s4 (Nat.zero_add _) (by omega) (by omega) r2 r3 (by omega) (fun j hj hji => absurd hji (Nat.not_lt_zero _))
    have e5' : spec_l1Cur_printed.l0 K l (l.length : Int) 0 code a4 s4 = some (strOfNums T, a5, s5) := e5
    rw [e5', Option.bind_some]
    exact ⟨_, rfl, Or.inr ⟨T, rfl, by omega, u2⟩⟩
theorem odd_all : (([(⟨#[10]⟩ : ByteArray), (⟨#[127]⟩ : ByteArray)] : List ByteArray).all fun s => decide (impl_isPrinted.f s 100 = some false) && decide (spec_QuoteOf.f 8 s = some ((⟨#[]⟩ : ByteArray), false))) = true := by decide +kernel
theorem w_len (a b : Nat) (ha : a ≤ 140737488351232) (hb : b ≤ 140737488351232) : wrap64 ((a : Int) + (b : Int)) = (a : Int) + (b : Int) := w64 (by omega) (by omega)
theorem FnQuoted : laws_FnQuoted.Pure := by
  intro code more hlen hlen2 hwf hlen3 hlen4 hwf2
  have hc := bytes_of code hwf
  have hc2 := bytes_of more hwf2
  refine ⟨5001, ?_⟩
  unfold laws_FnQuoted.f
  rw [w_len _ _ (by omega) (by omega)]
  by_cases c : (code.length : Int) + (more.length : Int) > 1048576
  · rw [if_pos c]
  rw [if_neg c]
  have hb : code.length < 4611686018427387904 := by omega
  have hmb : more.length < 4611686018427387904 := by omega
  obtain ⟨s, e, hs⟩ := drawQ_ok code hc hb 5001 (by decide)
  have hne : ∀ b : Bool, (b != b) = false := fun b => by cases b <;> rfl
  have hnl : ∀ z : List UInt8, (z != z) = false := fun z => bne_eq_false_iff_eq.mpr rfl
  rw [e, Option.bind_some]
  rcases hs with hs | ⟨L, rfl, hL, hp⟩
  · have g := List.all_eq_true.mp odd_all s hs
    simp only [Bool.and_eq_true, decide_eq_true_eq] at g
    have i1 : impl_QuoteOf.f 5001 s = some ((⟨#[]⟩ : ByteArray), false) := by
      unfold impl_QuoteOf.f
      rw [g.1]; rfl
    have i2 : spec_QuoteOf.f 5001 s = some ((⟨#[]⟩ : ByteArray), false) := mono_le (fun k => spec_QuoteOf.f k s) (fun k => spec_QuoteOf.mono s k) 8 5001 (by decide) _ g.2
    rw [i1, Option.bind_some, i2, Option.bind_some]
    dsimp only
    rw [hne, if_neg (show ¬ false = true by decide), hnl]
    unfold laws_FnQuoted.j0
    dsimp only
    rw [if_neg (show ¬ false = true by decide), if_neg (show ¬ false = true by decide)]
    exact j1_ok more hc2 hmb 5000 (by decide)
  · have hel := esc_len L
    rw [quoteI L hp (by omega) 5001 (by decide), Option.bind_some, quoteS L hp (by omega) 5001 (by decide), Option.bind_some]
    dsimp only
    rw [hne, if_neg (show ¬ false = true by decide), hnl]
    have hu := unquote_ok L hp (by omega) 5000 (by decide)
    have hli := list_ok L hp (by omega) 5000 (by decide)
    have hz : (34 :: esc L ++ [34]).length ≤ 18 := by simp only [List.length_append, List.length_cons, List.length_nil]; omega
    have f2 : strOfNums (34 :: esc L ++ [34]) ++ (⟨#[44, 32]⟩ : ByteArray) = strOfNums ((34 :: esc L ++ [34]) ++ [44, 32]) := son_app _ [44, 32]
    have f3 : (34 :: esc L ++ [34]) ++ [44, 32] ++ (34 :: esc L ++ [34]) = (34 :: esc L ++ [34]) ++ ([44, 32] ++ (34 :: esc L ++ [34])) := List.append_assoc _ _ _
    unfold laws_FnQuoted.j0
    dsimp only
    rw [if_neg (show ¬ false = true by decide), if_pos rfl, hu, Option.bind_some, f2, son_app, f3, hli, strOfNums_size, strOfNums_size, if_pos (by omega), if_pos (by rw [List.length_append]; simp only [List.length_cons, List.length_nil]; omega), Option.bind_some]
    dsimp only
    rw [if_pos rfl, if_pos rfl, if_pos rfl, if_pos (show ((([strOfNums (34 :: esc L ++ [34]), strOfNums (34 :: esc L ++ [34])] : List ByteArray).length : Nat) : Int) = 2 from rfl), if_pos (show (0 : Int) < ((([strOfNums (34 :: esc L ++ [34]), strOfNums (34 :: esc L ++ [34])] : List ByteArray).length : Nat) : Int) from (by show (0 : Int) < 2; decide)), if_pos (show (rdOf ByteArray.empty [strOfNums (34 :: esc L ++ [34]), strOfNums (34 :: esc L ++ [34])] 0).toList = (strOfNums (34 :: esc L ++ [34])).toList from rfl), if_pos (show (1 : Int) < ((([strOfNums (34 :: esc L ++ [34]), strOfNums (34 :: esc L ++ [34])] : List ByteArray).length : Nat) : Int) from (by show (1 : Int) < 2; decide)), if_pos (show (rdOf ByteArray.empty [strOfNums (34 :: esc L ++ [34]), strOfNums (34 :: esc L ++ [34])] 1).toList = (strOfNums (34 :: esc L ++ [34])).toList from rfl)]
    exact j1_ok more hc2 hmb 5000 (by decide)

end Go.Proofs.YtjkpomphkfecmaaDoor.Pure
