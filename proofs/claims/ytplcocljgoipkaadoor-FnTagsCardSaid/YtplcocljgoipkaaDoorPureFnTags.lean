/- For all drawn pairs of tags the program's answers on tags are the reference's, a tag comes back from its text, and two tags come back from their list, for all drawings of at most 1048576 bytes. -/
import Derived.Test.YtplcocljgoipkaaDoorPFnTagsx7
import Derived.Lib.VarintBits
set_option linter.unusedVariables false
set_option linter.unusedSimpArgs false
namespace Go.Proofs.YtplcocljgoipkaaDoor.Pure
open Go.RowKit Go.Proofs.YtplcocljgoipkaaDoor.PFnTags Go.Proofs.YtplcocljgoipkaaDoorW.PrintWords Go.Proofs.YtplcocljgoipkaaDoorW.PrintLast

/-! Whole numbers and rows of them -/
theorem w64 {x : Int} (h : -9223372036854775808 ≤ x) (h2 : x < 9223372036854775808) : wrap64 x = x := by unfold wrap64; omega
theorem rd_nat (l : List Int) (n : Nat) (h : n < l.length) : rd l (n : Int) = l[n] := by
  unfold rd; simp [List.getD_eq_getElem?_getD, h]
theorem succ_cast (n : Nat) : ((n : Int) + 1) = ((n + 1 : Nat) : Int) := by omega

theorem bytes_of (l : List Int) (h : ∀ x ∈ l, (Lit.int .u8 x).wf = true) : ∀ x ∈ l, 0 ≤ x ∧ x ≤ 255 := by
  intro x hx
  have := h x hx
  simp [Lit.wf, IntKind.min, IntKind.max, IntKind.bits, IntKind.signed] at this
  omega

/-! The cursor that draws an argument out of bytes -/
theorem and255 (y : Int) (h0 : 0 ≤ y) (h1 : y < 18446744073709551616) : bits .and .u64 y 255 = y % 256 := bits_mask .u64 64 (by decide) wraps_u64 8 (by decide) y h0 h1
theorem and255_range (s : Int) : 0 ≤ bits .and .u64 ((IntKind.u64.wrap s) / 1099511627776) 255 ∧ bits .and .u64 ((IntKind.u64.wrap s) / 1099511627776) 255 ≤ 255 := by
  have h : IntKind.u64.wrap s = s % 18446744073709551616 := IntKind.wrap_u64 s
  rw [h, and255 _ (by omega) (by omega)]
  omega
theorem rd_byte (l : List Int) (hc : ∀ x ∈ l, 0 ≤ x ∧ x ≤ 255) (i : Int) (h0 : 0 ≤ i) (h1 : i < l.length) : 0 ≤ rd l i ∧ rd l i ≤ 255 := by
  obtain ⟨n, rfl⟩ : ∃ n : Nat, i = (n : Int) := ⟨i.toNat, by omega⟩
  rw [rd_nat l n (by omega)]
  exact hc _ (List.getElem_mem _)
theorem next_ok (code : List Int) (hc : ∀ x ∈ code, 0 ≤ x ∧ x ≤ 255) (hb : code.length < 4611686018427387904) (a s : Int) (h0 : 0 ≤ a) (h1 : a < 4611686018427387904) :
    ∃ b s', spec_l1Cur_next.f code a s = some (b, a + 1, s') ∧ 0 ≤ b ∧ b ≤ 255 := by
  have hw : wrap64 (a + 1) = a + 1 := w64 (by omega) (by omega)
  unfold spec_l1Cur_next.f
  rw [hw]
  by_cases c : a < (code.length : Int)
  · have hr := rd_byte code hc a h0 c
    rw [if_pos c, if_pos h0, if_pos (by omega)]
    exact ⟨_, _, rfl, by rw [w64 (by omega) (by omega)]; exact hr⟩
  · rw [if_neg c, if_neg (by omega)]
    refine ⟨_, _, rfl, ?_⟩
    have hr := and255_range ((IntKind.u64.wrap (IntKind.u64.wrap (s * 6364136223846793005))) + 1442695040888963407)
    rw [w64 (by omega) (by omega)]
    exact hr
theorem tmod_range (x n : Int) (h : 0 ≤ x) (hn : 0 < n) : 0 ≤ Int.tmod x n ∧ Int.tmod x n < n := ⟨Int.tmod_nonneg n h, Int.tmod_lt_of_pos x hn⟩
theorem pick_ok (code : List Int) (hc : ∀ x ∈ code, 0 ≤ x ∧ x ≤ 255) (hb : code.length < 4611686018427387904) (a s n : Int) (h0 : 0 ≤ a) (h1 : a < 4611686018427380000) :
    ∃ v a' s', spec_l1Cur_pick.f code a s n = some (v, a', s') ∧ 0 ≤ v ∧ (v < n ∨ v = 0) ∧ a ≤ a' ∧ a' ≤ a + 2 := by
  unfold spec_l1Cur_pick.f
  by_cases c : n ≤ 1
  · rw [if_pos c]
    exact ⟨0, a, s, rfl, by omega, by omega, by omega, by omega⟩
  · rw [if_neg c]
    obtain ⟨b, s1, e1, hb0, hb1⟩ := next_ok code hc hb a s h0 (by omega)
    rw [e1, Option.bind_some]
    by_cases c2 : n > 200
    · rw [if_pos c2]
      obtain ⟨b2, s2, e2, hb2, hb3⟩ := next_ok code hc hb (a + 1) s1 (by omega) (by omega)
      try dsimp only
      rw [e2, Option.bind_some, if_neg (by omega)]
      have hw1 : wrap64 (b * 256) = b * 256 := w64 (by omega) (by omega)
      have hw2 : wrap64 (b * 256 + b2) = b * 256 + b2 := w64 (by omega) (by omega)
      have hr := tmod_range (b * 256 + b2) n (by omega) (by omega)
      refine ⟨_, _, _, rfl, ?_⟩
      simp only [hw1, hw2]
      exact ⟨hr.1, Or.inl hr.2, by omega, by omega⟩
    · rw [if_neg c2, if_neg (by omega)]
      have hr := tmod_range b n (by omega) (by omega)
      refine ⟨_, _, _, rfl, hr.1, Or.inl hr.2, ?_, ?_⟩ <;> dsimp only <;> omega
theorem one_ok (code : List Int) (hc : ∀ x ∈ code, 0 ≤ x ∧ x ≤ 255) (hb : code.length < 4611686018427387904) (a s n : Int) (h0 : 0 ≤ a) (h1 : a < 4611686018427380000) :
    ∃ v a' s', spec_l1Cur_one.f code a s n = some (v, a', s') ∧ a ≤ a' ∧ a' ≤ a + 2 := by
  unfold spec_l1Cur_one.f
  obtain ⟨v, a', s', e, h⟩ := pick_ok code hc hb a s n h0 h1
  rw [e, Option.bind_some]
  exact ⟨_, _, _, rfl, h.2.2⟩

/-! FnTags: a tag is drawn out of a few, and all pairs are reckoned -/
theorem of_ok (code : List Int) (hc : ∀ x ∈ code, 0 ≤ x ∧ x ≤ 255) (hb : code.length < 4611686018427387904) (l : List ByteArray) (hl : 0 < l.length) (a s : Int) (h0 : 0 ≤ a) (h1 : a < 4611686018427380000) :
    ∃ v a' s', spec_l1Cur_of.f code a s l = some (v, a', s') ∧ v ∈ l ∧ a ≤ a' ∧ a' ≤ a + 2 := by
  unfold spec_l1Cur_of.f
  obtain ⟨v, a', s', e, h⟩ := pick_ok code hc hb a s (l.length : Int) h0 h1
  rw [e, Option.bind_some, if_pos h.1]
  have c : v < (l.length : Int) := by omega
  try dsimp only
  rw [if_pos c]
  refine ⟨_, _, _, rfl, ?_, h.2.2⟩
  unfold rdOf
  rw [List.getD_eq_getElem?_getD, List.getElem?_eq_getElem (show v.toNat < l.length by omega)]
  exact List.getElem_mem _
def tagTexts : List ByteArray := [⟨#[97]⟩, ⟨#[98]⟩, ⟨#[]⟩, ⟨#[120, 45, 49]⟩, ⟨#[34]⟩, ⟨#[97, 32, 98]⟩]
theorem tag_ok (code : List Int) (hc : ∀ x ∈ code, 0 ≤ x ∧ x ≤ 255) (hb : code.length < 4611686018427387904) (a s : Int) (h0 : 0 ≤ a) (h1 : a < 1000) :
    ∃ w t a' s', spec_l1Cur_tag.f code a s = some (w, t, a', s') ∧ t ∈ tagTexts ∧ a ≤ a' ∧ a' ≤ a + 8 := by
  unfold spec_l1Cur_tag.f
  obtain ⟨v1, a1, s1, e1, p1, p2⟩ := one_ok code hc hb a s 3 h0 (by omega)
  rw [e1, Option.bind_some]
  try dsimp only
  obtain ⟨v2, a2, s2, e2, q1, q2, q3⟩ := of_ok code hc hb ([(⟨#[97]⟩ : ByteArray), (⟨#[98]⟩ : ByteArray), (⟨#[]⟩ : ByteArray), (⟨#[120, 45, 49]⟩ : ByteArray)] : List ByteArray) (by decide) a1 s1 (by omega) (by omega)
  rw [e2, Option.bind_some]
  try dsimp only
  obtain ⟨v3, a3, s3, e3, r1, r2⟩ := one_ok code hc hb a2 s2 40 (by omega) (by omega)
  rw [e3, Option.bind_some]
  try dsimp only
  cases v3
  · rw [if_neg (show ¬ false = true by decide)]
    refine ⟨v1, v2, a3, s3, rfl, ?_, by omega, by omega⟩
    simp only [List.mem_cons, List.not_mem_nil, or_false] at q1
    unfold tagTexts
    rcases q1 with h | h | h | h <;> subst h <;> simp
  · rw [if_pos rfl]
    obtain ⟨v4, a4, s4, e4, t1, t2, t3⟩ := of_ok code hc hb ([(⟨#[34]⟩ : ByteArray), (⟨#[97, 32, 98]⟩ : ByteArray)] : List ByteArray) (by decide) a3 s3 (by omega) (by omega)
    rw [e4, Option.bind_some]
    refine ⟨v1, v4, a4, s4, rfl, ?_, by omega, by omega⟩
    simp only [List.mem_cons, List.not_mem_nil, or_false] at t1
    unfold tagTexts
    rcases t1 with h | h <;> subst h <;> simp
def tagsRest (k : Nat) (wa : Bool) (ta : ByteArray) (wb : Bool) (tb : ByteArray) : Option Bool := ((impl_StrongSame.f wa ta wb tb).bind fun bt218 => ((spec_StrongSame.f k wa ta wb tb).bind fun bt220 => ((impl_WeakSame.f wa ta wb tb).bind fun bt222 => ((spec_WeakSame.f k wa ta wb tb).bind fun bt224 => (if (bt218.2 != bt220.2) = true then (laws_FnTags.j0 k bt218.1 bt218.2 bt222.1 true wa ta wb tb) else (if (bt218.1 != bt220.1) = true then (laws_FnTags.j0 k bt218.1 bt218.2 bt222.1 true wa ta wb tb) else (if (bt222.2 != bt224.2) = true then (laws_FnTags.j0 k bt218.1 bt218.2 bt222.1 true wa ta wb tb) else (laws_FnTags.j0 k bt218.1 bt218.2 bt222.1 (bt222.1 != bt224.1) wa ta wb tb))))))))
def tagTrue : Option Bool → Bool
  | some true => true
  | _ => false
theorem tagTrue_eq (x : Option Bool) (h : tagTrue x = true) : x = some true := by
  cases x with
  | none => cases h
  | some b => cases b with
    | false => cases h
    | true => rfl
theorem tags_all : (tagTexts.all fun ta => tagTexts.all fun tb => [true, false].all fun wa => [true, false].all fun wb => tagTrue (tagsRest 100 wa ta wb tb)) = true := by decide +kernel
theorem FnTags : laws_FnTags.Pure := by
  intro code hlen hlen2 hwf
  have hc := bytes_of code hwf
  refine ⟨100, ?_⟩
  unfold laws_FnTags.f
  by_cases c : (code.length : Int) > 1048576
  · rw [if_pos c]
  rw [if_neg c]
  have hb : code.length < 4611686018427387904 := by omega
  obtain ⟨wa, ta, a1, s1, e1, h1, h2, h3⟩ := tag_ok code hc hb 0 0 (by decide) (by decide)
  obtain ⟨wb, tb, a2, s2, e2, h4, h5, h6⟩ := tag_ok code hc hb a1 s1 (by omega) (by omega)
  have ed : spec_DrawStrongSame.f code = some (wa, ta, wb, tb) := by
    unfold spec_DrawStrongSame.f
    rw [e1, Option.bind_some]
    try dsimp only
    rw [e2]
    rfl
  rw [ed, Option.bind_some]
  show tagsRest 100 wa ta wb tb = some true
  have g := tags_all
  have g1 := List.all_eq_true.mp g ta h1
  have g2 := List.all_eq_true.mp g1 tb h4
  have g3 := List.all_eq_true.mp g2 wa (by cases wa <;> decide)
  have g4 := List.all_eq_true.mp g3 wb (by cases wb <;> decide)
  exact tagTrue_eq _ g4

end Go.Proofs.YtplcocljgoipkaaDoor.Pure
