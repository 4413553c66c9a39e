/- The program's HashOf returns what the reference's returns, for every text: both fold the same hash over the same bytes.
   Conditions: none beyond the statement's own. -/
import Derived.Test.YtomigaddkehhiaaPFnExactHashOfx1
namespace Go.Proofs.Ytomigaddkehhiaa.Pure
open Go.RowKit Go.Proofs.Ytomigaddkehhiaa.PFnExactHashOf Go.Proofs.YtomigaddkehhiaaW.PrintWords Go.Proofs.YtomigaddkehhiaaW.PrintLast

theorem wrap_next {i : Int} {n : Nat} (h0 : 0 ≤ i) (h : i < (n : Int)) (hn : n ≤ 140737488351232) : wrap64 (i + 1) = i + 1 := by
  unfold wrap64
  omega

/-- The last mixing of a hash. -/
def lastMix (r : Int) : Int := Go.bits .xor .u32 (((Go.bits .xor .u32 r (r / 32768)) * 2246822507) % 4294967296) ((((Go.bits .xor .u32 r (r / 32768)) * 2246822507) % 4294967296) / 8192)

/-- From place i on, with enough rounds: the program's loop hands back some h, and the reference's loop its last mixing. -/
theorem hash_both (s : ByteArray) (hn : s.size ≤ 140737488351232) (d : Nat) : ∀ (k : Nat) (h i : Int), 0 ≤ i → (s.size : Int) - i = d → d < k →
    ∃ r, impl_hashed.l0 k h s (s.size : Int) i = some r ∧ spec_HashOf.l0 k s h i = some (lastMix r) := by
  induction d with
  | zero =>
    intro k h i h0 hd hk
    obtain ⟨k, rfl⟩ : ∃ m, k = m + 1 := ⟨k - 1, by omega⟩
    have hge : ¬ i < (s.size : Int) := by omega
    refine ⟨h, ?_, ?_⟩
    · simp only [impl_hashed.l0]; rw [if_neg hge]
    · simp only [spec_HashOf.l0, lastMix]; rw [if_neg hge]
  | succ d ih =>
    intro k h i h0 hd hk
    obtain ⟨k, rfl⟩ : ∃ m, k = m + 1 := ⟨k - 1, by omega⟩
    have hlt : i < (s.size : Int) := by omega
    obtain ⟨r, h1, h2⟩ := ih k (((Go.bits .xor .u32 h ((bt s i) % 4294967296)) * 16777619) % 4294967296) (i + 1) (by omega) (by omega) (by omega)
    refine ⟨r, ?_, ?_⟩
    · simp only [impl_hashed.l0]; rw [if_pos hlt, if_pos h0, if_pos hlt, wrap_next h0 hlt hn]; exact h1
    · simp only [spec_HashOf.l0]; rw [if_pos hlt, if_pos h0, wrap_next h0 hlt hn]; exact h2

theorem FnExactHashOf : laws_FnExactHashOf.Pure := by
  intro s hn
  obtain ⟨k, hk⟩ : ∃ k, k = s.size + 1 := ⟨_, rfl⟩
  obtain ⟨r, h1, h2⟩ := hash_both s hn s.size k 2166136261 0 (by omega) (by omega) (by omega)
  have e1 : spec_HashOf.f k s = some (lastMix r) := h2
  have e2 : impl_HashOf.f k s = some (lastMix r) := by
    unfold impl_HashOf.f impl_hashed.f lastMix
    rw [h1, Option.bind_some]
  refine ⟨k, ?_⟩
  unfold laws_FnExactHashOf.f
  by_cases c : (s.size : Int) > 1048576
  · rw [if_pos c]
  · rw [if_neg c, e1, Option.bind_some, e2, Option.bind_some, if_pos rfl]

end Go.Proofs.Ytomigaddkehhiaa.Pure
