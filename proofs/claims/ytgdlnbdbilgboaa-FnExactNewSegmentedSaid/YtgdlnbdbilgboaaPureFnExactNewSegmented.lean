/- The program's NewSegmented returns what the reference's returns. No conditions. -/
import Derived.Test.YtgdlnbdbilgboaaPFnExactNewSegmentedx3
set_option linter.unusedVariables false
set_option linter.unusedSimpArgs false
namespace Go.Proofs.Ytgdlnbdbilgboaa.Pure
open Go.RowKit Go.Proofs.Ytgdlnbdbilgboaa.PFnExactNewSegmented Go.Proofs.YtgdlnbdbilgboaaW.PrintWords Go.Proofs.YtgdlnbdbilgboaaW.PrintLast

/-! Whole numbers and rows of them -/
theorem w64 {x : Int} (h : -9223372036854775808 ≤ x) (h2 : x < 9223372036854775808) : wrap64 x = x := by unfold wrap64; omega
theorem rd_nat (l : List Int) (n : Nat) (h : n < l.length) : rd l (n : Int) = l[n] := by
  unfold rd; simp [List.getD_eq_getElem?_getD, h]
theorem succ_cast (n : Nat) : ((n : Int) + 1) = ((n + 1 : Nat) : Int) := by omega

theorem FnExactNewSegmented : laws_FnExactNewSegmented.Pure := by
  intro a0 a1 h0 h1
  clear h0 h1
  have room : ∀ a : Int, impl_isRoom.f a = spec_l12Room.f a := by
    intro a
    unfold impl_isRoom.f spec_l12Room.f impl_within.f spec_l1In.f
    rfl
  have e1 : impl_NewSegmented.f a0 a1 = spec_NewSegmented.f a0 a1 := by
    unfold impl_NewSegmented.f spec_NewSegmented.f
    rw [room, room]
  have e2 : ∃ x y b, spec_NewSegmented.f a0 a1 = some (x, y, [], [], b) := by
    unfold spec_NewSegmented.f spec_l12Room.f spec_l1In.f
    by_cases c : a0 ≥ 100
    · rw [if_pos c]; simp only [Option.bind_some]
      split
      · by_cases c2 : a1 ≥ 100
        · rw [if_pos c2]; simp only [Option.bind_some]
          split
          · exact ⟨_, _, _, rfl⟩
          · exact ⟨_, _, _, rfl⟩
        · rw [if_neg c2]; exact ⟨_, _, _, rfl⟩
      · exact ⟨_, _, _, rfl⟩
    · rw [if_neg c]; exact ⟨_, _, _, rfl⟩
  obtain ⟨x, y, b, e2⟩ := e2
  rw [e2] at e1
  have q1 : ∀ m : Nat, laws_eqEntryS.f (m + 1) [] [] = some true := fun m => by simp [laws_eqEntryS.f, laws_eqEntryS.l0]
  have q2 : ∀ m : Nat, laws_markEntryS.f (m + 1) [] 1 = some (1, []) := fun m => by simp [laws_markEntryS.f, laws_markEntryS.l0]
  have q3 : ∀ m : Nat, laws_heldEntryS.f (m + 1) [] 1 = some 1 := fun m => by simp [laws_heldEntryS.f, laws_heldEntryS.l0]
  have q4 : ∀ m : Nat, laws_eqSegmented.f (m + 1) x y [] [] x y [] [] = some true := fun m => by
    unfold laws_eqSegmented.f
    rw [if_pos rfl, if_pos rfl, q1, Option.bind_some, if_pos rfl, Option.bind_some, if_pos rfl]
  have q5 : ∀ m : Nat, laws_markSegmented.f (m + 1) x y [] [] 1 = some (1, [], []) := fun m => by
    unfold laws_markSegmented.f
    rw [q2]
    simp only [Option.bind_some]
    rw [q2]
    simp only [Option.bind_some]
  have q6 : ∀ m : Nat, laws_heldSegmented.f (m + 1) x y [] [] 1 = some 1 := fun m => by
    unfold laws_heldSegmented.f
    rw [q3, Option.bind_some, if_neg (by omega), q3, Option.bind_some, if_neg (by omega)]
  refine ⟨3, ?_⟩
  unfold laws_FnExactNewSegmented.f
  rw [e2, e1]
  simp only [Option.bind_some]
  rw [q4]
  simp only [Option.bind_some, if_true, laws_FnExactNewSegmented.j0, bne_self_eq_false, Bool.false_eq_true, if_false]
  rw [q5, Option.bind_some, q6, Option.bind_some, if_neg (by omega), if_pos rfl, e1, Option.bind_some, q4, Option.bind_some, if_pos rfl]
  simp only [laws_FnExactNewSegmented.j1, bne_self_eq_false, Bool.false_eq_true, if_false]
  rw [q6, Option.bind_some, if_neg (by omega), if_pos rfl]

end Go.Proofs.Ytgdlnbdbilgboaa.Pure
