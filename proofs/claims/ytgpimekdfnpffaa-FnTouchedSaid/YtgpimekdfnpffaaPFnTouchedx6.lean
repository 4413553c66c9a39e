-- Written by a program of this project (xprint.py) out of the translation; Lean checks it.
import Derived.Test.YtgpimekdfnpffaaPFnTouchedx0
import Derived.Test.YtgpimekdfnpffaaPFnTouchedx1
import Derived.Test.YtgpimekdfnpffaaPFnTouchedx2
import Derived.Test.YtgpimekdfnpffaaPFnTouchedx4
import Derived.Test.YtgpimekdfnpffaaPFnTouchedx5
namespace Go.Proofs.Ytgpimekdfnpffaa.PFnTouched
open Go.RowKit Go.Proofs.YtgpimekdfnpffaaW.PrintWords Go.Proofs.YtgpimekdfnpffaaW.PrintLast Go.Proofs.YtgpimekdfnpffaaW.PrintMore
attribute [local go_sem] max2_int min2_int max_two min_two max_three min_three max_four min_four   -- for this text's walks alone
set_option linter.unusedVariables false
set_option linter.unusedSimpArgs false

/-! ### laws_FnTouched: function 5 -/
mutual
def laws_FnTouched.j0 : Nat → List Int → Int → Int → List Int → Bool → Bool → Option (Bool)
  | 0, _, _, _, _, _, _ => none
  | k + 1, x1, x6, x7, x8, x10, x64 => if x64 = true then (some false) else (if x10 = true then (if x7 > 0 then (if (x8.length : Int) = 0 then (laws_FnTouched.j1 k x1 true) else (if 0 < (x8.length : Int) then (if (rd x8 0) = x6 then (laws_FnTouched.j1 k x1 (decide ((x8.length : Int) > x7))) else (laws_FnTouched.j1 k x1 true)) else (none))) else (laws_FnTouched.j1 k x1 false)) else (laws_FnTouched.j1 k x1 false))
def laws_FnTouched.j1 : Nat → List Int → Bool → Option (Bool)
  | 0, _, _ => none
  | k + 1, x1, x87 => if x87 = true then (some false) else ((spec_DrawWorkingSet.f k x1).bind fun bt286 => ((impl_WorkingSet.f k bt286.1 bt286.2).bind fun bt290 => ((spec_WorkingSet.f k bt286.1 bt286.2).bind fun bt294 => (if (bt290.2 != bt294.2) = true then (laws_FnTouched.j2 k bt286.1 bt286.2 bt290.1 bt290.2 true) else ((laws_sameInts.f k bt290.1 bt294.1).bind fun t298 => (laws_FnTouched.j2 k bt286.1 bt286.2 bt290.1 bt290.2 (!t298)))))))
def laws_FnTouched.j2 : Nat → List Int → Int → List Int → Bool → Bool → Option (Bool)
  | 0, _, _, _, _, _ => none
  | k + 1, x14, x15, x16, x17, x113 => if x113 = true then (some false) else (if x17 = true then (laws_FnTouched.j3 k x14 x15 x16 (x15 == 200)) else (laws_FnTouched.j3 k x14 x15 x16 true))
def laws_FnTouched.j3 : Nat → List Int → Int → List Int → Bool → Option (Bool)
  | 0, _, _, _, _ => none
  | k + 1, x14, x15, x16, x119 => if x119 = true then (some true) else ((impl_WorkingSet.f k x14 (wrap64 (x15 + 1))).bind fun bt299 => (if bt299.2 = true then (laws_FnTouched.j4 k x15 x16 bt299.1 ((bt299.1.length : Int) != (x16.length : Int))) else (laws_FnTouched.j4 k x15 x16 bt299.1 true)))
def laws_FnTouched.j4 : Nat → Int → List Int → List Int → Bool → Option (Bool)
  | 0, _, _, _, _ => none
  | k + 1, x15, x16, x20, x135 => if x135 = true then (some false) else (laws_FnTouched.l0 k x15 x16 x20 (x16.length : Int) 0)
def laws_FnTouched.l0 : Nat → Int → List Int → List Int → Int → Int → Option (Bool)
  | 0, _, _, _, _, _ => none
  | k + 1, x15, x16, x20, x137, x138 => if x138 < x137 then (if 0 ≤ x138 then (if x138 < (x16.length : Int) then (if x138 < (x20.length : Int) then (if (rd x16 x138) > (rd x20 x138) then (some false) else (if (rd x20 x138) > (wrap64 ((rd x16 x138) + 1)) then (some false) else (if (rd x16 x138) < 1 then (some false) else (if (rd x16 x138) > x15 then (some false) else (laws_FnTouched.l0 k x15 x16 x20 x137 (wrap64 (x138 + 1))))))) else (none)) else (none)) else (none)) else (some true)
end
def laws_FnTouched.f (k : Nat) (l0 : List Int) (l1 : List Int) : Option (Bool) := if (wrap64 ((l0.length : Int) + (l1.length : Int))) > 1048576 then (some true) else ((spec_DrawTouchLru.f k l0).bind fun bt269 => ((impl_TouchLru.f k bt269.1 bt269.2.1 bt269.2.2).bind fun bt274 => ((spec_TouchLru.f k bt269.1 bt269.2.1 bt269.2.2).bind fun bt279 => (if (bt274.2.2 != bt279.2.2) = true then (laws_FnTouched.j0 k l1 bt269.2.1 bt269.2.2 bt274.1 bt274.2.2 true) else (if (bt274.2.1 != bt279.2.1) = true then (laws_FnTouched.j0 k l1 bt269.2.1 bt269.2.2 bt274.1 bt274.2.2 true) else ((laws_sameInts.f k bt274.1 bt279.1).bind fun t284 => (laws_FnTouched.j0 k l1 bt269.2.1 bt269.2.2 bt274.1 bt274.2.2 (!t284))))))))
theorem laws_FnTouched.mono_l : ∀ k, (∀ y0 y1 y2 y3 y4 y5, LeO (laws_FnTouched.j0 k y0 y1 y2 y3 y4 y5) (laws_FnTouched.j0 (k + 1) y0 y1 y2 y3 y4 y5)) ∧ (∀ y0 y1, LeO (laws_FnTouched.j1 k y0 y1) (laws_FnTouched.j1 (k + 1) y0 y1)) ∧ (∀ y0 y1 y2 y3 y4, LeO (laws_FnTouched.j2 k y0 y1 y2 y3 y4) (laws_FnTouched.j2 (k + 1) y0 y1 y2 y3 y4)) ∧ (∀ y0 y1 y2 y3, LeO (laws_FnTouched.j3 k y0 y1 y2 y3) (laws_FnTouched.j3 (k + 1) y0 y1 y2 y3)) ∧ (∀ y0 y1 y2 y3, LeO (laws_FnTouched.j4 k y0 y1 y2 y3) (laws_FnTouched.j4 (k + 1) y0 y1 y2 y3)) ∧ (∀ y0 y1 y2 y3 y4, LeO (laws_FnTouched.l0 k y0 y1 y2 y3 y4) (laws_FnTouched.l0 (k + 1) y0 y1 y2 y3 y4))
  | 0 => ⟨fun _ _ _ _ _ _ r h => by simp [laws_FnTouched.j0] at h, fun _ _ r h => by simp [laws_FnTouched.j1] at h, fun _ _ _ _ _ r h => by simp [laws_FnTouched.j2] at h, fun _ _ _ _ r h => by simp [laws_FnTouched.j3] at h, fun _ _ _ _ r h => by simp [laws_FnTouched.j4] at h, fun _ _ _ _ _ r h => by simp [laws_FnTouched.l0] at h⟩
  | k + 1 => by
    obtain ⟨ih0, ih1, ih2, ih3, ih4, ih5⟩ := laws_FnTouched.mono_l k
    refine ⟨?_, ?_, ?_, ?_, ?_, ?_⟩
    · intro y0 y1 y2 y3 y4 y5
      unfold laws_FnTouched.j0
      repeat' first
      | (with_reducible exact ih0 _ _ _ _ _ _)
      | (with_reducible exact ih1 _ _)
      | (with_reducible exact ih2 _ _ _ _ _)
      | (with_reducible exact ih3 _ _ _ _)
      | (with_reducible exact ih4 _ _ _ _)
      | (with_reducible exact ih5 _ _ _ _ _)
      | (with_reducible exact impl_TouchLru.mono _ _ _ _)
      | (with_reducible exact impl_WorkingSet.mono _ _ _)
      | (with_reducible exact laws_sameInts.mono _ _ _)
      | (with_reducible exact spec_DrawTouchLru.mono _ _)
      | (with_reducible exact spec_DrawWorkingSet.mono _ _)
      | (with_reducible exact spec_TouchLru.mono _ _ _ _)
      | (with_reducible exact spec_WorkingSet.mono _ _ _)
      | (with_reducible exact LeO.refl _)
      | (with_reducible exact LeO.none _)
      | (with_reducible refine LeO.ite ?_ ?_)
      | (with_reducible refine LeO.bind ?_ (fun _ => ?_))
      | exact ih0 _ _ _ _ _ _
      | exact ih1 _ _
      | exact ih2 _ _ _ _ _
      | exact ih3 _ _ _ _
      | exact ih4 _ _ _ _
      | exact ih5 _ _ _ _ _
      | exact impl_TouchLru.mono _ _ _ _
      | exact impl_WorkingSet.mono _ _ _
      | exact laws_sameInts.mono _ _ _
      | exact spec_DrawTouchLru.mono _ _
      | exact spec_DrawWorkingSet.mono _ _
      | exact spec_TouchLru.mono _ _ _ _
      | exact spec_WorkingSet.mono _ _ _
      | exact LeO.none _
      | refine LeO.ite ?_ ?_
      | refine LeO.bind ?_ (fun _ => ?_)
    · intro y0 y1
      unfold laws_FnTouched.j1
      repeat' first
      | (with_reducible exact ih0 _ _ _ _ _ _)
      | (with_reducible exact ih1 _ _)
      | (with_reducible exact ih2 _ _ _ _ _)
      | (with_reducible exact ih3 _ _ _ _)
      | (with_reducible exact ih4 _ _ _ _)
      | (with_reducible exact ih5 _ _ _ _ _)
      | (with_reducible exact impl_TouchLru.mono _ _ _ _)
      | (with_reducible exact impl_WorkingSet.mono _ _ _)
      | (with_reducible exact laws_sameInts.mono _ _ _)
      | (with_reducible exact spec_DrawTouchLru.mono _ _)
      | (with_reducible exact spec_DrawWorkingSet.mono _ _)
      | (with_reducible exact spec_TouchLru.mono _ _ _ _)
      | (with_reducible exact spec_WorkingSet.mono _ _ _)
      | (with_reducible exact LeO.refl _)
      | (with_reducible exact LeO.none _)
      | (with_reducible refine LeO.ite ?_ ?_)
      | (with_reducible refine LeO.bind ?_ (fun _ => ?_))
      | exact ih0 _ _ _ _ _ _
      | exact ih1 _ _
      | exact ih2 _ _ _ _ _
      | exact ih3 _ _ _ _
      | exact ih4 _ _ _ _
      | exact ih5 _ _ _ _ _
      | exact impl_TouchLru.mono _ _ _ _
      | exact impl_WorkingSet.mono _ _ _
      | exact laws_sameInts.mono _ _ _
      | exact spec_DrawTouchLru.mono _ _
      | exact spec_DrawWorkingSet.mono _ _
      | exact spec_TouchLru.mono _ _ _ _
      | exact spec_WorkingSet.mono _ _ _
      | exact LeO.none _
      | refine LeO.ite ?_ ?_
      | refine LeO.bind ?_ (fun _ => ?_)
    · intro y0 y1 y2 y3 y4
      unfold laws_FnTouched.j2
      repeat' first
      | (with_reducible exact ih0 _ _ _ _ _ _)
      | (with_reducible exact ih1 _ _)
      | (with_reducible exact ih2 _ _ _ _ _)
      | (with_reducible exact ih3 _ _ _ _)
      | (with_reducible exact ih4 _ _ _ _)
      | (with_reducible exact ih5 _ _ _ _ _)
      | (with_reducible exact impl_TouchLru.mono _ _ _ _)
      | (with_reducible exact impl_WorkingSet.mono _ _ _)
      | (with_reducible exact laws_sameInts.mono _ _ _)
      | (with_reducible exact spec_DrawTouchLru.mono _ _)
      | (with_reducible exact spec_DrawWorkingSet.mono _ _)
      | (with_reducible exact spec_TouchLru.mono _ _ _ _)
      | (with_reducible exact spec_WorkingSet.mono _ _ _)
      | (with_reducible exact LeO.refl _)
      | (with_reducible exact LeO.none _)
      | (with_reducible refine LeO.ite ?_ ?_)
      | (with_reducible refine LeO.bind ?_ (fun _ => ?_))
      | exact ih0 _ _ _ _ _ _
      | exact ih1 _ _
      | exact ih2 _ _ _ _ _
      | exact ih3 _ _ _ _
      | exact ih4 _ _ _ _
      | exact ih5 _ _ _ _ _
      | exact impl_TouchLru.mono _ _ _ _
      | exact impl_WorkingSet.mono _ _ _
      | exact laws_sameInts.mono _ _ _
      | exact spec_DrawTouchLru.mono _ _
      | exact spec_DrawWorkingSet.mono _ _
      | exact spec_TouchLru.mono _ _ _ _
      | exact spec_WorkingSet.mono _ _ _
      | exact LeO.none _
      | refine LeO.ite ?_ ?_
      | refine LeO.bind ?_ (fun _ => ?_)
    · intro y0 y1 y2 y3
      unfold laws_FnTouched.j3
      repeat' first
      | (with_reducible exact ih0 _ _ _ _ _ _)
      | (with_reducible exact ih1 _ _)
      | (with_reducible exact ih2 _ _ _ _ _)
      | (with_reducible exact ih3 _ _ _ _)
      | (with_reducible exact ih4 _ _ _ _)
      | (with_reducible exact ih5 _ _ _ _ _)
      | (with_reducible exact impl_TouchLru.mono _ _ _ _)
      | (with_reducible exact impl_WorkingSet.mono _ _ _)
      | (with_reducible exact laws_sameInts.mono _ _ _)
      | (with_reducible exact spec_DrawTouchLru.mono _ _)
      | (with_reducible exact spec_DrawWorkingSet.mono _ _)
      | (with_reducible exact spec_TouchLru.mono _ _ _ _)
      | (with_reducible exact spec_WorkingSet.mono _ _ _)
      | (with_reducible exact LeO.refl _)
      | (with_reducible exact LeO.none _)
      | (with_reducible refine LeO.ite ?_ ?_)
      | (with_reducible refine LeO.bind ?_ (fun _ => ?_))
      | exact ih0 _ _ _ _ _ _
      | exact ih1 _ _
      | exact ih2 _ _ _ _ _
      | exact ih3 _ _ _ _
      | exact ih4 _ _ _ _
      | exact ih5 _ _ _ _ _
      | exact impl_TouchLru.mono _ _ _ _
      | exact impl_WorkingSet.mono _ _ _
      | exact laws_sameInts.mono _ _ _
      | exact spec_DrawTouchLru.mono _ _
      | exact spec_DrawWorkingSet.mono _ _
      | exact spec_TouchLru.mono _ _ _ _
      | exact spec_WorkingSet.mono _ _ _
      | exact LeO.none _
      | refine LeO.ite ?_ ?_
      | refine LeO.bind ?_ (fun _ => ?_)
    · intro y0 y1 y2 y3
      unfold laws_FnTouched.j4
      repeat' first
      | (with_reducible exact ih0 _ _ _ _ _ _)
      | (with_reducible exact ih1 _ _)
      | (with_reducible exact ih2 _ _ _ _ _)
      | (with_reducible exact ih3 _ _ _ _)
      | (with_reducible exact ih4 _ _ _ _)
      | (with_reducible exact ih5 _ _ _ _ _)
      | (with_reducible exact impl_TouchLru.mono _ _ _ _)
      | (with_reducible exact impl_WorkingSet.mono _ _ _)
      | (with_reducible exact laws_sameInts.mono _ _ _)
      | (with_reducible exact spec_DrawTouchLru.mono _ _)
      | (with_reducible exact spec_DrawWorkingSet.mono _ _)
      | (with_reducible exact spec_TouchLru.mono _ _ _ _)
      | (with_reducible exact spec_WorkingSet.mono _ _ _)
      | (with_reducible exact LeO.refl _)
      | (with_reducible exact LeO.none _)
      | (with_reducible refine LeO.ite ?_ ?_)
      | (with_reducible refine LeO.bind ?_ (fun _ => ?_))
      | exact ih0 _ _ _ _ _ _
      | exact ih1 _ _
      | exact ih2 _ _ _ _ _
      | exact ih3 _ _ _ _
      | exact ih4 _ _ _ _
      | exact ih5 _ _ _ _ _
      | exact impl_TouchLru.mono _ _ _ _
      | exact impl_WorkingSet.mono _ _ _
      | exact laws_sameInts.mono _ _ _
      | exact spec_DrawTouchLru.mono _ _
      | exact spec_DrawWorkingSet.mono _ _
      | exact spec_TouchLru.mono _ _ _ _
      | exact spec_WorkingSet.mono _ _ _
      | exact LeO.none _
      | refine LeO.ite ?_ ?_
      | refine LeO.bind ?_ (fun _ => ?_)
    · intro y0 y1 y2 y3 y4
      unfold laws_FnTouched.l0
      repeat' first
      | (with_reducible exact ih0 _ _ _ _ _ _)
      | (with_reducible exact ih1 _ _)
      | (with_reducible exact ih2 _ _ _ _ _)
      | (with_reducible exact ih3 _ _ _ _)
      | (with_reducible exact ih4 _ _ _ _)
      | (with_reducible exact ih5 _ _ _ _ _)
      | (with_reducible exact impl_TouchLru.mono _ _ _ _)
      | (with_reducible exact impl_WorkingSet.mono _ _ _)
      | (with_reducible exact laws_sameInts.mono _ _ _)
      | (with_reducible exact spec_DrawTouchLru.mono _ _)
      | (with_reducible exact spec_DrawWorkingSet.mono _ _)
      | (with_reducible exact spec_TouchLru.mono _ _ _ _)
      | (with_reducible exact spec_WorkingSet.mono _ _ _)
      | (with_reducible exact LeO.refl _)
      | (with_reducible exact LeO.none _)
      | (with_reducible refine LeO.ite ?_ ?_)
      | (with_reducible refine LeO.bind ?_ (fun _ => ?_))
      | exact ih0 _ _ _ _ _ _
      | exact ih1 _ _
      | exact ih2 _ _ _ _ _
      | exact ih3 _ _ _ _
      | exact ih4 _ _ _ _
      | exact ih5 _ _ _ _ _
      | exact impl_TouchLru.mono _ _ _ _
      | exact impl_WorkingSet.mono _ _ _
      | exact laws_sameInts.mono _ _ _
      | exact spec_DrawTouchLru.mono _ _
      | exact spec_DrawWorkingSet.mono _ _
      | exact spec_TouchLru.mono _ _ _ _
      | exact spec_WorkingSet.mono _ _ _
      | exact LeO.none _
      | refine LeO.ite ?_ ?_
      | refine LeO.bind ?_ (fun _ => ?_)
theorem laws_FnTouched.mono : ∀ a0 a1 k, LeO (laws_FnTouched.f k a0 a1) (laws_FnTouched.f (k + 1) a0 a1) := by
  intro a0 a1 k
  obtain ⟨ih0, ih1, ih2, ih3, ih4, ih5⟩ := laws_FnTouched.mono_l k
  unfold laws_FnTouched.f
  repeat' first
      | (with_reducible exact ih0 _ _ _ _ _ _)
      | (with_reducible exact ih1 _ _)
      | (with_reducible exact ih2 _ _ _ _ _)
      | (with_reducible exact ih3 _ _ _ _)
      | (with_reducible exact ih4 _ _ _ _)
      | (with_reducible exact ih5 _ _ _ _ _)
      | (with_reducible exact impl_TouchLru.mono _ _ _ _)
      | (with_reducible exact impl_WorkingSet.mono _ _ _)
      | (with_reducible exact laws_sameInts.mono _ _ _)
      | (with_reducible exact spec_DrawTouchLru.mono _ _)
      | (with_reducible exact spec_DrawWorkingSet.mono _ _)
      | (with_reducible exact spec_TouchLru.mono _ _ _ _)
      | (with_reducible exact spec_WorkingSet.mono _ _ _)
      | (with_reducible exact LeO.refl _)
      | (with_reducible exact LeO.none _)
      | (with_reducible refine LeO.ite ?_ ?_)
      | (with_reducible refine LeO.bind ?_ (fun _ => ?_))
      | exact ih0 _ _ _ _ _ _
      | exact ih1 _ _
      | exact ih2 _ _ _ _ _
      | exact ih3 _ _ _ _
      | exact ih4 _ _ _ _
      | exact ih5 _ _ _ _ _
      | exact impl_TouchLru.mono _ _ _ _
      | exact impl_WorkingSet.mono _ _ _
      | exact laws_sameInts.mono _ _ _
      | exact spec_DrawTouchLru.mono _ _
      | exact spec_DrawWorkingSet.mono _ _
      | exact spec_TouchLru.mono _ _ _ _
      | exact spec_WorkingSet.mono _ _ _
      | exact LeO.none _
      | refine LeO.ite ?_ ?_
      | refine LeO.bind ?_ (fun _ => ?_)
set_option maxHeartbeats 8000000 in
set_option maxRecDepth 100000 in
theorem laws_FnTouched.calls (k : Nat) (A0 : Option Addr) (c0 : Nat) (l0 : List Int) (A1 : Option Addr) (c1 : Nat) (l1 : List Int) (r : Bool) (w : World) (hr0 : Kd.C (Kd.int .u8) w A0 l0.length l0) (hc0 : l0.length ≤ c0) (hr1 : Kd.C (Kd.int .u8) w A1 l1.length l1) (hc1 : l1.length ≤ c1) (h : laws_FnTouched.f k l0 l1 = some r) :
    Calls Try.prog 5 #[.slice A0 l0.length c0, .slice A1 l1.length c1] w fun e w' => e = .returned (.bool r) ∧ Below w.heap.size w w' := by
  have HR0 := Aside0.mk hr0
  have HC0 := Aside0.mk hc0
  clear hr0 hc0
  have HR1 := Aside0.mk hr1
  have HC1 := Aside0.mk hc1
  clear hr1 hc1
  have HB := Aside0.mk (Below.refl w.heap.size w)
  have H : (if (wrap64 ((l0.length : Int) + (l1.length : Int))) > 1048576 then (some true) else ((spec_DrawTouchLru.f k l0).bind fun bt269 => ((impl_TouchLru.f k bt269.1 bt269.2.1 bt269.2.2).bind fun bt274 => ((spec_TouchLru.f k bt269.1 bt269.2.1 bt269.2.2).bind fun bt279 => (if (bt274.2.2 != bt279.2.2) = true then (laws_FnTouched.j0 k l1 bt269.2.1 bt269.2.2 bt274.1 bt274.2.2 true) else (if (bt274.2.1 != bt279.2.1) = true then (laws_FnTouched.j0 k l1 bt269.2.1 bt269.2.2 bt274.1 bt274.2.2 true) else ((laws_sameInts.f k bt274.1 bt279.1).bind fun t284 => (laws_FnTouched.j0 k l1 bt269.2.1 bt269.2.2 bt274.1 bt274.2.2 (!t284))))))))) = some r := h
  clear h
  by_cases c3 : (wrap64 ((l0.length : Int) + (l1.length : Int))) > 1048576
  · rw [if_pos c3] at H
    have c3b0 : decide (1048576 < (wrap64 ((l0.length : Int) + (l1.length : Int)))) = true := decide_eq_true c3
    clear c3
    obtain rfl := Option.some.inj H
    go_enter Try.func5, Try.ntmps5
    go_wp2
    repeat (go_quiet (fail); try go_wp2)
    go_ret
    exact ⟨by first | rfl | (simp [errW_none, errW_some] <;> rfl) | (simp [*, errW_none, errW_some] <;> rfl), by repeat (first | (with_reducible first | exact HB.out | apply below_alloc | apply pw_below_drewN | apply below_drew1) | exact HB.out)⟩
  · rw [if_neg c3] at H
    have c3b0 : decide (1048576 < (wrap64 ((l0.length : Int) + (l1.length : Int)))) = false := decide_eq_false c3
    clear c3
    replace H := Option.bind_eq_some_iff.mp H
    obtain ⟨⟨t269, t270, t271⟩, A40, H⟩ := H
    replace H : ((impl_TouchLru.f k t269 t270 t271).bind fun bt274 => ((spec_TouchLru.f k t269 t270 t271).bind fun bt279 => (if (bt274.2.2 != bt279.2.2) = true then (laws_FnTouched.j0 k l1 t270 t271 bt274.1 bt274.2.2 true) else (if (bt274.2.1 != bt279.2.1) = true then (laws_FnTouched.j0 k l1 t270 t271 bt274.1 bt274.2.2 true) else ((laws_sameInts.f k bt274.1 bt279.1).bind fun t284 => (laws_FnTouched.j0 k l1 t270 t271 bt274.1 bt274.2.2 (!t284))))))) = some r := H
    have A4 := Aside0.mk A40
    clear A40
    replace H := Option.bind_eq_some_iff.mp H
    obtain ⟨⟨t274, t275, t276⟩, A50, H⟩ := H
    replace H : ((spec_TouchLru.f k t269 t270 t271).bind fun bt279 => (if (t276 != bt279.2.2) = true then (laws_FnTouched.j0 k l1 t270 t271 t274 t276 true) else (if (t275 != bt279.2.1) = true then (laws_FnTouched.j0 k l1 t270 t271 t274 t276 true) else ((laws_sameInts.f k t274 bt279.1).bind fun t284 => (laws_FnTouched.j0 k l1 t270 t271 t274 t276 (!t284)))))) = some r := H
    have A5 := Aside0.mk A50
    clear A50
    replace H := Option.bind_eq_some_iff.mp H
    obtain ⟨⟨t279, t280, t281⟩, A60, H⟩ := H
    replace H : (if (t276 != t281) = true then (laws_FnTouched.j0 k l1 t270 t271 t274 t276 true) else (if (t275 != t280) = true then (laws_FnTouched.j0 k l1 t270 t271 t274 t276 true) else ((laws_sameInts.f k t274 t279).bind fun t284 => (laws_FnTouched.j0 k l1 t270 t271 t274 t276 (!t284))))) = some r := H
    have A6 := Aside0.mk A60
    clear A60
    have HC7 := Aside0.mk H
    clear H
    go_enter Try.func5, Try.ntmps5
    go_upto_region 6 with (first | (go_at_call 19; (with_reducible refine (spec_DrawTouchLru.calls k _ _ l0 t269 t270 t271 _ ?side1 ?side2 A4.out).mono ?_); (case side1 => repeat (first | exact HR0.out | (with_reducible refine Kd.C_alloc ?_ _) | (with_reducible refine Kd.C_drewN ?_ _) | (with_reducible refine Kd.C_drew ?_))); (case side2 => exact HC0.out); rintro e w8 ⟨v272, rfl, ho0, hb⟩; (try (with_reducible replace ho0 := KdC.R_of ho0)); have n0_ := Aside0.mk (KdC.R_lower ho0 (below_size (by repeat (first | (with_reducible first | exact HB.out | apply below_alloc | apply pw_below_drewN | apply below_drew1) | exact HB.out)))); have n1_ := Aside0.mk (below_step (by repeat (first | (with_reducible first | exact HB.out | apply below_alloc | apply pw_below_drewN | apply below_drew1) | exact HB.out)) hb); clear HB; have HO273 := n0_; have HB := n1_; clear n0_ n1_; (try clear hb); (try clear hb2); (try clear hk); (try clear hi); (try clear ho0); obtain ⟨Ao9, co9, eo9⟩ := KdC.R_slice HO273.out; subst eo9) | (go_at_call 20; (with_reducible refine (impl_TouchLru.calls k _ _ t269 t270 t271 t274 t275 t276 _ ?side1 ?side2 A5.out).mono ?_); (case side1 => repeat (first | exact (KdC.R_reads' HO273.out).2.2 | (with_reducible refine Kd.C_alloc ?_ _) | (with_reducible refine Kd.C_drewN ?_ _) | (with_reducible refine Kd.C_drew ?_))); (case side2 => exact (KdC.R_reads' HO273.out).2.1); rintro e w10 ⟨v277, rfl, ho0, hb⟩; (try (with_reducible replace ho0 := KdC.R_of ho0)); have n0_ := Aside0.mk (KdC.R_elder' (by (with_reducible repeat (first | apply KdC.R_alloc | apply KdC.R_drewN | apply KdC.R_drew)); exact HO273.out) (KdC.R_base ho0) hb); have n1_ := Aside0.mk (KdC.R_lower (KdC.R_new' ho0 (KdC.R_lt (by (with_reducible repeat (first | apply KdC.R_alloc | apply KdC.R_drewN | apply KdC.R_drew)); exact HO273.out))) (below_size (by repeat (first | (with_reducible first | exact HB.out | apply below_alloc | apply pw_below_drewN | apply below_drew1) | exact HB.out)))); have n2_ := Aside0.mk (below_step (by repeat (first | (with_reducible first | exact HB.out | apply below_alloc | apply pw_below_drewN | apply below_drew1) | exact HB.out)) hb); clear HO273; clear HB; have HO273 := n0_; have HO278 := n1_; have HB := n2_; clear n0_ n1_ n2_; (try clear hb); (try clear hb2); (try clear hk); (try clear hi); (try clear ho0)) | (go_at_call 21; (with_reducible refine (spec_TouchLru.calls k _ _ t269 t270 t271 t279 t280 t281 _ ?side1 ?side2 A6.out).mono ?_); (case side1 => repeat (first | exact (KdC.R_reads' HO273.out).2.2 | (with_reducible refine Kd.C_alloc ?_ _) | (with_reducible refine Kd.C_drewN ?_ _) | (with_reducible refine Kd.C_drew ?_))); (case side2 => exact (KdC.R_reads' HO273.out).2.1); rintro e w11 ⟨v282, rfl, ho0, hb⟩; (try (with_reducible replace ho0 := KdC.R_of ho0)); have n0_ := Aside0.mk (KdC.R_elder' (by (with_reducible repeat (first | apply KdC.R_alloc | apply KdC.R_drewN | apply KdC.R_drew)); exact HO273.out) (KdC.R_base ho0) hb); have n1_ := Aside0.mk (KdC.R_elder' (by (with_reducible repeat (first | apply KdC.R_alloc | apply KdC.R_drewN | apply KdC.R_drew)); exact HO278.out) (KdC.R_base ho0) hb); have n2_ := Aside0.mk (KdC.R_lower (KdC.R_new' (KdC.R_new' ho0 (KdC.R_lt (by (with_reducible repeat (first | apply KdC.R_alloc | apply KdC.R_drewN | apply KdC.R_drew)); exact HO273.out))) (KdC.R_lt (by (with_reducible repeat (first | apply KdC.R_alloc | apply KdC.R_drewN | apply KdC.R_drew)); exact HO278.out))) (below_size (by repeat (first | (with_reducible first | exact HB.out | apply below_alloc | apply pw_below_drewN | apply below_drew1) | exact HB.out)))); have n3_ := Aside0.mk (below_step (by repeat (first | (with_reducible first | exact HB.out | apply below_alloc | apply pw_below_drewN | apply below_drew1) | exact HB.out)) hb); clear HO273; clear HO278; clear HB; have HO273 := n0_; have HO278 := n1_; have HO283 := n2_; have HB := n3_; clear n0_ n1_ n2_ n3_; (try clear hb); (try clear hb2); (try clear hk); (try clear hi); (try clear ho0)))
    repeat (go_quiet (first | (go_at_call 19; (with_reducible refine (spec_DrawTouchLru.calls k _ _ l0 t269 t270 t271 _ ?side1 ?side2 A4.out).mono ?_); (case side1 => repeat (first | exact HR0.out | (with_reducible refine Kd.C_alloc ?_ _) | (with_reducible refine Kd.C_drewN ?_ _) | (with_reducible refine Kd.C_drew ?_))); (case side2 => exact HC0.out); rintro e w8 ⟨v272, rfl, ho0, hb⟩; (try (with_reducible replace ho0 := KdC.R_of ho0)); have n0_ := Aside0.mk (KdC.R_lower ho0 (below_size (by repeat (first | (with_reducible first | exact HB.out | apply below_alloc | apply pw_below_drewN | apply below_drew1) | exact HB.out)))); have n1_ := Aside0.mk (below_step (by repeat (first | (with_reducible first | exact HB.out | apply below_alloc | apply pw_below_drewN | apply below_drew1) | exact HB.out)) hb); clear HB; have HO273 := n0_; have HB := n1_; clear n0_ n1_; (try clear hb); (try clear hb2); (try clear hk); (try clear hi); (try clear ho0); obtain ⟨Ao9, co9, eo9⟩ := KdC.R_slice HO273.out; subst eo9) | (go_at_call 20; (with_reducible refine (impl_TouchLru.calls k _ _ t269 t270 t271 t274 t275 t276 _ ?side1 ?side2 A5.out).mono ?_); (case side1 => repeat (first | exact (KdC.R_reads' HO273.out).2.2 | (with_reducible refine Kd.C_alloc ?_ _) | (with_reducible refine Kd.C_drewN ?_ _) | (with_reducible refine Kd.C_drew ?_))); (case side2 => exact (KdC.R_reads' HO273.out).2.1); rintro e w10 ⟨v277, rfl, ho0, hb⟩; (try (with_reducible replace ho0 := KdC.R_of ho0)); have n0_ := Aside0.mk (KdC.R_elder' (by (with_reducible repeat (first | apply KdC.R_alloc | apply KdC.R_drewN | apply KdC.R_drew)); exact HO273.out) (KdC.R_base ho0) hb); have n1_ := Aside0.mk (KdC.R_lower (KdC.R_new' ho0 (KdC.R_lt (by (with_reducible repeat (first | apply KdC.R_alloc | apply KdC.R_drewN | apply KdC.R_drew)); exact HO273.out))) (below_size (by repeat (first | (with_reducible first | exact HB.out | apply below_alloc | apply pw_below_drewN | apply below_drew1) | exact HB.out)))); have n2_ := Aside0.mk (below_step (by repeat (first | (with_reducible first | exact HB.out | apply below_alloc | apply pw_below_drewN | apply below_drew1) | exact HB.out)) hb); clear HO273; clear HB; have HO273 := n0_; have HO278 := n1_; have HB := n2_; clear n0_ n1_ n2_; (try clear hb); (try clear hb2); (try clear hk); (try clear hi); (try clear ho0)) | (go_at_call 21; (with_reducible refine (spec_TouchLru.calls k _ _ t269 t270 t271 t279 t280 t281 _ ?side1 ?side2 A6.out).mono ?_); (case side1 => repeat (first | exact (KdC.R_reads' HO273.out).2.2 | (with_reducible refine Kd.C_alloc ?_ _) | (with_reducible refine Kd.C_drewN ?_ _) | (with_reducible refine Kd.C_drew ?_))); (case side2 => exact (KdC.R_reads' HO273.out).2.1); rintro e w11 ⟨v282, rfl, ho0, hb⟩; (try (with_reducible replace ho0 := KdC.R_of ho0)); have n0_ := Aside0.mk (KdC.R_elder' (by (with_reducible repeat (first | apply KdC.R_alloc | apply KdC.R_drewN | apply KdC.R_drew)); exact HO273.out) (KdC.R_base ho0) hb); have n1_ := Aside0.mk (KdC.R_elder' (by (with_reducible repeat (first | apply KdC.R_alloc | apply KdC.R_drewN | apply KdC.R_drew)); exact HO278.out) (KdC.R_base ho0) hb); have n2_ := Aside0.mk (KdC.R_lower (KdC.R_new' (KdC.R_new' ho0 (KdC.R_lt (by (with_reducible repeat (first | apply KdC.R_alloc | apply KdC.R_drewN | apply KdC.R_drew)); exact HO273.out))) (KdC.R_lt (by (with_reducible repeat (first | apply KdC.R_alloc | apply KdC.R_drewN | apply KdC.R_drew)); exact HO278.out))) (below_size (by repeat (first | (with_reducible first | exact HB.out | apply below_alloc | apply pw_below_drewN | apply below_drew1) | exact HB.out)))); have n3_ := Aside0.mk (below_step (by repeat (first | (with_reducible first | exact HB.out | apply below_alloc | apply pw_below_drewN | apply below_drew1) | exact HB.out)) hb); clear HO273; clear HO278; clear HB; have HO273 := n0_; have HO278 := n1_; have HO283 := n2_; have HB := n3_; clear n0_ n1_ n2_ n3_; (try clear hb); (try clear hb2); (try clear hk); (try clear hi); (try clear ho0))); go_upto_region 6 with (first | (go_at_call 19; (with_reducible refine (spec_DrawTouchLru.calls k _ _ l0 t269 t270 t271 _ ?side1 ?side2 A4.out).mono ?_); (case side1 => repeat (first | exact HR0.out | (with_reducible refine Kd.C_alloc ?_ _) | (with_reducible refine Kd.C_drewN ?_ _) | (with_reducible refine Kd.C_drew ?_))); (case side2 => exact HC0.out); rintro e w8 ⟨v272, rfl, ho0, hb⟩; (try (with_reducible replace ho0 := KdC.R_of ho0)); have n0_ := Aside0.mk (KdC.R_lower ho0 (below_size (by repeat (first | (with_reducible first | exact HB.out | apply below_alloc | apply pw_below_drewN | apply below_drew1) | exact HB.out)))); have n1_ := Aside0.mk (below_step (by repeat (first | (with_reducible first | exact HB.out | apply below_alloc | apply pw_below_drewN | apply below_drew1) | exact HB.out)) hb); clear HB; have HO273 := n0_; have HB := n1_; clear n0_ n1_; (try clear hb); (try clear hb2); (try clear hk); (try clear hi); (try clear ho0); obtain ⟨Ao9, co9, eo9⟩ := KdC.R_slice HO273.out; subst eo9) | (go_at_call 20; (with_reducible refine (impl_TouchLru.calls k _ _ t269 t270 t271 t274 t275 t276 _ ?side1 ?side2 A5.out).mono ?_); (case side1 => repeat (first | exact (KdC.R_reads' HO273.out).2.2 | (with_reducible refine Kd.C_alloc ?_ _) | (with_reducible refine Kd.C_drewN ?_ _) | (with_reducible refine Kd.C_drew ?_))); (case side2 => exact (KdC.R_reads' HO273.out).2.1); rintro e w10 ⟨v277, rfl, ho0, hb⟩; (try (with_reducible replace ho0 := KdC.R_of ho0)); have n0_ := Aside0.mk (KdC.R_elder' (by (with_reducible repeat (first | apply KdC.R_alloc | apply KdC.R_drewN | apply KdC.R_drew)); exact HO273.out) (KdC.R_base ho0) hb); have n1_ := Aside0.mk (KdC.R_lower (KdC.R_new' ho0 (KdC.R_lt (by (with_reducible repeat (first | apply KdC.R_alloc | apply KdC.R_drewN | apply KdC.R_drew)); exact HO273.out))) (below_size (by repeat (first | (with_reducible first | exact HB.out | apply below_alloc | apply pw_below_drewN | apply below_drew1) | exact HB.out)))); have n2_ := Aside0.mk (below_step (by repeat (first | (with_reducible first | exact HB.out | apply below_alloc | apply pw_below_drewN | apply below_drew1) | exact HB.out)) hb); clear HO273; clear HB; have HO273 := n0_; have HO278 := n1_; have HB := n2_; clear n0_ n1_ n2_; (try clear hb); (try clear hb2); (try clear hk); (try clear hi); (try clear ho0)) | (go_at_call 21; (with_reducible refine (spec_TouchLru.calls k _ _ t269 t270 t271 t279 t280 t281 _ ?side1 ?side2 A6.out).mono ?_); (case side1 => repeat (first | exact (KdC.R_reads' HO273.out).2.2 | (with_reducible refine Kd.C_alloc ?_ _) | (with_reducible refine Kd.C_drewN ?_ _) | (with_reducible refine Kd.C_drew ?_))); (case side2 => exact (KdC.R_reads' HO273.out).2.1); rintro e w11 ⟨v282, rfl, ho0, hb⟩; (try (with_reducible replace ho0 := KdC.R_of ho0)); have n0_ := Aside0.mk (KdC.R_elder' (by (with_reducible repeat (first | apply KdC.R_alloc | apply KdC.R_drewN | apply KdC.R_drew)); exact HO273.out) (KdC.R_base ho0) hb); have n1_ := Aside0.mk (KdC.R_elder' (by (with_reducible repeat (first | apply KdC.R_alloc | apply KdC.R_drewN | apply KdC.R_drew)); exact HO278.out) (KdC.R_base ho0) hb); have n2_ := Aside0.mk (KdC.R_lower (KdC.R_new' (KdC.R_new' ho0 (KdC.R_lt (by (with_reducible repeat (first | apply KdC.R_alloc | apply KdC.R_drewN | apply KdC.R_drew)); exact HO273.out))) (KdC.R_lt (by (with_reducible repeat (first | apply KdC.R_alloc | apply KdC.R_drewN | apply KdC.R_drew)); exact HO278.out))) (below_size (by repeat (first | (with_reducible first | exact HB.out | apply below_alloc | apply pw_below_drewN | apply below_drew1) | exact HB.out)))); have n3_ := Aside0.mk (below_step (by repeat (first | (with_reducible first | exact HB.out | apply below_alloc | apply pw_below_drewN | apply below_drew1) | exact HB.out)) hb); clear HO273; clear HO278; clear HB; have HO273 := n0_; have HO278 := n1_; have HO283 := n2_; have HB := n3_; clear n0_ n1_ n2_ n3_; (try clear hb); (try clear hb2); (try clear hk); (try clear hi); (try clear ho0))))
    (try simp only [Act.put, List.setIfInBounds_toArray, List.set_cons_zero, List.set_cons_succ])
    go_cut [64] (fun v64 wc => ∃ (kq : Nat) (x64_6 : Bool), v64 = .bool x64_6 ∧ Aside0 (laws_FnTouched.j0 kq l1 t270 t271 t274 t276 x64_6 = some r) ∧ Aside0 (kq ≤ k) ∧ Aside0 (KdC.R (Kd.int .i64) 3 wc w.heap.size (fun _ => True) v277 t274) ∧ Aside0 (Below w.heap.size w wc))
    case first =>
      have H := HC7.out
      clear HC7
      by_cases c12 : (t276 != t281) = true
      · rw [if_pos c12] at H
        have c12b0 : (t276 != t281) = true := c12
        (try (have c12b1 : decide (t276 = t281) = false := by simpa using c12))
        (try (have c12b2 : (t276 == t281) = false := by simpa using c12))
        (try (have c12b3 : ¬ (t276 = t281) := by simpa using c12))
        clear c12
        (first | rw [c12b0] | (simp only [i64_w, i32_w]; rw [c12b0]) | skip)
        have H' := Aside0.mk H
        clear H
        go_wp2
        repeat (go_quiet (fail); try go_wp2)
        go_meet
        case rel => exact ⟨_, (true), (by first | rfl | (simp; done) | (simp [*]; done)), H', ⟨by first | omega | exact Nat.le_refl _⟩, ⟨by (with_reducible repeat (first | apply KdC.R_alloc | apply KdC.R_drewN | apply KdC.R_drew)); exact KdC.R_mono HO278.out (fun _ hk => trivial)⟩, ⟨by repeat (first | (with_reducible first | exact HB.out | apply below_alloc | apply pw_below_drewN | apply below_drew1) | exact HB.out)⟩⟩
      · rw [if_neg c12] at H
        have c12b0 : (t276 != t281) = false := by simpa using c12
        (try (have c12b1 : decide (t276 = t281) = true := by simpa using c12))
        (try (have c12b2 : (t276 == t281) = true := by simpa using c12))
        clear c12
        (first | rw [c12b0] | (simp only [i64_w, i32_w]; rw [c12b0]) | skip)
        by_cases c13 : (t275 != t280) = true
        · rw [if_pos c13] at H
          have c13b0 : (t275 != t280) = true := c13
          (try (have c13b1 : decide (t275 = t280) = false := by simpa using c13))
          (try (have c13b2 : (t275 == t280) = false := by simpa using c13))
          (try (have c13b3 : ¬ (t275 = t280) := by simpa using c13))
          clear c13
          have H' := Aside0.mk H
          clear H
          go_wp2
          repeat (go_quiet (fail); try go_wp2)
          go_meet
          case rel => exact ⟨_, (true), (by first | rfl | (simp; done) | (simp [*]; done)), H', ⟨by first | omega | exact Nat.le_refl _⟩, ⟨by (with_reducible repeat (first | apply KdC.R_alloc | apply KdC.R_drewN | apply KdC.R_drew)); exact KdC.R_mono HO278.out (fun _ hk => trivial)⟩, ⟨by repeat (first | (with_reducible first | exact HB.out | apply below_alloc | apply pw_below_drewN | apply below_drew1) | exact HB.out)⟩⟩
        · rw [if_neg c13] at H
          have c13b0 : (t275 != t280) = false := by simpa using c13
          (try (have c13b1 : decide (t275 = t280) = true := by simpa using c13))
          (try (have c13b2 : (t275 == t280) = true := by simpa using c13))
          clear c13
          replace H := Option.bind_eq_some_iff.mp H
          obtain ⟨t284, A140, H⟩ := H
          replace H : (laws_FnTouched.j0 k l1 t270 t271 t274 t276 (!t284)) = some r := H
          have A14 := Aside0.mk A140
          clear A140
          have H' := Aside0.mk H
          clear H
          obtain ⟨Ao15, co15, eo15⟩ := KdC.R_slice HO278.out
          subst eo15
          obtain ⟨Ao16, co16, eo16⟩ := KdC.R_slice HO283.out
          subst eo16
          go_wp2_with (first | (go_at_call 11; (with_reducible refine (laws_sameInts.calls k _ _ t274 _ _ t279 t284 _ ?side1 ?side2 ?side3 ?side4 A14.out).mono ?_); (case side1 => repeat (first | exact (KdC.R_reads' HO278.out).2.2 | (with_reducible refine Kd.C_alloc ?_ _) | (with_reducible refine Kd.C_drewN ?_ _) | (with_reducible refine Kd.C_drew ?_))); (case side2 => exact (KdC.R_reads' HO278.out).2.1); (case side3 => repeat (first | exact (KdC.R_reads' HO283.out).2.2 | (with_reducible refine Kd.C_alloc ?_ _) | (with_reducible refine Kd.C_drewN ?_ _) | (with_reducible refine Kd.C_drew ?_))); (case side4 => exact (KdC.R_reads' HO283.out).2.1); rintro e w' ⟨rfl, ⟨nd, rfl⟩⟩; (try first | exact ⟨rfl, _, World.drewN_drewN _ _ _⟩ | exact ⟨rfl, _, Eq.trans (World.drewN_drewN _ _ _) (congrArg (World.drewN _) (Nat.add_assoc _ _ _))⟩)))
          repeat (go_quiet (first | (go_at_call 11; (with_reducible refine (laws_sameInts.calls k _ _ t274 _ _ t279 t284 _ ?side1 ?side2 ?side3 ?side4 A14.out).mono ?_); (case side1 => repeat (first | exact (KdC.R_reads' HO278.out).2.2 | (with_reducible refine Kd.C_alloc ?_ _) | (with_reducible refine Kd.C_drewN ?_ _) | (with_reducible refine Kd.C_drew ?_))); (case side2 => exact (KdC.R_reads' HO278.out).2.1); (case side3 => repeat (first | exact (KdC.R_reads' HO283.out).2.2 | (with_reducible refine Kd.C_alloc ?_ _) | (with_reducible refine Kd.C_drewN ?_ _) | (with_reducible refine Kd.C_drew ?_))); (case side4 => exact (KdC.R_reads' HO283.out).2.1); rintro e w' ⟨rfl, ⟨nd, rfl⟩⟩; (try first | exact ⟨rfl, _, World.drewN_drewN _ _ _⟩ | exact ⟨rfl, _, Eq.trans (World.drewN_drewN _ _ _) (congrArg (World.drewN _) (Nat.add_assoc _ _ _))⟩))); try go_wp2_with (first | (go_at_call 11; (with_reducible refine (laws_sameInts.calls k _ _ t274 _ _ t279 t284 _ ?side1 ?side2 ?side3 ?side4 A14.out).mono ?_); (case side1 => repeat (first | exact (KdC.R_reads' HO278.out).2.2 | (with_reducible refine Kd.C_alloc ?_ _) | (with_reducible refine Kd.C_drewN ?_ _) | (with_reducible refine Kd.C_drew ?_))); (case side2 => exact (KdC.R_reads' HO278.out).2.1); (case side3 => repeat (first | exact (KdC.R_reads' HO283.out).2.2 | (with_reducible refine Kd.C_alloc ?_ _) | (with_reducible refine Kd.C_drewN ?_ _) | (with_reducible refine Kd.C_drew ?_))); (case side4 => exact (KdC.R_reads' HO283.out).2.1); rintro e w' ⟨rfl, ⟨nd, rfl⟩⟩; (try first | exact ⟨rfl, _, World.drewN_drewN _ _ _⟩ | exact ⟨rfl, _, Eq.trans (World.drewN_drewN _ _ _) (congrArg (World.drewN _) (Nat.add_assoc _ _ _))⟩))))
          go_meet
          case rel => exact ⟨_, (!t284), (by first | rfl | (simp; done) | (simp [*]; done)), H', ⟨by first | omega | exact Nat.le_refl _⟩, ⟨by (with_reducible repeat (first | apply KdC.R_alloc | apply KdC.R_drewN | apply KdC.R_drew)); exact KdC.R_mono HO278.out (fun _ hk => trivial)⟩, ⟨by repeat (first | (with_reducible first | exact HB.out | apply below_alloc | apply pw_below_drewN | apply below_drew1) | exact HB.out)⟩⟩
    case rest =>
      clear HC7
      try clear c1
      try clear p2
      try clear c3
      try clear c3b0
      try clear c5
      try clear p6
      try clear c12
      try clear c12b0
      try clear c12b1
      try clear c12b2
      try clear c13
      try clear c13b0
      try clear c13b1
      try clear c13b2
      obtain ⟨kq, x64_6, rfl, HA, HJ6, HO_8, HB⟩ := hcut
      cases kq with
      | zero => exact absurd HA.out (by simp [laws_FnTouched.j0])
      | succ kj6 =>
        have H := HA.out
        clear HA
        simp only [laws_FnTouched.j0] at H
        by_cases c17 : x64_6 = true
        · subst c17
          have H1 : (some false) = some r := by rw [if_pos rfl] at H; exact H
          clear H
          have H := H1
          clear H1
          obtain rfl := Option.some.inj H
          go_wp2
          repeat (go_quiet (fail); try go_wp2)
          go_ret
          exact ⟨by first | rfl | (simp [errW_none, errW_some] <;> rfl) | (simp [*, errW_none, errW_some] <;> rfl), by repeat (first | (with_reducible first | exact HB.out | apply below_alloc | apply pw_below_drewN | apply below_drew1) | exact HB.out)⟩
        · replace c17 := Bool.eq_false_iff.mpr c17
          subst c17
          have H1 : (if t276 = true then (if t271 > 0 then (if (t274.length : Int) = 0 then (laws_FnTouched.j1 kj6 l1 true) else (if 0 < (t274.length : Int) then (if (rd t274 0) = t270 then (laws_FnTouched.j1 kj6 l1 (decide ((t274.length : Int) > t271))) else (laws_FnTouched.j1 kj6 l1 true)) else (none))) else (laws_FnTouched.j1 kj6 l1 false)) else (laws_FnTouched.j1 kj6 l1 false)) = some r := by rw [if_neg (show ¬ (false = true) by decide)] at H; exact H
          clear H
          have H := H1
          clear H1
          have HC18 := Aside0.mk H
          clear H
          go_upto_region 8 with (fail)
          repeat (go_quiet (fail); go_upto_region 8 with (fail))
          go_cut [87] (fun v87 wc => ∃ (kq : Nat) (x87_17 : Bool), v87 = .bool x87_17 ∧ Aside0 (laws_FnTouched.j1 kq l1 x87_17 = some r) ∧ Aside0 (kq ≤ kj6) ∧ Aside0 (Below w.heap.size w wc))
          case first =>
            have H := HC18.out
            clear HC18
            by_cases c19 : t276 = true
            · subst c19
              have H1 : (if t271 > 0 then (if (t274.length : Int) = 0 then (laws_FnTouched.j1 kj6 l1 true) else (if 0 < (t274.length : Int) then (if (rd t274 0) = t270 then (laws_FnTouched.j1 kj6 l1 (decide ((t274.length : Int) > t271))) else (laws_FnTouched.j1 kj6 l1 true)) else (none))) else (laws_FnTouched.j1 kj6 l1 false)) = some r := by rw [if_pos rfl] at H; exact H
              clear H
              have H := H1
              clear H1
              by_cases c20 : t271 > 0
              · rw [if_pos c20] at H
                have c20b0 : decide (0 < t271) = true := decide_eq_true c20
                clear c20
                (first | rw [c20b0] | (simp only [i64_w, i32_w]; rw [c20b0]) | skip)
                by_cases c21 : (t274.length : Int) = 0
                · rw [if_pos c21] at H
                  have c21b0 : ((t274.length : Int) == 0) = true := beq_iff_eq.mpr c21
                  have c21b1 : ((t274.length : Int) != 0) = false := bne_eq_false_iff_eq.mpr c21
                  clear c21
                  have H' := Aside0.mk H
                  clear H
                  obtain ⟨Ao22, co22, eo22⟩ := KdC.R_slice HO_8.out
                  subst eo22
                  go_wp2
                  repeat (go_quiet (fail); try go_wp2)
                  go_meet
                  case rel => exact ⟨_, (true), (by first | rfl | (simp; done) | (simp [*]; done)), H', ⟨by have := HJ6.out; first | omega | exact Nat.le_refl _⟩, ⟨by repeat (first | (with_reducible first | exact HB.out | apply below_alloc | apply pw_below_drewN | apply below_drew1) | exact HB.out)⟩⟩
                · rw [if_neg c21] at H
                  have c21b0 : ((t274.length : Int) == 0) = false := beq_eq_false_iff_ne.mpr c21
                  have c21b1 : ((t274.length : Int) != 0) = true := bne_iff_ne.mpr c21
                  have c21b2 : ¬ (t274 = []) := fun h_ => c21 (by rw [h_]; rfl)
                  by_cases c23 : 0 < (t274.length : Int)
                  · rw [if_pos c23] at H
                    have c23b0 : decide (0 < (t274.length : Int)) = true := decide_eq_true c23
                    have c23b1 : decide (0 < t274.length) = true := decide_eq_true (by omega)
                    clear c23
                    by_cases c24 : (rd t274 0) = t270
                    · rw [if_pos c24] at H
                      have c24b0 : ((rd t274 0) == t270) = true := beq_iff_eq.mpr c24
                      have c24b1 : ((rd t274 0) != t270) = false := bne_eq_false_iff_eq.mpr c24
                      clear c24
                      have H' := Aside0.mk H
                      clear H
                      obtain ⟨Ao25, co25, eo25⟩ := KdC.R_slice HO_8.out
                      subst eo25
                      have p285 : 0 ≤ (0 : Int) := (by omega)
                      have q285 : 0 < (t274.length : Int) := of_decide_eq_true (by first | (with_reducible assumption) | assumption)
                      obtain ⟨ad285, e285, hx285_0⟩ := Kd.at_int (KdC.R_reads' HO_8.out).2.2 0 p285 q285
                      cases e285
                      have qi285 : (0 < t274.length) = True := eq_true (by omega)
                      (try rw [show ((0 : Int)).toNat = 0 from rfl] at hx285_0)
                      (try rw [Addr.add_zero'] at hx285_0)
                      replace p285 := eq_true p285
                      replace q285 := eq_true q285
                      go_wp2
                      repeat (go_quiet (fail); try go_wp2)
                      go_meet
                      case rel => exact ⟨_, (decide ((t274.length : Int) > t271)), (by first | rfl | (simp; done) | (simp [*]; done)), H', ⟨by have := HJ6.out; first | omega | exact Nat.le_refl _⟩, ⟨by repeat (first | (with_reducible first | exact HB.out | apply below_alloc | apply pw_below_drewN | apply below_drew1) | exact HB.out)⟩⟩
                    · rw [if_neg c24] at H
                      have c24b0 : ((rd t274 0) == t270) = false := beq_eq_false_iff_ne.mpr c24
                      have c24b1 : ((rd t274 0) != t270) = true := bne_iff_ne.mpr c24
                      have H' := Aside0.mk H
                      clear H
                      obtain ⟨Ao26, co26, eo26⟩ := KdC.R_slice HO_8.out
                      subst eo26
                      have p285 : 0 ≤ (0 : Int) := (by omega)
                      have q285 : 0 < (t274.length : Int) := of_decide_eq_true (by first | (with_reducible assumption) | assumption)
                      obtain ⟨ad285, e285, hx285_0⟩ := Kd.at_int (KdC.R_reads' HO_8.out).2.2 0 p285 q285
                      cases e285
                      have qi285 : (0 < t274.length) = True := eq_true (by omega)
                      (try rw [show ((0 : Int)).toNat = 0 from rfl] at hx285_0)
                      (try rw [Addr.add_zero'] at hx285_0)
                      replace p285 := eq_true p285
                      replace q285 := eq_true q285
                      go_wp2
                      repeat (go_quiet (fail); try go_wp2)
                      go_meet
                      case rel => exact ⟨_, (true), (by first | rfl | (simp; done) | (simp [*]; done)), H', ⟨by have := HJ6.out; first | omega | exact Nat.le_refl _⟩, ⟨by repeat (first | (with_reducible first | exact HB.out | apply below_alloc | apply pw_below_drewN | apply below_drew1) | exact HB.out)⟩⟩
                  · rw [if_neg c23] at H
                    exact absurd H (by simp)
              · rw [if_neg c20] at H
                have c20b0 : decide (0 < t271) = false := decide_eq_false c20
                clear c20
                (first | rw [c20b0] | (simp only [i64_w, i32_w]; rw [c20b0]) | skip)
                have H' := Aside0.mk H
                clear H
                go_wp2
                repeat (go_quiet (fail); try go_wp2)
                go_meet
                case rel => exact ⟨_, (false), (by first | rfl | (simp; done) | (simp [*]; done)), H', ⟨by have := HJ6.out; first | omega | exact Nat.le_refl _⟩, ⟨by repeat (first | (with_reducible first | exact HB.out | apply below_alloc | apply pw_below_drewN | apply below_drew1) | exact HB.out)⟩⟩
            · replace c19 := Bool.eq_false_iff.mpr c19
              subst c19
              have H1 : (laws_FnTouched.j1 kj6 l1 false) = some r := by rw [if_neg (show ¬ (false = true) by decide)] at H; exact H
              clear H
              have H := H1
              clear H1
              have H' := Aside0.mk H
              clear H
              go_wp2
              repeat (go_quiet (fail); try go_wp2)
              go_meet
              case rel => exact ⟨_, (false), (by first | rfl | (simp; done) | (simp [*]; done)), H', ⟨by have := HJ6.out; first | omega | exact Nat.le_refl _⟩, ⟨by repeat (first | (with_reducible first | exact HB.out | apply below_alloc | apply pw_below_drewN | apply below_drew1) | exact HB.out)⟩⟩
          case rest =>
            clear HC18
            try clear c1
            try clear c2
            try clear p2
            try clear q2
            try clear hx2
            try clear qi2
            try clear c3
            try clear c3b0
            try clear c5
            try clear p6
            try clear c12
            try clear c12b0
            try clear c12b1
            try clear c12b2
            try clear c13
            try clear c13b0
            try clear c13b1
            try clear c13b2
            try clear c17
            try clear c19
            try clear c20
            try clear c20b0
            try clear c21
            try clear c21b0
            try clear c21b1
            try clear c21b2
            try clear c23
            try clear c23b0
            try clear c23b1
            try clear c24
            try clear c24b0
            try clear c24b1
            try clear hx285_0
            try clear p2
            try clear p285
            try clear p6
            try clear q285
            obtain ⟨kq, x87_17, rfl, HA, HJ17, HB⟩ := hcut
            cases kq with
            | zero => exact absurd HA.out (by simp [laws_FnTouched.j1])
            | succ kj17 =>
              have H := HA.out
              clear HA
              simp only [laws_FnTouched.j1] at H
              by_cases c27 : x87_17 = true
              · subst c27
                have H1 : (some false) = some r := by rw [if_pos rfl] at H; exact H
                clear H
                have H := H1
                clear H1
                obtain rfl := Option.some.inj H
                go_wp2
                repeat (go_quiet (fail); try go_wp2)
                go_ret
                exact ⟨by first | rfl | (simp [errW_none, errW_some] <;> rfl) | (simp [*, errW_none, errW_some] <;> rfl), by repeat (first | (with_reducible first | exact HB.out | apply below_alloc | apply pw_below_drewN | apply below_drew1) | exact HB.out)⟩
              · replace c27 := Bool.eq_false_iff.mpr c27
                subst c27
                have H1 : ((spec_DrawWorkingSet.f kj17 l1).bind fun bt286 => ((impl_WorkingSet.f kj17 bt286.1 bt286.2).bind fun bt290 => ((spec_WorkingSet.f kj17 bt286.1 bt286.2).bind fun bt294 => (if (bt290.2 != bt294.2) = true then (laws_FnTouched.j2 kj17 bt286.1 bt286.2 bt290.1 bt290.2 true) else ((laws_sameInts.f kj17 bt290.1 bt294.1).bind fun t298 => (laws_FnTouched.j2 kj17 bt286.1 bt286.2 bt290.1 bt290.2 (!t298))))))) = some r := by rw [if_neg (show ¬ (false = true) by decide)] at H; exact H
                clear H
                have H := H1
                clear H1
                replace H := Option.bind_eq_some_iff.mp H
                obtain ⟨⟨t286, t287⟩, A280, H⟩ := H
                replace H : ((impl_WorkingSet.f kj17 t286 t287).bind fun bt290 => ((spec_WorkingSet.f kj17 t286 t287).bind fun bt294 => (if (bt290.2 != bt294.2) = true then (laws_FnTouched.j2 kj17 t286 t287 bt290.1 bt290.2 true) else ((laws_sameInts.f kj17 bt290.1 bt294.1).bind fun t298 => (laws_FnTouched.j2 kj17 t286 t287 bt290.1 bt290.2 (!t298)))))) = some r := H
                have A28 := Aside0.mk A280
                clear A280
                replace H := Option.bind_eq_some_iff.mp H
                obtain ⟨⟨t290, t291⟩, A290, H⟩ := H
                replace H : ((spec_WorkingSet.f kj17 t286 t287).bind fun bt294 => (if (t291 != bt294.2) = true then (laws_FnTouched.j2 kj17 t286 t287 t290 t291 true) else ((laws_sameInts.f kj17 t290 bt294.1).bind fun t298 => (laws_FnTouched.j2 kj17 t286 t287 t290 t291 (!t298))))) = some r := H
                have A29 := Aside0.mk A290
                clear A290
                replace H := Option.bind_eq_some_iff.mp H
                obtain ⟨⟨t294, t295⟩, A300, H⟩ := H
                replace H : (if (t291 != t295) = true then (laws_FnTouched.j2 kj17 t286 t287 t290 t291 true) else ((laws_sameInts.f kj17 t290 t294).bind fun t298 => (laws_FnTouched.j2 kj17 t286 t287 t290 t291 (!t298)))) = some r := H
                have A30 := Aside0.mk A300
                clear A300
                have HC31 := Aside0.mk H
                clear H
                go_upto_region 13 with (first | (go_at_call 22; (with_reducible refine (spec_DrawWorkingSet.calls kj17 _ _ l1 t286 t287 _ ?side1 ?side2 A28.out).mono ?_); (case side1 => repeat (first | exact (Kd.C_below HR1.out HB.out) | (with_reducible refine Kd.C_alloc ?_ _) | (with_reducible refine Kd.C_drewN ?_ _) | (with_reducible refine Kd.C_drew ?_))); (case side2 => exact HC1.out); rintro e w32 ⟨v288, rfl, ho0, hb⟩; (try (with_reducible replace ho0 := KdC.R_of ho0)); have n0_ := Aside0.mk (KdC.R_lower ho0 (below_size (by repeat (first | (with_reducible first | exact HB.out | apply below_alloc | apply pw_below_drewN | apply below_drew1) | exact HB.out)))); have n1_ := Aside0.mk (below_step (by repeat (first | (with_reducible first | exact HB.out | apply below_alloc | apply pw_below_drewN | apply below_drew1) | exact HB.out)) hb); clear HB; have HO289 := n0_; have HB := n1_; clear n0_ n1_; (try clear hb); (try clear hb2); (try clear hk); (try clear hi); (try clear ho0); obtain ⟨Ao33, co33, eo33⟩ := KdC.R_slice HO289.out; subst eo33) | (go_at_call 23; (with_reducible refine (impl_WorkingSet.calls kj17 _ _ t286 t287 t290 t291 _ ?side1 ?side2 A29.out).mono ?_); (case side1 => repeat (first | exact (KdC.R_reads' HO289.out).2.2 | (with_reducible refine Kd.C_alloc ?_ _) | (with_reducible refine Kd.C_drewN ?_ _) | (with_reducible refine Kd.C_drew ?_))); (case side2 => exact (KdC.R_reads' HO289.out).2.1); rintro e w34 ⟨v292, rfl, ho0, hb⟩; (try (with_reducible replace ho0 := KdC.R_of ho0)); have n0_ := Aside0.mk (KdC.R_elder' (by (with_reducible repeat (first | apply KdC.R_alloc | apply KdC.R_drewN | apply KdC.R_drew)); exact HO289.out) (KdC.R_base ho0) hb); have n1_ := Aside0.mk (KdC.R_lower (KdC.R_new' ho0 (KdC.R_lt (by (with_reducible repeat (first | apply KdC.R_alloc | apply KdC.R_drewN | apply KdC.R_drew)); exact HO289.out))) (below_size (by repeat (first | (with_reducible first | exact HB.out | apply below_alloc | apply pw_below_drewN | apply below_drew1) | exact HB.out)))); have n2_ := Aside0.mk (below_step (by repeat (first | (with_reducible first | exact HB.out | apply below_alloc | apply pw_below_drewN | apply below_drew1) | exact HB.out)) hb); clear HO289; clear HB; have HO289 := n0_; have HO293 := n1_; have HB := n2_; clear n0_ n1_ n2_; (try clear hb); (try clear hb2); (try clear hk); (try clear hi); (try clear ho0)) | (go_at_call 24; (with_reducible refine (spec_WorkingSet.calls kj17 _ _ t286 t287 t294 t295 _ ?side1 ?side2 A30.out).mono ?_); (case side1 => repeat (first | exact (KdC.R_reads' HO289.out).2.2 | (with_reducible refine Kd.C_alloc ?_ _) | (with_reducible refine Kd.C_drewN ?_ _) | (with_reducible refine Kd.C_drew ?_))); (case side2 => exact (KdC.R_reads' HO289.out).2.1); rintro e w35 ⟨v296, rfl, ho0, hb⟩; (try (with_reducible replace ho0 := KdC.R_of ho0)); have n0_ := Aside0.mk (KdC.R_elder' (by (with_reducible repeat (first | apply KdC.R_alloc | apply KdC.R_drewN | apply KdC.R_drew)); exact HO289.out) (KdC.R_base ho0) hb); have n1_ := Aside0.mk (KdC.R_elder' (by (with_reducible repeat (first | apply KdC.R_alloc | apply KdC.R_drewN | apply KdC.R_drew)); exact HO293.out) (KdC.R_base ho0) hb); have n2_ := Aside0.mk (KdC.R_lower (KdC.R_new' (KdC.R_new' ho0 (KdC.R_lt (by (with_reducible repeat (first | apply KdC.R_alloc | apply KdC.R_drewN | apply KdC.R_drew)); exact HO289.out))) (KdC.R_lt (by (with_reducible repeat (first | apply KdC.R_alloc | apply KdC.R_drewN | apply KdC.R_drew)); exact HO293.out))) (below_size (by repeat (first | (with_reducible first | exact HB.out | apply below_alloc | apply pw_below_drewN | apply below_drew1) | exact HB.out)))); have n3_ := Aside0.mk (below_step (by repeat (first | (with_reducible first | exact HB.out | apply below_alloc | apply pw_below_drewN | apply below_drew1) | exact HB.out)) hb); clear HO289; clear HO293; clear HB; have HO289 := n0_; have HO293 := n1_; have HO297 := n2_; have HB := n3_; clear n0_ n1_ n2_ n3_; (try clear hb); (try clear hb2); (try clear hk); (try clear hi); (try clear ho0)))
                repeat (go_quiet (first | (go_at_call 22; (with_reducible refine (spec_DrawWorkingSet.calls kj17 _ _ l1 t286 t287 _ ?side1 ?side2 A28.out).mono ?_); (case side1 => repeat (first | exact (Kd.C_below HR1.out HB.out) | (with_reducible refine Kd.C_alloc ?_ _) | (with_reducible refine Kd.C_drewN ?_ _) | (with_reducible refine Kd.C_drew ?_))); (case side2 => exact HC1.out); rintro e w32 ⟨v288, rfl, ho0, hb⟩; (try (with_reducible replace ho0 := KdC.R_of ho0)); have n0_ := Aside0.mk (KdC.R_lower ho0 (below_size (by repeat (first | (with_reducible first | exact HB.out | apply below_alloc | apply pw_below_drewN | apply below_drew1) | exact HB.out)))); have n1_ := Aside0.mk (below_step (by repeat (first | (with_reducible first | exact HB.out | apply below_alloc | apply pw_below_drewN | apply below_drew1) | exact HB.out)) hb); clear HB; have HO289 := n0_; have HB := n1_; clear n0_ n1_; (try clear hb); (try clear hb2); (try clear hk); (try clear hi); (try clear ho0); obtain ⟨Ao33, co33, eo33⟩ := KdC.R_slice HO289.out; subst eo33) | (go_at_call 23; (with_reducible refine (impl_WorkingSet.calls kj17 _ _ t286 t287 t290 t291 _ ?side1 ?side2 A29.out).mono ?_); (case side1 => repeat (first | exact (KdC.R_reads' HO289.out).2.2 | (with_reducible refine Kd.C_alloc ?_ _) | (with_reducible refine Kd.C_drewN ?_ _) | (with_reducible refine Kd.C_drew ?_))); (case side2 => exact (KdC.R_reads' HO289.out).2.1); rintro e w34 ⟨v292, rfl, ho0, hb⟩; (try (with_reducible replace ho0 := KdC.R_of ho0)); have n0_ := Aside0.mk (KdC.R_elder' (by (with_reducible repeat (first | apply KdC.R_alloc | apply KdC.R_drewN | apply KdC.R_drew)); exact HO289.out) (KdC.R_base ho0) hb); have n1_ := Aside0.mk (KdC.R_lower (KdC.R_new' ho0 (KdC.R_lt (by (with_reducible repeat (first | apply KdC.R_alloc | apply KdC.R_drewN | apply KdC.R_drew)); exact HO289.out))) (below_size (by repeat (first | (with_reducible first | exact HB.out | apply below_alloc | apply pw_below_drewN | apply below_drew1) | exact HB.out)))); have n2_ := Aside0.mk (below_step (by repeat (first | (with_reducible first | exact HB.out | apply below_alloc | apply pw_below_drewN | apply below_drew1) | exact HB.out)) hb); clear HO289; clear HB; have HO289 := n0_; have HO293 := n1_; have HB := n2_; clear n0_ n1_ n2_; (try clear hb); (try clear hb2); (try clear hk); (try clear hi); (try clear ho0)) | (go_at_call 24; (with_reducible refine (spec_WorkingSet.calls kj17 _ _ t286 t287 t294 t295 _ ?side1 ?side2 A30.out).mono ?_); (case side1 => repeat (first | exact (KdC.R_reads' HO289.out).2.2 | (with_reducible refine Kd.C_alloc ?_ _) | (with_reducible refine Kd.C_drewN ?_ _) | (with_reducible refine Kd.C_drew ?_))); (case side2 => exact (KdC.R_reads' HO289.out).2.1); rintro e w35 ⟨v296, rfl, ho0, hb⟩; (try (with_reducible replace ho0 := KdC.R_of ho0)); have n0_ := Aside0.mk (KdC.R_elder' (by (with_reducible repeat (first | apply KdC.R_alloc | apply KdC.R_drewN | apply KdC.R_drew)); exact HO289.out) (KdC.R_base ho0) hb); have n1_ := Aside0.mk (KdC.R_elder' (by (with_reducible repeat (first | apply KdC.R_alloc | apply KdC.R_drewN | apply KdC.R_drew)); exact HO293.out) (KdC.R_base ho0) hb); have n2_ := Aside0.mk (KdC.R_lower (KdC.R_new' (KdC.R_new' ho0 (KdC.R_lt (by (with_reducible repeat (first | apply KdC.R_alloc | apply KdC.R_drewN | apply KdC.R_drew)); exact HO289.out))) (KdC.R_lt (by (with_reducible repeat (first | apply KdC.R_alloc | apply KdC.R_drewN | apply KdC.R_drew)); exact HO293.out))) (below_size (by repeat (first | (with_reducible first | exact HB.out | apply below_alloc | apply pw_below_drewN | apply below_drew1) | exact HB.out)))); have n3_ := Aside0.mk (below_step (by repeat (first | (with_reducible first | exact HB.out | apply below_alloc | apply pw_below_drewN | apply below_drew1) | exact HB.out)) hb); clear HO289; clear HO293; clear HB; have HO289 := n0_; have HO293 := n1_; have HO297 := n2_; have HB := n3_; clear n0_ n1_ n2_ n3_; (try clear hb); (try clear hb2); (try clear hk); (try clear hi); (try clear ho0))); go_upto_region 13 with (first | (go_at_call 22; (with_reducible refine (spec_DrawWorkingSet.calls kj17 _ _ l1 t286 t287 _ ?side1 ?side2 A28.out).mono ?_); (case side1 => repeat (first | exact (Kd.C_below HR1.out HB.out) | (with_reducible refine Kd.C_alloc ?_ _) | (with_reducible refine Kd.C_drewN ?_ _) | (with_reducible refine Kd.C_drew ?_))); (case side2 => exact HC1.out); rintro e w32 ⟨v288, rfl, ho0, hb⟩; (try (with_reducible replace ho0 := KdC.R_of ho0)); have n0_ := Aside0.mk (KdC.R_lower ho0 (below_size (by repeat (first | (with_reducible first | exact HB.out | apply below_alloc | apply pw_below_drewN | apply below_drew1) | exact HB.out)))); have n1_ := Aside0.mk (below_step (by repeat (first | (with_reducible first | exact HB.out | apply below_alloc | apply pw_below_drewN | apply below_drew1) | exact HB.out)) hb); clear HB; have HO289 := n0_; have HB := n1_; clear n0_ n1_; (try clear hb); (try clear hb2); (try clear hk); (try clear hi); (try clear ho0); obtain ⟨Ao33, co33, eo33⟩ := KdC.R_slice HO289.out; subst eo33) | (go_at_call 23; (with_reducible refine (impl_WorkingSet.calls kj17 _ _ t286 t287 t290 t291 _ ?side1 ?side2 A29.out).mono ?_); (case side1 => repeat (first | exact (KdC.R_reads' HO289.out).2.2 | (with_reducible refine Kd.C_alloc ?_ _) | (with_reducible refine Kd.C_drewN ?_ _) | (with_reducible refine Kd.C_drew ?_))); (case side2 => exact (KdC.R_reads' HO289.out).2.1); rintro e w34 ⟨v292, rfl, ho0, hb⟩; (try (with_reducible replace ho0 := KdC.R_of ho0)); have n0_ := Aside0.mk (KdC.R_elder' (by (with_reducible repeat (first | apply KdC.R_alloc | apply KdC.R_drewN | apply KdC.R_drew)); exact HO289.out) (KdC.R_base ho0) hb); have n1_ := Aside0.mk (KdC.R_lower (KdC.R_new' ho0 (KdC.R_lt (by (with_reducible repeat (first | apply KdC.R_alloc | apply KdC.R_drewN | apply KdC.R_drew)); exact HO289.out))) (below_size (by repeat (first | (with_reducible first | exact HB.out | apply below_alloc | apply pw_below_drewN | apply below_drew1) | exact HB.out)))); have n2_ := Aside0.mk (below_step (by repeat (first | (with_reducible first | exact HB.out | apply below_alloc | apply pw_below_drewN | apply below_drew1) | exact HB.out)) hb); clear HO289; clear HB; have HO289 := n0_; have HO293 := n1_; have HB := n2_; clear n0_ n1_ n2_; (try clear hb); (try clear hb2); (try clear hk); (try clear hi); (try clear ho0)) | (go_at_call 24; (with_reducible refine (spec_WorkingSet.calls kj17 _ _ t286 t287 t294 t295 _ ?side1 ?side2 A30.out).mono ?_); (case side1 => repeat (first | exact (KdC.R_reads' HO289.out).2.2 | (with_reducible refine Kd.C_alloc ?_ _) | (with_reducible refine Kd.C_drewN ?_ _) | (with_reducible refine Kd.C_drew ?_))); (case side2 => exact (KdC.R_reads' HO289.out).2.1); rintro e w35 ⟨v296, rfl, ho0, hb⟩; (try (with_reducible replace ho0 := KdC.R_of ho0)); have n0_ := Aside0.mk (KdC.R_elder' (by (with_reducible repeat (first | apply KdC.R_alloc | apply KdC.R_drewN | apply KdC.R_drew)); exact HO289.out) (KdC.R_base ho0) hb); have n1_ := Aside0.mk (KdC.R_elder' (by (with_reducible repeat (first | apply KdC.R_alloc | apply KdC.R_drewN | apply KdC.R_drew)); exact HO293.out) (KdC.R_base ho0) hb); have n2_ := Aside0.mk (KdC.R_lower (KdC.R_new' (KdC.R_new' ho0 (KdC.R_lt (by (with_reducible repeat (first | apply KdC.R_alloc | apply KdC.R_drewN | apply KdC.R_drew)); exact HO289.out))) (KdC.R_lt (by (with_reducible repeat (first | apply KdC.R_alloc | apply KdC.R_drewN | apply KdC.R_drew)); exact HO293.out))) (below_size (by repeat (first | (with_reducible first | exact HB.out | apply below_alloc | apply pw_below_drewN | apply below_drew1) | exact HB.out)))); have n3_ := Aside0.mk (below_step (by repeat (first | (with_reducible first | exact HB.out | apply below_alloc | apply pw_below_drewN | apply below_drew1) | exact HB.out)) hb); clear HO289; clear HO293; clear HB; have HO289 := n0_; have HO293 := n1_; have HO297 := n2_; have HB := n3_; clear n0_ n1_ n2_ n3_; (try clear hb); (try clear hb2); (try clear hk); (try clear hi); (try clear ho0))))
                (try simp only [Act.put, List.setIfInBounds_toArray, List.set_cons_zero, List.set_cons_succ])
                go_cut [113] (fun v113 wc => ∃ (kq : Nat) (x113_30 : Bool), v113 = .bool x113_30 ∧ Aside0 (laws_FnTouched.j2 kq t286 t287 t290 t291 x113_30 = some r) ∧ Aside0 (kq ≤ kj17) ∧ Aside0 (KdC.R (Kd.int .i64) 3 wc w.heap.size (fun k_ => some k_ ≠ (v292 : Value).ownBlock) (.slice Ao33 t286.length co33) t286) ∧ Aside0 (KdC.R (Kd.int .i64) 3 wc w.heap.size (fun k_ => some k_ ≠ ((.slice Ao33 t286.length co33) : Value).ownBlock) v292 t290) ∧ Aside0 (Below w.heap.size w wc))
                case first =>
                  have H := HC31.out
                  clear HC31
                  by_cases c36 : (t291 != t295) = true
                  · rw [if_pos c36] at H
                    have c36b0 : (t291 != t295) = true := c36
                    (try (have c36b1 : decide (t291 = t295) = false := by simpa using c36))
                    (try (have c36b2 : (t291 == t295) = false := by simpa using c36))
                    (try (have c36b3 : ¬ (t291 = t295) := by simpa using c36))
                    clear c36
                    (first | rw [c36b0] | (simp only [i64_w, i32_w]; rw [c36b0]) | skip)
                    have H' := Aside0.mk H
                    clear H
                    go_wp2
                    repeat (go_quiet (fail); try go_wp2)
                    go_meet
                    case rel => exact ⟨_, (true), (by first | rfl | (simp; done) | (simp [*]; done)), H', ⟨by have := HJ6.out; have := HJ17.out; first | omega | exact Nat.le_refl _⟩, ⟨by (with_reducible repeat (first | apply KdC.R_alloc | apply KdC.R_drewN | apply KdC.R_drew)); exact KdC.R_mono HO289.out (fun _ hk => hk.1.2)⟩, ⟨by (with_reducible repeat (first | apply KdC.R_alloc | apply KdC.R_drewN | apply KdC.R_drew)); exact KdC.R_mono HO293.out (fun _ hk => hk.1.2)⟩, ⟨by repeat (first | (with_reducible first | exact HB.out | apply below_alloc | apply pw_below_drewN | apply below_drew1) | exact HB.out)⟩⟩
                  · rw [if_neg c36] at H
                    have c36b0 : (t291 != t295) = false := by simpa using c36
                    (try (have c36b1 : decide (t291 = t295) = true := by simpa using c36))
                    (try (have c36b2 : (t291 == t295) = true := by simpa using c36))
                    clear c36
                    (first | rw [c36b0] | (simp only [i64_w, i32_w]; rw [c36b0]) | skip)
                    replace H := Option.bind_eq_some_iff.mp H
                    obtain ⟨t298, A370, H⟩ := H
                    replace H : (laws_FnTouched.j2 kj17 t286 t287 t290 t291 (!t298)) = some r := H
                    have A37 := Aside0.mk A370
                    clear A370
                    have H' := Aside0.mk H
                    clear H
                    obtain ⟨Ao38, co38, eo38⟩ := KdC.R_slice HO293.out
                    subst eo38
                    obtain ⟨Ao39, co39, eo39⟩ := KdC.R_slice HO297.out
                    subst eo39
                    go_wp2_with (first | (go_at_call 11; (with_reducible refine (laws_sameInts.calls kj17 _ _ t290 _ _ t294 t298 _ ?side1 ?side2 ?side3 ?side4 A37.out).mono ?_); (case side1 => repeat (first | exact (KdC.R_reads' HO293.out).2.2 | (with_reducible refine Kd.C_alloc ?_ _) | (with_reducible refine Kd.C_drewN ?_ _) | (with_reducible refine Kd.C_drew ?_))); (case side2 => exact (KdC.R_reads' HO293.out).2.1); (case side3 => repeat (first | exact (KdC.R_reads' HO297.out).2.2 | (with_reducible refine Kd.C_alloc ?_ _) | (with_reducible refine Kd.C_drewN ?_ _) | (with_reducible refine Kd.C_drew ?_))); (case side4 => exact (KdC.R_reads' HO297.out).2.1); rintro e w' ⟨rfl, ⟨nd, rfl⟩⟩; (try first | exact ⟨rfl, _, World.drewN_drewN _ _ _⟩ | exact ⟨rfl, _, Eq.trans (World.drewN_drewN _ _ _) (congrArg (World.drewN _) (Nat.add_assoc _ _ _))⟩)))
                    repeat (go_quiet (first | (go_at_call 11; (with_reducible refine (laws_sameInts.calls kj17 _ _ t290 _ _ t294 t298 _ ?side1 ?side2 ?side3 ?side4 A37.out).mono ?_); (case side1 => repeat (first | exact (KdC.R_reads' HO293.out).2.2 | (with_reducible refine Kd.C_alloc ?_ _) | (with_reducible refine Kd.C_drewN ?_ _) | (with_reducible refine Kd.C_drew ?_))); (case side2 => exact (KdC.R_reads' HO293.out).2.1); (case side3 => repeat (first | exact (KdC.R_reads' HO297.out).2.2 | (with_reducible refine Kd.C_alloc ?_ _) | (with_reducible refine Kd.C_drewN ?_ _) | (with_reducible refine Kd.C_drew ?_))); (case side4 => exact (KdC.R_reads' HO297.out).2.1); rintro e w' ⟨rfl, ⟨nd, rfl⟩⟩; (try first | exact ⟨rfl, _, World.drewN_drewN _ _ _⟩ | exact ⟨rfl, _, Eq.trans (World.drewN_drewN _ _ _) (congrArg (World.drewN _) (Nat.add_assoc _ _ _))⟩))); try go_wp2_with (first | (go_at_call 11; (with_reducible refine (laws_sameInts.calls kj17 _ _ t290 _ _ t294 t298 _ ?side1 ?side2 ?side3 ?side4 A37.out).mono ?_); (case side1 => repeat (first | exact (KdC.R_reads' HO293.out).2.2 | (with_reducible refine Kd.C_alloc ?_ _) | (with_reducible refine Kd.C_drewN ?_ _) | (with_reducible refine Kd.C_drew ?_))); (case side2 => exact (KdC.R_reads' HO293.out).2.1); (case side3 => repeat (first | exact (KdC.R_reads' HO297.out).2.2 | (with_reducible refine Kd.C_alloc ?_ _) | (with_reducible refine Kd.C_drewN ?_ _) | (with_reducible refine Kd.C_drew ?_))); (case side4 => exact (KdC.R_reads' HO297.out).2.1); rintro e w' ⟨rfl, ⟨nd, rfl⟩⟩; (try first | exact ⟨rfl, _, World.drewN_drewN _ _ _⟩ | exact ⟨rfl, _, Eq.trans (World.drewN_drewN _ _ _) (congrArg (World.drewN _) (Nat.add_assoc _ _ _))⟩))))
                    go_meet
                    case rel => exact ⟨_, (!t298), (by first | rfl | (simp; done) | (simp [*]; done)), H', ⟨by have := HJ6.out; have := HJ17.out; first | omega | exact Nat.le_refl _⟩, ⟨by (with_reducible repeat (first | apply KdC.R_alloc | apply KdC.R_drewN | apply KdC.R_drew)); exact KdC.R_mono HO289.out (fun _ hk => hk.1.2)⟩, ⟨by (with_reducible repeat (first | apply KdC.R_alloc | apply KdC.R_drewN | apply KdC.R_drew)); exact KdC.R_mono HO293.out (fun _ hk => hk.1.2)⟩, ⟨by repeat (first | (with_reducible first | exact HB.out | apply below_alloc | apply pw_below_drewN | apply below_drew1) | exact HB.out)⟩⟩
                case rest =>
                  clear HC31
                  try clear c1
                  try clear c2
                  try clear p2
                  try clear q2
                  try clear hx2
                  try clear qi2
                  try clear c3
                  try clear c3b0
                  try clear c5
                  try clear p6
                  try clear c12
                  try clear c12b0
                  try clear c12b1
                  try clear c12b2
                  try clear c13
                  try clear c13b0
                  try clear c13b1
                  try clear c13b2
                  try clear c17
                  try clear c19
                  try clear c20
                  try clear c20b0
                  try clear c21
                  try clear c21b0
                  try clear c21b1
                  try clear c21b2
                  try clear c23
                  try clear c23b0
                  try clear c23b1
                  try clear c24
                  try clear c24b0
                  try clear c24b1
                  try clear c27
                  try clear p28
                  try clear q28
                  try clear hx28
                  try clear qi28
                  try clear c36
                  try clear c36b0
                  try clear c36b1
                  try clear c36b2
                  try clear hx285_0
                  try clear p2
                  try clear p285
                  try clear p6
                  try clear q2
                  try clear q285
                  obtain ⟨kq, x113_30, rfl, HA, HJ30, HO_14, HO_16, HB⟩ := hcut
                  cases kq with
                  | zero => exact absurd HA.out (by simp [laws_FnTouched.j2])
                  | succ kj30 =>
                    have H := HA.out
                    clear HA
                    simp only [laws_FnTouched.j2] at H
                    by_cases c40 : x113_30 = true
                    · subst c40
                      have H1 : (some false) = some r := by rw [if_pos rfl] at H; exact H
                      clear H
                      have H := H1
                      clear H1
                      obtain rfl := Option.some.inj H
                      go_wp2
                      repeat (go_quiet (fail); try go_wp2)
                      go_ret
                      exact ⟨by first | rfl | (simp [errW_none, errW_some] <;> rfl) | (simp [*, errW_none, errW_some] <;> rfl), by repeat (first | (with_reducible first | exact HB.out | apply below_alloc | apply pw_below_drewN | apply below_drew1) | exact HB.out)⟩
                    · replace c40 := Bool.eq_false_iff.mpr c40
                      subst c40
                      have H1 : (if t291 = true then (laws_FnTouched.j3 kj30 t286 t287 t290 (t287 == 200)) else (laws_FnTouched.j3 kj30 t286 t287 t290 true)) = some r := by rw [if_neg (show ¬ (false = true) by decide)] at H; exact H
                      clear H
                      have H := H1
                      clear H1
                      have HC41 := Aside0.mk H
                      clear H
                      go_upto_region 15 with (fail)
                      repeat (go_quiet (fail); go_upto_region 15 with (fail))
                      go_cut [119] (fun v119 wc => ∃ (kq : Nat) (x119_40 : Bool), v119 = .bool x119_40 ∧ Aside0 (laws_FnTouched.j3 kq t286 t287 t290 x119_40 = some r) ∧ Aside0 (kq ≤ kj30) ∧ Aside0 (KdC.R (Kd.int .i64) 3 wc w.heap.size (fun k_ => some k_ ≠ (v292 : Value).ownBlock) (.slice Ao33 t286.length co33) t286) ∧ Aside0 (KdC.R (Kd.int .i64) 3 wc w.heap.size (fun k_ => some k_ ≠ ((.slice Ao33 t286.length co33) : Value).ownBlock) v292 t290) ∧ Aside0 (Below w.heap.size w wc))
                      case first =>
                        have H := HC41.out
                        clear HC41
                        by_cases c42 : t291 = true
                        · subst c42
                          have H1 : (laws_FnTouched.j3 kj30 t286 t287 t290 (t287 == 200)) = some r := by rw [if_pos rfl] at H; exact H
                          clear H
                          have H := H1
                          clear H1
                          have H' := Aside0.mk H
                          clear H
                          go_wp2
                          repeat (go_quiet (fail); try go_wp2)
                          go_meet
                          case rel => exact ⟨_, ((t287 == 200)), (by first | rfl | (simp; done) | (simp [*]; done)), H', ⟨by have := HJ6.out; have := HJ17.out; have := HJ30.out; first | omega | exact Nat.le_refl _⟩, ⟨by (with_reducible repeat (first | apply KdC.R_alloc | apply KdC.R_drewN | apply KdC.R_drew)); exact HO_14.out⟩, ⟨by (with_reducible repeat (first | apply KdC.R_alloc | apply KdC.R_drewN | apply KdC.R_drew)); exact HO_16.out⟩, ⟨by repeat (first | (with_reducible first | exact HB.out | apply below_alloc | apply pw_below_drewN | apply below_drew1) | exact HB.out)⟩⟩
                        · replace c42 := Bool.eq_false_iff.mpr c42
                          subst c42
                          have H1 : (laws_FnTouched.j3 kj30 t286 t287 t290 true) = some r := by rw [if_neg (show ¬ (false = true) by decide)] at H; exact H
                          clear H
                          have H := H1
                          clear H1
                          have H' := Aside0.mk H
                          clear H
                          go_wp2
                          repeat (go_quiet (fail); try go_wp2)
                          go_meet
                          case rel => exact ⟨_, (true), (by first | rfl | (simp; done) | (simp [*]; done)), H', ⟨by have := HJ6.out; have := HJ17.out; have := HJ30.out; first | omega | exact Nat.le_refl _⟩, ⟨by (with_reducible repeat (first | apply KdC.R_alloc | apply KdC.R_drewN | apply KdC.R_drew)); exact HO_14.out⟩, ⟨by (with_reducible repeat (first | apply KdC.R_alloc | apply KdC.R_drewN | apply KdC.R_drew)); exact HO_16.out⟩, ⟨by repeat (first | (with_reducible first | exact HB.out | apply below_alloc | apply pw_below_drewN | apply below_drew1) | exact HB.out)⟩⟩
                      case rest =>
                        clear HC41
                        try clear c1
                        try clear c2
                        try clear p2
                        try clear q2
                        try clear hx2
                        try clear qi2
                        try clear c3
                        try clear c3b0
                        try clear c4
                        try clear c5
                        try clear p6
                        try clear c12
                        try clear c12b0
                        try clear c12b1
                        try clear c12b2
                        try clear c13
                        try clear c13b0
                        try clear c13b1
                        try clear c13b2
                        try clear c17
                        try clear c19
                        try clear c20
                        try clear c20b0
                        try clear c21
                        try clear c21b0
                        try clear c21b1
                        try clear c21b2
                        try clear c23
                        try clear c23b0
                        try clear c23b1
                        try clear c24
                        try clear c24b0
                        try clear c24b1
                        try clear c27
                        try clear p28
                        try clear q28
                        try clear hx28
                        try clear qi28
                        try clear c36
                        try clear c36b0
                        try clear c36b1
                        try clear c36b2
                        try clear c40
                        try clear c42
                        try clear hx285_0
                        try clear p2
                        try clear p28
                        try clear p285
                        try clear p6
                        try clear q2
                        try clear q28
                        try clear q285
                        obtain ⟨kq, x119_40, rfl, HA, HJ40, HO_14, HO_16, HB⟩ := hcut
                        cases kq with
                        | zero => exact absurd HA.out (by simp [laws_FnTouched.j3])
                        | succ kj40 =>
                          have H := HA.out
                          clear HA
                          simp only [laws_FnTouched.j3] at H
                          by_cases c43 : x119_40 = true
                          · subst c43
                            have H1 : (some true) = some r := by rw [if_pos rfl] at H; exact H
                            clear H
                            have H := H1
                            clear H1
                            obtain rfl := Option.some.inj H
                            go_wp2
                            repeat (go_quiet (fail); try go_wp2)
                            go_ret
                            exact ⟨by first | rfl | (simp [errW_none, errW_some] <;> rfl) | (simp [*, errW_none, errW_some] <;> rfl), by repeat (first | (with_reducible first | exact HB.out | apply below_alloc | apply pw_below_drewN | apply below_drew1) | exact HB.out)⟩
                          · replace c43 := Bool.eq_false_iff.mpr c43
                            subst c43
                            have H1 : ((impl_WorkingSet.f kj40 t286 (wrap64 (t287 + 1))).bind fun bt299 => (if bt299.2 = true then (laws_FnTouched.j4 kj40 t287 t290 bt299.1 ((bt299.1.length : Int) != (t290.length : Int))) else (laws_FnTouched.j4 kj40 t287 t290 bt299.1 true))) = some r := by rw [if_neg (show ¬ (false = true) by decide)] at H; exact H
                            clear H
                            have H := H1
                            clear H1
                            replace H := Option.bind_eq_some_iff.mp H
                            obtain ⟨⟨t299, t300⟩, A440, H⟩ := H
                            replace H : (if t300 = true then (laws_FnTouched.j4 kj40 t287 t290 t299 ((t299.length : Int) != (t290.length : Int))) else (laws_FnTouched.j4 kj40 t287 t290 t299 true)) = some r := H
                            have A44 := Aside0.mk A440
                            clear A440
                            have HC45 := Aside0.mk H
                            clear H
                            go_upto_region 18 with (first | (go_at_call 23; (with_reducible refine (impl_WorkingSet.calls kj40 _ _ t286 (wrap64 (t287 + 1)) t299 t300 _ ?side1 ?side2 A44.out).mono ?_); (case side1 => repeat (first | exact (KdC.R_reads' HO_14.out).2.2 | (with_reducible refine Kd.C_alloc ?_ _) | (with_reducible refine Kd.C_drewN ?_ _) | (with_reducible refine Kd.C_drew ?_))); (case side2 => exact (KdC.R_reads' HO_14.out).2.1); rintro e w46 ⟨v301, rfl, ho0, hb⟩; (try (with_reducible replace ho0 := KdC.R_of ho0)); have n0_ := Aside0.mk (KdC.R_elder' (by (with_reducible repeat (first | apply KdC.R_alloc | apply KdC.R_drewN | apply KdC.R_drew)); exact HO_14.out) (KdC.R_base ho0) hb); have n1_ := Aside0.mk (KdC.R_elder' (by (with_reducible repeat (first | apply KdC.R_alloc | apply KdC.R_drewN | apply KdC.R_drew)); exact HO_16.out) (KdC.R_base ho0) hb); have n2_ := Aside0.mk (KdC.R_lower (KdC.R_new' (KdC.R_new' ho0 (KdC.R_lt (by (with_reducible repeat (first | apply KdC.R_alloc | apply KdC.R_drewN | apply KdC.R_drew)); exact HO_14.out))) (KdC.R_lt (by (with_reducible repeat (first | apply KdC.R_alloc | apply KdC.R_drewN | apply KdC.R_drew)); exact HO_16.out))) (below_size (by repeat (first | (with_reducible first | exact HB.out | apply below_alloc | apply pw_below_drewN | apply below_drew1) | exact HB.out)))); have n3_ := Aside0.mk (below_step (by repeat (first | (with_reducible first | exact HB.out | apply below_alloc | apply pw_below_drewN | apply below_drew1) | exact HB.out)) hb); clear HO_14; clear HO_16; clear HB; have HO_14 := n0_; have HO_16 := n1_; have HO302 := n2_; have HB := n3_; clear n0_ n1_ n2_ n3_; (try clear hb); (try clear hb2); (try clear hk); (try clear hi); (try clear ho0)))
                            repeat (go_quiet (first | (go_at_call 23; (with_reducible refine (impl_WorkingSet.calls kj40 _ _ t286 (wrap64 (t287 + 1)) t299 t300 _ ?side1 ?side2 A44.out).mono ?_); (case side1 => repeat (first | exact (KdC.R_reads' HO_14.out).2.2 | (with_reducible refine Kd.C_alloc ?_ _) | (with_reducible refine Kd.C_drewN ?_ _) | (with_reducible refine Kd.C_drew ?_))); (case side2 => exact (KdC.R_reads' HO_14.out).2.1); rintro e w46 ⟨v301, rfl, ho0, hb⟩; (try (with_reducible replace ho0 := KdC.R_of ho0)); have n0_ := Aside0.mk (KdC.R_elder' (by (with_reducible repeat (first | apply KdC.R_alloc | apply KdC.R_drewN | apply KdC.R_drew)); exact HO_14.out) (KdC.R_base ho0) hb); have n1_ := Aside0.mk (KdC.R_elder' (by (with_reducible repeat (first | apply KdC.R_alloc | apply KdC.R_drewN | apply KdC.R_drew)); exact HO_16.out) (KdC.R_base ho0) hb); have n2_ := Aside0.mk (KdC.R_lower (KdC.R_new' (KdC.R_new' ho0 (KdC.R_lt (by (with_reducible repeat (first | apply KdC.R_alloc | apply KdC.R_drewN | apply KdC.R_drew)); exact HO_14.out))) (KdC.R_lt (by (with_reducible repeat (first | apply KdC.R_alloc | apply KdC.R_drewN | apply KdC.R_drew)); exact HO_16.out))) (below_size (by repeat (first | (with_reducible first | exact HB.out | apply below_alloc | apply pw_below_drewN | apply below_drew1) | exact HB.out)))); have n3_ := Aside0.mk (below_step (by repeat (first | (with_reducible first | exact HB.out | apply below_alloc | apply pw_below_drewN | apply below_drew1) | exact HB.out)) hb); clear HO_14; clear HO_16; clear HB; have HO_14 := n0_; have HO_16 := n1_; have HO302 := n2_; have HB := n3_; clear n0_ n1_ n2_ n3_; (try clear hb); (try clear hb2); (try clear hk); (try clear hi); (try clear ho0))); go_upto_region 18 with (first | (go_at_call 23; (with_reducible refine (impl_WorkingSet.calls kj40 _ _ t286 (wrap64 (t287 + 1)) t299 t300 _ ?side1 ?side2 A44.out).mono ?_); (case side1 => repeat (first | exact (KdC.R_reads' HO_14.out).2.2 | (with_reducible refine Kd.C_alloc ?_ _) | (with_reducible refine Kd.C_drewN ?_ _) | (with_reducible refine Kd.C_drew ?_))); (case side2 => exact (KdC.R_reads' HO_14.out).2.1); rintro e w46 ⟨v301, rfl, ho0, hb⟩; (try (with_reducible replace ho0 := KdC.R_of ho0)); have n0_ := Aside0.mk (KdC.R_elder' (by (with_reducible repeat (first | apply KdC.R_alloc | apply KdC.R_drewN | apply KdC.R_drew)); exact HO_14.out) (KdC.R_base ho0) hb); have n1_ := Aside0.mk (KdC.R_elder' (by (with_reducible repeat (first | apply KdC.R_alloc | apply KdC.R_drewN | apply KdC.R_drew)); exact HO_16.out) (KdC.R_base ho0) hb); have n2_ := Aside0.mk (KdC.R_lower (KdC.R_new' (KdC.R_new' ho0 (KdC.R_lt (by (with_reducible repeat (first | apply KdC.R_alloc | apply KdC.R_drewN | apply KdC.R_drew)); exact HO_14.out))) (KdC.R_lt (by (with_reducible repeat (first | apply KdC.R_alloc | apply KdC.R_drewN | apply KdC.R_drew)); exact HO_16.out))) (below_size (by repeat (first | (with_reducible first | exact HB.out | apply below_alloc | apply pw_below_drewN | apply below_drew1) | exact HB.out)))); have n3_ := Aside0.mk (below_step (by repeat (first | (with_reducible first | exact HB.out | apply below_alloc | apply pw_below_drewN | apply below_drew1) | exact HB.out)) hb); clear HO_14; clear HO_16; clear HB; have HO_14 := n0_; have HO_16 := n1_; have HO302 := n2_; have HB := n3_; clear n0_ n1_ n2_ n3_; (try clear hb); (try clear hb2); (try clear hk); (try clear hi); (try clear ho0))))
                            (try simp only [Act.put, List.setIfInBounds_toArray, List.set_cons_zero, List.set_cons_succ])
                            go_cut [135] (fun v135 wc => ∃ (kq : Nat) (x135_44 : Bool), v135 = .bool x135_44 ∧ Aside0 (laws_FnTouched.j4 kq t287 t290 t299 x135_44 = some r) ∧ Aside0 (kq ≤ kj40) ∧ Aside0 (KdC.R (Kd.int .i64) 3 wc w.heap.size (fun k_ => some k_ ≠ (v301 : Value).ownBlock) v292 t290) ∧ Aside0 (KdC.R (Kd.int .i64) 3 wc w.heap.size (fun k_ => some k_ ≠ (v292 : Value).ownBlock) v301 t299) ∧ Aside0 (Below w.heap.size w wc))
                            case first =>
                              have H := HC45.out
                              clear HC45
                              by_cases c47 : t300 = true
                              · subst c47
                                have H1 : (laws_FnTouched.j4 kj40 t287 t290 t299 ((t299.length : Int) != (t290.length : Int))) = some r := by rw [if_pos rfl] at H; exact H
                                clear H
                                have H := H1
                                clear H1
                                have H' := Aside0.mk H
                                clear H
                                obtain ⟨Ao48, co48, eo48⟩ := KdC.R_slice HO302.out
                                subst eo48
                                obtain ⟨Ao49, co49, eo49⟩ := KdC.R_slice HO_16.out
                                subst eo49
                                go_wp2
                                repeat (go_quiet (fail); try go_wp2)
                                go_meet
                                case rel => exact ⟨_, (((t299.length : Int) != (t290.length : Int))), (by first | rfl | (simp; done) | (simp [*]; done)), H', ⟨by have := HJ6.out; have := HJ17.out; have := HJ30.out; have := HJ40.out; first | omega | exact Nat.le_refl _⟩, ⟨by (with_reducible repeat (first | apply KdC.R_alloc | apply KdC.R_drewN | apply KdC.R_drew)); exact KdC.R_mono HO_16.out (fun _ hk => hk.2)⟩, ⟨by (with_reducible repeat (first | apply KdC.R_alloc | apply KdC.R_drewN | apply KdC.R_drew)); exact KdC.R_mono HO302.out (fun _ hk => hk.2)⟩, ⟨by repeat (first | (with_reducible first | exact HB.out | apply below_alloc | apply pw_below_drewN | apply below_drew1) | exact HB.out)⟩⟩
                              · replace c47 := Bool.eq_false_iff.mpr c47
                                subst c47
                                have H1 : (laws_FnTouched.j4 kj40 t287 t290 t299 true) = some r := by rw [if_neg (show ¬ (false = true) by decide)] at H; exact H
                                clear H
                                have H := H1
                                clear H1
                                have H' := Aside0.mk H
                                clear H
                                go_wp2
                                repeat (go_quiet (fail); try go_wp2)
                                go_meet
                                case rel => exact ⟨_, (true), (by first | rfl | (simp; done) | (simp [*]; done)), H', ⟨by have := HJ6.out; have := HJ17.out; have := HJ30.out; have := HJ40.out; first | omega | exact Nat.le_refl _⟩, ⟨by (with_reducible repeat (first | apply KdC.R_alloc | apply KdC.R_drewN | apply KdC.R_drew)); exact KdC.R_mono HO_16.out (fun _ hk => hk.2)⟩, ⟨by (with_reducible repeat (first | apply KdC.R_alloc | apply KdC.R_drewN | apply KdC.R_drew)); exact KdC.R_mono HO302.out (fun _ hk => hk.2)⟩, ⟨by repeat (first | (with_reducible first | exact HB.out | apply below_alloc | apply pw_below_drewN | apply below_drew1) | exact HB.out)⟩⟩
                            case rest =>
                              clear HC45
                              try clear c1
                              try clear c2
                              try clear p2
                              try clear q2
                              try clear hx2
                              try clear qi2
                              try clear c3
                              try clear c3b0
                              try clear c4
                              try clear c5
                              try clear p6
                              try clear c12
                              try clear c12b0
                              try clear c12b1
                              try clear c12b2
                              try clear c13
                              try clear c13b0
                              try clear c13b1
                              try clear c13b2
                              try clear c17
                              try clear c19
                              try clear c20
                              try clear c20b0
                              try clear c21
                              try clear c21b0
                              try clear c21b1
                              try clear c21b2
                              try clear c23
                              try clear c23b0
                              try clear c23b1
                              try clear c24
                              try clear c24b0
                              try clear c24b1
                              try clear c27
                              try clear p28
                              try clear q28
                              try clear hx28
                              try clear qi28
                              try clear c36
                              try clear c36b0
                              try clear c36b1
                              try clear c36b2
                              try clear c40
                              try clear c42
                              try clear c43
                              try clear c47
                              try clear hx285_0
                              try clear p2
                              try clear p28
                              try clear p285
                              try clear p6
                              try clear q2
                              try clear q28
                              try clear q285
                              obtain ⟨kq, x135_44, rfl, HA, HJ44, HO_16, HO_20, HB⟩ := hcut
                              cases kq with
                              | zero => exact absurd HA.out (by simp [laws_FnTouched.j4])
                              | succ kj44 =>
                                have H := HA.out
                                clear HA
                                simp only [laws_FnTouched.j4] at H
                                by_cases c50 : x135_44 = true
                                · subst c50
                                  have H1 : (some false) = some r := by rw [if_pos rfl] at H; exact H
                                  clear H
                                  have H := H1
                                  clear H1
                                  obtain rfl := Option.some.inj H
                                  go_wp2
                                  repeat (go_quiet (fail); try go_wp2)
                                  go_ret
                                  exact ⟨by first | rfl | (simp [errW_none, errW_some] <;> rfl) | (simp [*, errW_none, errW_some] <;> rfl), by repeat (first | (with_reducible first | exact HB.out | apply below_alloc | apply pw_below_drewN | apply below_drew1) | exact HB.out)⟩
                                · replace c50 := Bool.eq_false_iff.mpr c50
                                  subst c50
                                  have H1 : (laws_FnTouched.l0 kj44 t287 t290 t299 (t290.length : Int) 0) = some r := by rw [if_neg (show ¬ (false = true) by decide)] at H; exact H
                                  clear H
                                  have H := H1
                                  clear H1
                                  have H' := Aside0.mk H
                                  clear H
                                  obtain ⟨Ao51, co51, eo51⟩ := KdC.R_slice HO_16.out
                                  subst eo51
                                  go_wp2
                                  repeat (go_quiet (fail); try go_wp2)
                                  go_loopg [138] kj44 (fun kq v138 w' => ∃ (x138_6 : Int), v138 = .int .i64 x138_6 ∧ Aside0 (laws_FnTouched.l0 kq t287 t290 t299 (t290.length : Int) x138_6 = some r) ∧ Aside0 (kq ≤ kj44) ∧ Aside0 (KdC.R (Kd.int .i64) 3 w' w.heap.size (fun k_ => some k_ ≠ (v301 : Value).ownBlock) (.slice Ao51 t290.length co51) t290) ∧ Aside0 (KdC.R (Kd.int .i64) 3 w' w.heap.size (fun k_ => some k_ ≠ ((.slice Ao51 t290.length co51) : Value).ownBlock) v301 t299) ∧ Aside0 (Below w.heap.size w w'))
                                  case atStart => exact ⟨(0), (by first | rfl | (simp; done) | (simp [*]; done)), H', ⟨Nat.le_refl _⟩, ⟨by (with_reducible repeat (first | apply KdC.R_alloc | apply KdC.R_drewN | apply KdC.R_drew)); exact HO_16.out⟩, ⟨by (with_reducible repeat (first | apply KdC.R_alloc | apply KdC.R_drewN | apply KdC.R_drew)); exact HO_20.out⟩, ⟨by repeat (first | (with_reducible first | exact HB.out | apply below_alloc | apply pw_below_drewN | apply below_drew1) | exact HB.out)⟩⟩
                                  case round =>
                                    clear H'
                                    try clear c1
                                    try clear c2
                                    try clear p2
                                    try clear q2
                                    try clear hx2
                                    try clear qi2
                                    try clear c3
                                    try clear c3b0
                                    try clear c4
                                    try clear c5
                                    try clear p6
                                    try clear c12
                                    try clear c12b0
                                    try clear c12b1
                                    try clear c12b2
                                    try clear c13
                                    try clear c13b0
                                    try clear c13b1
                                    try clear c13b2
                                    try clear c17
                                    try clear c19
                                    try clear c20
                                    try clear c20b0
                                    try clear c21
                                    try clear c21b0
                                    try clear c21b1
                                    try clear c21b2
                                    try clear c23
                                    try clear c23b0
                                    try clear c23b1
                                    try clear c24
                                    try clear c24b0
                                    try clear c24b1
                                    try clear c27
                                    try clear p28
                                    try clear q28
                                    try clear hx28
                                    try clear qi28
                                    try clear c36
                                    try clear c36b0
                                    try clear c36b1
                                    try clear c36b2
                                    try clear c40
                                    try clear c42
                                    try clear c43
                                    try clear c47
                                    try clear c50
                                    try clear hx285_0
                                    try clear p2
                                    try clear p28
                                    try clear p285
                                    try clear p6
                                    try clear q2
                                    try clear q28
                                    try clear q285
                                    obtain ⟨x138_6, rfl, HA, HK6, HO_16, HO_20, HB⟩ := hrel
                                    cases gk with
                                    | zero => exact absurd HA.out (by simp [laws_FnTouched.l0])
                                    | succ k6 =>
                                      have H := HA.out
                                      clear HA
                                      simp only [laws_FnTouched.l0] at H
                                      by_cases c52 : x138_6 < (t290.length : Int)
                                      · rw [if_pos c52] at H
                                        have c52b0 : decide (x138_6 < (t290.length : Int)) = true := decide_eq_true c52
                                        clear c52
                                        by_cases c53 : 0 ≤ x138_6
                                        · rw [if_pos c53] at H
                                          have c53b0 : decide (0 ≤ x138_6) = true := decide_eq_true c53
                                          clear c53
                                          by_cases c54 : x138_6 < (t290.length : Int)
                                          · rw [if_pos c54] at H
                                            have c54b0 : decide (x138_6 < (t290.length : Int)) = true := decide_eq_true c54
                                            clear c54
                                            by_cases c55 : x138_6 < (t299.length : Int)
                                            · rw [if_pos c55] at H
                                              have c55b0 : decide (x138_6 < (t299.length : Int)) = true := decide_eq_true c55
                                              clear c55
                                              by_cases c56 : (rd t290 x138_6) > (rd t299 x138_6)
                                              · rw [if_pos c56] at H
                                                have c56b0 : decide ((rd t299 x138_6) < (rd t290 x138_6)) = true := decide_eq_true c56
                                                clear c56
                                                obtain rfl := Option.some.inj H
                                                have p303 : 0 ≤ (x138_6 : Int) := of_decide_eq_true (by first | (with_reducible assumption) | assumption)
                                                have q303 : x138_6 < (t290.length : Int) := of_decide_eq_true (by first | (with_reducible assumption) | assumption)
                                                obtain ⟨ad303, e303, hx303_0⟩ := Kd.at_int (KdC.R_reads' HO_16.out).2.2 x138_6 p303 q303
                                                cases e303
                                                replace p303 := eq_true p303
                                                replace q303 := eq_true q303
                                                obtain ⟨Ao57, co57, eo57⟩ := KdC.R_slice HO_20.out
                                                subst eo57
                                                have p304 : 0 ≤ (x138_6 : Int) := of_decide_eq_true (by first | (with_reducible assumption) | assumption)
                                                have q304 : x138_6 < (t299.length : Int) := of_decide_eq_true (by first | (with_reducible assumption) | assumption)
                                                obtain ⟨ad304, e304, hx304_0⟩ := Kd.at_int (KdC.R_reads' HO_20.out).2.2 x138_6 p304 q304
                                                cases e304
                                                replace p304 := eq_true p304
                                                replace q304 := eq_true q304
                                                go_wp2
                                                repeat (go_quiet (fail); try go_wp2)
                                                go_ret
                                                exact ⟨by first | rfl | (simp [errW_none, errW_some] <;> rfl) | (simp [*, errW_none, errW_some] <;> rfl), by repeat (first | (with_reducible first | exact HB.out | apply below_alloc | apply pw_below_drewN | apply below_drew1) | exact HB.out)⟩
                                              · rw [if_neg c56] at H
                                                have c56b0 : decide ((rd t299 x138_6) < (rd t290 x138_6)) = false := decide_eq_false c56
                                                clear c56
                                                by_cases c58 : (rd t299 x138_6) > (wrap64 ((rd t290 x138_6) + 1))
                                                · rw [if_pos c58] at H
                                                  have c58b0 : decide ((wrap64 ((rd t290 x138_6) + 1)) < (rd t299 x138_6)) = true := decide_eq_true c58
                                                  clear c58
                                                  obtain rfl := Option.some.inj H
                                                  have p303 : 0 ≤ (x138_6 : Int) := of_decide_eq_true (by first | (with_reducible assumption) | assumption)
                                                  have q303 : x138_6 < (t290.length : Int) := of_decide_eq_true (by first | (with_reducible assumption) | assumption)
                                                  obtain ⟨ad303, e303, hx303_0⟩ := Kd.at_int (KdC.R_reads' HO_16.out).2.2 x138_6 p303 q303
                                                  cases e303
                                                  replace p303 := eq_true p303
                                                  replace q303 := eq_true q303
                                                  obtain ⟨Ao59, co59, eo59⟩ := KdC.R_slice HO_20.out
                                                  subst eo59
                                                  have p304 : 0 ≤ (x138_6 : Int) := of_decide_eq_true (by first | (with_reducible assumption) | assumption)
                                                  have q304 : x138_6 < (t299.length : Int) := of_decide_eq_true (by first | (with_reducible assumption) | assumption)
                                                  obtain ⟨ad304, e304, hx304_0⟩ := Kd.at_int (KdC.R_reads' HO_20.out).2.2 x138_6 p304 q304
                                                  cases e304
                                                  replace p304 := eq_true p304
                                                  replace q304 := eq_true q304
                                                  have p305 : 0 ≤ (x138_6 : Int) := of_decide_eq_true (by first | (with_reducible assumption) | assumption)
                                                  have q305 : x138_6 < (t299.length : Int) := of_decide_eq_true (by first | (with_reducible assumption) | assumption)
                                                  obtain ⟨ad305, e305, hx305_0⟩ := Kd.at_int (KdC.R_reads' HO_20.out).2.2 x138_6 p305 q305
                                                  obtain rfl : ad304 = ad305 := (by injection e305)
                                                  replace p305 := eq_true p305
                                                  replace q305 := eq_true q305
                                                  have p306 : 0 ≤ (x138_6 : Int) := of_decide_eq_true (by first | (with_reducible assumption) | assumption)
                                                  have q306 : x138_6 < (t290.length : Int) := of_decide_eq_true (by first | (with_reducible assumption) | assumption)
                                                  obtain ⟨ad306, e306, hx306_0⟩ := Kd.at_int (KdC.R_reads' HO_16.out).2.2 x138_6 p306 q306
                                                  obtain rfl : ad303 = ad306 := (by injection e306)
                                                  replace p306 := eq_true p306
                                                  replace q306 := eq_true q306
                                                  go_wp2
                                                  repeat (go_quiet (fail); try go_wp2)
                                                  go_ret
                                                  exact ⟨by first | rfl | (simp [errW_none, errW_some] <;> rfl) | (simp [*, errW_none, errW_some] <;> rfl), by repeat (first | (with_reducible first | exact HB.out | apply below_alloc | apply pw_below_drewN | apply below_drew1) | exact HB.out)⟩
                                                · rw [if_neg c58] at H
                                                  have c58b0 : decide ((wrap64 ((rd t290 x138_6) + 1)) < (rd t299 x138_6)) = false := decide_eq_false c58
                                                  clear c58
                                                  by_cases c60 : (rd t290 x138_6) < 1
                                                  · rw [if_pos c60] at H
                                                    have c60b0 : decide ((rd t290 x138_6) < 1) = true := decide_eq_true c60
                                                    clear c60
                                                    obtain rfl := Option.some.inj H
                                                    have p303 : 0 ≤ (x138_6 : Int) := of_decide_eq_true (by first | (with_reducible assumption) | assumption)
                                                    have q303 : x138_6 < (t290.length : Int) := of_decide_eq_true (by first | (with_reducible assumption) | assumption)
                                                    obtain ⟨ad303, e303, hx303_0⟩ := Kd.at_int (KdC.R_reads' HO_16.out).2.2 x138_6 p303 q303
                                                    cases e303
                                                    replace p303 := eq_true p303
                                                    replace q303 := eq_true q303
                                                    obtain ⟨Ao61, co61, eo61⟩ := KdC.R_slice HO_20.out
                                                    subst eo61
                                                    have p304 : 0 ≤ (x138_6 : Int) := of_decide_eq_true (by first | (with_reducible assumption) | assumption)
                                                    have q304 : x138_6 < (t299.length : Int) := of_decide_eq_true (by first | (with_reducible assumption) | assumption)
                                                    obtain ⟨ad304, e304, hx304_0⟩ := Kd.at_int (KdC.R_reads' HO_20.out).2.2 x138_6 p304 q304
                                                    cases e304
                                                    replace p304 := eq_true p304
                                                    replace q304 := eq_true q304
                                                    have p305 : 0 ≤ (x138_6 : Int) := of_decide_eq_true (by first | (with_reducible assumption) | assumption)
                                                    have q305 : x138_6 < (t299.length : Int) := of_decide_eq_true (by first | (with_reducible assumption) | assumption)
                                                    obtain ⟨ad305, e305, hx305_0⟩ := Kd.at_int (KdC.R_reads' HO_20.out).2.2 x138_6 p305 q305
                                                    obtain rfl : ad304 = ad305 := (by injection e305)
                                                    replace p305 := eq_true p305
                                                    replace q305 := eq_true q305
                                                    have p306 : 0 ≤ (x138_6 : Int) := of_decide_eq_true (by first | (with_reducible assumption) | assumption)
                                                    have q306 : x138_6 < (t290.length : Int) := of_decide_eq_true (by first | (with_reducible assumption) | assumption)
                                                    obtain ⟨ad306, e306, hx306_0⟩ := Kd.at_int (KdC.R_reads' HO_16.out).2.2 x138_6 p306 q306
                                                    obtain rfl : ad303 = ad306 := (by injection e306)
                                                    replace p306 := eq_true p306
                                                    replace q306 := eq_true q306
                                                    have p307 : 0 ≤ (x138_6 : Int) := of_decide_eq_true (by first | (with_reducible assumption) | assumption)
                                                    have q307 : x138_6 < (t290.length : Int) := of_decide_eq_true (by first | (with_reducible assumption) | assumption)
                                                    obtain ⟨ad307, e307, hx307_0⟩ := Kd.at_int (KdC.R_reads' HO_16.out).2.2 x138_6 p307 q307
                                                    obtain rfl : ad303 = ad307 := (by injection e307)
                                                    replace p307 := eq_true p307
                                                    replace q307 := eq_true q307
                                                    go_wp2
                                                    repeat (go_quiet (fail); try go_wp2)
                                                    go_ret
                                                    exact ⟨by first | rfl | (simp [errW_none, errW_some] <;> rfl) | (simp [*, errW_none, errW_some] <;> rfl), by repeat (first | (with_reducible first | exact HB.out | apply below_alloc | apply pw_below_drewN | apply below_drew1) | exact HB.out)⟩
                                                  · rw [if_neg c60] at H
                                                    have c60b0 : decide ((rd t290 x138_6) < 1) = false := decide_eq_false c60
                                                    clear c60
                                                    by_cases c62 : (rd t290 x138_6) > t287
                                                    · rw [if_pos c62] at H
                                                      have c62b0 : decide (t287 < (rd t290 x138_6)) = true := decide_eq_true c62
                                                      clear c62
                                                      obtain rfl := Option.some.inj H
                                                      have p303 : 0 ≤ (x138_6 : Int) := of_decide_eq_true (by first | (with_reducible assumption) | assumption)
                                                      have q303 : x138_6 < (t290.length : Int) := of_decide_eq_true (by first | (with_reducible assumption) | assumption)
                                                      obtain ⟨ad303, e303, hx303_0⟩ := Kd.at_int (KdC.R_reads' HO_16.out).2.2 x138_6 p303 q303
                                                      cases e303
                                                      replace p303 := eq_true p303
                                                      replace q303 := eq_true q303
                                                      obtain ⟨Ao63, co63, eo63⟩ := KdC.R_slice HO_20.out
                                                      subst eo63
                                                      have p304 : 0 ≤ (x138_6 : Int) := of_decide_eq_true (by first | (with_reducible assumption) | assumption)
                                                      have q304 : x138_6 < (t299.length : Int) := of_decide_eq_true (by first | (with_reducible assumption) | assumption)
                                                      obtain ⟨ad304, e304, hx304_0⟩ := Kd.at_int (KdC.R_reads' HO_20.out).2.2 x138_6 p304 q304
                                                      cases e304
                                                      replace p304 := eq_true p304
                                                      replace q304 := eq_true q304
                                                      have p305 : 0 ≤ (x138_6 : Int) := of_decide_eq_true (by first | (with_reducible assumption) | assumption)
                                                      have q305 : x138_6 < (t299.length : Int) := of_decide_eq_true (by first | (with_reducible assumption) | assumption)
                                                      obtain ⟨ad305, e305, hx305_0⟩ := Kd.at_int (KdC.R_reads' HO_20.out).2.2 x138_6 p305 q305
                                                      obtain rfl : ad304 = ad305 := (by injection e305)
                                                      replace p305 := eq_true p305
                                                      replace q305 := eq_true q305
                                                      have p306 : 0 ≤ (x138_6 : Int) := of_decide_eq_true (by first | (with_reducible assumption) | assumption)
                                                      have q306 : x138_6 < (t290.length : Int) := of_decide_eq_true (by first | (with_reducible assumption) | assumption)
                                                      obtain ⟨ad306, e306, hx306_0⟩ := Kd.at_int (KdC.R_reads' HO_16.out).2.2 x138_6 p306 q306
                                                      obtain rfl : ad303 = ad306 := (by injection e306)
                                                      replace p306 := eq_true p306
                                                      replace q306 := eq_true q306
                                                      have p307 : 0 ≤ (x138_6 : Int) := of_decide_eq_true (by first | (with_reducible assumption) | assumption)
                                                      have q307 : x138_6 < (t290.length : Int) := of_decide_eq_true (by first | (with_reducible assumption) | assumption)
                                                      obtain ⟨ad307, e307, hx307_0⟩ := Kd.at_int (KdC.R_reads' HO_16.out).2.2 x138_6 p307 q307
                                                      obtain rfl : ad303 = ad307 := (by injection e307)
                                                      replace p307 := eq_true p307
                                                      replace q307 := eq_true q307
                                                      have p308 : 0 ≤ (x138_6 : Int) := of_decide_eq_true (by first | (with_reducible assumption) | assumption)
                                                      have q308 : x138_6 < (t290.length : Int) := of_decide_eq_true (by first | (with_reducible assumption) | assumption)
                                                      obtain ⟨ad308, e308, hx308_0⟩ := Kd.at_int (KdC.R_reads' HO_16.out).2.2 x138_6 p308 q308
                                                      obtain rfl : ad303 = ad308 := (by injection e308)
                                                      replace p308 := eq_true p308
                                                      replace q308 := eq_true q308
                                                      go_wp2
                                                      repeat (go_quiet (fail); try go_wp2)
                                                      go_ret
                                                      exact ⟨by first | rfl | (simp [errW_none, errW_some] <;> rfl) | (simp [*, errW_none, errW_some] <;> rfl), by repeat (first | (with_reducible first | exact HB.out | apply below_alloc | apply pw_below_drewN | apply below_drew1) | exact HB.out)⟩
                                                    · rw [if_neg c62] at H
                                                      have c62b0 : decide (t287 < (rd t290 x138_6)) = false := decide_eq_false c62
                                                      clear c62
                                                      have H' := Aside0.mk H
                                                      clear H
                                                      have p303 : 0 ≤ (x138_6 : Int) := of_decide_eq_true (by first | (with_reducible assumption) | assumption)
                                                      have q303 : x138_6 < (t290.length : Int) := of_decide_eq_true (by first | (with_reducible assumption) | assumption)
                                                      obtain ⟨ad303, e303, hx303_0⟩ := Kd.at_int (KdC.R_reads' HO_16.out).2.2 x138_6 p303 q303
                                                      cases e303
                                                      replace p303 := eq_true p303
                                                      replace q303 := eq_true q303
                                                      obtain ⟨Ao64, co64, eo64⟩ := KdC.R_slice HO_20.out
                                                      subst eo64
                                                      have p304 : 0 ≤ (x138_6 : Int) := of_decide_eq_true (by first | (with_reducible assumption) | assumption)
                                                      have q304 : x138_6 < (t299.length : Int) := of_decide_eq_true (by first | (with_reducible assumption) | assumption)
                                                      obtain ⟨ad304, e304, hx304_0⟩ := Kd.at_int (KdC.R_reads' HO_20.out).2.2 x138_6 p304 q304
                                                      cases e304
                                                      replace p304 := eq_true p304
                                                      replace q304 := eq_true q304
                                                      have p305 : 0 ≤ (x138_6 : Int) := of_decide_eq_true (by first | (with_reducible assumption) | assumption)
                                                      have q305 : x138_6 < (t299.length : Int) := of_decide_eq_true (by first | (with_reducible assumption) | assumption)
                                                      obtain ⟨ad305, e305, hx305_0⟩ := Kd.at_int (KdC.R_reads' HO_20.out).2.2 x138_6 p305 q305
                                                      obtain rfl : ad304 = ad305 := (by injection e305)
                                                      replace p305 := eq_true p305
                                                      replace q305 := eq_true q305
                                                      have p306 : 0 ≤ (x138_6 : Int) := of_decide_eq_true (by first | (with_reducible assumption) | assumption)
                                                      have q306 : x138_6 < (t290.length : Int) := of_decide_eq_true (by first | (with_reducible assumption) | assumption)
                                                      obtain ⟨ad306, e306, hx306_0⟩ := Kd.at_int (KdC.R_reads' HO_16.out).2.2 x138_6 p306 q306
                                                      obtain rfl : ad303 = ad306 := (by injection e306)
                                                      replace p306 := eq_true p306
                                                      replace q306 := eq_true q306
                                                      have p307 : 0 ≤ (x138_6 : Int) := of_decide_eq_true (by first | (with_reducible assumption) | assumption)
                                                      have q307 : x138_6 < (t290.length : Int) := of_decide_eq_true (by first | (with_reducible assumption) | assumption)
                                                      obtain ⟨ad307, e307, hx307_0⟩ := Kd.at_int (KdC.R_reads' HO_16.out).2.2 x138_6 p307 q307
                                                      obtain rfl : ad303 = ad307 := (by injection e307)
                                                      replace p307 := eq_true p307
                                                      replace q307 := eq_true q307
                                                      have p308 : 0 ≤ (x138_6 : Int) := of_decide_eq_true (by first | (with_reducible assumption) | assumption)
                                                      have q308 : x138_6 < (t290.length : Int) := of_decide_eq_true (by first | (with_reducible assumption) | assumption)
                                                      obtain ⟨ad308, e308, hx308_0⟩ := Kd.at_int (KdC.R_reads' HO_16.out).2.2 x138_6 p308 q308
                                                      obtain rfl : ad303 = ad308 := (by injection e308)
                                                      replace p308 := eq_true p308
                                                      replace q308 := eq_true q308
                                                      go_wp2
                                                      repeat (go_quiet (fail); try go_wp2)
                                                      go_roundg k6
                                                      case measure => have := HJ6.out; have := HJ17.out; have := HJ30.out; have := HJ40.out; have := HJ44.out; have := HK6.out; omega
                                                      case rel => exact ⟨(wrap64 (x138_6 + 1)), (by first | rfl | (simp; done) | (simp [*]; done)), H', ⟨by have := HJ6.out; have := HJ17.out; have := HJ30.out; have := HJ40.out; have := HJ44.out; have := HK6.out; omega⟩, ⟨by (with_reducible repeat (first | apply KdC.R_alloc | apply KdC.R_drewN | apply KdC.R_drew)); exact HO_16.out⟩, ⟨by (with_reducible repeat (first | apply KdC.R_alloc | apply KdC.R_drewN | apply KdC.R_drew)); exact HO_20.out⟩, ⟨by repeat (first | (with_reducible first | exact HB.out | apply below_alloc | apply pw_below_drewN | apply below_drew1) | exact HB.out)⟩⟩
                                            · rw [if_neg c55] at H
                                              exact absurd H (by simp)
                                          · rw [if_neg c54] at H
                                            exact absurd H (by simp)
                                        · rw [if_neg c53] at H
                                          exact absurd H (by simp)
                                      · rw [if_neg c52] at H
                                        have c52b0 : decide (x138_6 < (t290.length : Int)) = false := decide_eq_false c52
                                        clear c52
                                        obtain rfl := Option.some.inj H
                                        go_wp2
                                        repeat (go_quiet (fail); try go_wp2)
                                        go_ret
                                        exact ⟨by first | rfl | (simp [errW_none, errW_some] <;> rfl) | (simp [*, errW_none, errW_some] <;> rfl), by repeat (first | (with_reducible first | exact HB.out | apply below_alloc | apply pw_below_drewN | apply below_drew1) | exact HB.out)⟩

/-- THE ONE PURE STATEMENT of laws_FnTouched: yours. -/
def laws_FnTouched.Pure : Prop := ∀ (l0 : List Int) (l1 : List Int), l0.length ≤ maxLen → l0.length * 1 ≤ 140737488351232 → (∀ x ∈ l0, (Lit.int .u8 x).wf = true) → l1.length ≤ maxLen → l1.length * 1 ≤ 140737488351232 → (∀ x ∈ l1, (Lit.int .u8 x).wf = true) → ∃ k, laws_FnTouched.f k l0 l1 = some true
theorem laws_FnTouched.walk (P : laws_FnTouched.Pure) (a0 : Option Addr) (len0 cap0 : Nat) (z0 : List Int) (a1 : Option Addr) (len1 cap1 : Nat) (z1 : List Int) (w : World) (w0 : (a0 = none ∧ len0 = 0 ∧ cap0 = 0 ∧ z0 = []) ∨ ∃ x, a0 = some x ∧ len0 ≤ cap0 ∧ cap0 ≤ maxLen ∧ z0.length = cap0 ∧ (∀ i, i < z0.length → w.cell? (x.add i) = some (.int .u8 (z0.getD i 0))) ∧ ∀ n ∈ z0, (Lit.int .u8 n).wf = true) (y0 : len0 * 1 ≤ 140737488351232) (w1 : (a1 = none ∧ len1 = 0 ∧ cap1 = 0 ∧ z1 = []) ∨ ∃ x, a1 = some x ∧ len1 ≤ cap1 ∧ cap1 ≤ maxLen ∧ z1.length = cap1 ∧ (∀ i, i < z1.length → w.cell? (x.add i) = some (.int .u8 (z1.getD i 0))) ∧ ∀ n ∈ z1, (Lit.int .u8 n).wf = true) (y1 : len1 * 1 ≤ 140737488351232) :
    Calls Try.prog 5 #[.slice a0 len0 cap0, .slice a1 len1 cap1] w fun e w' => e = .returned (.bool true) ∧ Below w.heap.size w w' := by
  obtain ⟨l0, rfl, hr0, hm0, hw0, hc0⟩ := ReadsInt.ofRowC w0
  obtain ⟨l1, rfl, hr1, hm1, hw1, hc1⟩ := ReadsInt.ofRowC w1
  obtain ⟨k, h⟩ := P l0 l1 hm0 y0 hw0 hm1 y1 hw1
  refine (laws_FnTouched.calls k _ _ l0 _ _ l1 true w (Kd.C_of_reads (d := (0 : Int)) (h1 := fun _ => rfl) hr0) hc0 (Kd.C_of_reads (d := (0 : Int)) (h1 := fun _ => rfl) hr1) hc1 h).mono ?_
  rintro e w' ⟨rfl, hd⟩
  exact ⟨rfl, hd⟩

end Go.Proofs.Ytgpimekdfnpffaa.PFnTouched
