-- Written by a program of this project (xprint.py) out of the translation; Lean checks it.
import Derived.Test.YtemeajidcggniaaPFnSummedx0
import Derived.Test.YtemeajidcggniaaPFnSummedx1
import Derived.Test.YtemeajidcggniaaPFnSummedx2
import Derived.Test.YtemeajidcggniaaPFnSummedx6
import Derived.Test.YtemeajidcggniaaPFnSummedx7
import Derived.Test.YtemeajidcggniaaPFnSummedx8
namespace Go.Proofs.Ytemeajidcggniaa.PFnSummed
open Go.RowKit Go.Proofs.YtemeajidcggniaaW.PrintWords Go.Proofs.YtemeajidcggniaaW.PrintLast Go.Proofs.YtemeajidcggniaaW.PrintMore
attribute [local go_sem] max2_int min2_int max_two min_two max_three min_three max_four min_four   -- for this text's walks alone
set_option linter.unusedVariables false
set_option linter.unusedSimpArgs false

/-! ### laws_FnSummed: function 4 -/
mutual
def laws_FnSummed.j0 : Nat → List Int → Bool → Bool → List Int → Int → List Int → Int → List Int → Int → Option (Bool)
 | 0, _, _, _, _, _, _, _, _, _ => none
 | k + 1, x1, x8, x77, x330000, x330001, x331000, x331001, x337000, x337001 => if x77 = true then (some false) else ((spec_DrawCellsOf.f x1).bind fun t351 => ((impl_CellsOf.f k t351).bind fun bt352 => ((spec_CellsOf.f k t351).bind fun bt356 => (if (bt352.2 != bt356.2) = true then (laws_FnSummed.j1 k x1 x8 t351 bt352.2 true x330000 x330001 x331000 x331001 x337000 x337001) else ((laws_sameInts.f k bt352.1 bt356.1).bind fun t360 => (laws_FnSummed.j1 k x1 x8 t351 bt352.2 (!t360) x330000 x330001 x331000 x331001 x337000 x337001))))))
def laws_FnSummed.j1 : Nat → List Int → Bool → ByteArray → Bool → Bool → List Int → Int → List Int → Int → List Int → Int → Option (Bool)
 | 0, _, _, _, _, _, _, _, _, _, _, _ => none
 | k + 1, x1, x8, x13, x15, x98, x330000, x330001, x331000, x331001, x337000, x337001 => if x98 = true then (some false) else (if x8 = true then (laws_FnSummed.j2 k x1 x13 x15 x330000 x330001 x331000 x331001 x337000 x337001) else (laws_FnSummed.j2 k x1 x13 false x330000 x330001 x331000 x331001 x337000 x337001))
def laws_FnSummed.j2 : Nat → List Int → ByteArray → Bool → List Int → Int → List Int → Int → List Int → Int → Option (Bool)
 | 0, _, _, _, _, _, _, _, _, _ => none
 | k + 1, x1, x13, x102, x330000, x330001, x331000, x331001, x337000, x337001 => if x102 = true then ((impl_EstimateOf.f k x330000 x330001 x13).bind fun bt361 => ((impl_EstimateOf.f k x331000 x331001 x13).bind fun bt363 => ((impl_EstimateOf.f k x337000 x337001 x13).bind fun bt365 => (if bt361.2 = true then (if bt363.2 = true then (if bt365.2 = true then (if bt365.1 < (wrap64 (bt361.1 + bt363.1)) then (some false) else (if x337001 = (wrap64 (x330001 + x331001)) then (laws_FnSummed.j3 k x1) else (some false))) else (some false)) else (some false)) else (some false))))) else (laws_FnSummed.j3 k x1)
def laws_FnSummed.j3 : Nat → List Int → Option (Bool)
 | 0, _ => none
 | k + 1, x1 => (spec_DrawHalveSketch.f k x1).bind fun bt367 => ((impl_HalveSketch.f k bt367.1 bt367.2).bind fun bt372 => ((spec_HalveSketch.f k bt367.1 bt367.2).bind fun bt378 => (if (bt372.2.2 != bt378.2.2) = true then (some false) else ((laws_sameSketches.f k bt372.1 bt372.2.1 bt378.1 bt378.2.1).bind fun t384 => (if t384 = true then (if bt372.2.2 = true then (some (decide (bt372.2.1 ≤ (wrap64 (Int.tdiv bt367.2 2))))) else (some true)) else (some false))))))
end
def laws_FnSummed.f (k : Nat) (l0 : List Int) (l1 : List Int) : Option (Bool) := if (wrap64 ((l0.length : Int) + (l1.length : Int))) > 1048576 then (some true) else ((spec_DrawJoinSketches.f k l0).bind fun bt321 => ((impl_JoinSketches.f k bt321.1 bt321.2.1 bt321.2.2.1 bt321.2.2.2).bind fun bt331 => ((spec_JoinSketches.f k bt321.1 bt321.2.1 bt321.2.2.1 bt321.2.2.2).bind fun bt337 => ((impl_JoinSketches.f k bt321.2.2.1 bt321.2.2.2 bt321.1 bt321.2.1).bind fun bt343 => (if (bt331.2.2 != bt337.2.2) = true then (laws_FnSummed.j0 k l1 bt331.2.2 true bt321.1 bt321.2.1 bt321.2.2.1 bt321.2.2.2 bt331.1 bt331.2.1) else (if (bt343.2.2 != bt337.2.2) = true then (laws_FnSummed.j0 k l1 bt331.2.2 true bt321.1 bt321.2.1 bt321.2.2.1 bt321.2.2.2 bt331.1 bt331.2.1) else ((laws_sameSketches.f k bt331.1 bt331.2.1 bt337.1 bt337.2.1).bind fun t349 => (if t349 = true then ((laws_sameSketches.f k bt343.1 bt343.2.1 bt331.1 bt331.2.1).bind fun t350 => (laws_FnSummed.j0 k l1 bt331.2.2 (!t350) bt321.1 bt321.2.1 bt321.2.2.1 bt321.2.2.2 bt331.1 bt331.2.1)) else (laws_FnSummed.j0 k l1 bt331.2.2 true bt321.1 bt321.2.1 bt321.2.2.1 bt321.2.2.2 bt331.1 bt331.2.1)))))))))
theorem laws_FnSummed.mono_l : ∀ k, (∀ y0 y1 y2 y3 y4 y5 y6 y7 y8, LeO (laws_FnSummed.j0 k y0 y1 y2 y3 y4 y5 y6 y7 y8) (laws_FnSummed.j0 (k + 1) y0 y1 y2 y3 y4 y5 y6 y7 y8)) ∧ (∀ y0 y1 y2 y3 y4 y5 y6 y7 y8 y9 y10, LeO (laws_FnSummed.j1 k y0 y1 y2 y3 y4 y5 y6 y7 y8 y9 y10) (laws_FnSummed.j1 (k + 1) y0 y1 y2 y3 y4 y5 y6 y7 y8 y9 y10)) ∧ (∀ y0 y1 y2 y3 y4 y5 y6 y7 y8, LeO (laws_FnSummed.j2 k y0 y1 y2 y3 y4 y5 y6 y7 y8) (laws_FnSummed.j2 (k + 1) y0 y1 y2 y3 y4 y5 y6 y7 y8)) ∧ (∀ y0, LeO (laws_FnSummed.j3 k y0) (laws_FnSummed.j3 (k + 1) y0))
 | 0 => ⟨fun _ _ _ _ _ _ _ _ _ r h => by simp [laws_FnSummed.j0] at h, fun _ _ _ _ _ _ _ _ _ _ _ r h => by simp [laws_FnSummed.j1] at h, fun _ _ _ _ _ _ _ _ _ r h => by simp [laws_FnSummed.j2] at h, fun _ r h => by simp [laws_FnSummed.j3] at h⟩
 | k + 1 => by
  obtain ⟨ih0, ih1, ih2, ih3⟩ := laws_FnSummed.mono_l k
  refine ⟨?_, ?_, ?_, ?_⟩
  ·intro y0 y1 y2 y3 y4 y5 y6 y7 y8
   unfold laws_FnSummed.j0
   repeat' first
   | (with_reducible exact ih0 _ _ _ _ _ _ _ _ _)
   | (with_reducible exact ih1 _ _ _ _ _ _ _ _ _ _ _)
   | (with_reducible exact ih2 _ _ _ _ _ _ _ _ _)
   | (with_reducible exact ih3 _)
   | (with_reducible exact impl_CellsOf.mono _ _)
   | (with_reducible exact impl_EstimateOf.mono _ _ _ _)
   | (with_reducible exact impl_HalveSketch.mono _ _ _)
   | (with_reducible exact impl_JoinSketches.mono _ _ _ _ _)
   | (with_reducible exact laws_sameInts.mono _ _ _)
   | (with_reducible exact laws_sameSketches.mono _ _ _ _ _)
   | (with_reducible exact spec_CellsOf.mono _ _)
   | (with_reducible exact spec_DrawHalveSketch.mono _ _)
   | (with_reducible exact spec_DrawJoinSketches.mono _ _)
   | (with_reducible exact spec_HalveSketch.mono _ _ _)
   | (with_reducible exact spec_JoinSketches.mono _ _ _ _ _)
   | (with_reducible exact LeO.refl _)
   | (with_reducible exact LeO.none _)
   | (with_reducible refine LeO.ite ?_ ?_)
   | (with_reducible refine LeO.bind ?_ (fun _ => ?_))
   | exact ih0 _ _ _ _ _ _ _ _ _
   | exact ih1 _ _ _ _ _ _ _ _ _ _ _
   | exact ih2 _ _ _ _ _ _ _ _ _
   | exact ih3 _
   | exact impl_CellsOf.mono _ _
   | exact impl_EstimateOf.mono _ _ _ _
   | exact impl_HalveSketch.mono _ _ _
   | exact impl_JoinSketches.mono _ _ _ _ _
   | exact laws_sameInts.mono _ _ _
   | exact laws_sameSketches.mono _ _ _ _ _
   | exact spec_CellsOf.mono _ _
   | exact spec_DrawHalveSketch.mono _ _
   | exact spec_DrawJoinSketches.mono _ _
   | exact spec_HalveSketch.mono _ _ _
   | exact spec_JoinSketches.mono _ _ _ _ _
   | exact LeO.none _
   | refine LeO.ite ?_ ?_
   | refine LeO.bind ?_ (fun _ => ?_)
  ·intro y0 y1 y2 y3 y4 y5 y6 y7 y8 y9 y10
   unfold laws_FnSummed.j1
   repeat' first
   | (with_reducible exact ih0 _ _ _ _ _ _ _ _ _)
   | (with_reducible exact ih1 _ _ _ _ _ _ _ _ _ _ _)
   | (with_reducible exact ih2 _ _ _ _ _ _ _ _ _)
   | (with_reducible exact ih3 _)
   | (with_reducible exact impl_CellsOf.mono _ _)
   | (with_reducible exact impl_EstimateOf.mono _ _ _ _)
   | (with_reducible exact impl_HalveSketch.mono _ _ _)
   | (with_reducible exact impl_JoinSketches.mono _ _ _ _ _)
   | (with_reducible exact laws_sameInts.mono _ _ _)
   | (with_reducible exact laws_sameSketches.mono _ _ _ _ _)
   | (with_reducible exact spec_CellsOf.mono _ _)
   | (with_reducible exact spec_DrawHalveSketch.mono _ _)
   | (with_reducible exact spec_DrawJoinSketches.mono _ _)
   | (with_reducible exact spec_HalveSketch.mono _ _ _)
   | (with_reducible exact spec_JoinSketches.mono _ _ _ _ _)
   | (with_reducible exact LeO.refl _)
   | (with_reducible exact LeO.none _)
   | (with_reducible refine LeO.ite ?_ ?_)
   | (with_reducible refine LeO.bind ?_ (fun _ => ?_))
   | exact ih0 _ _ _ _ _ _ _ _ _
   | exact ih1 _ _ _ _ _ _ _ _ _ _ _
   | exact ih2 _ _ _ _ _ _ _ _ _
   | exact ih3 _
   | exact impl_CellsOf.mono _ _
   | exact impl_EstimateOf.mono _ _ _ _
   | exact impl_HalveSketch.mono _ _ _
   | exact impl_JoinSketches.mono _ _ _ _ _
   | exact laws_sameInts.mono _ _ _
   | exact laws_sameSketches.mono _ _ _ _ _
   | exact spec_CellsOf.mono _ _
   | exact spec_DrawHalveSketch.mono _ _
   | exact spec_DrawJoinSketches.mono _ _
   | exact spec_HalveSketch.mono _ _ _
   | exact spec_JoinSketches.mono _ _ _ _ _
   | exact LeO.none _
   | refine LeO.ite ?_ ?_
   | refine LeO.bind ?_ (fun _ => ?_)
  ·intro y0 y1 y2 y3 y4 y5 y6 y7 y8
   unfold laws_FnSummed.j2
   repeat' first
   | (with_reducible exact ih0 _ _ _ _ _ _ _ _ _)
   | (with_reducible exact ih1 _ _ _ _ _ _ _ _ _ _ _)
   | (with_reducible exact ih2 _ _ _ _ _ _ _ _ _)
   | (with_reducible exact ih3 _)
   | (with_reducible exact impl_CellsOf.mono _ _)
   | (with_reducible exact impl_EstimateOf.mono _ _ _ _)
   | (with_reducible exact impl_HalveSketch.mono _ _ _)
   | (with_reducible exact impl_JoinSketches.mono _ _ _ _ _)
   | (with_reducible exact laws_sameInts.mono _ _ _)
   | (with_reducible exact laws_sameSketches.mono _ _ _ _ _)
   | (with_reducible exact spec_CellsOf.mono _ _)
   | (with_reducible exact spec_DrawHalveSketch.mono _ _)
   | (with_reducible exact spec_DrawJoinSketches.mono _ _)
   | (with_reducible exact spec_HalveSketch.mono _ _ _)
   | (with_reducible exact spec_JoinSketches.mono _ _ _ _ _)
   | (with_reducible exact LeO.refl _)
   | (with_reducible exact LeO.none _)
   | (with_reducible refine LeO.ite ?_ ?_)
   | (with_reducible refine LeO.bind ?_ (fun _ => ?_))
   | exact ih0 _ _ _ _ _ _ _ _ _
   | exact ih1 _ _ _ _ _ _ _ _ _ _ _
   | exact ih2 _ _ _ _ _ _ _ _ _
   | exact ih3 _
   | exact impl_CellsOf.mono _ _
   | exact impl_EstimateOf.mono _ _ _ _
   | exact impl_HalveSketch.mono _ _ _
   | exact impl_JoinSketches.mono _ _ _ _ _
   | exact laws_sameInts.mono _ _ _
   | exact laws_sameSketches.mono _ _ _ _ _
   | exact spec_CellsOf.mono _ _
   | exact spec_DrawHalveSketch.mono _ _
   | exact spec_DrawJoinSketches.mono _ _
   | exact spec_HalveSketch.mono _ _ _
   | exact spec_JoinSketches.mono _ _ _ _ _
   | exact LeO.none _
   | refine LeO.ite ?_ ?_
   | refine LeO.bind ?_ (fun _ => ?_)
  ·intro y0
   unfold laws_FnSummed.j3
   repeat' first
   | (with_reducible exact ih0 _ _ _ _ _ _ _ _ _)
   | (with_reducible exact ih1 _ _ _ _ _ _ _ _ _ _ _)
   | (with_reducible exact ih2 _ _ _ _ _ _ _ _ _)
   | (with_reducible exact ih3 _)
   | (with_reducible exact impl_CellsOf.mono _ _)
   | (with_reducible exact impl_EstimateOf.mono _ _ _ _)
   | (with_reducible exact impl_HalveSketch.mono _ _ _)
   | (with_reducible exact impl_JoinSketches.mono _ _ _ _ _)
   | (with_reducible exact laws_sameInts.mono _ _ _)
   | (with_reducible exact laws_sameSketches.mono _ _ _ _ _)
   | (with_reducible exact spec_CellsOf.mono _ _)
   | (with_reducible exact spec_DrawHalveSketch.mono _ _)
   | (with_reducible exact spec_DrawJoinSketches.mono _ _)
   | (with_reducible exact spec_HalveSketch.mono _ _ _)
   | (with_reducible exact spec_JoinSketches.mono _ _ _ _ _)
   | (with_reducible exact LeO.refl _)
   | (with_reducible exact LeO.none _)
   | (with_reducible refine LeO.ite ?_ ?_)
   | (with_reducible refine LeO.bind ?_ (fun _ => ?_))
   | exact ih0 _ _ _ _ _ _ _ _ _
   | exact ih1 _ _ _ _ _ _ _ _ _ _ _
   | exact ih2 _ _ _ _ _ _ _ _ _
   | exact ih3 _
   | exact impl_CellsOf.mono _ _
   | exact impl_EstimateOf.mono _ _ _ _
   | exact impl_HalveSketch.mono _ _ _
   | exact impl_JoinSketches.mono _ _ _ _ _
   | exact laws_sameInts.mono _ _ _
   | exact laws_sameSketches.mono _ _ _ _ _
   | exact spec_CellsOf.mono _ _
   | exact spec_DrawHalveSketch.mono _ _
   | exact spec_DrawJoinSketches.mono _ _
   | exact spec_HalveSketch.mono _ _ _
   | exact spec_JoinSketches.mono _ _ _ _ _
   | exact LeO.none _
   | refine LeO.ite ?_ ?_
   | refine LeO.bind ?_ (fun _ => ?_)
theorem laws_FnSummed.mono : ∀ a0 a1 k, LeO (laws_FnSummed.f k a0 a1) (laws_FnSummed.f (k + 1) a0 a1) := by
 intro a0 a1 k
 obtain ⟨ih0, ih1, ih2, ih3⟩ := laws_FnSummed.mono_l k
 unfold laws_FnSummed.f
 repeat' first
   | (with_reducible exact ih0 _ _ _ _ _ _ _ _ _)
   | (with_reducible exact ih1 _ _ _ _ _ _ _ _ _ _ _)
   | (with_reducible exact ih2 _ _ _ _ _ _ _ _ _)
   | (with_reducible exact ih3 _)
   | (with_reducible exact impl_CellsOf.mono _ _)
   | (with_reducible exact impl_EstimateOf.mono _ _ _ _)
   | (with_reducible exact impl_HalveSketch.mono _ _ _)
   | (with_reducible exact impl_JoinSketches.mono _ _ _ _ _)
   | (with_reducible exact laws_sameInts.mono _ _ _)
   | (with_reducible exact laws_sameSketches.mono _ _ _ _ _)
   | (with_reducible exact spec_CellsOf.mono _ _)
   | (with_reducible exact spec_DrawHalveSketch.mono _ _)
   | (with_reducible exact spec_DrawJoinSketches.mono _ _)
   | (with_reducible exact spec_HalveSketch.mono _ _ _)
   | (with_reducible exact spec_JoinSketches.mono _ _ _ _ _)
   | (with_reducible exact LeO.refl _)
   | (with_reducible exact LeO.none _)
   | (with_reducible refine LeO.ite ?_ ?_)
   | (with_reducible refine LeO.bind ?_ (fun _ => ?_))
   | exact ih0 _ _ _ _ _ _ _ _ _
   | exact ih1 _ _ _ _ _ _ _ _ _ _ _
   | exact ih2 _ _ _ _ _ _ _ _ _
   | exact ih3 _
   | exact impl_CellsOf.mono _ _
   | exact impl_EstimateOf.mono _ _ _ _
   | exact impl_HalveSketch.mono _ _ _
   | exact impl_JoinSketches.mono _ _ _ _ _
   | exact laws_sameInts.mono _ _ _
   | exact laws_sameSketches.mono _ _ _ _ _
   | exact spec_CellsOf.mono _ _
   | exact spec_DrawHalveSketch.mono _ _
   | exact spec_DrawJoinSketches.mono _ _
   | exact spec_HalveSketch.mono _ _ _
   | exact spec_JoinSketches.mono _ _ _ _ _
   | exact LeO.none _
   | refine LeO.ite ?_ ?_
   | refine LeO.bind ?_ (fun _ => ?_)
set_option maxHeartbeats 8000000 in
set_option maxRecDepth 100000 in
theorem laws_FnSummed.calls (k : Nat) (A0 : Option Addr) (c0 : Nat) (l0 : List Int) (A1 : Option Addr) (c1 : Nat) (l1 : List Int) (r : Bool) (w : World) (hr0 : Kd.C (Kd.int .u8) w A0 l0.length l0) (hc0 : l0.length ≤ c0) (hr1 : Kd.C (Kd.int .u8) w A1 l1.length l1) (hc1 : l1.length ≤ c1) (h : laws_FnSummed.f k l0 l1 = some r) :
  Calls Try.prog 4 #[.slice A0 l0.length c0, .slice A1 l1.length c1] w fun e w' => e = .returned (.bool r) ∧ Below w.heap.size w w' := by
 have hu25 := Try.underlying25
 have HR0 := Aside0.mk hr0
 have HC0 := Aside0.mk hc0
 clear hr0 hc0
 have HR1 := Aside0.mk hr1
 have HC1 := Aside0.mk hc1
 clear hr1 hc1
 have HB := Aside0.mk (Below.refl w.heap.size w)
 have H : (if (wrap64 ((l0.length : Int) + (l1.length : Int))) > 1048576 then (some true) else ((spec_DrawJoinSketches.f k l0).bind fun bt321 => ((impl_JoinSketches.f k bt321.1 bt321.2.1 bt321.2.2.1 bt321.2.2.2).bind fun bt331 => ((spec_JoinSketches.f k bt321.1 bt321.2.1 bt321.2.2.1 bt321.2.2.2).bind fun bt337 => ((impl_JoinSketches.f k bt321.2.2.1 bt321.2.2.2 bt321.1 bt321.2.1).bind fun bt343 => (if (bt331.2.2 != bt337.2.2) = true then (laws_FnSummed.j0 k l1 bt331.2.2 true bt321.1 bt321.2.1 bt321.2.2.1 bt321.2.2.2 bt331.1 bt331.2.1) else (if (bt343.2.2 != bt337.2.2) = true then (laws_FnSummed.j0 k l1 bt331.2.2 true bt321.1 bt321.2.1 bt321.2.2.1 bt321.2.2.2 bt331.1 bt331.2.1) else ((laws_sameSketches.f k bt331.1 bt331.2.1 bt337.1 bt337.2.1).bind fun t349 => (if t349 = true then ((laws_sameSketches.f k bt343.1 bt343.2.1 bt331.1 bt331.2.1).bind fun t350 => (laws_FnSummed.j0 k l1 bt331.2.2 (!t350) bt321.1 bt321.2.1 bt321.2.2.1 bt321.2.2.2 bt331.1 bt331.2.1)) else (laws_FnSummed.j0 k l1 bt331.2.2 true bt321.1 bt321.2.1 bt321.2.2.1 bt321.2.2.2 bt331.1 bt331.2.1)))))))))) = some r := h
 clear h
 by_cases c3 : (wrap64 ((l0.length : Int) + (l1.length : Int))) > 1048576
 ·rw [if_pos c3] at H
  have c3b0 : decide (1048576 < (wrap64 ((l0.length : Int) + (l1.length : Int)))) = true := decide_eq_true c3
  clear c3
  obtain rfl := Option.some.inj H
  go_enter Try.func4, Try.ntmps4
  go_wp2
  go_ret
  exact ⟨by first | rfl | (simp [errW_none, errW_some] <;> rfl) | (simp [*, errW_none, errW_some] <;> rfl), xw_ HB⟩
 ·rw [if_neg c3] at H
  have c3b0 : decide (1048576 < (wrap64 ((l0.length : Int) + (l1.length : Int)))) = false := decide_eq_false c3
  clear c3
  replace H := Option.bind_eq_some_iff.mp H
  obtain ⟨⟨t321, t324, t325, t328⟩, A40, H⟩ := H
  replace H : ((impl_JoinSketches.f k t321 t324 t325 t328).bind fun bt331 => ((spec_JoinSketches.f k t321 t324 t325 t328).bind fun bt337 => ((impl_JoinSketches.f k t325 t328 t321 t324).bind fun bt343 => (if (bt331.2.2 != bt337.2.2) = true then (laws_FnSummed.j0 k l1 bt331.2.2 true t321 t324 t325 t328 bt331.1 bt331.2.1) else (if (bt343.2.2 != bt337.2.2) = true then (laws_FnSummed.j0 k l1 bt331.2.2 true t321 t324 t325 t328 bt331.1 bt331.2.1) else ((laws_sameSketches.f k bt331.1 bt331.2.1 bt337.1 bt337.2.1).bind fun t349 => (if t349 = true then ((laws_sameSketches.f k bt343.1 bt343.2.1 bt331.1 bt331.2.1).bind fun t350 => (laws_FnSummed.j0 k l1 bt331.2.2 (!t350) t321 t324 t325 t328 bt331.1 bt331.2.1)) else (laws_FnSummed.j0 k l1 bt331.2.2 true t321 t324 t325 t328 bt331.1 bt331.2.1)))))))) = some r := H
  have A4 := Aside0.mk A40
  clear A40
  replace H := Option.bind_eq_some_iff.mp H
  obtain ⟨⟨t331, t334, t335⟩, A50, H⟩ := H
  replace H : ((spec_JoinSketches.f k t321 t324 t325 t328).bind fun bt337 => ((impl_JoinSketches.f k t325 t328 t321 t324).bind fun bt343 => (if (t335 != bt337.2.2) = true then (laws_FnSummed.j0 k l1 t335 true t321 t324 t325 t328 t331 t334) else (if (bt343.2.2 != bt337.2.2) = true then (laws_FnSummed.j0 k l1 t335 true t321 t324 t325 t328 t331 t334) else ((laws_sameSketches.f k t331 t334 bt337.1 bt337.2.1).bind fun t349 => (if t349 = true then ((laws_sameSketches.f k bt343.1 bt343.2.1 t331 t334).bind fun t350 => (laws_FnSummed.j0 k l1 t335 (!t350) t321 t324 t325 t328 t331 t334)) else (laws_FnSummed.j0 k l1 t335 true t321 t324 t325 t328 t331 t334))))))) = some r := H
  have A5 := Aside0.mk A50
  clear A50
  replace H := Option.bind_eq_some_iff.mp H
  obtain ⟨⟨t337, t340, t341⟩, A60, H⟩ := H
  replace H : ((impl_JoinSketches.f k t325 t328 t321 t324).bind fun bt343 => (if (t335 != t341) = true then (laws_FnSummed.j0 k l1 t335 true t321 t324 t325 t328 t331 t334) else (if (bt343.2.2 != t341) = true then (laws_FnSummed.j0 k l1 t335 true t321 t324 t325 t328 t331 t334) else ((laws_sameSketches.f k t331 t334 t337 t340).bind fun t349 => (if t349 = true then ((laws_sameSketches.f k bt343.1 bt343.2.1 t331 t334).bind fun t350 => (laws_FnSummed.j0 k l1 t335 (!t350) t321 t324 t325 t328 t331 t334)) else (laws_FnSummed.j0 k l1 t335 true t321 t324 t325 t328 t331 t334)))))) = some r := H
  have A6 := Aside0.mk A60
  clear A60
  replace H := Option.bind_eq_some_iff.mp H
  obtain ⟨⟨t343, t346, t347⟩, A70, H⟩ := H
  replace H : (if (t335 != t341) = true then (laws_FnSummed.j0 k l1 t335 true t321 t324 t325 t328 t331 t334) else (if (t347 != t341) = true then (laws_FnSummed.j0 k l1 t335 true t321 t324 t325 t328 t331 t334) else ((laws_sameSketches.f k t331 t334 t337 t340).bind fun t349 => (if t349 = true then ((laws_sameSketches.f k t343 t346 t331 t334).bind fun t350 => (laws_FnSummed.j0 k l1 t335 (!t350) t321 t324 t325 t328 t331 t334)) else (laws_FnSummed.j0 k l1 t335 true t321 t324 t325 t328 t331 t334))))) = some r := H
  have A7 := Aside0.mk A70
  clear A70
  have HC8 := Aside0.mk H
  clear H
  go_enter Try.func4, Try.ntmps4
  go_upto_region 7 with (first | ((with_reducible refine gate_callee (f := 15) rfl ?_); refine xgl_ (some 37) Try.func15 #[.slice A0 l0.length c0] ?_; (with_reducible refine (spec_DrawJoinSketches.calls k _ _ l0 t321 t324 t325 t328 _ ?side1 ?side2 A4.out).mono ?_); (case side1 => repeat (first | exact HR0.out | (with_reducible refine Kd.C_alloc ?_ _) | (with_reducible refine Kd.C_drewN ?_ _) | (with_reducible refine Kd.C_drew ?_))); (case side2 => exact HC0.out); rintro e w9 ⟨v322, v326, rfl, ho0, ho1, hb⟩; refine ⟨_, rfl, ?_⟩; have HO323 := Aside0.mk (Kd.Q_lower ho0 (below_size (xw_ HB))); have HO327 := Aside0.mk (Kd.Q_lower ho1 (below_size (xw_ HB))); replace HB := xws_ HB hb; (try clear hb); (try clear hb2); (try clear hk); (try clear hi); (try clear ho0); (try clear ho1)) | ((with_reducible refine gate_dst (N := 5) rfl ?_); refine xbe_ (N := 5) (cs := #[.slice none 0 0, .int .i64 0]) (t := 25) ?_; intro gb329 hg w10 hbox hb; replace HO323 := xqb_ HO323 hb; replace HO327 := xqb_ HO327 hb; have BK329 := Aside0.mk (hbox); have GW329 := xge_ HB hg; have GE329 := xge_ HB hg; replace HB := xws_ HB hb; clear hb hbox hg) | ((with_reducible refine gate_dst (N := 6) rfl ?_); refine xbe_ (N := 6) (cs := #[.slice none 0 0, .int .i64 0]) (t := 25) ?_; intro gb330 hg w11 hbox hb; replace HO323 := xqb_ HO323 hb; replace HO327 := xqb_ HO327 hb; have BK330 := Aside0.mk (hbox); have GW330 := xge_ HB hg; have GE330 := xge_ HB hg; replace HB := xws_ HB hb; have NB329_330 := xlt_ BK329 hg; have NB330_329 := xgt_ BK329 hg; replace BK329 := xbb_ BK329 hb; clear hb hbox hg; obtain ⟨Ao12, co12, eo12, _⟩ := Kd.Q_slice HO323.out; subst eo12; have hnb13 := NB329_330.out; have hnc13 := NB330_329.out; have hcz14_0 : w11.cell? ⟨gb329, 0, none⟩ = some (.slice none 0 0) := xk_ BK329 0; have hcz14_1 : w11.cell? ⟨gb329, 1, none⟩ = some (.int .i64 0) := xk_ BK329 1; have hfz14_0 := blk_frozen BK329.out 0; have hfz14_1 := blk_frozen BK329.out 1; obtain ⟨Ao15, co15, eo15, _⟩ := Kd.Q_slice HO327.out; subst eo15; have hcz16_0 : w11.cell? ⟨gb330, 0, none⟩ = some (.slice none 0 0) := xk_ BK330 0; have hcz16_1 : w11.cell? ⟨gb330, 1, none⟩ = some (.int .i64 0) := xk_ BK330 1; have hfz16_0 := blk_frozen BK330.out 0; have hfz16_1 := blk_frozen BK330.out 1) | ((with_reducible refine gate_callee (f := 16) rfl ?_); refine xgl_ (some 43) Try.func16 #[.agg #[.slice Ao12 t321.length co12, .int .i64 t324], .agg #[.slice Ao15 t325.length co15, .int .i64 t328]] ?_; (with_reducible refine (impl_JoinSketches.calls k _ _ t321 t324 _ _ t325 t328 t331 t334 t335 _ ?side1 ?side2 ?side3 ?side4 A5.out).mono ?_); (case side1 => refine (Kd.Q_reads' (e := 3) (base := w.heap.size) (ok := fun k_ => some k_ ≠ (.slice Ao15 t325.length co15 : Value).ownBlock) (n := t321.length) (c := co12) ?_).2.2; exact (xqt_ ((Kd.Q_mono (Kd.Q_mono (Kd.Q_far (p := ⟨gb330, 1, none⟩) (Kd.Q_far (p := ⟨gb330, 0, none⟩) (Kd.Q_far (p := ⟨gb329, 1, none⟩) (Kd.Q_far (p := ⟨gb329, 0, none⟩) (Kd.Q_types (Kd.Q_types HO323.out BK329.out (by decide)) BK330.out (by decide)) (fun _ hk => hk.1.2) (.slice Ao12 t321.length co12)) (fun _ hk => hk.1.2) (.int .i64 t324)) (fun _ hk => hk.2) (.slice Ao15 t325.length co15)) (fun _ hk => hk.2) (.int .i64 t328)) (fun _ h_ => h_.1)) (fun _ h_ => h_.1))))); (case side2 => exact (Kd.Q_reads' HO323.out).2.1); (case side3 => refine (Kd.Q_reads' (e := 3) (base := w.heap.size) (ok := fun k_ => some k_ ≠ (.slice Ao12 t321.length co12 : Value).ownBlock) (n := t325.length) (c := co15) ?_).2.2; exact (xqt_ ((Kd.Q_mono (Kd.Q_mono (Kd.Q_far (p := ⟨gb330, 1, none⟩) (Kd.Q_far (p := ⟨gb330, 0, none⟩) (Kd.Q_far (p := ⟨gb329, 1, none⟩) (Kd.Q_far (p := ⟨gb329, 0, none⟩) (Kd.Q_types (Kd.Q_types HO327.out BK329.out (by decide)) BK330.out (by decide)) (fun _ hk => hk.1.2) (.slice Ao12 t321.length co12)) (fun _ hk => hk.1.2) (.int .i64 t324)) (fun _ hk => hk.2) (.slice Ao15 t325.length co15)) (fun _ hk => hk.2) (.int .i64 t328)) (fun _ h_ => h_.1)) (fun _ h_ => h_.1))))); (case side4 => exact (Kd.Q_reads' HO327.out).2.1); rintro e w17 ⟨v332, rfl, ho0, hb⟩; refine ⟨_, rfl, ?_⟩; have HO333 := Aside0.mk (Kd.R_lower (Kd.R_new' (Kd.R_new' ho0 (Kd.Q_lt (xqt_ ((Kd.Q_mono (Kd.Q_mono (Kd.Q_far (p := ⟨gb330, 1, none⟩) (Kd.Q_far (p := ⟨gb330, 0, none⟩) (Kd.Q_far (p := ⟨gb329, 1, none⟩) (Kd.Q_far (p := ⟨gb329, 0, none⟩) (Kd.Q_types (Kd.Q_types HO323.out BK329.out (by decide)) BK330.out (by decide)) (fun _ hk => hk.1.2) (.slice Ao12 t321.length co12)) (fun _ hk => hk.1.2) (.int .i64 t324)) (fun _ hk => hk.2) (.slice Ao15 t325.length co15)) (fun _ hk => hk.2) (.int .i64 t328)) (fun _ h_ => h_.1)) (fun _ h_ => h_.1)))))) (Kd.Q_lt (xqt_ ((Kd.Q_mono (Kd.Q_mono (Kd.Q_far (p := ⟨gb330, 1, none⟩) (Kd.Q_far (p := ⟨gb330, 0, none⟩) (Kd.Q_far (p := ⟨gb329, 1, none⟩) (Kd.Q_far (p := ⟨gb329, 0, none⟩) (Kd.Q_types (Kd.Q_types HO327.out BK329.out (by decide)) BK330.out (by decide)) (fun _ hk => hk.1.2) (.slice Ao12 t321.length co12)) (fun _ hk => hk.1.2) (.int .i64 t324)) (fun _ hk => hk.2) (.slice Ao15 t325.length co15)) (fun _ hk => hk.2) (.int .i64 t328)) (fun _ h_ => h_.1)) (fun _ h_ => h_.1)))))) (below_size (xw_ HB))); replace HO323 := Aside0.mk (Kd.Q_elder' (xqt_ ((Kd.Q_mono (Kd.Q_mono (Kd.Q_far (p := ⟨gb330, 1, none⟩) (Kd.Q_far (p := ⟨gb330, 0, none⟩) (Kd.Q_far (p := ⟨gb329, 1, none⟩) (Kd.Q_far (p := ⟨gb329, 0, none⟩) (Kd.Q_types (Kd.Q_types HO323.out BK329.out (by decide)) BK330.out (by decide)) (fun _ hk => hk.1.2) (.slice Ao12 t321.length co12)) (fun _ hk => hk.1.2) (.int .i64 t324)) (fun _ hk => hk.2) (.slice Ao15 t325.length co15)) (fun _ hk => hk.2) (.int .i64 t328)) (fun _ h_ => h_.1)) (fun _ h_ => h_.1)))) (Kd.R_base ho0) hb); replace HO327 := Aside0.mk (Kd.Q_elder' (xqt_ ((Kd.Q_mono (Kd.Q_mono (Kd.Q_far (p := ⟨gb330, 1, none⟩) (Kd.Q_far (p := ⟨gb330, 0, none⟩) (Kd.Q_far (p := ⟨gb329, 1, none⟩) (Kd.Q_far (p := ⟨gb329, 0, none⟩) (Kd.Q_types (Kd.Q_types HO327.out BK329.out (by decide)) BK330.out (by decide)) (fun _ hk => hk.1.2) (.slice Ao12 t321.length co12)) (fun _ hk => hk.1.2) (.int .i64 t324)) (fun _ hk => hk.2) (.slice Ao15 t325.length co15)) (fun _ hk => hk.2) (.int .i64 t328)) (fun _ h_ => h_.1)) (fun _ h_ => h_.1)))) (Kd.R_base ho0) hb); replace BK329 := Aside0.mk (blk_below (g := gb329) (o := .cells #[.slice Ao12 t321.length co12, .int .i64 t324] 25 (0, 0)) (by (with_reducible repeat (first | refine blk_drewN ?_ _ | refine blk_drew ?_ | refine blk_alloc ?_ _)); refine blk_far ?_ NB329_330.out _; (with_reducible repeat (first | refine blk_drewN ?_ _ | refine blk_drew ?_ | refine blk_alloc ?_ _)); refine blk_far ?_ NB329_330.out _; (with_reducible repeat (first | refine blk_drewN ?_ _ | refine blk_drew ?_ | refine blk_alloc ?_ _)); refine blk_put (cs := #[.slice Ao12 t321.length co12, .int .i64 0]) ?_ 1 _ rfl; (with_reducible repeat (first | refine blk_drewN ?_ _ | refine blk_drew ?_ | refine blk_alloc ?_ _)); refine blk_put (cs := #[.slice none 0 0, .int .i64 0]) ?_ 0 _ rfl; (with_reducible repeat (first | refine blk_drewN ?_ _ | refine blk_drew ?_ | refine blk_alloc ?_ _)); exact BK329.out) hb); replace BK330 := Aside0.mk (blk_below (g := gb330) (o := .cells #[.slice Ao15 t325.length co15, .int .i64 t328] 25 (0, 0)) (by (with_reducible repeat (first | refine blk_drewN ?_ _ | refine blk_drew ?_ | refine blk_alloc ?_ _)); refine blk_put (cs := #[.slice Ao15 t325.length co15, .int .i64 0]) ?_ 1 _ rfl; (with_reducible repeat (first | refine blk_drewN ?_ _ | refine blk_drew ?_ | refine blk_alloc ?_ _)); refine blk_put (cs := #[.slice none 0 0, .int .i64 0]) ?_ 0 _ rfl; (with_reducible repeat (first | refine blk_drewN ?_ _ | refine blk_drew ?_ | refine blk_alloc ?_ _)); refine blk_far ?_ NB330_329.out _; (with_reducible repeat (first | refine blk_drewN ?_ _ | refine blk_drew ?_ | refine blk_alloc ?_ _)); refine blk_far ?_ NB330_329.out _; (with_reducible repeat (first | refine blk_drewN ?_ _ | refine blk_drew ?_ | refine blk_alloc ?_ _)); exact BK330.out) hb); replace HB := xws_ HB hb; (try clear hb); (try clear hb2); (try clear hk); (try clear hi); (try clear ho0)) | ((with_reducible refine gate_dst (N := 7) rfl ?_); refine xbe_ (N := 7) (cs := #[.slice none 0 0, .int .i64 0]) (t := 25) ?_; intro gb336 hg w18 hbox hb; replace HO323 := xqb_ HO323 hb; replace HO327 := xqb_ HO327 hb; replace HO333 := xrb_ HO333 hb; have BK336 := Aside0.mk (hbox); have GW336 := xge_ HB hg; have GE336 := xge_ HB hg; replace HB := xws_ HB hb; have NB329_336 := xlt_ BK329 hg; have NB336_329 := xgt_ BK329 hg; replace BK329 := xbb_ BK329 hb; have NB330_336 := xlt_ BK330 hg; have NB336_330 := xgt_ BK330 hg; replace BK330 := xbb_ BK330 hb; clear hb hbox hg; obtain ⟨Ao19, co19, eo19⟩ := Kd.R_slice HO333.out; subst eo19; have hnb20 := NB336_329.out; have hnc20 := NB329_336.out; have hnb21 := NB336_330.out; have hnc21 := NB330_336.out; have hcz22_0 : w18.cell? ⟨gb336, 0, none⟩ = some (.slice none 0 0) := xk_ BK336 0; have hcz22_1 : w18.cell? ⟨gb336, 1, none⟩ = some (.int .i64 0) := xk_ BK336 1; have hfz22_0 := blk_frozen BK336.out 0; have hfz22_1 := blk_frozen BK336.out 1; have hcz23_0 : w18.cell? ⟨gb329, 0, none⟩ = some (.slice Ao12 t321.length co12) := xk_ BK329 0; have hcz23_1 : w18.cell? ⟨gb329, 1, none⟩ = some (.int .i64 t324) := xk_ BK329 1; have hfz23_0 := blk_frozen BK329.out 0; have hfz23_1 := blk_frozen BK329.out 1; have hcz24_0 : w18.cell? ⟨gb330, 0, none⟩ = some (.slice Ao15 t325.length co15) := xk_ BK330 0; have hcz24_1 : w18.cell? ⟨gb330, 1, none⟩ = some (.int .i64 t328) := xk_ BK330 1; have hfz24_0 := blk_frozen BK330.out 0; have hfz24_1 := blk_frozen BK330.out 1) | ((with_reducible refine gate_callee (f := 17) rfl ?_); refine xgl_ (some 49) Try.func17 #[.agg #[.slice Ao12 t321.length co12, .int .i64 t324], .agg #[.slice Ao15 t325.length co15, .int .i64 t328]] ?_; (with_reducible refine (spec_JoinSketches.calls k _ _ t321 t324 _ _ t325 t328 t337 t340 t341 _ ?side1 ?side2 ?side3 ?side4 A6.out).mono ?_); (case side1 => refine (Kd.Q_reads' (e := 3) (base := w.heap.size) (ok := fun k_ => (some k_ ≠ (.slice Ao15 t325.length co15 : Value).ownBlock ∧ some k_ ≠ (.slice Ao19 t331.length co19 : Value).ownBlock)) (n := t321.length) (c := co12) ?_).2.2; exact (xqt_ ((Kd.Q_mono (Kd.Q_far (p := ⟨gb336, 1, none⟩) (Kd.Q_far (p := ⟨gb336, 0, none⟩) (Kd.Q_types HO323.out BK336.out (by decide)) (fun _ hk => hk.2) (.slice Ao19 t331.length co19)) (fun _ hk => hk.2) (.int .i64 t334)) (fun _ h_ => h_.1))))); (case side2 => exact (Kd.Q_reads' HO323.out).2.1); (case side3 => refine (Kd.Q_reads' (e := 3) (base := w.heap.size) (ok := fun k_ => (some k_ ≠ (.slice Ao12 t321.length co12 : Value).ownBlock ∧ some k_ ≠ (.slice Ao19 t331.length co19 : Value).ownBlock)) (n := t325.length) (c := co15) ?_).2.2; exact (xqt_ ((Kd.Q_mono (Kd.Q_far (p := ⟨gb336, 1, none⟩) (Kd.Q_far (p := ⟨gb336, 0, none⟩) (Kd.Q_types HO327.out BK336.out (by decide)) (fun _ hk => hk.2) (.slice Ao19 t331.length co19)) (fun _ hk => hk.2) (.int .i64 t334)) (fun _ h_ => h_.1))))); (case side4 => exact (Kd.Q_reads' HO327.out).2.1); rintro e w25 ⟨v338, rfl, ho0, hb⟩; refine ⟨_, rfl, ?_⟩; have HO339 := Aside0.mk (Kd.R_lower (Kd.R_new' (Kd.R_new' (Kd.R_new' ho0 (Kd.Q_lt (xqt_ ((Kd.Q_mono (Kd.Q_far (p := ⟨gb336, 1, none⟩) (Kd.Q_far (p := ⟨gb336, 0, none⟩) (Kd.Q_types HO323.out BK336.out (by decide)) (fun _ hk => hk.2) (.slice Ao19 t331.length co19)) (fun _ hk => hk.2) (.int .i64 t334)) (fun _ h_ => h_.1)))))) (Kd.Q_lt (xqt_ ((Kd.Q_mono (Kd.Q_far (p := ⟨gb336, 1, none⟩) (Kd.Q_far (p := ⟨gb336, 0, none⟩) (Kd.Q_types HO327.out BK336.out (by decide)) (fun _ hk => hk.2) (.slice Ao19 t331.length co19)) (fun _ hk => hk.2) (.int .i64 t334)) (fun _ h_ => h_.1)))))) (Kd.R_lt (xrt_ ((Kd.R_mono (Kd.R_far (p := ⟨gb336, 1, none⟩) (Kd.R_far (p := ⟨gb336, 0, none⟩) (Kd.R_types HO333.out BK336.out (by decide)) (fun _ hk => hk.2) (.slice Ao19 t331.length co19)) (fun _ hk => hk.2) (.int .i64 t334)) (fun _ h_ => h_.1)))))) (below_size (xw_ HB))); replace HO323 := Aside0.mk (Kd.Q_elder' (xqt_ ((Kd.Q_mono (Kd.Q_far (p := ⟨gb336, 1, none⟩) (Kd.Q_far (p := ⟨gb336, 0, none⟩) (Kd.Q_types HO323.out BK336.out (by decide)) (fun _ hk => hk.2) (.slice Ao19 t331.length co19)) (fun _ hk => hk.2) (.int .i64 t334)) (fun _ h_ => h_.1)))) (Kd.R_base ho0) hb); replace HO327 := Aside0.mk (Kd.Q_elder' (xqt_ ((Kd.Q_mono (Kd.Q_far (p := ⟨gb336, 1, none⟩) (Kd.Q_far (p := ⟨gb336, 0, none⟩) (Kd.Q_types HO327.out BK336.out (by decide)) (fun _ hk => hk.2) (.slice Ao19 t331.length co19)) (fun _ hk => hk.2) (.int .i64 t334)) (fun _ h_ => h_.1)))) (Kd.R_base ho0) hb); replace HO333 := Aside0.mk (Kd.R_elder' (xrt_ ((Kd.R_mono (Kd.R_far (p := ⟨gb336, 1, none⟩) (Kd.R_far (p := ⟨gb336, 0, none⟩) (Kd.R_types HO333.out BK336.out (by decide)) (fun _ hk => hk.2) (.slice Ao19 t331.length co19)) (fun _ hk => hk.2) (.int .i64 t334)) (fun _ h_ => h_.1)))) (Kd.R_base ho0) hb); replace BK329 := Aside0.mk (blk_below (g := gb329) (o := .cells #[.slice Ao12 t321.length co12, .int .i64 t324] 25 (0, 0)) (by (with_reducible repeat (first | refine blk_drewN ?_ _ | refine blk_drew ?_ | refine blk_alloc ?_ _)); refine blk_far ?_ NB329_336.out _; (with_reducible repeat (first | refine blk_drewN ?_ _ | refine blk_drew ?_ | refine blk_alloc ?_ _)); refine blk_far ?_ NB329_336.out _; (with_reducible repeat (first | refine blk_drewN ?_ _ | refine blk_drew ?_ | refine blk_alloc ?_ _)); exact BK329.out) hb); replace BK330 := Aside0.mk (blk_below (g := gb330) (o := .cells #[.slice Ao15 t325.length co15, .int .i64 t328] 25 (0, 0)) (by (with_reducible repeat (first | refine blk_drewN ?_ _ | refine blk_drew ?_ | refine blk_alloc ?_ _)); refine blk_far ?_ NB330_336.out _; (with_reducible repeat (first | refine blk_drewN ?_ _ | refine blk_drew ?_ | refine blk_alloc ?_ _)); refine blk_far ?_ NB330_336.out _; (with_reducible repeat (first | refine blk_drewN ?_ _ | refine blk_drew ?_ | refine blk_alloc ?_ _)); exact BK330.out) hb); replace BK336 := Aside0.mk (blk_below (g := gb336) (o := .cells #[.slice Ao19 t331.length co19, .int .i64 t334] 25 (0, 0)) (by (with_reducible repeat (first | refine blk_drewN ?_ _ | refine blk_drew ?_ | refine blk_alloc ?_ _)); refine blk_put (cs := #[.slice Ao19 t331.length co19, .int .i64 0]) ?_ 1 _ rfl; (with_reducible repeat (first | refine blk_drewN ?_ _ | refine blk_drew ?_ | refine blk_alloc ?_ _)); refine blk_put (cs := #[.slice none 0 0, .int .i64 0]) ?_ 0 _ rfl; (with_reducible repeat (first | refine blk_drewN ?_ _ | refine blk_drew ?_ | refine blk_alloc ?_ _)); exact BK336.out) hb); replace HB := xws_ HB hb; (try clear hb); (try clear hb2); (try clear hk); (try clear hi); (try clear ho0)) | ((with_reducible refine gate_dst (N := 9) rfl ?_); refine xbe_ (N := 9) (cs := #[.slice none 0 0, .int .i64 0]) (t := 25) ?_; intro gb342 hg w26 hbox hb; replace HO323 := xqb_ HO323 hb; replace HO327 := xqb_ HO327 hb; replace HO333 := xrb_ HO333 hb; replace HO339 := xrb_ HO339 hb; have BK342 := Aside0.mk (hbox); have GW342 := xge_ HB hg; have GE342 := xge_ HB hg; replace HB := xws_ HB hb; have NB329_342 := xlt_ BK329 hg; have NB342_329 := xgt_ BK329 hg; replace BK329 := xbb_ BK329 hb; have NB330_342 := xlt_ BK330 hg; have NB342_330 := xgt_ BK330 hg; replace BK330 := xbb_ BK330 hb; have NB336_342 := xlt_ BK336 hg; have NB342_336 := xgt_ BK336 hg; replace BK336 := xbb_ BK336 hb; clear hb hbox hg; obtain ⟨Ao27, co27, eo27⟩ := Kd.R_slice HO339.out; subst eo27; have hnb28 := NB342_329.out; have hnc28 := NB329_342.out; have hnb29 := NB342_330.out; have hnc29 := NB330_342.out; have hnb30 := NB342_336.out; have hnc30 := NB336_342.out; have hcz31_0 : w26.cell? ⟨gb342, 0, none⟩ = some (.slice none 0 0) := xk_ BK342 0; have hcz31_1 : w26.cell? ⟨gb342, 1, none⟩ = some (.int .i64 0) := xk_ BK342 1; have hfz31_0 := blk_frozen BK342.out 0; have hfz31_1 := blk_frozen BK342.out 1; have hcz32_0 : w26.cell? ⟨gb330, 0, none⟩ = some (.slice Ao15 t325.length co15) := xk_ BK330 0; have hcz32_1 : w26.cell? ⟨gb330, 1, none⟩ = some (.int .i64 t328) := xk_ BK330 1; have hfz32_0 := blk_frozen BK330.out 0; have hfz32_1 := blk_frozen BK330.out 1; have hcz33_0 : w26.cell? ⟨gb329, 0, none⟩ = some (.slice Ao12 t321.length co12) := xk_ BK329 0; have hcz33_1 : w26.cell? ⟨gb329, 1, none⟩ = some (.int .i64 t324) := xk_ BK329 1; have hfz33_0 := blk_frozen BK329.out 0; have hfz33_1 := blk_frozen BK329.out 1) | ((with_reducible refine gate_callee (f := 16) rfl ?_); refine xgl_ (some 55) Try.func16 #[.agg #[.slice Ao15 t325.length co15, .int .i64 t328], .agg #[.slice Ao12 t321.length co12, .int .i64 t324]] ?_; (with_reducible refine (impl_JoinSketches.calls k _ _ t325 t328 _ _ t321 t324 t343 t346 t347 _ ?side1 ?side2 ?side3 ?side4 A7.out).mono ?_); (case side1 => refine (Kd.Q_reads' (e := 3) (base := w.heap.size) (ok := fun k_ => ((some k_ ≠ (.slice Ao12 t321.length co12 : Value).ownBlock ∧ some k_ ≠ (.slice Ao19 t331.length co19 : Value).ownBlock) ∧ some k_ ≠ (.slice Ao27 t337.length co27 : Value).ownBlock)) (n := t325.length) (c := co15) ?_).2.2; exact (xqt_ ((Kd.Q_mono (Kd.Q_far (p := ⟨gb342, 1, none⟩) (Kd.Q_far (p := ⟨gb342, 0, none⟩) (Kd.Q_types HO327.out BK342.out (by decide)) (fun _ hk => hk.2) (.slice Ao27 t337.length co27)) (fun _ hk => hk.2) (.int .i64 t340)) (fun _ h_ => h_.1))))); (case side2 => exact (Kd.Q_reads' HO327.out).2.1); (case side3 => refine (Kd.Q_reads' (e := 3) (base := w.heap.size) (ok := fun k_ => ((some k_ ≠ (.slice Ao15 t325.length co15 : Value).ownBlock ∧ some k_ ≠ (.slice Ao19 t331.length co19 : Value).ownBlock) ∧ some k_ ≠ (.slice Ao27 t337.length co27 : Value).ownBlock)) (n := t321.length) (c := co12) ?_).2.2; exact (xqt_ ((Kd.Q_mono (Kd.Q_far (p := ⟨gb342, 1, none⟩) (Kd.Q_far (p := ⟨gb342, 0, none⟩) (Kd.Q_types HO323.out BK342.out (by decide)) (fun _ hk => hk.2) (.slice Ao27 t337.length co27)) (fun _ hk => hk.2) (.int .i64 t340)) (fun _ h_ => h_.1))))); (case side4 => exact (Kd.Q_reads' HO323.out).2.1); rintro e w34 ⟨v344, rfl, ho0, hb⟩; refine ⟨_, rfl, ?_⟩; have HO345 := Aside0.mk (Kd.R_lower (Kd.R_new' (Kd.R_new' (Kd.R_new' (Kd.R_new' ho0 (Kd.Q_lt (xqt_ ((Kd.Q_mono (Kd.Q_far (p := ⟨gb342, 1, none⟩) (Kd.Q_far (p := ⟨gb342, 0, none⟩) (Kd.Q_types HO323.out BK342.out (by decide)) (fun _ hk => hk.2) (.slice Ao27 t337.length co27)) (fun _ hk => hk.2) (.int .i64 t340)) (fun _ h_ => h_.1)))))) (Kd.Q_lt (xqt_ ((Kd.Q_mono (Kd.Q_far (p := ⟨gb342, 1, none⟩) (Kd.Q_far (p := ⟨gb342, 0, none⟩) (Kd.Q_types HO327.out BK342.out (by decide)) (fun _ hk => hk.2) (.slice Ao27 t337.length co27)) (fun _ hk => hk.2) (.int .i64 t340)) (fun _ h_ => h_.1)))))) (Kd.R_lt (xrt_ ((Kd.R_mono (Kd.R_far (p := ⟨gb342, 1, none⟩) (Kd.R_far (p := ⟨gb342, 0, none⟩) (Kd.R_types HO333.out BK342.out (by decide)) (fun _ hk => hk.2) (.slice Ao27 t337.length co27)) (fun _ hk => hk.2) (.int .i64 t340)) (fun _ h_ => h_.1)))))) (Kd.R_lt (xrt_ ((Kd.R_mono (Kd.R_far (p := ⟨gb342, 1, none⟩) (Kd.R_far (p := ⟨gb342, 0, none⟩) (Kd.R_types HO339.out BK342.out (by decide)) (fun _ hk => hk.2) (.slice Ao27 t337.length co27)) (fun _ hk => hk.2) (.int .i64 t340)) (fun _ h_ => h_.1)))))) (below_size (xw_ HB))); replace HO323 := Aside0.mk (Kd.Q_elder' (xqt_ ((Kd.Q_mono (Kd.Q_far (p := ⟨gb342, 1, none⟩) (Kd.Q_far (p := ⟨gb342, 0, none⟩) (Kd.Q_types HO323.out BK342.out (by decide)) (fun _ hk => hk.2) (.slice Ao27 t337.length co27)) (fun _ hk => hk.2) (.int .i64 t340)) (fun _ h_ => h_.1)))) (Kd.R_base ho0) hb); replace HO327 := Aside0.mk (Kd.Q_elder' (xqt_ ((Kd.Q_mono (Kd.Q_far (p := ⟨gb342, 1, none⟩) (Kd.Q_far (p := ⟨gb342, 0, none⟩) (Kd.Q_types HO327.out BK342.out (by decide)) (fun _ hk => hk.2) (.slice Ao27 t337.length co27)) (fun _ hk => hk.2) (.int .i64 t340)) (fun _ h_ => h_.1)))) (Kd.R_base ho0) hb); replace HO333 := Aside0.mk (Kd.R_elder' (xrt_ ((Kd.R_mono (Kd.R_far (p := ⟨gb342, 1, none⟩) (Kd.R_far (p := ⟨gb342, 0, none⟩) (Kd.R_types HO333.out BK342.out (by decide)) (fun _ hk => hk.2) (.slice Ao27 t337.length co27)) (fun _ hk => hk.2) (.int .i64 t340)) (fun _ h_ => h_.1)))) (Kd.R_base ho0) hb); replace HO339 := Aside0.mk (Kd.R_elder' (xrt_ ((Kd.R_mono (Kd.R_far (p := ⟨gb342, 1, none⟩) (Kd.R_far (p := ⟨gb342, 0, none⟩) (Kd.R_types HO339.out BK342.out (by decide)) (fun _ hk => hk.2) (.slice Ao27 t337.length co27)) (fun _ hk => hk.2) (.int .i64 t340)) (fun _ h_ => h_.1)))) (Kd.R_base ho0) hb); replace BK329 := Aside0.mk (blk_below (g := gb329) (o := .cells #[.slice Ao12 t321.length co12, .int .i64 t324] 25 (0, 0)) (by (with_reducible repeat (first | refine blk_drewN ?_ _ | refine blk_drew ?_ | refine blk_alloc ?_ _)); refine blk_far ?_ NB329_342.out _; (with_reducible repeat (first | refine blk_drewN ?_ _ | refine blk_drew ?_ | refine blk_alloc ?_ _)); refine blk_far ?_ NB329_342.out _; (with_reducible repeat (first | refine blk_drewN ?_ _ | refine blk_drew ?_ | refine blk_alloc ?_ _)); exact BK329.out) hb); replace BK330 := Aside0.mk (blk_below (g := gb330) (o := .cells #[.slice Ao15 t325.length co15, .int .i64 t328] 25 (0, 0)) (by (with_reducible repeat (first | refine blk_drewN ?_ _ | refine blk_drew ?_ | refine blk_alloc ?_ _)); refine blk_far ?_ NB330_342.out _; (with_reducible repeat (first | refine blk_drewN ?_ _ | refine blk_drew ?_ | refine blk_alloc ?_ _)); refine blk_far ?_ NB330_342.out _; (with_reducible repeat (first | refine blk_drewN ?_ _ | refine blk_drew ?_ | refine blk_alloc ?_ _)); exact BK330.out) hb); replace BK336 := Aside0.mk (blk_below (g := gb336) (o := .cells #[.slice Ao19 t331.length co19, .int .i64 t334] 25 (0, 0)) (by (with_reducible repeat (first | refine blk_drewN ?_ _ | refine blk_drew ?_ | refine blk_alloc ?_ _)); refine blk_far ?_ NB336_342.out _; (with_reducible repeat (first | refine blk_drewN ?_ _ | refine blk_drew ?_ | refine blk_alloc ?_ _)); refine blk_far ?_ NB336_342.out _; (with_reducible repeat (first | refine blk_drewN ?_ _ | refine blk_drew ?_ | refine blk_alloc ?_ _)); exact BK336.out) hb); replace BK342 := Aside0.mk (blk_below (g := gb342) (o := .cells #[.slice Ao27 t337.length co27, .int .i64 t340] 25 (0, 0)) (by (with_reducible repeat (first | refine blk_drewN ?_ _ | refine blk_drew ?_ | refine blk_alloc ?_ _)); refine blk_put (cs := #[.slice Ao27 t337.length co27, .int .i64 0]) ?_ 1 _ rfl; (with_reducible repeat (first | refine blk_drewN ?_ _ | refine blk_drew ?_ | refine blk_alloc ?_ _)); refine blk_put (cs := #[.slice none 0 0, .int .i64 0]) ?_ 0 _ rfl; (with_reducible repeat (first | refine blk_drewN ?_ _ | refine blk_drew ?_ | refine blk_alloc ?_ _)); exact BK342.out) hb); replace HB := xws_ HB hb; (try clear hb); (try clear hb2); (try clear hk); (try clear hi); (try clear ho0)) | ((with_reducible refine gate_dst (N := 11) rfl ?_); refine xbe_ (N := 11) (cs := #[.slice none 0 0, .int .i64 0]) (t := 25) ?_; intro gb348 hg w35 hbox hb; replace HO323 := xqb_ HO323 hb; replace HO327 := xqb_ HO327 hb; replace HO333 := xrb_ HO333 hb; replace HO339 := xrb_ HO339 hb; replace HO345 := xrb_ HO345 hb; have BK348 := Aside0.mk (hbox); have GW348 := xge_ HB hg; have GE348 := xge_ HB hg; replace HB := xws_ HB hb; have NB329_348 := xlt_ BK329 hg; have NB348_329 := xgt_ BK329 hg; replace BK329 := xbb_ BK329 hb; have NB330_348 := xlt_ BK330 hg; have NB348_330 := xgt_ BK330 hg; replace BK330 := xbb_ BK330 hb; have NB336_348 := xlt_ BK336 hg; have NB348_336 := xgt_ BK336 hg; replace BK336 := xbb_ BK336 hb; have NB342_348 := xlt_ BK342 hg; have NB348_342 := xgt_ BK342 hg; replace BK342 := xbb_ BK342 hb; clear hb hbox hg; obtain ⟨Ao36, co36, eo36⟩ := Kd.R_slice HO345.out; subst eo36; have hnb37 := NB348_329.out; have hnc37 := NB329_348.out; have hnb38 := NB348_330.out; have hnc38 := NB330_348.out; have hnb39 := NB348_336.out; have hnc39 := NB336_348.out; have hnb40 := NB348_342.out; have hnc40 := NB342_348.out; have hcz41_0 : w35.cell? ⟨gb348, 0, none⟩ = some (.slice none 0 0) := xk_ BK348 0; have hcz41_1 : w35.cell? ⟨gb348, 1, none⟩ = some (.int .i64 0) := xk_ BK348 1; have hfz41_0 := blk_frozen BK348.out 0; have hfz41_1 := blk_frozen BK348.out 1))
  (try simp only [Act.put, List.setIfInBounds_toArray, List.set_cons_zero, List.set_cons_succ])
  go_cut [77] (fun v77 wc => ∃ (kq : Nat) (x77_7 : Bool), v77 = .bool x77_7 ∧ Aside0 (laws_FnSummed.j0 kq l1 t335 x77_7 t321 t324 t325 t328 t331 t334 = some r) ∧ Aside0 (kq ≤ k) ∧ Aside0 (Kd.Q (Kd.int .i64) 3 wc w.heap.size (fun k_ => some k_ ≠ ((.slice Ao15 t325.length co15) : Value).ownBlock ∧ some k_ ≠ ((.slice Ao19 t331.length co19) : Value).ownBlock ∧ some k_ ≠ ((.slice Ao27 t337.length co27) : Value).ownBlock ∧ some k_ ≠ ((.slice Ao36 t343.length co36) : Value).ownBlock) (.slice Ao12 t321.length co12) t321) ∧ Aside0 (Kd.Q (Kd.int .i64) 3 wc w.heap.size (fun k_ => some k_ ≠ ((.slice Ao12 t321.length co12) : Value).ownBlock ∧ some k_ ≠ ((.slice Ao19 t331.length co19) : Value).ownBlock ∧ some k_ ≠ ((.slice Ao27 t337.length co27) : Value).ownBlock ∧ some k_ ≠ ((.slice Ao36 t343.length co36) : Value).ownBlock) (.slice Ao15 t325.length co15) t325) ∧ Aside0 (Kd.Q (Kd.int .i64) 3 wc w.heap.size (fun k_ => some k_ ≠ ((.slice Ao12 t321.length co12) : Value).ownBlock ∧ some k_ ≠ ((.slice Ao15 t325.length co15) : Value).ownBlock ∧ some k_ ≠ ((.slice Ao27 t337.length co27) : Value).ownBlock ∧ some k_ ≠ ((.slice Ao36 t343.length co36) : Value).ownBlock) (.slice Ao19 t331.length co19) t331) ∧ Aside0 (Kd.Q (Kd.int .i64) 3 wc w.heap.size (fun k_ => some k_ ≠ ((.slice Ao12 t321.length co12) : Value).ownBlock ∧ some k_ ≠ ((.slice Ao15 t325.length co15) : Value).ownBlock ∧ some k_ ≠ ((.slice Ao19 t331.length co19) : Value).ownBlock ∧ some k_ ≠ ((.slice Ao36 t343.length co36) : Value).ownBlock) (.slice Ao27 t337.length co27) t337) ∧ Aside0 (Kd.Q (Kd.int .i64) 3 wc w.heap.size (fun k_ => some k_ ≠ ((.slice Ao12 t321.length co12) : Value).ownBlock ∧ some k_ ≠ ((.slice Ao15 t325.length co15) : Value).ownBlock ∧ some k_ ≠ ((.slice Ao19 t331.length co19) : Value).ownBlock ∧ some k_ ≠ ((.slice Ao27 t337.length co27) : Value).ownBlock) (.slice Ao36 t343.length co36) t343) ∧ Aside0 (wc.heap[gb329]? = some (.cells #[(.slice Ao12 t321.length co12), .int .i64 t324] 25 (0, 0))) ∧ Aside0 (wc.heap[gb330]? = some (.cells #[(.slice Ao15 t325.length co15), .int .i64 t328] 25 (0, 0))) ∧ Aside0 (wc.heap[gb336]? = some (.cells #[(.slice Ao19 t331.length co19), .int .i64 t334] 25 (0, 0))) ∧ Aside0 (wc.heap[gb342]? = some (.cells #[(.slice Ao27 t337.length co27), .int .i64 t340] 25 (0, 0))) ∧ Aside0 (wc.heap[gb348]? = some (.cells #[(.slice Ao36 t343.length co36), .int .i64 t346] 25 (0, 0))) ∧ Aside0 (Below w.heap.size w wc))
  case first =>
   have H := HC8.out
   clear HC8
   by_cases c42 : (t335 != t341) = true
   ·rw [if_pos c42] at H
    have c42b0 : (t335 != t341) = true := c42
    (try (have c42b1 : decide (t335 = t341) = false := by simpa using c42))
    (try (have c42b2 : (t335 == t341) = false := by simpa using c42))
    (try (have c42b3 : ¬ (t335 = t341) := by simpa using c42))
    clear c42
    (first | rw [c42b0] | (simp only [i64_w, i32_w]; rw [c42b0]) | skip)
    have H' := Aside0.mk H
    clear H
    go_wp2
    go_meet
    case rel => exact ⟨_, (true), (by first | rfl | (simp; done) | (simp [*]; done)), H', ⟨by first | omega | exact Nat.le_refl _⟩, ⟨xqt_ (Kd.Q_mono (Kd.Q_far (p := ⟨gb348, 1, none⟩) (Kd.Q_far (p := ⟨gb348, 0, none⟩) (Kd.Q_types HO323.out BK348.out (by decide)) (fun _ hk => hk.2) (.slice Ao36 t343.length co36)) (fun _ hk => hk.2) (.int .i64 t346)) (fun _ hk => ⟨hk.1.1.1.1, ⟨hk.1.1.1.2, ⟨hk.1.1.2, hk.1.2⟩⟩⟩))⟩, ⟨xqt_ (Kd.Q_mono (Kd.Q_far (p := ⟨gb348, 1, none⟩) (Kd.Q_far (p := ⟨gb348, 0, none⟩) (Kd.Q_types HO327.out BK348.out (by decide)) (fun _ hk => hk.2) (.slice Ao36 t343.length co36)) (fun _ hk => hk.2) (.int .i64 t346)) (fun _ hk => ⟨hk.1.1.1.1, ⟨hk.1.1.1.2, ⟨hk.1.1.2, hk.1.2⟩⟩⟩))⟩, ⟨Kd.Q_of_R (xrt_ (Kd.R_mono (Kd.R_far (p := ⟨gb348, 1, none⟩) (Kd.R_far (p := ⟨gb348, 0, none⟩) (Kd.R_types HO333.out BK348.out (by decide)) (fun _ hk => hk.2) (.slice Ao36 t343.length co36)) (fun _ hk => hk.2) (.int .i64 t346)) (fun _ hk => ⟨hk.1.1.1.1.2, ⟨hk.1.1.1.2, ⟨hk.1.1.2, hk.1.2⟩⟩⟩)))⟩, ⟨Kd.Q_of_R (xrt_ (Kd.R_mono (Kd.R_far (p := ⟨gb348, 1, none⟩) (Kd.R_far (p := ⟨gb348, 0, none⟩) (Kd.R_types HO339.out BK348.out (by decide)) (fun _ hk => hk.2) (.slice Ao36 t343.length co36)) (fun _ hk => hk.2) (.int .i64 t346)) (fun _ hk => ⟨hk.1.1.1.1.2, ⟨hk.1.1.1.2, ⟨hk.1.1.2, hk.1.2⟩⟩⟩)))⟩, ⟨Kd.Q_of_R (xrt_ (Kd.R_mono (Kd.R_far (p := ⟨gb348, 1, none⟩) (Kd.R_far (p := ⟨gb348, 0, none⟩) (Kd.R_types HO345.out BK348.out (by decide)) (fun _ hk => hk.2) (.slice Ao36 t343.length co36)) (fun _ hk => hk.2) (.int .i64 t346)) (fun _ hk => ⟨hk.1.1.1.1.2, ⟨hk.1.1.1.2, ⟨hk.1.1.2, hk.1.2⟩⟩⟩)))⟩, ⟨by (with_reducible repeat (first | refine blk_drewN ?_ _ | refine blk_drew ?_ | refine blk_alloc ?_ _)); refine blk_far ?_ NB329_348.out _; (with_reducible repeat (first | refine blk_drewN ?_ _ | refine blk_drew ?_ | refine blk_alloc ?_ _)); refine blk_far ?_ NB329_348.out _; (with_reducible repeat (first | refine blk_drewN ?_ _ | refine blk_drew ?_ | refine blk_alloc ?_ _)); exact BK329.out⟩, ⟨by (with_reducible repeat (first | refine blk_drewN ?_ _ | refine blk_drew ?_ | refine blk_alloc ?_ _)); refine blk_far ?_ NB330_348.out _; (with_reducible repeat (first | refine blk_drewN ?_ _ | refine blk_drew ?_ | refine blk_alloc ?_ _)); refine blk_far ?_ NB330_348.out _; (with_reducible repeat (first | refine blk_drewN ?_ _ | refine blk_drew ?_ | refine blk_alloc ?_ _)); exact BK330.out⟩, ⟨by (with_reducible repeat (first | refine blk_drewN ?_ _ | refine blk_drew ?_ | refine blk_alloc ?_ _)); refine blk_far ?_ NB336_348.out _; (with_reducible repeat (first | refine blk_drewN ?_ _ | refine blk_drew ?_ | refine blk_alloc ?_ _)); refine blk_far ?_ NB336_348.out _; (with_reducible repeat (first | refine blk_drewN ?_ _ | refine blk_drew ?_ | refine blk_alloc ?_ _)); exact BK336.out⟩, ⟨by (with_reducible repeat (first | refine blk_drewN ?_ _ | refine blk_drew ?_ | refine blk_alloc ?_ _)); refine blk_far ?_ NB342_348.out _; (with_reducible repeat (first | refine blk_drewN ?_ _ | refine blk_drew ?_ | refine blk_alloc ?_ _)); refine blk_far ?_ NB342_348.out _; (with_reducible repeat (first | refine blk_drewN ?_ _ | refine blk_drew ?_ | refine blk_alloc ?_ _)); exact BK342.out⟩, ⟨by (with_reducible repeat (first | refine blk_drewN ?_ _ | refine blk_drew ?_ | refine blk_alloc ?_ _)); refine blk_put (cs := #[.slice Ao36 t343.length co36, .int .i64 0]) ?_ 1 _ rfl; (with_reducible repeat (first | refine blk_drewN ?_ _ | refine blk_drew ?_ | refine blk_alloc ?_ _)); refine blk_put (cs := #[.slice none 0 0, .int .i64 0]) ?_ 0 _ rfl; (with_reducible repeat (first | refine blk_drewN ?_ _ | refine blk_drew ?_ | refine blk_alloc ?_ _)); exact BK348.out⟩, ⟨xw_ HB⟩⟩
   ·rw [if_neg c42] at H
    have c42b0 : (t335 != t341) = false := by simpa using c42
    (try (have c42b1 : decide (t335 = t341) = true := by simpa using c42))
    (try (have c42b2 : (t335 == t341) = true := by simpa using c42))
    clear c42
    (first | rw [c42b0] | (simp only [i64_w, i32_w]; rw [c42b0]) | skip)
    by_cases c43 : (t347 != t341) = true
    ·rw [if_pos c43] at H
     have c43b0 : (t347 != t341) = true := c43
     (try (have c43b1 : decide (t347 = t341) = false := by simpa using c43))
     (try (have c43b2 : (t347 == t341) = false := by simpa using c43))
     (try (have c43b3 : ¬ (t347 = t341) := by simpa using c43))
     clear c43
     have H' := Aside0.mk H
     clear H
     go_wp2
     go_meet
     case rel => exact ⟨_, (true), (by first | rfl | (simp; done) | (simp [*]; done)), H', ⟨by first | omega | exact Nat.le_refl _⟩, ⟨xqt_ (Kd.Q_mono (Kd.Q_far (p := ⟨gb348, 1, none⟩) (Kd.Q_far (p := ⟨gb348, 0, none⟩) (Kd.Q_types HO323.out BK348.out (by decide)) (fun _ hk => hk.2) (.slice Ao36 t343.length co36)) (fun _ hk => hk.2) (.int .i64 t346)) (fun _ hk => ⟨hk.1.1.1.1, ⟨hk.1.1.1.2, ⟨hk.1.1.2, hk.1.2⟩⟩⟩))⟩, ⟨xqt_ (Kd.Q_mono (Kd.Q_far (p := ⟨gb348, 1, none⟩) (Kd.Q_far (p := ⟨gb348, 0, none⟩) (Kd.Q_types HO327.out BK348.out (by decide)) (fun _ hk => hk.2) (.slice Ao36 t343.length co36)) (fun _ hk => hk.2) (.int .i64 t346)) (fun _ hk => ⟨hk.1.1.1.1, ⟨hk.1.1.1.2, ⟨hk.1.1.2, hk.1.2⟩⟩⟩))⟩, ⟨Kd.Q_of_R (xrt_ (Kd.R_mono (Kd.R_far (p := ⟨gb348, 1, none⟩) (Kd.R_far (p := ⟨gb348, 0, none⟩) (Kd.R_types HO333.out BK348.out (by decide)) (fun _ hk => hk.2) (.slice Ao36 t343.length co36)) (fun _ hk => hk.2) (.int .i64 t346)) (fun _ hk => ⟨hk.1.1.1.1.2, ⟨hk.1.1.1.2, ⟨hk.1.1.2, hk.1.2⟩⟩⟩)))⟩, ⟨Kd.Q_of_R (xrt_ (Kd.R_mono (Kd.R_far (p := ⟨gb348, 1, none⟩) (Kd.R_far (p := ⟨gb348, 0, none⟩) (Kd.R_types HO339.out BK348.out (by decide)) (fun _ hk => hk.2) (.slice Ao36 t343.length co36)) (fun _ hk => hk.2) (.int .i64 t346)) (fun _ hk => ⟨hk.1.1.1.1.2, ⟨hk.1.1.1.2, ⟨hk.1.1.2, hk.1.2⟩⟩⟩)))⟩, ⟨Kd.Q_of_R (xrt_ (Kd.R_mono (Kd.R_far (p := ⟨gb348, 1, none⟩) (Kd.R_far (p := ⟨gb348, 0, none⟩) (Kd.R_types HO345.out BK348.out (by decide)) (fun _ hk => hk.2) (.slice Ao36 t343.length co36)) (fun _ hk => hk.2) (.int .i64 t346)) (fun _ hk => ⟨hk.1.1.1.1.2, ⟨hk.1.1.1.2, ⟨hk.1.1.2, hk.1.2⟩⟩⟩)))⟩, ⟨by (with_reducible repeat (first | refine blk_drewN ?_ _ | refine blk_drew ?_ | refine blk_alloc ?_ _)); refine blk_far ?_ NB329_348.out _; (with_reducible repeat (first | refine blk_drewN ?_ _ | refine blk_drew ?_ | refine blk_alloc ?_ _)); refine blk_far ?_ NB329_348.out _; (with_reducible repeat (first | refine blk_drewN ?_ _ | refine blk_drew ?_ | refine blk_alloc ?_ _)); exact BK329.out⟩, ⟨by (with_reducible repeat (first | refine blk_drewN ?_ _ | refine blk_drew ?_ | refine blk_alloc ?_ _)); refine blk_far ?_ NB330_348.out _; (with_reducible repeat (first | refine blk_drewN ?_ _ | refine blk_drew ?_ | refine blk_alloc ?_ _)); refine blk_far ?_ NB330_348.out _; (with_reducible repeat (first | refine blk_drewN ?_ _ | refine blk_drew ?_ | refine blk_alloc ?_ _)); exact BK330.out⟩, ⟨by (with_reducible repeat (first | refine blk_drewN ?_ _ | refine blk_drew ?_ | refine blk_alloc ?_ _)); refine blk_far ?_ NB336_348.out _; (with_reducible repeat (first | refine blk_drewN ?_ _ | refine blk_drew ?_ | refine blk_alloc ?_ _)); refine blk_far ?_ NB336_348.out _; (with_reducible repeat (first | refine blk_drewN ?_ _ | refine blk_drew ?_ | refine blk_alloc ?_ _)); exact BK336.out⟩, ⟨by (with_reducible repeat (first | refine blk_drewN ?_ _ | refine blk_drew ?_ | refine blk_alloc ?_ _)); refine blk_far ?_ NB342_348.out _; (with_reducible repeat (first | refine blk_drewN ?_ _ | refine blk_drew ?_ | refine blk_alloc ?_ _)); refine blk_far ?_ NB342_348.out _; (with_reducible repeat (first | refine blk_drewN ?_ _ | refine blk_drew ?_ | refine blk_alloc ?_ _)); exact BK342.out⟩, ⟨by (with_reducible repeat (first | refine blk_drewN ?_ _ | refine blk_drew ?_ | refine blk_alloc ?_ _)); refine blk_put (cs := #[.slice Ao36 t343.length co36, .int .i64 0]) ?_ 1 _ rfl; (with_reducible repeat (first | refine blk_drewN ?_ _ | refine blk_drew ?_ | refine blk_alloc ?_ _)); refine blk_put (cs := #[.slice none 0 0, .int .i64 0]) ?_ 0 _ rfl; (with_reducible repeat (first | refine blk_drewN ?_ _ | refine blk_drew ?_ | refine blk_alloc ?_ _)); exact BK348.out⟩, ⟨xw_ HB⟩⟩
    ·rw [if_neg c43] at H
     have c43b0 : (t347 != t341) = false := by simpa using c43
     (try (have c43b1 : decide (t347 = t341) = true := by simpa using c43))
     (try (have c43b2 : (t347 == t341) = true := by simpa using c43))
     clear c43
     replace H := Option.bind_eq_some_iff.mp H
     obtain ⟨t349, A440, H⟩ := H
     replace H : (if t349 = true then ((laws_sameSketches.f k t343 t346 t331 t334).bind fun t350 => (laws_FnSummed.j0 k l1 t335 (!t350) t321 t324 t325 t328 t331 t334)) else (laws_FnSummed.j0 k l1 t335 true t321 t324 t325 t328 t331 t334)) = some r := H
     have A44 := Aside0.mk A440
     clear A440
     by_cases c45 : t349 = true
     ·subst c45
      have H1 : ((laws_sameSketches.f k t343 t346 t331 t334).bind fun t350 => (laws_FnSummed.j0 k l1 t335 (!t350) t321 t324 t325 t328 t331 t334)) = some r := by rw [if_pos rfl] at H; exact H
      clear H
      have H := H1
      clear H1
      replace H := Option.bind_eq_some_iff.mp H
      obtain ⟨t350, A460, H⟩ := H
      replace H : (laws_FnSummed.j0 k l1 t335 (!t350) t321 t324 t325 t328 t331 t334) = some r := H
      have A46 := Aside0.mk A460
      clear A460
      have H' := Aside0.mk H
      clear H
      have hnb47 := NB336_329.out
      have hnc47 := NB329_336.out
      have hnb48 := NB336_330.out
      have hnc48 := NB330_336.out
      have hnb49 := NB336_342.out
      have hnc49 := NB342_336.out
      have hnb50 := NB336_348.out
      have hnc50 := NB348_336.out
      have hcz51_0 : w35.cell? ⟨gb336, 0, none⟩ = some (.slice Ao19 t331.length co19) := xk_ BK336 0
      have hcz51_1 : w35.cell? ⟨gb336, 1, none⟩ = some (.int .i64 t334) := xk_ BK336 1
      have hfz51_0 := blk_frozen BK336.out 0
      have hfz51_1 := blk_frozen BK336.out 1
      have hnb52 := NB342_329.out
      have hnc52 := NB329_342.out
      have hnb53 := NB342_330.out
      have hnc53 := NB330_342.out
      have hnb54 := NB342_348.out
      have hnc54 := NB348_342.out
      have hcz55_0 : w35.cell? ⟨gb342, 0, none⟩ = some (.slice Ao27 t337.length co27) := xk_ BK342 0
      have hcz55_1 : w35.cell? ⟨gb342, 1, none⟩ = some (.int .i64 t340) := xk_ BK342 1
      have hfz55_0 := blk_frozen BK342.out 0
      have hfz55_1 := blk_frozen BK342.out 1
      go_wp2_with (first | (go_at_call 8; (with_reducible refine (laws_sameSketches.calls k _ _ t331 t334 _ _ t337 t340 true _ ?side1 ?side2 ?side3 ?side4 A44.out).mono ?_); (case side1 => refine (Kd.R_reads' (e := 3) (base := w.heap.size) (ok := fun k_ => ((((True ∧ some k_ ≠ (.slice Ao12 t321.length co12 : Value).ownBlock) ∧ some k_ ≠ (.slice Ao15 t325.length co15 : Value).ownBlock) ∧ some k_ ≠ (.slice Ao27 t337.length co27 : Value).ownBlock) ∧ some k_ ≠ (.slice Ao36 t343.length co36 : Value).ownBlock)) (n := t331.length) (c := co19) ?_).2.2; exact (xrt_ ((Kd.R_mono (Kd.R_far (p := ⟨gb348, 1, none⟩) (Kd.R_far (p := ⟨gb348, 0, none⟩) (Kd.R_types HO333.out BK348.out (by decide)) (fun _ hk => hk.2) (.slice Ao36 t343.length co36)) (fun _ hk => hk.2) (.int .i64 t346)) (fun _ h_ => h_.1))))); (case side2 => exact (Kd.R_reads' HO333.out).2.1); (case side3 => refine (Kd.R_reads' (e := 3) (base := w.heap.size) (ok := fun k_ => ((((True ∧ some k_ ≠ (.slice Ao12 t321.length co12 : Value).ownBlock) ∧ some k_ ≠ (.slice Ao15 t325.length co15 : Value).ownBlock) ∧ some k_ ≠ (.slice Ao19 t331.length co19 : Value).ownBlock) ∧ some k_ ≠ (.slice Ao36 t343.length co36 : Value).ownBlock)) (n := t337.length) (c := co27) ?_).2.2; exact (xrt_ ((Kd.R_mono (Kd.R_far (p := ⟨gb348, 1, none⟩) (Kd.R_far (p := ⟨gb348, 0, none⟩) (Kd.R_types HO339.out BK348.out (by decide)) (fun _ hk => hk.2) (.slice Ao36 t343.length co36)) (fun _ hk => hk.2) (.int .i64 t346)) (fun _ h_ => h_.1))))); (case side4 => exact (Kd.R_reads' HO339.out).2.1); rintro e w56 ⟨rfl, hb⟩; replace HO323 := Aside0.mk (Kd.Q_below (xqt_ ((Kd.Q_mono (Kd.Q_far (p := ⟨gb348, 1, none⟩) (Kd.Q_far (p := ⟨gb348, 0, none⟩) (Kd.Q_types HO323.out BK348.out (by decide)) (fun _ hk => hk.2) (.slice Ao36 t343.length co36)) (fun _ hk => hk.2) (.int .i64 t346)) (fun _ h_ => h_.1)))) hb); replace HO327 := Aside0.mk (Kd.Q_below (xqt_ ((Kd.Q_mono (Kd.Q_far (p := ⟨gb348, 1, none⟩) (Kd.Q_far (p := ⟨gb348, 0, none⟩) (Kd.Q_types HO327.out BK348.out (by decide)) (fun _ hk => hk.2) (.slice Ao36 t343.length co36)) (fun _ hk => hk.2) (.int .i64 t346)) (fun _ h_ => h_.1)))) hb); replace HO333 := Aside0.mk (Kd.R_below (xrt_ ((Kd.R_mono (Kd.R_far (p := ⟨gb348, 1, none⟩) (Kd.R_far (p := ⟨gb348, 0, none⟩) (Kd.R_types HO333.out BK348.out (by decide)) (fun _ hk => hk.2) (.slice Ao36 t343.length co36)) (fun _ hk => hk.2) (.int .i64 t346)) (fun _ h_ => h_.1)))) hb); replace HO339 := Aside0.mk (Kd.R_below (xrt_ ((Kd.R_mono (Kd.R_far (p := ⟨gb348, 1, none⟩) (Kd.R_far (p := ⟨gb348, 0, none⟩) (Kd.R_types HO339.out BK348.out (by decide)) (fun _ hk => hk.2) (.slice Ao36 t343.length co36)) (fun _ hk => hk.2) (.int .i64 t346)) (fun _ h_ => h_.1)))) hb); replace HO345 := Aside0.mk (Kd.R_below (xrt_ ((Kd.R_mono (Kd.R_far (p := ⟨gb348, 1, none⟩) (Kd.R_far (p := ⟨gb348, 0, none⟩) (Kd.R_types HO345.out BK348.out (by decide)) (fun _ hk => hk.2) (.slice Ao36 t343.length co36)) (fun _ hk => hk.2) (.int .i64 t346)) (fun _ h_ => h_.1)))) hb); replace BK329 := Aside0.mk (blk_below (g := gb329) (o := .cells #[.slice Ao12 t321.length co12, .int .i64 t324] 25 (0, 0)) (by (with_reducible repeat (first | refine blk_drewN ?_ _ | refine blk_drew ?_ | refine blk_alloc ?_ _)); refine blk_far ?_ NB329_348.out _; (with_reducible repeat (first | refine blk_drewN ?_ _ | refine blk_drew ?_ | refine blk_alloc ?_ _)); refine blk_far ?_ NB329_348.out _; (with_reducible repeat (first | refine blk_drewN ?_ _ | refine blk_drew ?_ | refine blk_alloc ?_ _)); exact BK329.out) hb); replace BK330 := Aside0.mk (blk_below (g := gb330) (o := .cells #[.slice Ao15 t325.length co15, .int .i64 t328] 25 (0, 0)) (by (with_reducible repeat (first | refine blk_drewN ?_ _ | refine blk_drew ?_ | refine blk_alloc ?_ _)); refine blk_far ?_ NB330_348.out _; (with_reducible repeat (first | refine blk_drewN ?_ _ | refine blk_drew ?_ | refine blk_alloc ?_ _)); refine blk_far ?_ NB330_348.out _; (with_reducible repeat (first | refine blk_drewN ?_ _ | refine blk_drew ?_ | refine blk_alloc ?_ _)); exact BK330.out) hb); replace BK336 := Aside0.mk (blk_below (g := gb336) (o := .cells #[.slice Ao19 t331.length co19, .int .i64 t334] 25 (0, 0)) (by (with_reducible repeat (first | refine blk_drewN ?_ _ | refine blk_drew ?_ | refine blk_alloc ?_ _)); refine blk_far ?_ NB336_348.out _; (with_reducible repeat (first | refine blk_drewN ?_ _ | refine blk_drew ?_ | refine blk_alloc ?_ _)); refine blk_far ?_ NB336_348.out _; (with_reducible repeat (first | refine blk_drewN ?_ _ | refine blk_drew ?_ | refine blk_alloc ?_ _)); exact BK336.out) hb); replace BK342 := Aside0.mk (blk_below (g := gb342) (o := .cells #[.slice Ao27 t337.length co27, .int .i64 t340] 25 (0, 0)) (by (with_reducible repeat (first | refine blk_drewN ?_ _ | refine blk_drew ?_ | refine blk_alloc ?_ _)); refine blk_far ?_ NB342_348.out _; (with_reducible repeat (first | refine blk_drewN ?_ _ | refine blk_drew ?_ | refine blk_alloc ?_ _)); refine blk_far ?_ NB342_348.out _; (with_reducible repeat (first | refine blk_drewN ?_ _ | refine blk_drew ?_ | refine blk_alloc ?_ _)); exact BK342.out) hb); replace BK348 := Aside0.mk (blk_below (g := gb348) (o := .cells #[.slice Ao36 t343.length co36, .int .i64 t346] 25 (0, 0)) (by (with_reducible repeat (first | refine blk_drewN ?_ _ | refine blk_drew ?_ | refine blk_alloc ?_ _)); refine blk_put (cs := #[.slice Ao36 t343.length co36, .int .i64 0]) ?_ 1 _ rfl; (with_reducible repeat (first | refine blk_drewN ?_ _ | refine blk_drew ?_ | refine blk_alloc ?_ _)); refine blk_put (cs := #[.slice none 0 0, .int .i64 0]) ?_ 0 _ rfl; (with_reducible repeat (first | refine blk_drewN ?_ _ | refine blk_drew ?_ | refine blk_alloc ?_ _)); exact BK348.out) hb); replace HB := xws_ HB hb; (try clear hb); (try clear hb2); (try clear hk); (try clear hi); have hnb57 := NB348_329.out; have hnc57 := NB329_348.out; have hnb58 := NB348_330.out; have hnc58 := NB330_348.out; have hcz59_0 : w56.cell? ⟨gb348, 0, none⟩ = some (.slice Ao36 t343.length co36) := xk_ BK348 0; have hcz59_1 : w56.cell? ⟨gb348, 1, none⟩ = some (.int .i64 t346) := xk_ BK348 1; have hfz59_0 := blk_frozen BK348.out 0; have hfz59_1 := blk_frozen BK348.out 1; have hcz60_0 : w56.cell? ⟨gb336, 0, none⟩ = some (.slice Ao19 t331.length co19) := xk_ BK336 0; have hcz60_1 : w56.cell? ⟨gb336, 1, none⟩ = some (.int .i64 t334) := xk_ BK336 1; have hfz60_0 := blk_frozen BK336.out 0; have hfz60_1 := blk_frozen BK336.out 1) | (go_at_call 8; (with_reducible refine (laws_sameSketches.calls k _ _ t343 t346 _ _ t331 t334 t350 _ ?side1 ?side2 ?side3 ?side4 A46.out).mono ?_); (case side1 => exact xc_ ((Kd.R_reads' HO345.out).2.2)); (case side2 => exact (Kd.R_reads' HO345.out).2.1); (case side3 => exact xc_ ((Kd.R_reads' HO333.out).2.2)); (case side4 => exact (Kd.R_reads' HO333.out).2.1); rintro e w61 ⟨rfl, hb⟩; replace HO323 := xqb_ HO323 hb; replace HO327 := xqb_ HO327 hb; replace HO333 := xrb_ HO333 hb; replace HO339 := xrb_ HO339 hb; replace HO345 := xrb_ HO345 hb; replace BK329 := xbb_ BK329 hb; replace BK330 := xbb_ BK330 hb; replace BK336 := xbb_ BK336 hb; replace BK342 := xbb_ BK342 hb; replace BK348 := xbb_ BK348 hb; replace HB := xws_ HB hb; (try clear hb); (try clear hb2); (try clear hk); (try clear hi)))
      go_meet
      case rel => exact ⟨_, (!t350), (by first | rfl | (simp; done) | (simp [*]; done)), H', ⟨by first | omega | exact Nat.le_refl _⟩, ⟨xqt_ (Kd.Q_mono HO323.out (fun _ hk => ⟨hk.1.1.1, ⟨hk.1.1.2, ⟨hk.1.2, hk.2⟩⟩⟩))⟩, ⟨xqt_ (Kd.Q_mono HO327.out (fun _ hk => ⟨hk.1.1.1, ⟨hk.1.1.2, ⟨hk.1.2, hk.2⟩⟩⟩))⟩, ⟨Kd.Q_of_R (xrt_ (Kd.R_mono HO333.out (fun _ hk => ⟨hk.1.1.1.2, ⟨hk.1.1.2, ⟨hk.1.2, hk.2⟩⟩⟩)))⟩, ⟨Kd.Q_of_R (xrt_ (Kd.R_mono HO339.out (fun _ hk => ⟨hk.1.1.1.2, ⟨hk.1.1.2, ⟨hk.1.2, hk.2⟩⟩⟩)))⟩, ⟨Kd.Q_of_R (xrt_ (Kd.R_mono HO345.out (fun _ hk => ⟨hk.1.1.1.2, ⟨hk.1.1.2, ⟨hk.1.2, hk.2⟩⟩⟩)))⟩, ⟨xb_ BK329⟩, ⟨xb_ BK330⟩, ⟨xb_ BK336⟩, ⟨xb_ BK342⟩, ⟨xb_ BK348⟩, ⟨xw_ HB⟩⟩
     ·replace c45 := Bool.eq_false_iff.mpr c45
      subst c45
      have H1 : (laws_FnSummed.j0 k l1 t335 true t321 t324 t325 t328 t331 t334) = some r := by rw [if_neg (show ¬ (false = true) by decide)] at H; exact H
      clear H
      have H := H1
      clear H1
      have H' := Aside0.mk H
      clear H
      have hnb62 := NB336_329.out
      have hnc62 := NB329_336.out
      have hnb63 := NB336_330.out
      have hnc63 := NB330_336.out
      have hnb64 := NB336_342.out
      have hnc64 := NB342_336.out
      have hnb65 := NB336_348.out
      have hnc65 := NB348_336.out
      have hcz66_0 : w35.cell? ⟨gb336, 0, none⟩ = some (.slice Ao19 t331.length co19) := xk_ BK336 0
      have hcz66_1 : w35.cell? ⟨gb336, 1, none⟩ = some (.int .i64 t334) := xk_ BK336 1
      have hfz66_0 := blk_frozen BK336.out 0
      have hfz66_1 := blk_frozen BK336.out 1
      have hnb67 := NB342_329.out
      have hnc67 := NB329_342.out
      have hnb68 := NB342_330.out
      have hnc68 := NB330_342.out
      have hnb69 := NB342_348.out
      have hnc69 := NB348_342.out
      have hcz70_0 : w35.cell? ⟨gb342, 0, none⟩ = some (.slice Ao27 t337.length co27) := xk_ BK342 0
      have hcz70_1 : w35.cell? ⟨gb342, 1, none⟩ = some (.int .i64 t340) := xk_ BK342 1
      have hfz70_0 := blk_frozen BK342.out 0
      have hfz70_1 := blk_frozen BK342.out 1
      go_wp2_with (first | (go_at_call 8; (with_reducible refine (laws_sameSketches.calls k _ _ t331 t334 _ _ t337 t340 false _ ?side1 ?side2 ?side3 ?side4 A44.out).mono ?_); (case side1 => refine (Kd.R_reads' (e := 3) (base := w.heap.size) (ok := fun k_ => ((((True ∧ some k_ ≠ (.slice Ao12 t321.length co12 : Value).ownBlock) ∧ some k_ ≠ (.slice Ao15 t325.length co15 : Value).ownBlock) ∧ some k_ ≠ (.slice Ao27 t337.length co27 : Value).ownBlock) ∧ some k_ ≠ (.slice Ao36 t343.length co36 : Value).ownBlock)) (n := t331.length) (c := co19) ?_).2.2; exact (xrt_ ((Kd.R_mono (Kd.R_far (p := ⟨gb348, 1, none⟩) (Kd.R_far (p := ⟨gb348, 0, none⟩) (Kd.R_types HO333.out BK348.out (by decide)) (fun _ hk => hk.2) (.slice Ao36 t343.length co36)) (fun _ hk => hk.2) (.int .i64 t346)) (fun _ h_ => h_.1))))); (case side2 => exact (Kd.R_reads' HO333.out).2.1); (case side3 => refine (Kd.R_reads' (e := 3) (base := w.heap.size) (ok := fun k_ => ((((True ∧ some k_ ≠ (.slice Ao12 t321.length co12 : Value).ownBlock) ∧ some k_ ≠ (.slice Ao15 t325.length co15 : Value).ownBlock) ∧ some k_ ≠ (.slice Ao19 t331.length co19 : Value).ownBlock) ∧ some k_ ≠ (.slice Ao36 t343.length co36 : Value).ownBlock)) (n := t337.length) (c := co27) ?_).2.2; exact (xrt_ ((Kd.R_mono (Kd.R_far (p := ⟨gb348, 1, none⟩) (Kd.R_far (p := ⟨gb348, 0, none⟩) (Kd.R_types HO339.out BK348.out (by decide)) (fun _ hk => hk.2) (.slice Ao36 t343.length co36)) (fun _ hk => hk.2) (.int .i64 t346)) (fun _ h_ => h_.1))))); (case side4 => exact (Kd.R_reads' HO339.out).2.1); rintro e w71 ⟨rfl, hb⟩; replace HO323 := Aside0.mk (Kd.Q_below (xqt_ ((Kd.Q_mono (Kd.Q_far (p := ⟨gb348, 1, none⟩) (Kd.Q_far (p := ⟨gb348, 0, none⟩) (Kd.Q_types HO323.out BK348.out (by decide)) (fun _ hk => hk.2) (.slice Ao36 t343.length co36)) (fun _ hk => hk.2) (.int .i64 t346)) (fun _ h_ => h_.1)))) hb); replace HO327 := Aside0.mk (Kd.Q_below (xqt_ ((Kd.Q_mono (Kd.Q_far (p := ⟨gb348, 1, none⟩) (Kd.Q_far (p := ⟨gb348, 0, none⟩) (Kd.Q_types HO327.out BK348.out (by decide)) (fun _ hk => hk.2) (.slice Ao36 t343.length co36)) (fun _ hk => hk.2) (.int .i64 t346)) (fun _ h_ => h_.1)))) hb); replace HO333 := Aside0.mk (Kd.R_below (xrt_ ((Kd.R_mono (Kd.R_far (p := ⟨gb348, 1, none⟩) (Kd.R_far (p := ⟨gb348, 0, none⟩) (Kd.R_types HO333.out BK348.out (by decide)) (fun _ hk => hk.2) (.slice Ao36 t343.length co36)) (fun _ hk => hk.2) (.int .i64 t346)) (fun _ h_ => h_.1)))) hb); replace HO339 := Aside0.mk (Kd.R_below (xrt_ ((Kd.R_mono (Kd.R_far (p := ⟨gb348, 1, none⟩) (Kd.R_far (p := ⟨gb348, 0, none⟩) (Kd.R_types HO339.out BK348.out (by decide)) (fun _ hk => hk.2) (.slice Ao36 t343.length co36)) (fun _ hk => hk.2) (.int .i64 t346)) (fun _ h_ => h_.1)))) hb); replace HO345 := Aside0.mk (Kd.R_below (xrt_ ((Kd.R_mono (Kd.R_far (p := ⟨gb348, 1, none⟩) (Kd.R_far (p := ⟨gb348, 0, none⟩) (Kd.R_types HO345.out BK348.out (by decide)) (fun _ hk => hk.2) (.slice Ao36 t343.length co36)) (fun _ hk => hk.2) (.int .i64 t346)) (fun _ h_ => h_.1)))) hb); replace BK329 := Aside0.mk (blk_below (g := gb329) (o := .cells #[.slice Ao12 t321.length co12, .int .i64 t324] 25 (0, 0)) (by (with_reducible repeat (first | refine blk_drewN ?_ _ | refine blk_drew ?_ | refine blk_alloc ?_ _)); refine blk_far ?_ NB329_348.out _; (with_reducible repeat (first | refine blk_drewN ?_ _ | refine blk_drew ?_ | refine blk_alloc ?_ _)); refine blk_far ?_ NB329_348.out _; (with_reducible repeat (first | refine blk_drewN ?_ _ | refine blk_drew ?_ | refine blk_alloc ?_ _)); exact BK329.out) hb); replace BK330 := Aside0.mk (blk_below (g := gb330) (o := .cells #[.slice Ao15 t325.length co15, .int .i64 t328] 25 (0, 0)) (by (with_reducible repeat (first | refine blk_drewN ?_ _ | refine blk_drew ?_ | refine blk_alloc ?_ _)); refine blk_far ?_ NB330_348.out _; (with_reducible repeat (first | refine blk_drewN ?_ _ | refine blk_drew ?_ | refine blk_alloc ?_ _)); refine blk_far ?_ NB330_348.out _; (with_reducible repeat (first | refine blk_drewN ?_ _ | refine blk_drew ?_ | refine blk_alloc ?_ _)); exact BK330.out) hb); replace BK336 := Aside0.mk (blk_below (g := gb336) (o := .cells #[.slice Ao19 t331.length co19, .int .i64 t334] 25 (0, 0)) (by (with_reducible repeat (first | refine blk_drewN ?_ _ | refine blk_drew ?_ | refine blk_alloc ?_ _)); refine blk_far ?_ NB336_348.out _; (with_reducible repeat (first | refine blk_drewN ?_ _ | refine blk_drew ?_ | refine blk_alloc ?_ _)); refine blk_far ?_ NB336_348.out _; (with_reducible repeat (first | refine blk_drewN ?_ _ | refine blk_drew ?_ | refine blk_alloc ?_ _)); exact BK336.out) hb); replace BK342 := Aside0.mk (blk_below (g := gb342) (o := .cells #[.slice Ao27 t337.length co27, .int .i64 t340] 25 (0, 0)) (by (with_reducible repeat (first | refine blk_drewN ?_ _ | refine blk_drew ?_ | refine blk_alloc ?_ _)); refine blk_far ?_ NB342_348.out _; (with_reducible repeat (first | refine blk_drewN ?_ _ | refine blk_drew ?_ | refine blk_alloc ?_ _)); refine blk_far ?_ NB342_348.out _; (with_reducible repeat (first | refine blk_drewN ?_ _ | refine blk_drew ?_ | refine blk_alloc ?_ _)); exact BK342.out) hb); replace BK348 := Aside0.mk (blk_below (g := gb348) (o := .cells #[.slice Ao36 t343.length co36, .int .i64 t346] 25 (0, 0)) (by (with_reducible repeat (first | refine blk_drewN ?_ _ | refine blk_drew ?_ | refine blk_alloc ?_ _)); refine blk_put (cs := #[.slice Ao36 t343.length co36, .int .i64 0]) ?_ 1 _ rfl; (with_reducible repeat (first | refine blk_drewN ?_ _ | refine blk_drew ?_ | refine blk_alloc ?_ _)); refine blk_put (cs := #[.slice none 0 0, .int .i64 0]) ?_ 0 _ rfl; (with_reducible repeat (first | refine blk_drewN ?_ _ | refine blk_drew ?_ | refine blk_alloc ?_ _)); exact BK348.out) hb); replace HB := xws_ HB hb; (try clear hb); (try clear hb2); (try clear hk); (try clear hi)))
      go_meet
      case rel => exact ⟨_, (true), (by first | rfl | (simp; done) | (simp [*]; done)), H', ⟨by first | omega | exact Nat.le_refl _⟩, ⟨xqt_ (Kd.Q_mono HO323.out (fun _ hk => ⟨hk.1.1.1, ⟨hk.1.1.2, ⟨hk.1.2, hk.2⟩⟩⟩))⟩, ⟨xqt_ (Kd.Q_mono HO327.out (fun _ hk => ⟨hk.1.1.1, ⟨hk.1.1.2, ⟨hk.1.2, hk.2⟩⟩⟩))⟩, ⟨Kd.Q_of_R (xrt_ (Kd.R_mono HO333.out (fun _ hk => ⟨hk.1.1.1.2, ⟨hk.1.1.2, ⟨hk.1.2, hk.2⟩⟩⟩)))⟩, ⟨Kd.Q_of_R (xrt_ (Kd.R_mono HO339.out (fun _ hk => ⟨hk.1.1.1.2, ⟨hk.1.1.2, ⟨hk.1.2, hk.2⟩⟩⟩)))⟩, ⟨Kd.Q_of_R (xrt_ (Kd.R_mono HO345.out (fun _ hk => ⟨hk.1.1.1.2, ⟨hk.1.1.2, ⟨hk.1.2, hk.2⟩⟩⟩)))⟩, ⟨xb_ BK329⟩, ⟨xb_ BK330⟩, ⟨xb_ BK336⟩, ⟨xb_ BK342⟩, ⟨xb_ BK348⟩, ⟨xw_ HB⟩⟩
  case rest =>
   clear HC8
   try clear c1
   try clear c2
   try clear p2
   try clear c3
   try clear c3b0
   try clear c4
   try clear c5
   try clear c6
   try clear p6
   try clear c13
   try clear c15
   try clear c16
   try clear c17
   try clear c20
   try clear c21
   try clear c28
   try clear c29
   try clear c30
   try clear c37
   try clear c38
   try clear c39
   try clear c40
   try clear c42
   try clear c42b0
   try clear c42b1
   try clear c42b2
   try clear c43
   try clear c43b0
   try clear c43b1
   try clear c43b2
   try clear c45
   try clear c47
   try clear c48
   try clear c49
   try clear c50
   try clear c52
   try clear c53
   try clear c54
   try clear c57
   try clear c58
   try clear c62
   try clear c63
   try clear c64
   try clear p64
   try clear c65
   try clear c67
   try clear c68
   try clear c69
   try clear hcz14_0
   try clear hcz14_1
   try clear hcz16_0
   try clear hcz16_1
   try clear hcz22_0
   try clear hcz22_1
   try clear hcz23_0
   try clear hcz23_1
   try clear hcz24_0
   try clear hcz24_1
   try clear hcz31_0
   try clear hcz31_1
   try clear hcz32_0
   try clear hcz32_1
   try clear hcz33_0
   try clear hcz33_1
   try clear hcz41_0
   try clear hcz41_1
   try clear hcz51_0
   try clear hcz51_1
   try clear hcz55_0
   try clear hcz55_1
   try clear hcz59_0
   try clear hcz59_1
   try clear hcz60_0
   try clear hcz60_1
   try clear hcz66_0
   try clear hcz66_1
   try clear hcz70_0
   try clear hcz70_1
   try clear hfz14_0
   try clear hfz14_1
   try clear hfz16_0
   try clear hfz16_1
   try clear hfz22_0
   try clear hfz22_1
   try clear hfz23_0
   try clear hfz23_1
   try clear hfz24_0
   try clear hfz24_1
   try clear hfz31_0
   try clear hfz31_1
   try clear hfz32_0
   try clear hfz32_1
   try clear hfz33_0
   try clear hfz33_1
   try clear hfz41_0
   try clear hfz41_1
   try clear hfz51_0
   try clear hfz51_1
   try clear hfz55_0
   try clear hfz55_1
   try clear hfz59_0
   try clear hfz59_1
   try clear hfz60_0
   try clear hfz60_1
   try clear hfz66_0
   try clear hfz66_1
   try clear hfz70_0
   try clear hfz70_1
   obtain ⟨kq, x77_7, rfl, HA, HJ7, HO_330000, HO_331000, HO_337000, HO_343000, HO_349000, BK329, BK330, BK336, BK342, BK348, HB⟩ := hcut
   cases kq with
   | zero => exact absurd HA.out (by simp [laws_FnSummed.j0])
   | succ kj7 =>
    have H := HA.out
    clear HA
    simp only [laws_FnSummed.j0] at H
    by_cases c72 : x77_7 = true
    ·subst c72
     have H1 : (some false) = some r := by rw [if_pos rfl] at H; exact H
     clear H
     have H := H1
     clear H1
     obtain rfl := Option.some.inj H
     go_wp2
     go_ret
     exact ⟨by first | rfl | (simp [errW_none, errW_some] <;> rfl) | (simp [*, errW_none, errW_some] <;> rfl), xw_ HB⟩
    ·replace c72 := Bool.eq_false_iff.mpr c72
     subst c72
     have H1 : ((spec_DrawCellsOf.f l1).bind fun t351 => ((impl_CellsOf.f kj7 t351).bind fun bt352 => ((spec_CellsOf.f kj7 t351).bind fun bt356 => (if (bt352.2 != bt356.2) = true then (laws_FnSummed.j1 kj7 l1 t335 t351 bt352.2 true t321 t324 t325 t328 t331 t334) else ((laws_sameInts.f kj7 bt352.1 bt356.1).bind fun t360 => (laws_FnSummed.j1 kj7 l1 t335 t351 bt352.2 (!t360) t321 t324 t325 t328 t331 t334)))))) = some r := by rw [if_neg (show ¬ (false = true) by decide)] at H; exact H
     clear H
     have H := H1
     clear H1
     replace H := Option.bind_eq_some_iff.mp H
     obtain ⟨t351, A730, H⟩ := H
     replace H : ((impl_CellsOf.f kj7 t351).bind fun bt352 => ((spec_CellsOf.f kj7 t351).bind fun bt356 => (if (bt352.2 != bt356.2) = true then (laws_FnSummed.j1 kj7 l1 t335 t351 bt352.2 true t321 t324 t325 t328 t331 t334) else ((laws_sameInts.f kj7 bt352.1 bt356.1).bind fun t360 => (laws_FnSummed.j1 kj7 l1 t335 t351 bt352.2 (!t360) t321 t324 t325 t328 t331 t334))))) = some r := H
     have A73 := Aside0.mk A730
     clear A730
     replace H := Option.bind_eq_some_iff.mp H
     obtain ⟨⟨t352, t353⟩, A740, H⟩ := H
     replace H : ((spec_CellsOf.f kj7 t351).bind fun bt356 => (if (t353 != bt356.2) = true then (laws_FnSummed.j1 kj7 l1 t335 t351 t353 true t321 t324 t325 t328 t331 t334) else ((laws_sameInts.f kj7 t352 bt356.1).bind fun t360 => (laws_FnSummed.j1 kj7 l1 t335 t351 t353 (!t360) t321 t324 t325 t328 t331 t334)))) = some r := H
     have A74 := Aside0.mk A740
     clear A740
     replace H := Option.bind_eq_some_iff.mp H
     obtain ⟨⟨t356, t357⟩, A750, H⟩ := H
     replace H : (if (t353 != t357) = true then (laws_FnSummed.j1 kj7 l1 t335 t351 t353 true t321 t324 t325 t328 t331 t334) else ((laws_sameInts.f kj7 t352 t356).bind fun t360 => (laws_FnSummed.j1 kj7 l1 t335 t351 t353 (!t360) t321 t324 t325 t328 t331 t334))) = some r := H
     have A75 := Aside0.mk A750
     clear A750
     have HC76 := Aside0.mk H
     clear H
     go_upto_region 12 with (first | ((with_reducible refine gate_callee (f := 18) rfl ?_); refine xgl_ (some 79) Try.func18 #[.slice A1 l1.length c1] ?_; (with_reducible refine (spec_DrawCellsOf.calls _ _ l1 t351 _ ?side1 ?side2 A73.out).mono ?_); (case side1 => exact xc_ ((Kd.C_below HR1.out HB.out))); (case side2 => exact HC1.out); rintro e w77 ⟨rfl, hb⟩; refine ⟨_, rfl, ?_⟩; replace HO_330000 := xqb_ HO_330000 hb; replace HO_331000 := xqb_ HO_331000 hb; replace HO_337000 := xqb_ HO_337000 hb; replace HO_343000 := xqb_ HO_343000 hb; replace HO_349000 := xqb_ HO_349000 hb; replace BK329 := xbb_ BK329 hb; replace BK330 := xbb_ BK330 hb; replace BK336 := xbb_ BK336 hb; replace BK342 := xbb_ BK342 hb; replace BK348 := xbb_ BK348 hb; replace HB := xws_ HB hb; (try clear hb); (try clear hb2); (try clear hk); (try clear hi)) | ((with_reducible refine gate_callee (f := 19) rfl ?_); refine xgl_ (some 82) Try.func19 #[.string t351] ?_; (with_reducible refine (impl_CellsOf.calls kj7 t351 t352 t353 _ A74.out).mono ?_); rintro e w78 ⟨v354, rfl, ho0, hb⟩; refine ⟨_, rfl, ?_⟩; have HO355 := Aside0.mk (Kd.R_lower (Kd.R_new' (Kd.R_new' (Kd.R_new' (Kd.R_new' (Kd.R_new' ho0 (Kd.Q_lt (xq_ HO_330000))) (Kd.Q_lt (xq_ HO_331000))) (Kd.Q_lt (xq_ HO_337000))) (Kd.Q_lt (xq_ HO_343000))) (Kd.Q_lt (xq_ HO_349000))) (below_size (xw_ HB))); replace HO_330000 := xqe_ HO_330000 (Kd.R_base ho0) hb; replace HO_331000 := xqe_ HO_331000 (Kd.R_base ho0) hb; replace HO_337000 := xqe_ HO_337000 (Kd.R_base ho0) hb; replace HO_343000 := xqe_ HO_343000 (Kd.R_base ho0) hb; replace HO_349000 := xqe_ HO_349000 (Kd.R_base ho0) hb; replace BK329 := xbb_ BK329 hb; replace BK330 := xbb_ BK330 hb; replace BK336 := xbb_ BK336 hb; replace BK342 := xbb_ BK342 hb; replace BK348 := xbb_ BK348 hb; replace HB := xws_ HB hb; (try clear hb); (try clear hb2); (try clear hk); (try clear hi); (try clear ho0)) | ((with_reducible refine gate_callee (f := 20) rfl ?_); refine xgl_ (some 87) Try.func20 #[.string t351] ?_; (with_reducible refine (spec_CellsOf.calls kj7 t351 t356 t357 _ A75.out).mono ?_); rintro e w79 ⟨v358, rfl, ho0, hb⟩; refine ⟨_, rfl, ?_⟩; have HO359 := Aside0.mk (Kd.R_lower (Kd.R_new' (Kd.R_new' (Kd.R_new' (Kd.R_new' (Kd.R_new' (Kd.R_new' ho0 (Kd.Q_lt (xq_ HO_330000))) (Kd.Q_lt (xq_ HO_331000))) (Kd.Q_lt (xq_ HO_337000))) (Kd.Q_lt (xq_ HO_343000))) (Kd.Q_lt (xq_ HO_349000))) (Kd.R_lt (xr_ HO355))) (below_size (xw_ HB))); replace HO_330000 := xqe_ HO_330000 (Kd.R_base ho0) hb; replace HO_331000 := xqe_ HO_331000 (Kd.R_base ho0) hb; replace HO_337000 := xqe_ HO_337000 (Kd.R_base ho0) hb; replace HO_343000 := xqe_ HO_343000 (Kd.R_base ho0) hb; replace HO_349000 := xqe_ HO_349000 (Kd.R_base ho0) hb; replace HO355 := xre_ HO355 ho0 hb; replace BK329 := xbb_ BK329 hb; replace BK330 := xbb_ BK330 hb; replace BK336 := xbb_ BK336 hb; replace BK342 := xbb_ BK342 hb; replace BK348 := xbb_ BK348 hb; replace HB := xws_ HB hb; (try clear hb); (try clear hb2); (try clear hk); (try clear hi); (try clear ho0)))
     (try simp only [Act.put, List.setIfInBounds_toArray, List.set_cons_zero, List.set_cons_succ])
     go_cut [98] (fun v98 wc => ∃ (kq : Nat) (x98_75 : Bool), v98 = .bool x98_75 ∧ Aside0 (laws_FnSummed.j1 kq l1 t335 t351 t353 x98_75 t321 t324 t325 t328 t331 t334 = some r) ∧ Aside0 (kq ≤ kj7) ∧ Aside0 (Kd.Q (Kd.int .i64) 3 wc w.heap.size (fun k_ => some k_ ≠ ((.slice Ao15 t325.length co15) : Value).ownBlock ∧ some k_ ≠ ((.slice Ao19 t331.length co19) : Value).ownBlock ∧ some k_ ≠ ((.slice Ao27 t337.length co27) : Value).ownBlock ∧ some k_ ≠ ((.slice Ao36 t343.length co36) : Value).ownBlock) (.slice Ao12 t321.length co12) t321) ∧ Aside0 (Kd.Q (Kd.int .i64) 3 wc w.heap.size (fun k_ => some k_ ≠ ((.slice Ao12 t321.length co12) : Value).ownBlock ∧ some k_ ≠ ((.slice Ao19 t331.length co19) : Value).ownBlock ∧ some k_ ≠ ((.slice Ao27 t337.length co27) : Value).ownBlock ∧ some k_ ≠ ((.slice Ao36 t343.length co36) : Value).ownBlock) (.slice Ao15 t325.length co15) t325) ∧ Aside0 (Kd.Q (Kd.int .i64) 3 wc w.heap.size (fun k_ => some k_ ≠ ((.slice Ao12 t321.length co12) : Value).ownBlock ∧ some k_ ≠ ((.slice Ao15 t325.length co15) : Value).ownBlock ∧ some k_ ≠ ((.slice Ao27 t337.length co27) : Value).ownBlock ∧ some k_ ≠ ((.slice Ao36 t343.length co36) : Value).ownBlock) (.slice Ao19 t331.length co19) t331) ∧ Aside0 (Kd.Q (Kd.int .i64) 3 wc w.heap.size (fun k_ => some k_ ≠ ((.slice Ao12 t321.length co12) : Value).ownBlock ∧ some k_ ≠ ((.slice Ao15 t325.length co15) : Value).ownBlock ∧ some k_ ≠ ((.slice Ao19 t331.length co19) : Value).ownBlock ∧ some k_ ≠ ((.slice Ao36 t343.length co36) : Value).ownBlock) (.slice Ao27 t337.length co27) t337) ∧ Aside0 (Kd.Q (Kd.int .i64) 3 wc w.heap.size (fun k_ => some k_ ≠ ((.slice Ao12 t321.length co12) : Value).ownBlock ∧ some k_ ≠ ((.slice Ao15 t325.length co15) : Value).ownBlock ∧ some k_ ≠ ((.slice Ao19 t331.length co19) : Value).ownBlock ∧ some k_ ≠ ((.slice Ao27 t337.length co27) : Value).ownBlock) (.slice Ao36 t343.length co36) t343) ∧ Aside0 (wc.heap[gb329]? = some (.cells #[(.slice Ao12 t321.length co12), .int .i64 t324] 25 (0, 0))) ∧ Aside0 (wc.heap[gb330]? = some (.cells #[(.slice Ao15 t325.length co15), .int .i64 t328] 25 (0, 0))) ∧ Aside0 (wc.heap[gb336]? = some (.cells #[(.slice Ao19 t331.length co19), .int .i64 t334] 25 (0, 0))) ∧ Aside0 (wc.heap[gb342]? = some (.cells #[(.slice Ao27 t337.length co27), .int .i64 t340] 25 (0, 0))) ∧ Aside0 (wc.heap[gb348]? = some (.cells #[(.slice Ao36 t343.length co36), .int .i64 t346] 25 (0, 0))) ∧ Aside0 (Below w.heap.size w wc))
     case first =>
      have H := HC76.out
      clear HC76
      by_cases c80 : (t353 != t357) = true
      ·rw [if_pos c80] at H
       have c80b0 : (t353 != t357) = true := c80
       (try (have c80b1 : decide (t353 = t357) = false := by simpa using c80))
       (try (have c80b2 : (t353 == t357) = false := by simpa using c80))
       (try (have c80b3 : ¬ (t353 = t357) := by simpa using c80))
       clear c80
       (first | rw [c80b0] | (simp only [i64_w, i32_w]; rw [c80b0]) | skip)
       have H' := Aside0.mk H
       clear H
       go_wp2
       go_meet
       case rel => exact ⟨_, (true), (by first | rfl | (simp; done) | (simp [*]; done)), H', ⟨by have := HJ7.out; first | omega | exact Nat.le_refl _⟩, ⟨xqt_ (Kd.Q_mono HO_330000.out (fun _ hk => ⟨hk.1.1.1, ⟨hk.1.1.2.1, ⟨hk.1.1.2.2.1, hk.1.1.2.2.2⟩⟩⟩))⟩, ⟨xqt_ (Kd.Q_mono HO_331000.out (fun _ hk => ⟨hk.1.1.1, ⟨hk.1.1.2.1, ⟨hk.1.1.2.2.1, hk.1.1.2.2.2⟩⟩⟩))⟩, ⟨xqt_ (Kd.Q_mono HO_337000.out (fun _ hk => ⟨hk.1.1.1, ⟨hk.1.1.2.1, ⟨hk.1.1.2.2.1, hk.1.1.2.2.2⟩⟩⟩))⟩, ⟨xqt_ (Kd.Q_mono HO_343000.out (fun _ hk => ⟨hk.1.1.1, ⟨hk.1.1.2.1, ⟨hk.1.1.2.2.1, hk.1.1.2.2.2⟩⟩⟩))⟩, ⟨xqt_ (Kd.Q_mono HO_349000.out (fun _ hk => ⟨hk.1.1.1, ⟨hk.1.1.2.1, ⟨hk.1.1.2.2.1, hk.1.1.2.2.2⟩⟩⟩))⟩, ⟨xb_ BK329⟩, ⟨xb_ BK330⟩, ⟨xb_ BK336⟩, ⟨xb_ BK342⟩, ⟨xb_ BK348⟩, ⟨xw_ HB⟩⟩
      ·rw [if_neg c80] at H
       have c80b0 : (t353 != t357) = false := by simpa using c80
       (try (have c80b1 : decide (t353 = t357) = true := by simpa using c80))
       (try (have c80b2 : (t353 == t357) = true := by simpa using c80))
       clear c80
       (first | rw [c80b0] | (simp only [i64_w, i32_w]; rw [c80b0]) | skip)
       replace H := Option.bind_eq_some_iff.mp H
       obtain ⟨t360, A810, H⟩ := H
       replace H : (laws_FnSummed.j1 kj7 l1 t335 t351 t353 (!t360) t321 t324 t325 t328 t331 t334) = some r := H
       have A81 := Aside0.mk A810
       clear A810
       have H' := Aside0.mk H
       clear H
       obtain ⟨Ao82, co82, eo82⟩ := Kd.R_slice HO355.out
       subst eo82
       obtain ⟨Ao83, co83, eo83⟩ := Kd.R_slice HO359.out
       subst eo83
       go_wp2_with (first | (go_at_call 21; (with_reducible refine (laws_sameInts.calls kj7 _ _ t352 _ _ t356 t360 _ ?side1 ?side2 ?side3 ?side4 A81.out).mono ?_); (case side1 => exact xc_ ((Kd.R_reads' HO355.out).2.2)); (case side2 => exact (Kd.R_reads' HO355.out).2.1); (case side3 => exact xc_ ((Kd.R_reads' HO359.out).2.2)); (case side4 => exact (Kd.R_reads' HO359.out).2.1); rintro e w' ⟨rfl, ⟨nd, rfl⟩⟩))
       go_meet
       case rel => exact ⟨_, (!t360), (by first | rfl | (simp; done) | (simp [*]; done)), H', ⟨by have := HJ7.out; first | omega | exact Nat.le_refl _⟩, ⟨xqt_ (Kd.Q_mono HO_330000.out (fun _ hk => ⟨hk.1.1.1, ⟨hk.1.1.2.1, ⟨hk.1.1.2.2.1, hk.1.1.2.2.2⟩⟩⟩))⟩, ⟨xqt_ (Kd.Q_mono HO_331000.out (fun _ hk => ⟨hk.1.1.1, ⟨hk.1.1.2.1, ⟨hk.1.1.2.2.1, hk.1.1.2.2.2⟩⟩⟩))⟩, ⟨xqt_ (Kd.Q_mono HO_337000.out (fun _ hk => ⟨hk.1.1.1, ⟨hk.1.1.2.1, ⟨hk.1.1.2.2.1, hk.1.1.2.2.2⟩⟩⟩))⟩, ⟨xqt_ (Kd.Q_mono HO_343000.out (fun _ hk => ⟨hk.1.1.1, ⟨hk.1.1.2.1, ⟨hk.1.1.2.2.1, hk.1.1.2.2.2⟩⟩⟩))⟩, ⟨xqt_ (Kd.Q_mono HO_349000.out (fun _ hk => ⟨hk.1.1.1, ⟨hk.1.1.2.1, ⟨hk.1.1.2.2.1, hk.1.1.2.2.2⟩⟩⟩))⟩, ⟨xb_ BK329⟩, ⟨xb_ BK330⟩, ⟨xb_ BK336⟩, ⟨xb_ BK342⟩, ⟨xb_ BK348⟩, ⟨xw_ HB⟩⟩
     case rest =>
      clear HC76
      try clear c1
      try clear c2
      try clear p2
      try clear c3
      try clear c3b0
      try clear c4
      try clear c5
      try clear c6
      try clear p6
      try clear c7
      try clear c8
      try clear c13
      try clear c15
      try clear c16
      try clear c17
      try clear c18
      try clear c19
      try clear c20
      try clear c21
      try clear c28
      try clear c29
      try clear c30
      try clear c37
      try clear c38
      try clear c39
      try clear c40
      try clear c42
      try clear c42b0
      try clear c42b1
      try clear c42b2
      try clear c43
      try clear c43b0
      try clear c43b1
      try clear c43b2
      try clear c45
      try clear c47
      try clear c48
      try clear c49
      try clear c50
      try clear c52
      try clear c53
      try clear c54
      try clear c57
      try clear c58
      try clear c62
      try clear c63
      try clear c64
      try clear p64
      try clear c65
      try clear c67
      try clear c68
      try clear c69
      try clear c72
      try clear c80
      try clear c80b0
      try clear c80b1
      try clear c80b2
      try clear hcz14_0
      try clear hcz14_1
      try clear hcz16_0
      try clear hcz16_1
      try clear hcz22_0
      try clear hcz22_1
      try clear hcz23_0
      try clear hcz23_1
      try clear hcz24_0
      try clear hcz24_1
      try clear hcz31_0
      try clear hcz31_1
      try clear hcz32_0
      try clear hcz32_1
      try clear hcz33_0
      try clear hcz33_1
      try clear hcz41_0
      try clear hcz41_1
      try clear hcz51_0
      try clear hcz51_1
      try clear hcz55_0
      try clear hcz55_1
      try clear hcz59_0
      try clear hcz59_1
      try clear hcz60_0
      try clear hcz60_1
      try clear hcz66_0
      try clear hcz66_1
      try clear hcz70_0
      try clear hcz70_1
      try clear hfz14_0
      try clear hfz14_1
      try clear hfz16_0
      try clear hfz16_1
      try clear hfz22_0
      try clear hfz22_1
      try clear hfz23_0
      try clear hfz23_1
      try clear hfz24_0
      try clear hfz24_1
      try clear hfz31_0
      try clear hfz31_1
      try clear hfz32_0
      try clear hfz32_1
      try clear hfz33_0
      try clear hfz33_1
      try clear hfz41_0
      try clear hfz41_1
      try clear hfz51_0
      try clear hfz51_1
      try clear hfz55_0
      try clear hfz55_1
      try clear hfz59_0
      try clear hfz59_1
      try clear hfz60_0
      try clear hfz60_1
      try clear hfz66_0
      try clear hfz66_1
      try clear hfz70_0
      try clear hfz70_1
      try clear p2
      try clear p6
      try clear p64
      obtain ⟨kq, x98_75, rfl, HA, HJ75, HO_330000, HO_331000, HO_337000, HO_343000, HO_349000, BK329, BK330, BK336, BK342, BK348, HB⟩ := hcut
      cases kq with
      | zero => exact absurd HA.out (by simp [laws_FnSummed.j1])
      | succ kj75 =>
       have H := HA.out
       clear HA
       simp only [laws_FnSummed.j1] at H
       by_cases c84 : x98_75 = true
       ·subst c84
        have H1 : (some false) = some r := by rw [if_pos rfl] at H; exact H
        clear H
        have H := H1
        clear H1
        obtain rfl := Option.some.inj H
        go_wp2
        go_ret
        exact ⟨by first | rfl | (simp [errW_none, errW_some] <;> rfl) | (simp [*, errW_none, errW_some] <;> rfl), xw_ HB⟩
       ·replace c84 := Bool.eq_false_iff.mpr c84
        subst c84
        have H1 : (if t335 = true then (laws_FnSummed.j2 kj75 l1 t351 t353 t321 t324 t325 t328 t331 t334) else (laws_FnSummed.j2 kj75 l1 t351 false t321 t324 t325 t328 t331 t334)) = some r := by rw [if_neg (show ¬ (false = true) by decide)] at H; exact H
        clear H
        have H := H1
        clear H1
        have HC85 := Aside0.mk H
        clear H
        go_upto_region 14 with (fail)
        go_cut [102] (fun v102 wc => ∃ (kq : Nat) (x102_84 : Bool), v102 = .bool x102_84 ∧ Aside0 (laws_FnSummed.j2 kq l1 t351 x102_84 t321 t324 t325 t328 t331 t334 = some r) ∧ Aside0 (kq ≤ kj75) ∧ Aside0 (Kd.Q (Kd.int .i64) 3 wc w.heap.size (fun k_ => some k_ ≠ ((.slice Ao15 t325.length co15) : Value).ownBlock ∧ some k_ ≠ ((.slice Ao19 t331.length co19) : Value).ownBlock ∧ some k_ ≠ ((.slice Ao27 t337.length co27) : Value).ownBlock ∧ some k_ ≠ ((.slice Ao36 t343.length co36) : Value).ownBlock) (.slice Ao12 t321.length co12) t321) ∧ Aside0 (Kd.Q (Kd.int .i64) 3 wc w.heap.size (fun k_ => some k_ ≠ ((.slice Ao12 t321.length co12) : Value).ownBlock ∧ some k_ ≠ ((.slice Ao19 t331.length co19) : Value).ownBlock ∧ some k_ ≠ ((.slice Ao27 t337.length co27) : Value).ownBlock ∧ some k_ ≠ ((.slice Ao36 t343.length co36) : Value).ownBlock) (.slice Ao15 t325.length co15) t325) ∧ Aside0 (Kd.Q (Kd.int .i64) 3 wc w.heap.size (fun k_ => some k_ ≠ ((.slice Ao12 t321.length co12) : Value).ownBlock ∧ some k_ ≠ ((.slice Ao15 t325.length co15) : Value).ownBlock ∧ some k_ ≠ ((.slice Ao27 t337.length co27) : Value).ownBlock ∧ some k_ ≠ ((.slice Ao36 t343.length co36) : Value).ownBlock) (.slice Ao19 t331.length co19) t331) ∧ Aside0 (Kd.Q (Kd.int .i64) 3 wc w.heap.size (fun k_ => some k_ ≠ ((.slice Ao12 t321.length co12) : Value).ownBlock ∧ some k_ ≠ ((.slice Ao15 t325.length co15) : Value).ownBlock ∧ some k_ ≠ ((.slice Ao19 t331.length co19) : Value).ownBlock ∧ some k_ ≠ ((.slice Ao36 t343.length co36) : Value).ownBlock) (.slice Ao27 t337.length co27) t337) ∧ Aside0 (Kd.Q (Kd.int .i64) 3 wc w.heap.size (fun k_ => some k_ ≠ ((.slice Ao12 t321.length co12) : Value).ownBlock ∧ some k_ ≠ ((.slice Ao15 t325.length co15) : Value).ownBlock ∧ some k_ ≠ ((.slice Ao19 t331.length co19) : Value).ownBlock ∧ some k_ ≠ ((.slice Ao27 t337.length co27) : Value).ownBlock) (.slice Ao36 t343.length co36) t343) ∧ Aside0 (wc.heap[gb329]? = some (.cells #[(.slice Ao12 t321.length co12), .int .i64 t324] 25 (0, 0))) ∧ Aside0 (wc.heap[gb330]? = some (.cells #[(.slice Ao15 t325.length co15), .int .i64 t328] 25 (0, 0))) ∧ Aside0 (wc.heap[gb336]? = some (.cells #[(.slice Ao19 t331.length co19), .int .i64 t334] 25 (0, 0))) ∧ Aside0 (wc.heap[gb342]? = some (.cells #[(.slice Ao27 t337.length co27), .int .i64 t340] 25 (0, 0))) ∧ Aside0 (wc.heap[gb348]? = some (.cells #[(.slice Ao36 t343.length co36), .int .i64 t346] 25 (0, 0))) ∧ Aside0 (Below w.heap.size w wc))
        case first =>
         have H := HC85.out
         clear HC85
         by_cases c86 : t335 = true
         ·subst c86
          have H1 : (laws_FnSummed.j2 kj75 l1 t351 t353 t321 t324 t325 t328 t331 t334) = some r := by rw [if_pos rfl] at H; exact H
          clear H
          have H := H1
          clear H1
          have H' := Aside0.mk H
          clear H
          go_wp2
          go_meet
          case rel => exact ⟨_, (t353), (by first | rfl | (simp; done) | (simp [*]; done)), H', ⟨by have := HJ7.out; have := HJ75.out; first | omega | exact Nat.le_refl _⟩, ⟨xq_ HO_330000⟩, ⟨xq_ HO_331000⟩, ⟨xq_ HO_337000⟩, ⟨xq_ HO_343000⟩, ⟨xq_ HO_349000⟩, ⟨xb_ BK329⟩, ⟨xb_ BK330⟩, ⟨xb_ BK336⟩, ⟨xb_ BK342⟩, ⟨xb_ BK348⟩, ⟨xw_ HB⟩⟩
         ·replace c86 := Bool.eq_false_iff.mpr c86
          subst c86
          have H1 : (laws_FnSummed.j2 kj75 l1 t351 false t321 t324 t325 t328 t331 t334) = some r := by rw [if_neg (show ¬ (false = true) by decide)] at H; exact H
          clear H
          have H := H1
          clear H1
          have H' := Aside0.mk H
          clear H
          go_wp2
          go_meet
          case rel => exact ⟨_, (false), (by first | rfl | (simp; done) | (simp [*]; done)), H', ⟨by have := HJ7.out; have := HJ75.out; first | omega | exact Nat.le_refl _⟩, ⟨xq_ HO_330000⟩, ⟨xq_ HO_331000⟩, ⟨xq_ HO_337000⟩, ⟨xq_ HO_343000⟩, ⟨xq_ HO_349000⟩, ⟨xb_ BK329⟩, ⟨xb_ BK330⟩, ⟨xb_ BK336⟩, ⟨xb_ BK342⟩, ⟨xb_ BK348⟩, ⟨xw_ HB⟩⟩
        case rest =>
         clear HC85
         try clear c1
         try clear c2
         try clear p2
         try clear c3
         try clear c3b0
         try clear c4
         try clear c5
         try clear c6
         try clear p6
         try clear c7
         try clear c8
         try clear c13
         try clear c15
         try clear c16
         try clear c17
         try clear c18
         try clear c19
         try clear c20
         try clear c21
         try clear c28
         try clear c29
         try clear c30
         try clear c37
         try clear c38
         try clear c39
         try clear c40
         try clear c42
         try clear c42b0
         try clear c42b1
         try clear c42b2
         try clear c43
         try clear c43b0
         try clear c43b1
         try clear c43b2
         try clear c45
         try clear c47
         try clear c48
         try clear c49
         try clear c50
         try clear c52
         try clear c53
         try clear c54
         try clear c57
         try clear c58
         try clear c62
         try clear c63
         try clear c64
         try clear p64
         try clear c65
         try clear c67
         try clear c68
         try clear c69
         try clear c72
         try clear c80
         try clear c80b0
         try clear c80b1
         try clear c80b2
         try clear c84
         try clear c86
         try clear hcz14_0
         try clear hcz14_1
         try clear hcz16_0
         try clear hcz16_1
         try clear hcz22_0
         try clear hcz22_1
         try clear hcz23_0
         try clear hcz23_1
         try clear hcz24_0
         try clear hcz24_1
         try clear hcz31_0
         try clear hcz31_1
         try clear hcz32_0
         try clear hcz32_1
         try clear hcz33_0
         try clear hcz33_1
         try clear hcz41_0
         try clear hcz41_1
         try clear hcz51_0
         try clear hcz51_1
         try clear hcz55_0
         try clear hcz55_1
         try clear hcz59_0
         try clear hcz59_1
         try clear hcz60_0
         try clear hcz60_1
         try clear hcz66_0
         try clear hcz66_1
         try clear hcz70_0
         try clear hcz70_1
         try clear hfz14_0
         try clear hfz14_1
         try clear hfz16_0
         try clear hfz16_1
         try clear hfz22_0
         try clear hfz22_1
         try clear hfz23_0
         try clear hfz23_1
         try clear hfz24_0
         try clear hfz24_1
         try clear hfz31_0
         try clear hfz31_1
         try clear hfz32_0
         try clear hfz32_1
         try clear hfz33_0
         try clear hfz33_1
         try clear hfz41_0
         try clear hfz41_1
         try clear hfz51_0
         try clear hfz51_1
         try clear hfz55_0
         try clear hfz55_1
         try clear hfz59_0
         try clear hfz59_1
         try clear hfz60_0
         try clear hfz60_1
         try clear hfz66_0
         try clear hfz66_1
         try clear hfz70_0
         try clear hfz70_1
         try clear p2
         try clear p6
         try clear p64
         obtain ⟨kq, x102_84, rfl, HA, HJ84, HO_330000, HO_331000, HO_337000, HO_343000, HO_349000, BK329, BK330, BK336, BK342, BK348, HB⟩ := hcut
         cases kq with
         | zero => exact absurd HA.out (by simp [laws_FnSummed.j2])
         | succ kj84 =>
          have H := HA.out
          clear HA
          simp only [laws_FnSummed.j2] at H
          have HC87 := Aside0.mk H
          clear H
          go_upto_if 102 with (fail)
          go_cut [] (fun wc => ∃ (kq : Nat), Aside0 (laws_FnSummed.j3 kq l1 = some r) ∧ Aside0 (kq ≤ kj84) ∧ Aside0 (Kd.Q (Kd.int .i64) 3 wc w.heap.size (fun k_ => some k_ ≠ ((.slice Ao15 t325.length co15) : Value).ownBlock ∧ some k_ ≠ ((.slice Ao19 t331.length co19) : Value).ownBlock ∧ some k_ ≠ ((.slice Ao27 t337.length co27) : Value).ownBlock ∧ some k_ ≠ ((.slice Ao36 t343.length co36) : Value).ownBlock) (.slice Ao12 t321.length co12) t321) ∧ Aside0 (Kd.Q (Kd.int .i64) 3 wc w.heap.size (fun k_ => some k_ ≠ ((.slice Ao12 t321.length co12) : Value).ownBlock ∧ some k_ ≠ ((.slice Ao19 t331.length co19) : Value).ownBlock ∧ some k_ ≠ ((.slice Ao27 t337.length co27) : Value).ownBlock ∧ some k_ ≠ ((.slice Ao36 t343.length co36) : Value).ownBlock) (.slice Ao15 t325.length co15) t325) ∧ Aside0 (Kd.Q (Kd.int .i64) 3 wc w.heap.size (fun k_ => some k_ ≠ ((.slice Ao12 t321.length co12) : Value).ownBlock ∧ some k_ ≠ ((.slice Ao15 t325.length co15) : Value).ownBlock ∧ some k_ ≠ ((.slice Ao27 t337.length co27) : Value).ownBlock ∧ some k_ ≠ ((.slice Ao36 t343.length co36) : Value).ownBlock) (.slice Ao19 t331.length co19) t331) ∧ Aside0 (Kd.Q (Kd.int .i64) 3 wc w.heap.size (fun k_ => some k_ ≠ ((.slice Ao12 t321.length co12) : Value).ownBlock ∧ some k_ ≠ ((.slice Ao15 t325.length co15) : Value).ownBlock ∧ some k_ ≠ ((.slice Ao19 t331.length co19) : Value).ownBlock ∧ some k_ ≠ ((.slice Ao36 t343.length co36) : Value).ownBlock) (.slice Ao27 t337.length co27) t337) ∧ Aside0 (Kd.Q (Kd.int .i64) 3 wc w.heap.size (fun k_ => some k_ ≠ ((.slice Ao12 t321.length co12) : Value).ownBlock ∧ some k_ ≠ ((.slice Ao15 t325.length co15) : Value).ownBlock ∧ some k_ ≠ ((.slice Ao19 t331.length co19) : Value).ownBlock ∧ some k_ ≠ ((.slice Ao27 t337.length co27) : Value).ownBlock) (.slice Ao36 t343.length co36) t343) ∧ Aside0 (wc.heap[gb329]? = some (.cells #[(.slice Ao12 t321.length co12), .int .i64 t324] 25 (0, 0))) ∧ Aside0 (wc.heap[gb330]? = some (.cells #[(.slice Ao15 t325.length co15), .int .i64 t328] 25 (0, 0))) ∧ Aside0 (wc.heap[gb336]? = some (.cells #[(.slice Ao19 t331.length co19), .int .i64 t334] 25 (0, 0))) ∧ Aside0 (wc.heap[gb342]? = some (.cells #[(.slice Ao27 t337.length co27), .int .i64 t340] 25 (0, 0))) ∧ Aside0 (wc.heap[gb348]? = some (.cells #[(.slice Ao36 t343.length co36), .int .i64 t346] 25 (0, 0))) ∧ Aside0 (Below w.heap.size w wc))
          case first =>
           have H := HC87.out
           clear HC87
           by_cases c88 : x102_84 = true
           ·subst c88
            have H1 : ((impl_EstimateOf.f kj84 t321 t324 t351).bind fun bt361 => ((impl_EstimateOf.f kj84 t325 t328 t351).bind fun bt363 => ((impl_EstimateOf.f kj84 t331 t334 t351).bind fun bt365 => (if bt361.2 = true then (if bt363.2 = true then (if bt365.2 = true then (if bt365.1 < (wrap64 (bt361.1 + bt363.1)) then (some false) else (if t334 = (wrap64 (t324 + t328)) then (laws_FnSummed.j3 kj84 l1) else (some false))) else (some false)) else (some false)) else (some false))))) = some r := by rw [if_pos rfl] at H; exact H
            clear H
            have H := H1
            clear H1
            replace H := Option.bind_eq_some_iff.mp H
            obtain ⟨⟨t361, t362⟩, A890, H⟩ := H
            replace H : ((impl_EstimateOf.f kj84 t325 t328 t351).bind fun bt363 => ((impl_EstimateOf.f kj84 t331 t334 t351).bind fun bt365 => (if t362 = true then (if bt363.2 = true then (if bt365.2 = true then (if bt365.1 < (wrap64 (t361 + bt363.1)) then (some false) else (if t334 = (wrap64 (t324 + t328)) then (laws_FnSummed.j3 kj84 l1) else (some false))) else (some false)) else (some false)) else (some false)))) = some r := H
            have A89 := Aside0.mk A890
            clear A890
            replace H := Option.bind_eq_some_iff.mp H
            obtain ⟨⟨t363, t364⟩, A900, H⟩ := H
            replace H : ((impl_EstimateOf.f kj84 t331 t334 t351).bind fun bt365 => (if t362 = true then (if t364 = true then (if bt365.2 = true then (if bt365.1 < (wrap64 (t361 + t363)) then (some false) else (if t334 = (wrap64 (t324 + t328)) then (laws_FnSummed.j3 kj84 l1) else (some false))) else (some false)) else (some false)) else (some false))) = some r := H
            have A90 := Aside0.mk A900
            clear A900
            replace H := Option.bind_eq_some_iff.mp H
            obtain ⟨⟨t365, t366⟩, A910, H⟩ := H
            replace H : (if t362 = true then (if t364 = true then (if t366 = true then (if t365 < (wrap64 (t361 + t363)) then (some false) else (if t334 = (wrap64 (t324 + t328)) then (laws_FnSummed.j3 kj84 l1) else (some false))) else (some false)) else (some false)) else (some false)) = some r := H
            have A91 := Aside0.mk A910
            clear A910
            by_cases c92 : t362 = true
            ·subst c92
             have H1 : (if t364 = true then (if t366 = true then (if t365 < (wrap64 (t361 + t363)) then (some false) else (if t334 = (wrap64 (t324 + t328)) then (laws_FnSummed.j3 kj84 l1) else (some false))) else (some false)) else (some false)) = some r := by rw [if_pos rfl] at H; exact H
             clear H
             have H := H1
             clear H1
             by_cases c93 : t364 = true
             ·subst c93
              have H1 : (if t366 = true then (if t365 < (wrap64 (t361 + t363)) then (some false) else (if t334 = (wrap64 (t324 + t328)) then (laws_FnSummed.j3 kj84 l1) else (some false))) else (some false)) = some r := by rw [if_pos rfl] at H; exact H
              clear H
              have H := H1
              clear H1
              by_cases c94 : t366 = true
              ·subst c94
               have H1 : (if t365 < (wrap64 (t361 + t363)) then (some false) else (if t334 = (wrap64 (t324 + t328)) then (laws_FnSummed.j3 kj84 l1) else (some false))) = some r := by rw [if_pos rfl] at H; exact H
               clear H
               have H := H1
               clear H1
               by_cases c95 : t365 < (wrap64 (t361 + t363))
               ·rw [if_pos c95] at H
                have c95b0 : decide (t365 < (wrap64 (t361 + t363))) = true := decide_eq_true c95
                clear c95
                (first | rw [c95b0] | (simp only [i64_w, i32_w]; rw [c95b0]) | skip)
                obtain rfl := Option.some.inj H
                have hnb96 := NB329_330.out
                have hnc96 := NB330_329.out
                have hnb97 := NB329_336.out
                have hnc97 := NB336_329.out
                have hnb98 := NB329_342.out
                have hnc98 := NB342_329.out
                have hnb99 := NB329_348.out
                have hnc99 := NB348_329.out
                have hcz100_0 : wc.cell? ⟨gb329, 0, none⟩ = some (.slice Ao12 t321.length co12) := xk_ BK329 0
                have hcz100_1 : wc.cell? ⟨gb329, 1, none⟩ = some (.int .i64 t324) := xk_ BK329 1
                have hfz100_0 := blk_frozen BK329.out 0
                have hfz100_1 := blk_frozen BK329.out 1
                go_wp2_with (first | ((with_reducible refine gate_callee (f := 11) rfl ?_); refine xgl_ (some 106) Try.func11 #[.agg #[.slice Ao12 t321.length co12, .int .i64 t324], .string t351] ?_; (with_reducible refine (impl_EstimateOf.calls kj84 _ _ t321 t324 t351 t361 true _ ?side1 ?side2 A89.out).mono ?_); (case side1 => exact xc_ ((Kd.Q_reads' HO_330000.out).2.2)); (case side2 => exact (Kd.Q_reads' HO_330000.out).2.1); rintro e w101 ⟨rfl, hb⟩; refine ⟨_, rfl, ?_⟩; replace HO_330000 := xqb_ HO_330000 hb; replace HO_331000 := xqb_ HO_331000 hb; replace HO_337000 := xqb_ HO_337000 hb; replace HO_343000 := xqb_ HO_343000 hb; replace HO_349000 := xqb_ HO_349000 hb; replace BK329 := xbb_ BK329 hb; replace BK330 := xbb_ BK330 hb; replace BK336 := xbb_ BK336 hb; replace BK342 := xbb_ BK342 hb; replace BK348 := xbb_ BK348 hb; replace HB := xws_ HB hb; (try clear hb); (try clear hb2); (try clear hk); (try clear hi); have hnb102 := NB330_336.out; have hnc102 := NB336_330.out; have hnb103 := NB330_342.out; have hnc103 := NB342_330.out; have hnb104 := NB330_348.out; have hnc104 := NB348_330.out; have hcz105_0 : w101.cell? ⟨gb330, 0, none⟩ = some (.slice Ao15 t325.length co15) := xk_ BK330 0; have hcz105_1 : w101.cell? ⟨gb330, 1, none⟩ = some (.int .i64 t328) := xk_ BK330 1; have hfz105_0 := blk_frozen BK330.out 0; have hfz105_1 := blk_frozen BK330.out 1) | ((with_reducible refine gate_callee (f := 11) rfl ?_); refine xgl_ (some 112) Try.func11 #[.agg #[.slice Ao15 t325.length co15, .int .i64 t328], .string t351] ?_; (with_reducible refine (impl_EstimateOf.calls kj84 _ _ t325 t328 t351 t363 true _ ?side1 ?side2 A90.out).mono ?_); (case side1 => exact xc_ ((Kd.Q_reads' HO_331000.out).2.2)); (case side2 => exact (Kd.Q_reads' HO_331000.out).2.1); rintro e w106 ⟨rfl, hb⟩; refine ⟨_, rfl, ?_⟩; replace HO_330000 := xqb_ HO_330000 hb; replace HO_331000 := xqb_ HO_331000 hb; replace HO_337000 := xqb_ HO_337000 hb; replace HO_343000 := xqb_ HO_343000 hb; replace HO_349000 := xqb_ HO_349000 hb; replace BK329 := xbb_ BK329 hb; replace BK330 := xbb_ BK330 hb; replace BK336 := xbb_ BK336 hb; replace BK342 := xbb_ BK342 hb; replace BK348 := xbb_ BK348 hb; replace HB := xws_ HB hb; (try clear hb); (try clear hb2); (try clear hk); (try clear hi); have hnb107 := NB336_342.out; have hnc107 := NB342_336.out; have hnb108 := NB336_348.out; have hnc108 := NB348_336.out; have hcz109_0 : w106.cell? ⟨gb336, 0, none⟩ = some (.slice Ao19 t331.length co19) := xk_ BK336 0; have hcz109_1 : w106.cell? ⟨gb336, 1, none⟩ = some (.int .i64 t334) := xk_ BK336 1; have hfz109_0 := blk_frozen BK336.out 0; have hfz109_1 := blk_frozen BK336.out 1) | ((with_reducible refine gate_callee (f := 11) rfl ?_); refine xgl_ (some 118) Try.func11 #[.agg #[.slice Ao19 t331.length co19, .int .i64 t334], .string t351] ?_; (with_reducible refine (impl_EstimateOf.calls kj84 _ _ t331 t334 t351 t365 true _ ?side1 ?side2 A91.out).mono ?_); (case side1 => exact xc_ ((Kd.Q_reads' HO_337000.out).2.2)); (case side2 => exact (Kd.Q_reads' HO_337000.out).2.1); rintro e w110 ⟨rfl, hb⟩; refine ⟨_, rfl, ?_⟩; replace HO_330000 := xqb_ HO_330000 hb; replace HO_331000 := xqb_ HO_331000 hb; replace HO_337000 := xqb_ HO_337000 hb; replace HO_343000 := xqb_ HO_343000 hb; replace HO_349000 := xqb_ HO_349000 hb; replace BK329 := xbb_ BK329 hb; replace BK330 := xbb_ BK330 hb; replace BK336 := xbb_ BK336 hb; replace BK342 := xbb_ BK342 hb; replace BK348 := xbb_ BK348 hb; replace HB := xws_ HB hb; (try clear hb); (try clear hb2); (try clear hk); (try clear hi)))
                go_ret
                exact ⟨by first | rfl | (simp [errW_none, errW_some] <;> rfl) | (simp [*, errW_none, errW_some] <;> rfl), xw_ HB⟩
               ·rw [if_neg c95] at H
                have c95b0 : decide (t365 < (wrap64 (t361 + t363))) = false := decide_eq_false c95
                clear c95
                (first | rw [c95b0] | (simp only [i64_w, i32_w]; rw [c95b0]) | skip)
                by_cases c111 : t334 = (wrap64 (t324 + t328))
                ·rw [if_pos c111] at H
                 have c111b0 : (t334 == (wrap64 (t324 + t328))) = true := beq_iff_eq.mpr c111
                 have c111b1 : (t334 != (wrap64 (t324 + t328))) = false := bne_eq_false_iff_eq.mpr c111
                 clear c111
                 have H' := Aside0.mk H
                 clear H
                 have hnb112 := NB329_330.out
                 have hnc112 := NB330_329.out
                 have hnb113 := NB329_336.out
                 have hnc113 := NB336_329.out
                 have hnb114 := NB329_342.out
                 have hnc114 := NB342_329.out
                 have hnb115 := NB329_348.out
                 have hnc115 := NB348_329.out
                 have hcz116_0 : wc.cell? ⟨gb329, 0, none⟩ = some (.slice Ao12 t321.length co12) := xk_ BK329 0
                 have hcz116_1 : wc.cell? ⟨gb329, 1, none⟩ = some (.int .i64 t324) := xk_ BK329 1
                 have hfz116_0 := blk_frozen BK329.out 0
                 have hfz116_1 := blk_frozen BK329.out 1
                 go_wp2_with (first | ((with_reducible refine gate_callee (f := 11) rfl ?_); refine xgl_ (some 106) Try.func11 #[.agg #[.slice Ao12 t321.length co12, .int .i64 t324], .string t351] ?_; (with_reducible refine (impl_EstimateOf.calls kj84 _ _ t321 t324 t351 t361 true _ ?side1 ?side2 A89.out).mono ?_); (case side1 => exact xc_ ((Kd.Q_reads' HO_330000.out).2.2)); (case side2 => exact (Kd.Q_reads' HO_330000.out).2.1); rintro e w117 ⟨rfl, hb⟩; refine ⟨_, rfl, ?_⟩; replace HO_330000 := xqb_ HO_330000 hb; replace HO_331000 := xqb_ HO_331000 hb; replace HO_337000 := xqb_ HO_337000 hb; replace HO_343000 := xqb_ HO_343000 hb; replace HO_349000 := xqb_ HO_349000 hb; replace BK329 := xbb_ BK329 hb; replace BK330 := xbb_ BK330 hb; replace BK336 := xbb_ BK336 hb; replace BK342 := xbb_ BK342 hb; replace BK348 := xbb_ BK348 hb; replace HB := xws_ HB hb; (try clear hb); (try clear hb2); (try clear hk); (try clear hi); have hnb118 := NB330_336.out; have hnc118 := NB336_330.out; have hnb119 := NB330_342.out; have hnc119 := NB342_330.out; have hnb120 := NB330_348.out; have hnc120 := NB348_330.out; have hcz121_0 : w117.cell? ⟨gb330, 0, none⟩ = some (.slice Ao15 t325.length co15) := xk_ BK330 0; have hcz121_1 : w117.cell? ⟨gb330, 1, none⟩ = some (.int .i64 t328) := xk_ BK330 1; have hfz121_0 := blk_frozen BK330.out 0; have hfz121_1 := blk_frozen BK330.out 1) | ((with_reducible refine gate_callee (f := 11) rfl ?_); refine xgl_ (some 112) Try.func11 #[.agg #[.slice Ao15 t325.length co15, .int .i64 t328], .string t351] ?_; (with_reducible refine (impl_EstimateOf.calls kj84 _ _ t325 t328 t351 t363 true _ ?side1 ?side2 A90.out).mono ?_); (case side1 => exact xc_ ((Kd.Q_reads' HO_331000.out).2.2)); (case side2 => exact (Kd.Q_reads' HO_331000.out).2.1); rintro e w122 ⟨rfl, hb⟩; refine ⟨_, rfl, ?_⟩; replace HO_330000 := xqb_ HO_330000 hb; replace HO_331000 := xqb_ HO_331000 hb; replace HO_337000 := xqb_ HO_337000 hb; replace HO_343000 := xqb_ HO_343000 hb; replace HO_349000 := xqb_ HO_349000 hb; replace BK329 := xbb_ BK329 hb; replace BK330 := xbb_ BK330 hb; replace BK336 := xbb_ BK336 hb; replace BK342 := xbb_ BK342 hb; replace BK348 := xbb_ BK348 hb; replace HB := xws_ HB hb; (try clear hb); (try clear hb2); (try clear hk); (try clear hi); have hnb123 := NB336_342.out; have hnc123 := NB342_336.out; have hnb124 := NB336_348.out; have hnc124 := NB348_336.out; have hcz125_0 : w122.cell? ⟨gb336, 0, none⟩ = some (.slice Ao19 t331.length co19) := xk_ BK336 0; have hcz125_1 : w122.cell? ⟨gb336, 1, none⟩ = some (.int .i64 t334) := xk_ BK336 1; have hfz125_0 := blk_frozen BK336.out 0; have hfz125_1 := blk_frozen BK336.out 1) | ((with_reducible refine gate_callee (f := 11) rfl ?_); refine xgl_ (some 118) Try.func11 #[.agg #[.slice Ao19 t331.length co19, .int .i64 t334], .string t351] ?_; (with_reducible refine (impl_EstimateOf.calls kj84 _ _ t331 t334 t351 t365 true _ ?side1 ?side2 A91.out).mono ?_); (case side1 => exact xc_ ((Kd.Q_reads' HO_337000.out).2.2)); (case side2 => exact (Kd.Q_reads' HO_337000.out).2.1); rintro e w126 ⟨rfl, hb⟩; refine ⟨_, rfl, ?_⟩; replace HO_330000 := xqb_ HO_330000 hb; replace HO_331000 := xqb_ HO_331000 hb; replace HO_337000 := xqb_ HO_337000 hb; replace HO_343000 := xqb_ HO_343000 hb; replace HO_349000 := xqb_ HO_349000 hb; replace BK329 := xbb_ BK329 hb; replace BK330 := xbb_ BK330 hb; replace BK336 := xbb_ BK336 hb; replace BK342 := xbb_ BK342 hb; replace BK348 := xbb_ BK348 hb; replace HB := xws_ HB hb; (try clear hb); (try clear hb2); (try clear hk); (try clear hi); have hcz127_0 : w126.cell? ⟨gb336, 0, none⟩ = some (.slice Ao19 t331.length co19) := xk_ BK336 0; have hcz127_1 : w126.cell? ⟨gb336, 1, none⟩ = some (.int .i64 t334) := xk_ BK336 1; have hfz127_0 := blk_frozen BK336.out 0; have hfz127_1 := blk_frozen BK336.out 1; have hcz128_0 : w126.cell? ⟨gb329, 0, none⟩ = some (.slice Ao12 t321.length co12) := xk_ BK329 0; have hcz128_1 : w126.cell? ⟨gb329, 1, none⟩ = some (.int .i64 t324) := xk_ BK329 1; have hfz128_0 := blk_frozen BK329.out 0; have hfz128_1 := blk_frozen BK329.out 1; have hcz129_0 : w126.cell? ⟨gb330, 0, none⟩ = some (.slice Ao15 t325.length co15) := xk_ BK330 0; have hcz129_1 : w126.cell? ⟨gb330, 1, none⟩ = some (.int .i64 t328) := xk_ BK330 1; have hfz129_0 := blk_frozen BK330.out 0; have hfz129_1 := blk_frozen BK330.out 1))
                 go_meet
                 case rel => exact ⟨_, H', ⟨by have := HJ7.out; have := HJ75.out; have := HJ84.out; first | omega | exact Nat.le_refl _⟩, ⟨xq_ HO_330000⟩, ⟨xq_ HO_331000⟩, ⟨xq_ HO_337000⟩, ⟨xq_ HO_343000⟩, ⟨xq_ HO_349000⟩, ⟨xb_ BK329⟩, ⟨xb_ BK330⟩, ⟨xb_ BK336⟩, ⟨xb_ BK342⟩, ⟨xb_ BK348⟩, ⟨xw_ HB⟩⟩
                ·rw [if_neg c111] at H
                 have c111b0 : (t334 == (wrap64 (t324 + t328))) = false := beq_eq_false_iff_ne.mpr c111
                 have c111b1 : (t334 != (wrap64 (t324 + t328))) = true := bne_iff_ne.mpr c111
                 obtain rfl := Option.some.inj H
                 have hnb130 := NB329_330.out
                 have hnc130 := NB330_329.out
                 have hnb131 := NB329_336.out
                 have hnc131 := NB336_329.out
                 have hnb132 := NB329_342.out
                 have hnc132 := NB342_329.out
                 have hnb133 := NB329_348.out
                 have hnc133 := NB348_329.out
                 have hcz134_0 : wc.cell? ⟨gb329, 0, none⟩ = some (.slice Ao12 t321.length co12) := xk_ BK329 0
                 have hcz134_1 : wc.cell? ⟨gb329, 1, none⟩ = some (.int .i64 t324) := xk_ BK329 1
                 have hfz134_0 := blk_frozen BK329.out 0
                 have hfz134_1 := blk_frozen BK329.out 1
                 go_wp2_with (first | ((with_reducible refine gate_callee (f := 11) rfl ?_); refine xgl_ (some 106) Try.func11 #[.agg #[.slice Ao12 t321.length co12, .int .i64 t324], .string t351] ?_; (with_reducible refine (impl_EstimateOf.calls kj84 _ _ t321 t324 t351 t361 true _ ?side1 ?side2 A89.out).mono ?_); (case side1 => exact xc_ ((Kd.Q_reads' HO_330000.out).2.2)); (case side2 => exact (Kd.Q_reads' HO_330000.out).2.1); rintro e w135 ⟨rfl, hb⟩; refine ⟨_, rfl, ?_⟩; replace HO_330000 := xqb_ HO_330000 hb; replace HO_331000 := xqb_ HO_331000 hb; replace HO_337000 := xqb_ HO_337000 hb; replace HO_343000 := xqb_ HO_343000 hb; replace HO_349000 := xqb_ HO_349000 hb; replace BK329 := xbb_ BK329 hb; replace BK330 := xbb_ BK330 hb; replace BK336 := xbb_ BK336 hb; replace BK342 := xbb_ BK342 hb; replace BK348 := xbb_ BK348 hb; replace HB := xws_ HB hb; (try clear hb); (try clear hb2); (try clear hk); (try clear hi); have hnb136 := NB330_336.out; have hnc136 := NB336_330.out; have hnb137 := NB330_342.out; have hnc137 := NB342_330.out; have hnb138 := NB330_348.out; have hnc138 := NB348_330.out; have hcz139_0 : w135.cell? ⟨gb330, 0, none⟩ = some (.slice Ao15 t325.length co15) := xk_ BK330 0; have hcz139_1 : w135.cell? ⟨gb330, 1, none⟩ = some (.int .i64 t328) := xk_ BK330 1; have hfz139_0 := blk_frozen BK330.out 0; have hfz139_1 := blk_frozen BK330.out 1) | ((with_reducible refine gate_callee (f := 11) rfl ?_); refine xgl_ (some 112) Try.func11 #[.agg #[.slice Ao15 t325.length co15, .int .i64 t328], .string t351] ?_; (with_reducible refine (impl_EstimateOf.calls kj84 _ _ t325 t328 t351 t363 true _ ?side1 ?side2 A90.out).mono ?_); (case side1 => exact xc_ ((Kd.Q_reads' HO_331000.out).2.2)); (case side2 => exact (Kd.Q_reads' HO_331000.out).2.1); rintro e w140 ⟨rfl, hb⟩; refine ⟨_, rfl, ?_⟩; replace HO_330000 := xqb_ HO_330000 hb; replace HO_331000 := xqb_ HO_331000 hb; replace HO_337000 := xqb_ HO_337000 hb; replace HO_343000 := xqb_ HO_343000 hb; replace HO_349000 := xqb_ HO_349000 hb; replace BK329 := xbb_ BK329 hb; replace BK330 := xbb_ BK330 hb; replace BK336 := xbb_ BK336 hb; replace BK342 := xbb_ BK342 hb; replace BK348 := xbb_ BK348 hb; replace HB := xws_ HB hb; (try clear hb); (try clear hb2); (try clear hk); (try clear hi); have hnb141 := NB336_342.out; have hnc141 := NB342_336.out; have hnb142 := NB336_348.out; have hnc142 := NB348_336.out; have hcz143_0 : w140.cell? ⟨gb336, 0, none⟩ = some (.slice Ao19 t331.length co19) := xk_ BK336 0; have hcz143_1 : w140.cell? ⟨gb336, 1, none⟩ = some (.int .i64 t334) := xk_ BK336 1; have hfz143_0 := blk_frozen BK336.out 0; have hfz143_1 := blk_frozen BK336.out 1) | ((with_reducible refine gate_callee (f := 11) rfl ?_); refine xgl_ (some 118) Try.func11 #[.agg #[.slice Ao19 t331.length co19, .int .i64 t334], .string t351] ?_; (with_reducible refine (impl_EstimateOf.calls kj84 _ _ t331 t334 t351 t365 true _ ?side1 ?side2 A91.out).mono ?_); (case side1 => exact xc_ ((Kd.Q_reads' HO_337000.out).2.2)); (case side2 => exact (Kd.Q_reads' HO_337000.out).2.1); rintro e w144 ⟨rfl, hb⟩; refine ⟨_, rfl, ?_⟩; replace HO_330000 := xqb_ HO_330000 hb; replace HO_331000 := xqb_ HO_331000 hb; replace HO_337000 := xqb_ HO_337000 hb; replace HO_343000 := xqb_ HO_343000 hb; replace HO_349000 := xqb_ HO_349000 hb; replace BK329 := xbb_ BK329 hb; replace BK330 := xbb_ BK330 hb; replace BK336 := xbb_ BK336 hb; replace BK342 := xbb_ BK342 hb; replace BK348 := xbb_ BK348 hb; replace HB := xws_ HB hb; (try clear hb); (try clear hb2); (try clear hk); (try clear hi); have hcz145_0 : w144.cell? ⟨gb336, 0, none⟩ = some (.slice Ao19 t331.length co19) := xk_ BK336 0; have hcz145_1 : w144.cell? ⟨gb336, 1, none⟩ = some (.int .i64 t334) := xk_ BK336 1; have hfz145_0 := blk_frozen BK336.out 0; have hfz145_1 := blk_frozen BK336.out 1; have hcz146_0 : w144.cell? ⟨gb329, 0, none⟩ = some (.slice Ao12 t321.length co12) := xk_ BK329 0; have hcz146_1 : w144.cell? ⟨gb329, 1, none⟩ = some (.int .i64 t324) := xk_ BK329 1; have hfz146_0 := blk_frozen BK329.out 0; have hfz146_1 := blk_frozen BK329.out 1; have hcz147_0 : w144.cell? ⟨gb330, 0, none⟩ = some (.slice Ao15 t325.length co15) := xk_ BK330 0; have hcz147_1 : w144.cell? ⟨gb330, 1, none⟩ = some (.int .i64 t328) := xk_ BK330 1; have hfz147_0 := blk_frozen BK330.out 0; have hfz147_1 := blk_frozen BK330.out 1))
                 go_ret
                 exact ⟨by first | rfl | (simp [errW_none, errW_some] <;> rfl) | (simp [*, errW_none, errW_some] <;> rfl), xw_ HB⟩
              ·replace c94 := Bool.eq_false_iff.mpr c94
               subst c94
               have H1 : (some false) = some r := by rw [if_neg (show ¬ (false = true) by decide)] at H; exact H
               clear H
               have H := H1
               clear H1
               obtain rfl := Option.some.inj H
               have hnb148 := NB329_330.out
               have hnc148 := NB330_329.out
               have hnb149 := NB329_336.out
               have hnc149 := NB336_329.out
               have hnb150 := NB329_342.out
               have hnc150 := NB342_329.out
               have hnb151 := NB329_348.out
               have hnc151 := NB348_329.out
               have hcz152_0 : wc.cell? ⟨gb329, 0, none⟩ = some (.slice Ao12 t321.length co12) := xk_ BK329 0
               have hcz152_1 : wc.cell? ⟨gb329, 1, none⟩ = some (.int .i64 t324) := xk_ BK329 1
               have hfz152_0 := blk_frozen BK329.out 0
               have hfz152_1 := blk_frozen BK329.out 1
               go_wp2_with (first | ((with_reducible refine gate_callee (f := 11) rfl ?_); refine xgl_ (some 106) Try.func11 #[.agg #[.slice Ao12 t321.length co12, .int .i64 t324], .string t351] ?_; (with_reducible refine (impl_EstimateOf.calls kj84 _ _ t321 t324 t351 t361 true _ ?side1 ?side2 A89.out).mono ?_); (case side1 => exact xc_ ((Kd.Q_reads' HO_330000.out).2.2)); (case side2 => exact (Kd.Q_reads' HO_330000.out).2.1); rintro e w153 ⟨rfl, hb⟩; refine ⟨_, rfl, ?_⟩; replace HO_330000 := xqb_ HO_330000 hb; replace HO_331000 := xqb_ HO_331000 hb; replace HO_337000 := xqb_ HO_337000 hb; replace HO_343000 := xqb_ HO_343000 hb; replace HO_349000 := xqb_ HO_349000 hb; replace BK329 := xbb_ BK329 hb; replace BK330 := xbb_ BK330 hb; replace BK336 := xbb_ BK336 hb; replace BK342 := xbb_ BK342 hb; replace BK348 := xbb_ BK348 hb; replace HB := xws_ HB hb; (try clear hb); (try clear hb2); (try clear hk); (try clear hi); have hnb154 := NB330_336.out; have hnc154 := NB336_330.out; have hnb155 := NB330_342.out; have hnc155 := NB342_330.out; have hnb156 := NB330_348.out; have hnc156 := NB348_330.out; have hcz157_0 : w153.cell? ⟨gb330, 0, none⟩ = some (.slice Ao15 t325.length co15) := xk_ BK330 0; have hcz157_1 : w153.cell? ⟨gb330, 1, none⟩ = some (.int .i64 t328) := xk_ BK330 1; have hfz157_0 := blk_frozen BK330.out 0; have hfz157_1 := blk_frozen BK330.out 1) | ((with_reducible refine gate_callee (f := 11) rfl ?_); refine xgl_ (some 112) Try.func11 #[.agg #[.slice Ao15 t325.length co15, .int .i64 t328], .string t351] ?_; (with_reducible refine (impl_EstimateOf.calls kj84 _ _ t325 t328 t351 t363 true _ ?side1 ?side2 A90.out).mono ?_); (case side1 => exact xc_ ((Kd.Q_reads' HO_331000.out).2.2)); (case side2 => exact (Kd.Q_reads' HO_331000.out).2.1); rintro e w158 ⟨rfl, hb⟩; refine ⟨_, rfl, ?_⟩; replace HO_330000 := xqb_ HO_330000 hb; replace HO_331000 := xqb_ HO_331000 hb; replace HO_337000 := xqb_ HO_337000 hb; replace HO_343000 := xqb_ HO_343000 hb; replace HO_349000 := xqb_ HO_349000 hb; replace BK329 := xbb_ BK329 hb; replace BK330 := xbb_ BK330 hb; replace BK336 := xbb_ BK336 hb; replace BK342 := xbb_ BK342 hb; replace BK348 := xbb_ BK348 hb; replace HB := xws_ HB hb; (try clear hb); (try clear hb2); (try clear hk); (try clear hi); have hnb159 := NB336_342.out; have hnc159 := NB342_336.out; have hnb160 := NB336_348.out; have hnc160 := NB348_336.out; have hcz161_0 : w158.cell? ⟨gb336, 0, none⟩ = some (.slice Ao19 t331.length co19) := xk_ BK336 0; have hcz161_1 : w158.cell? ⟨gb336, 1, none⟩ = some (.int .i64 t334) := xk_ BK336 1; have hfz161_0 := blk_frozen BK336.out 0; have hfz161_1 := blk_frozen BK336.out 1) | ((with_reducible refine gate_callee (f := 11) rfl ?_); refine xgl_ (some 118) Try.func11 #[.agg #[.slice Ao19 t331.length co19, .int .i64 t334], .string t351] ?_; (with_reducible refine (impl_EstimateOf.calls kj84 _ _ t331 t334 t351 t365 false _ ?side1 ?side2 A91.out).mono ?_); (case side1 => exact xc_ ((Kd.Q_reads' HO_337000.out).2.2)); (case side2 => exact (Kd.Q_reads' HO_337000.out).2.1); rintro e w162 ⟨rfl, hb⟩; refine ⟨_, rfl, ?_⟩; replace HO_330000 := xqb_ HO_330000 hb; replace HO_331000 := xqb_ HO_331000 hb; replace HO_337000 := xqb_ HO_337000 hb; replace HO_343000 := xqb_ HO_343000 hb; replace HO_349000 := xqb_ HO_349000 hb; replace BK329 := xbb_ BK329 hb; replace BK330 := xbb_ BK330 hb; replace BK336 := xbb_ BK336 hb; replace BK342 := xbb_ BK342 hb; replace BK348 := xbb_ BK348 hb; replace HB := xws_ HB hb; (try clear hb); (try clear hb2); (try clear hk); (try clear hi)))
               go_ret
               exact ⟨by first | rfl | (simp [errW_none, errW_some] <;> rfl) | (simp [*, errW_none, errW_some] <;> rfl), xw_ HB⟩
             ·replace c93 := Bool.eq_false_iff.mpr c93
              subst c93
              have H1 : (some false) = some r := by rw [if_neg (show ¬ (false = true) by decide)] at H; exact H
              clear H
              have H := H1
              clear H1
              obtain rfl := Option.some.inj H
              have hnb163 := NB329_330.out
              have hnc163 := NB330_329.out
              have hnb164 := NB329_336.out
              have hnc164 := NB336_329.out
              have hnb165 := NB329_342.out
              have hnc165 := NB342_329.out
              have hnb166 := NB329_348.out
              have hnc166 := NB348_329.out
              have hcz167_0 : wc.cell? ⟨gb329, 0, none⟩ = some (.slice Ao12 t321.length co12) := xk_ BK329 0
              have hcz167_1 : wc.cell? ⟨gb329, 1, none⟩ = some (.int .i64 t324) := xk_ BK329 1
              have hfz167_0 := blk_frozen BK329.out 0
              have hfz167_1 := blk_frozen BK329.out 1
              go_wp2_with (first | ((with_reducible refine gate_callee (f := 11) rfl ?_); refine xgl_ (some 106) Try.func11 #[.agg #[.slice Ao12 t321.length co12, .int .i64 t324], .string t351] ?_; (with_reducible refine (impl_EstimateOf.calls kj84 _ _ t321 t324 t351 t361 true _ ?side1 ?side2 A89.out).mono ?_); (case side1 => exact xc_ ((Kd.Q_reads' HO_330000.out).2.2)); (case side2 => exact (Kd.Q_reads' HO_330000.out).2.1); rintro e w168 ⟨rfl, hb⟩; refine ⟨_, rfl, ?_⟩; replace HO_330000 := xqb_ HO_330000 hb; replace HO_331000 := xqb_ HO_331000 hb; replace HO_337000 := xqb_ HO_337000 hb; replace HO_343000 := xqb_ HO_343000 hb; replace HO_349000 := xqb_ HO_349000 hb; replace BK329 := xbb_ BK329 hb; replace BK330 := xbb_ BK330 hb; replace BK336 := xbb_ BK336 hb; replace BK342 := xbb_ BK342 hb; replace BK348 := xbb_ BK348 hb; replace HB := xws_ HB hb; (try clear hb); (try clear hb2); (try clear hk); (try clear hi); have hnb169 := NB330_336.out; have hnc169 := NB336_330.out; have hnb170 := NB330_342.out; have hnc170 := NB342_330.out; have hnb171 := NB330_348.out; have hnc171 := NB348_330.out; have hcz172_0 : w168.cell? ⟨gb330, 0, none⟩ = some (.slice Ao15 t325.length co15) := xk_ BK330 0; have hcz172_1 : w168.cell? ⟨gb330, 1, none⟩ = some (.int .i64 t328) := xk_ BK330 1; have hfz172_0 := blk_frozen BK330.out 0; have hfz172_1 := blk_frozen BK330.out 1) | ((with_reducible refine gate_callee (f := 11) rfl ?_); refine xgl_ (some 112) Try.func11 #[.agg #[.slice Ao15 t325.length co15, .int .i64 t328], .string t351] ?_; (with_reducible refine (impl_EstimateOf.calls kj84 _ _ t325 t328 t351 t363 false _ ?side1 ?side2 A90.out).mono ?_); (case side1 => exact xc_ ((Kd.Q_reads' HO_331000.out).2.2)); (case side2 => exact (Kd.Q_reads' HO_331000.out).2.1); rintro e w173 ⟨rfl, hb⟩; refine ⟨_, rfl, ?_⟩; replace HO_330000 := xqb_ HO_330000 hb; replace HO_331000 := xqb_ HO_331000 hb; replace HO_337000 := xqb_ HO_337000 hb; replace HO_343000 := xqb_ HO_343000 hb; replace HO_349000 := xqb_ HO_349000 hb; replace BK329 := xbb_ BK329 hb; replace BK330 := xbb_ BK330 hb; replace BK336 := xbb_ BK336 hb; replace BK342 := xbb_ BK342 hb; replace BK348 := xbb_ BK348 hb; replace HB := xws_ HB hb; (try clear hb); (try clear hb2); (try clear hk); (try clear hi); have hnb174 := NB336_342.out; have hnc174 := NB342_336.out; have hnb175 := NB336_348.out; have hnc175 := NB348_336.out; have hcz176_0 : w173.cell? ⟨gb336, 0, none⟩ = some (.slice Ao19 t331.length co19) := xk_ BK336 0; have hcz176_1 : w173.cell? ⟨gb336, 1, none⟩ = some (.int .i64 t334) := xk_ BK336 1; have hfz176_0 := blk_frozen BK336.out 0; have hfz176_1 := blk_frozen BK336.out 1) | ((with_reducible refine gate_callee (f := 11) rfl ?_); refine xgl_ (some 118) Try.func11 #[.agg #[.slice Ao19 t331.length co19, .int .i64 t334], .string t351] ?_; (with_reducible refine (impl_EstimateOf.calls kj84 _ _ t331 t334 t351 t365 t366 _ ?side1 ?side2 A91.out).mono ?_); (case side1 => exact xc_ ((Kd.Q_reads' HO_337000.out).2.2)); (case side2 => exact (Kd.Q_reads' HO_337000.out).2.1); rintro e w177 ⟨rfl, hb⟩; refine ⟨_, rfl, ?_⟩; replace HO_330000 := xqb_ HO_330000 hb; replace HO_331000 := xqb_ HO_331000 hb; replace HO_337000 := xqb_ HO_337000 hb; replace HO_343000 := xqb_ HO_343000 hb; replace HO_349000 := xqb_ HO_349000 hb; replace BK329 := xbb_ BK329 hb; replace BK330 := xbb_ BK330 hb; replace BK336 := xbb_ BK336 hb; replace BK342 := xbb_ BK342 hb; replace BK348 := xbb_ BK348 hb; replace HB := xws_ HB hb; (try clear hb); (try clear hb2); (try clear hk); (try clear hi)))
              go_ret
              exact ⟨by first | rfl | (simp [errW_none, errW_some] <;> rfl) | (simp [*, errW_none, errW_some] <;> rfl), xw_ HB⟩
            ·replace c92 := Bool.eq_false_iff.mpr c92
             subst c92
             have H1 : (some false) = some r := by rw [if_neg (show ¬ (false = true) by decide)] at H; exact H
             clear H
             have H := H1
             clear H1
             obtain rfl := Option.some.inj H
             have hnb178 := NB329_330.out
             have hnc178 := NB330_329.out
             have hnb179 := NB329_336.out
             have hnc179 := NB336_329.out
             have hnb180 := NB329_342.out
             have hnc180 := NB342_329.out
             have hnb181 := NB329_348.out
             have hnc181 := NB348_329.out
             have hcz182_0 : wc.cell? ⟨gb329, 0, none⟩ = some (.slice Ao12 t321.length co12) := xk_ BK329 0
             have hcz182_1 : wc.cell? ⟨gb329, 1, none⟩ = some (.int .i64 t324) := xk_ BK329 1
             have hfz182_0 := blk_frozen BK329.out 0
             have hfz182_1 := blk_frozen BK329.out 1
             go_wp2_with (first | ((with_reducible refine gate_callee (f := 11) rfl ?_); refine xgl_ (some 106) Try.func11 #[.agg #[.slice Ao12 t321.length co12, .int .i64 t324], .string t351] ?_; (with_reducible refine (impl_EstimateOf.calls kj84 _ _ t321 t324 t351 t361 false _ ?side1 ?side2 A89.out).mono ?_); (case side1 => exact xc_ ((Kd.Q_reads' HO_330000.out).2.2)); (case side2 => exact (Kd.Q_reads' HO_330000.out).2.1); rintro e w183 ⟨rfl, hb⟩; refine ⟨_, rfl, ?_⟩; replace HO_330000 := xqb_ HO_330000 hb; replace HO_331000 := xqb_ HO_331000 hb; replace HO_337000 := xqb_ HO_337000 hb; replace HO_343000 := xqb_ HO_343000 hb; replace HO_349000 := xqb_ HO_349000 hb; replace BK329 := xbb_ BK329 hb; replace BK330 := xbb_ BK330 hb; replace BK336 := xbb_ BK336 hb; replace BK342 := xbb_ BK342 hb; replace BK348 := xbb_ BK348 hb; replace HB := xws_ HB hb; (try clear hb); (try clear hb2); (try clear hk); (try clear hi); have hnb184 := NB330_336.out; have hnc184 := NB336_330.out; have hnb185 := NB330_342.out; have hnc185 := NB342_330.out; have hnb186 := NB330_348.out; have hnc186 := NB348_330.out; have hcz187_0 : w183.cell? ⟨gb330, 0, none⟩ = some (.slice Ao15 t325.length co15) := xk_ BK330 0; have hcz187_1 : w183.cell? ⟨gb330, 1, none⟩ = some (.int .i64 t328) := xk_ BK330 1; have hfz187_0 := blk_frozen BK330.out 0; have hfz187_1 := blk_frozen BK330.out 1) | ((with_reducible refine gate_callee (f := 11) rfl ?_); refine xgl_ (some 112) Try.func11 #[.agg #[.slice Ao15 t325.length co15, .int .i64 t328], .string t351] ?_; (with_reducible refine (impl_EstimateOf.calls kj84 _ _ t325 t328 t351 t363 t364 _ ?side1 ?side2 A90.out).mono ?_); (case side1 => exact xc_ ((Kd.Q_reads' HO_331000.out).2.2)); (case side2 => exact (Kd.Q_reads' HO_331000.out).2.1); rintro e w188 ⟨rfl, hb⟩; refine ⟨_, rfl, ?_⟩; replace HO_330000 := xqb_ HO_330000 hb; replace HO_331000 := xqb_ HO_331000 hb; replace HO_337000 := xqb_ HO_337000 hb; replace HO_343000 := xqb_ HO_343000 hb; replace HO_349000 := xqb_ HO_349000 hb; replace BK329 := xbb_ BK329 hb; replace BK330 := xbb_ BK330 hb; replace BK336 := xbb_ BK336 hb; replace BK342 := xbb_ BK342 hb; replace BK348 := xbb_ BK348 hb; replace HB := xws_ HB hb; (try clear hb); (try clear hb2); (try clear hk); (try clear hi); have hnb189 := NB336_342.out; have hnc189 := NB342_336.out; have hnb190 := NB336_348.out; have hnc190 := NB348_336.out; have hcz191_0 : w188.cell? ⟨gb336, 0, none⟩ = some (.slice Ao19 t331.length co19) := xk_ BK336 0; have hcz191_1 : w188.cell? ⟨gb336, 1, none⟩ = some (.int .i64 t334) := xk_ BK336 1; have hfz191_0 := blk_frozen BK336.out 0; have hfz191_1 := blk_frozen BK336.out 1) | ((with_reducible refine gate_callee (f := 11) rfl ?_); refine xgl_ (some 118) Try.func11 #[.agg #[.slice Ao19 t331.length co19, .int .i64 t334], .string t351] ?_; (with_reducible refine (impl_EstimateOf.calls kj84 _ _ t331 t334 t351 t365 t366 _ ?side1 ?side2 A91.out).mono ?_); (case side1 => exact xc_ ((Kd.Q_reads' HO_337000.out).2.2)); (case side2 => exact (Kd.Q_reads' HO_337000.out).2.1); rintro e w192 ⟨rfl, hb⟩; refine ⟨_, rfl, ?_⟩; replace HO_330000 := xqb_ HO_330000 hb; replace HO_331000 := xqb_ HO_331000 hb; replace HO_337000 := xqb_ HO_337000 hb; replace HO_343000 := xqb_ HO_343000 hb; replace HO_349000 := xqb_ HO_349000 hb; replace BK329 := xbb_ BK329 hb; replace BK330 := xbb_ BK330 hb; replace BK336 := xbb_ BK336 hb; replace BK342 := xbb_ BK342 hb; replace BK348 := xbb_ BK348 hb; replace HB := xws_ HB hb; (try clear hb); (try clear hb2); (try clear hk); (try clear hi)))
             go_ret
             exact ⟨by first | rfl | (simp [errW_none, errW_some] <;> rfl) | (simp [*, errW_none, errW_some] <;> rfl), xw_ HB⟩
           ·replace c88 := Bool.eq_false_iff.mpr c88
            subst c88
            have H1 : (laws_FnSummed.j3 kj84 l1) = some r := by rw [if_neg (show ¬ (false = true) by decide)] at H; exact H
            clear H
            have H := H1
            clear H1
            have H' := Aside0.mk H
            clear H
            go_wp2
            go_meet
            case rel => exact ⟨_, H', ⟨by have := HJ7.out; have := HJ75.out; have := HJ84.out; first | omega | exact Nat.le_refl _⟩, ⟨xq_ HO_330000⟩, ⟨xq_ HO_331000⟩, ⟨xq_ HO_337000⟩, ⟨xq_ HO_343000⟩, ⟨xq_ HO_349000⟩, ⟨xb_ BK329⟩, ⟨xb_ BK330⟩, ⟨xb_ BK336⟩, ⟨xb_ BK342⟩, ⟨xb_ BK348⟩, ⟨xw_ HB⟩⟩
          case rest =>
           clear HC87
           try clear c1
           try clear c2
           try clear p2
           try clear c3
           try clear c3b0
           try clear c4
           try clear c5
           try clear c6
           try clear p6
           try clear c7
           try clear c8
           try clear c9
           try clear c10
           try clear c11
           try clear c12
           try clear c13
           try clear c14
           try clear c15
           try clear c16
           try clear c17
           try clear c18
           try clear c19
           try clear c20
           try clear c21
           try clear c28
           try clear c29
           try clear c30
           try clear c37
           try clear c38
           try clear c39
           try clear c40
           try clear c42
           try clear c42b0
           try clear c42b1
           try clear c42b2
           try clear c43
           try clear c43b0
           try clear c43b1
           try clear c43b2
           try clear c45
           try clear c47
           try clear c48
           try clear c49
           try clear c50
           try clear c52
           try clear c53
           try clear c54
           try clear c57
           try clear c58
           try clear c62
           try clear c63
           try clear c64
           try clear p64
           try clear c65
           try clear c67
           try clear c68
           try clear c69
           try clear c72
           try clear c80
           try clear c80b0
           try clear c80b1
           try clear c80b2
           try clear c84
           try clear c86
           try clear c88
           try clear c92
           try clear c93
           try clear c94
           try clear c95
           try clear c95b0
           try clear c96
           try clear c97
           try clear c98
           try clear c99
           try clear c102
           try clear c103
           try clear c104
           try clear c107
           try clear c108
           try clear c111
           try clear c111b0
           try clear c111b1
           try clear c112
           try clear c113
           try clear c114
           try clear c115
           try clear c118
           try clear c119
           try clear c120
           try clear c123
           try clear c124
           try clear c130
           try clear c131
           try clear c132
           try clear c133
           try clear c136
           try clear c137
           try clear c138
           try clear c141
           try clear c142
           try clear c148
           try clear c149
           try clear c150
           try clear c151
           try clear c154
           try clear c155
           try clear c156
           try clear c159
           try clear c160
           try clear c163
           try clear c164
           try clear c165
           try clear c166
           try clear c169
           try clear c170
           try clear c171
           try clear c174
           try clear c175
           try clear c178
           try clear c179
           try clear c180
           try clear c181
           try clear c184
           try clear c185
           try clear c186
           try clear c189
           try clear c190
           try clear hcz100_0
           try clear hcz100_1
           try clear hcz105_0
           try clear hcz105_1
           try clear hcz109_0
           try clear hcz109_1
           try clear hcz116_0
           try clear hcz116_1
           try clear hcz121_0
           try clear hcz121_1
           try clear hcz125_0
           try clear hcz125_1
           try clear hcz127_0
           try clear hcz127_1
           try clear hcz128_0
           try clear hcz128_1
           try clear hcz129_0
           try clear hcz129_1
           try clear hcz134_0
           try clear hcz134_1
           try clear hcz139_0
           try clear hcz139_1
           try clear hcz143_0
           try clear hcz143_1
           try clear hcz145_0
           try clear hcz145_1
           try clear hcz146_0
           try clear hcz146_1
           try clear hcz147_0
           try clear hcz147_1
           try clear hcz14_0
           try clear hcz14_1
           try clear hcz152_0
           try clear hcz152_1
           try clear hcz157_0
           try clear hcz157_1
           try clear hcz161_0
           try clear hcz161_1
           try clear hcz167_0
           try clear hcz167_1
           try clear hcz16_0
           try clear hcz16_1
           try clear hcz172_0
           try clear hcz172_1
           try clear hcz176_0
           try clear hcz176_1
           try clear hcz182_0
           try clear hcz182_1
           try clear hcz187_0
           try clear hcz187_1
           try clear hcz191_0
           try clear hcz191_1
           try clear hcz22_0
           try clear hcz22_1
           try clear hcz23_0
           try clear hcz23_1
           try clear hcz24_0
           try clear hcz24_1
           try clear hcz31_0
           try clear hcz31_1
           try clear hcz32_0
           try clear hcz32_1
           try clear hcz33_0
           try clear hcz33_1
           try clear hcz41_0
           try clear hcz41_1
           try clear hcz51_0
           try clear hcz51_1
           try clear hcz55_0
           try clear hcz55_1
           try clear hcz59_0
           try clear hcz59_1
           try clear hcz60_0
           try clear hcz60_1
           try clear hcz66_0
           try clear hcz66_1
           try clear hcz70_0
           try clear hcz70_1
           try clear hfz100_0
           try clear hfz100_1
           try clear hfz105_0
           try clear hfz105_1
           try clear hfz109_0
           try clear hfz109_1
           try clear hfz116_0
           try clear hfz116_1
           try clear hfz121_0
           try clear hfz121_1
           try clear hfz125_0
           try clear hfz125_1
           try clear hfz127_0
           try clear hfz127_1
           try clear hfz128_0
           try clear hfz128_1
           try clear hfz129_0
           try clear hfz129_1
           try clear hfz134_0
           try clear hfz134_1
           try clear hfz139_0
           try clear hfz139_1
           try clear hfz143_0
           try clear hfz143_1
           try clear hfz145_0
           try clear hfz145_1
           try clear hfz146_0
           try clear hfz146_1
           try clear hfz147_0
           try clear hfz147_1
           try clear hfz14_0
           try clear hfz14_1
           try clear hfz152_0
           try clear hfz152_1
           try clear hfz157_0
           try clear hfz157_1
           try clear hfz161_0
           try clear hfz161_1
           try clear hfz167_0
           try clear hfz167_1
           try clear hfz16_0
           try clear hfz16_1
           try clear hfz172_0
           try clear hfz172_1
           try clear hfz176_0
           try clear hfz176_1
           try clear hfz182_0
           try clear hfz182_1
           try clear hfz187_0
           try clear hfz187_1
           try clear hfz191_0
           try clear hfz191_1
           try clear hfz22_0
           try clear hfz22_1
           try clear hfz23_0
           try clear hfz23_1
           try clear hfz24_0
           try clear hfz24_1
           try clear hfz31_0
           try clear hfz31_1
           try clear hfz32_0
           try clear hfz32_1
           try clear hfz33_0
           try clear hfz33_1
           try clear hfz41_0
           try clear hfz41_1
           try clear hfz51_0
           try clear hfz51_1
           try clear hfz55_0
           try clear hfz55_1
           try clear hfz59_0
           try clear hfz59_1
           try clear hfz60_0
           try clear hfz60_1
           try clear hfz66_0
           try clear hfz66_1
           try clear hfz70_0
           try clear hfz70_1
           try clear p2
           try clear p6
           try clear p64
           obtain ⟨kq, HA, HJ86, HO_330000, HO_331000, HO_337000, HO_343000, HO_349000, BK329, BK330, BK336, BK342, BK348, HB⟩ := hcut
           cases kq with
           | zero => exact absurd HA.out (by simp [laws_FnSummed.j3])
           | succ kj86 =>
            have H := HA.out
            clear HA
            simp only [laws_FnSummed.j3] at H
            replace H := Option.bind_eq_some_iff.mp H
            obtain ⟨⟨t367, t370⟩, A1930, H⟩ := H
            replace H : ((impl_HalveSketch.f kj86 t367 t370).bind fun bt372 => ((spec_HalveSketch.f kj86 t367 t370).bind fun bt378 => (if (bt372.2.2 != bt378.2.2) = true then (some false) else ((laws_sameSketches.f kj86 bt372.1 bt372.2.1 bt378.1 bt378.2.1).bind fun t384 => (if t384 = true then (if bt372.2.2 = true then (some (decide (bt372.2.1 ≤ (wrap64 (Int.tdiv t370 2))))) else (some true)) else (some false)))))) = some r := H
            have A193 := Aside0.mk A1930
            clear A1930
            replace H := Option.bind_eq_some_iff.mp H
            obtain ⟨⟨t372, t375, t376⟩, A1940, H⟩ := H
            replace H : ((spec_HalveSketch.f kj86 t367 t370).bind fun bt378 => (if (t376 != bt378.2.2) = true then (some false) else ((laws_sameSketches.f kj86 t372 t375 bt378.1 bt378.2.1).bind fun t384 => (if t384 = true then (if t376 = true then (some (decide (t375 ≤ (wrap64 (Int.tdiv t370 2))))) else (some true)) else (some false))))) = some r := H
            have A194 := Aside0.mk A1940
            clear A1940
            replace H := Option.bind_eq_some_iff.mp H
            obtain ⟨⟨t378, t381, t382⟩, A1950, H⟩ := H
            replace H : (if (t376 != t382) = true then (some false) else ((laws_sameSketches.f kj86 t372 t375 t378 t381).bind fun t384 => (if t384 = true then (if t376 = true then (some (decide (t375 ≤ (wrap64 (Int.tdiv t370 2))))) else (some true)) else (some false)))) = some r := H
            have A195 := Aside0.mk A1950
            clear A1950
            by_cases c196 : (t376 != t382) = true
            ·rw [if_pos c196] at H
             have c196b0 : (t376 != t382) = true := c196
             (try (have c196b1 : decide (t376 = t382) = false := by simpa using c196))
             (try (have c196b2 : (t376 == t382) = false := by simpa using c196))
             (try (have c196b3 : ¬ (t376 = t382) := by simpa using c196))
             clear c196
             obtain rfl := Option.some.inj H
             go_wp2_with (first | ((with_reducible refine gate_callee (f := 22) rfl ?_); refine xgl_ (some 149) Try.func22 #[.slice A1 l1.length c1] ?_; (with_reducible refine (spec_DrawHalveSketch.calls kj86 _ _ l1 t367 t370 _ ?side1 ?side2 A193.out).mono ?_); (case side1 => exact xc_ ((Kd.C_below HR1.out HB.out))); (case side2 => exact HC1.out); rintro e w197 ⟨v368, rfl, ho0, hb⟩; refine ⟨_, rfl, ?_⟩; have HO369 := Aside0.mk (Kd.Q_lower (Kd.Q_new' (Kd.Q_new' (Kd.Q_new' (Kd.Q_new' (Kd.Q_new' ho0 (Kd.Q_lt (xq_ HO_330000))) (Kd.Q_lt (xq_ HO_331000))) (Kd.Q_lt (xq_ HO_337000))) (Kd.Q_lt (xq_ HO_343000))) (Kd.Q_lt (xq_ HO_349000))) (below_size (xw_ HB))); replace HO_330000 := xqe_ HO_330000 (Kd.Q_base ho0) hb; replace HO_331000 := xqe_ HO_331000 (Kd.Q_base ho0) hb; replace HO_337000 := xqe_ HO_337000 (Kd.Q_base ho0) hb; replace HO_343000 := xqe_ HO_343000 (Kd.Q_base ho0) hb; replace HO_349000 := xqe_ HO_349000 (Kd.Q_base ho0) hb; replace BK329 := xbb_ BK329 hb; replace BK330 := xbb_ BK330 hb; replace BK336 := xbb_ BK336 hb; replace BK342 := xbb_ BK342 hb; replace BK348 := xbb_ BK348 hb; replace HB := xws_ HB hb; (try clear hb); (try clear hb2); (try clear hk); (try clear hi); (try clear ho0)) | ((with_reducible refine gate_dst (N := 24) rfl ?_); refine xbe_ (N := 24) (cs := #[.slice none 0 0, .int .i64 0]) (t := 25) ?_; intro gb371 hg w198 hbox hb; replace HO_330000 := xqb_ HO_330000 hb; replace HO_331000 := xqb_ HO_331000 hb; replace HO_337000 := xqb_ HO_337000 hb; replace HO_343000 := xqb_ HO_343000 hb; replace HO_349000 := xqb_ HO_349000 hb; replace HO369 := xqb_ HO369 hb; have BK371 := Aside0.mk (hbox); have GW371 := xge_ HB hg; have GE371 := xge_ HB hg; replace HB := xws_ HB hb; have NB329_371 := xlt_ BK329 hg; have NB371_329 := xgt_ BK329 hg; replace BK329 := xbb_ BK329 hb; have NB330_371 := xlt_ BK330 hg; have NB371_330 := xgt_ BK330 hg; replace BK330 := xbb_ BK330 hb; have NB336_371 := xlt_ BK336 hg; have NB371_336 := xgt_ BK336 hg; replace BK336 := xbb_ BK336 hb; have NB342_371 := xlt_ BK342 hg; have NB371_342 := xgt_ BK342 hg; replace BK342 := xbb_ BK342 hb; have NB348_371 := xlt_ BK348 hg; have NB371_348 := xgt_ BK348 hg; replace BK348 := xbb_ BK348 hb; clear hb hbox hg; obtain ⟨Ao199, co199, eo199, _⟩ := Kd.Q_slice HO369.out; subst eo199; have hnb200 := NB371_329.out; have hnc200 := NB329_371.out; have hnb201 := NB371_330.out; have hnc201 := NB330_371.out; have hnb202 := NB371_336.out; have hnc202 := NB336_371.out; have hnb203 := NB371_342.out; have hnc203 := NB342_371.out; have hnb204 := NB371_348.out; have hnc204 := NB348_371.out; have hcz205_0 : w198.cell? ⟨gb371, 0, none⟩ = some (.slice none 0 0) := xk_ BK371 0; have hcz205_1 : w198.cell? ⟨gb371, 1, none⟩ = some (.int .i64 0) := xk_ BK371 1; have hfz205_0 := blk_frozen BK371.out 0; have hfz205_1 := blk_frozen BK371.out 1) | ((with_reducible refine gate_callee (f := 23) rfl ?_); refine xgl_ (some 152) Try.func23 #[.agg #[.slice Ao199 t367.length co199, .int .i64 t370]] ?_; (with_reducible refine (impl_HalveSketch.calls kj86 _ _ t367 t370 t372 t375 t376 _ ?side1 ?side2 A194.out).mono ?_); (case side1 => refine (Kd.Q_reads' (e := 3) (base := w.heap.size) (ok := fun k_ => (((((True ∧ some k_ ≠ (.slice Ao12 t321.length co12 : Value).ownBlock) ∧ some k_ ≠ (.slice Ao15 t325.length co15 : Value).ownBlock) ∧ some k_ ≠ (.slice Ao19 t331.length co19 : Value).ownBlock) ∧ some k_ ≠ (.slice Ao27 t337.length co27 : Value).ownBlock) ∧ some k_ ≠ (.slice Ao36 t343.length co36 : Value).ownBlock)) (n := t367.length) (c := co199) ?_).2.2; exact (xqt_ ((Kd.Q_mono (Kd.Q_far (p := ⟨gb371, 1, none⟩) (Kd.Q_far (p := ⟨gb371, 0, none⟩) (Kd.Q_types HO369.out BK371.out (by decide)) (fun _ hk => hk.2) (.slice Ao199 t367.length co199)) (fun _ hk => hk.2) (.int .i64 t370)) (fun _ h_ => h_.1))))); (case side2 => exact (Kd.Q_reads' HO369.out).2.1); rintro e w206 ⟨v373, rfl, ho0, hb⟩; refine ⟨_, rfl, ?_⟩; have HO374 := Aside0.mk (Kd.R_lower (Kd.R_new' (Kd.R_new' (Kd.R_new' (Kd.R_new' (Kd.R_new' (Kd.R_new' ho0 (Kd.Q_lt (xqt_ ((Kd.Q_mono (Kd.Q_far (p := ⟨gb371, 1, none⟩) (Kd.Q_far (p := ⟨gb371, 0, none⟩) (Kd.Q_types HO_330000.out BK371.out (by decide)) (fun _ hk => hk.2) (.slice Ao199 t367.length co199)) (fun _ hk => hk.2) (.int .i64 t370)) (fun _ h_ => h_.1)))))) (Kd.Q_lt (xqt_ ((Kd.Q_mono (Kd.Q_far (p := ⟨gb371, 1, none⟩) (Kd.Q_far (p := ⟨gb371, 0, none⟩) (Kd.Q_types HO_331000.out BK371.out (by decide)) (fun _ hk => hk.2) (.slice Ao199 t367.length co199)) (fun _ hk => hk.2) (.int .i64 t370)) (fun _ h_ => h_.1)))))) (Kd.Q_lt (xqt_ ((Kd.Q_mono (Kd.Q_far (p := ⟨gb371, 1, none⟩) (Kd.Q_far (p := ⟨gb371, 0, none⟩) (Kd.Q_types HO_337000.out BK371.out (by decide)) (fun _ hk => hk.2) (.slice Ao199 t367.length co199)) (fun _ hk => hk.2) (.int .i64 t370)) (fun _ h_ => h_.1)))))) (Kd.Q_lt (xqt_ ((Kd.Q_mono (Kd.Q_far (p := ⟨gb371, 1, none⟩) (Kd.Q_far (p := ⟨gb371, 0, none⟩) (Kd.Q_types HO_343000.out BK371.out (by decide)) (fun _ hk => hk.2) (.slice Ao199 t367.length co199)) (fun _ hk => hk.2) (.int .i64 t370)) (fun _ h_ => h_.1)))))) (Kd.Q_lt (xqt_ ((Kd.Q_mono (Kd.Q_far (p := ⟨gb371, 1, none⟩) (Kd.Q_far (p := ⟨gb371, 0, none⟩) (Kd.Q_types HO_349000.out BK371.out (by decide)) (fun _ hk => hk.2) (.slice Ao199 t367.length co199)) (fun _ hk => hk.2) (.int .i64 t370)) (fun _ h_ => h_.1)))))) (Kd.Q_lt (xqt_ ((Kd.Q_mono (Kd.Q_far (p := ⟨gb371, 1, none⟩) (Kd.Q_far (p := ⟨gb371, 0, none⟩) (Kd.Q_types HO369.out BK371.out (by decide)) (fun _ hk => hk.2) (.slice Ao199 t367.length co199)) (fun _ hk => hk.2) (.int .i64 t370)) (fun _ h_ => h_.1)))))) (below_size (xw_ HB))); replace HO_330000 := Aside0.mk (Kd.Q_elder' (xqt_ ((Kd.Q_mono (Kd.Q_far (p := ⟨gb371, 1, none⟩) (Kd.Q_far (p := ⟨gb371, 0, none⟩) (Kd.Q_types HO_330000.out BK371.out (by decide)) (fun _ hk => hk.2) (.slice Ao199 t367.length co199)) (fun _ hk => hk.2) (.int .i64 t370)) (fun _ h_ => h_.1)))) (Kd.R_base ho0) hb); replace HO_331000 := Aside0.mk (Kd.Q_elder' (xqt_ ((Kd.Q_mono (Kd.Q_far (p := ⟨gb371, 1, none⟩) (Kd.Q_far (p := ⟨gb371, 0, none⟩) (Kd.Q_types HO_331000.out BK371.out (by decide)) (fun _ hk => hk.2) (.slice Ao199 t367.length co199)) (fun _ hk => hk.2) (.int .i64 t370)) (fun _ h_ => h_.1)))) (Kd.R_base ho0) hb); replace HO_337000 := Aside0.mk (Kd.Q_elder' (xqt_ ((Kd.Q_mono (Kd.Q_far (p := ⟨gb371, 1, none⟩) (Kd.Q_far (p := ⟨gb371, 0, none⟩) (Kd.Q_types HO_337000.out BK371.out (by decide)) (fun _ hk => hk.2) (.slice Ao199 t367.length co199)) (fun _ hk => hk.2) (.int .i64 t370)) (fun _ h_ => h_.1)))) (Kd.R_base ho0) hb); replace HO_343000 := Aside0.mk (Kd.Q_elder' (xqt_ ((Kd.Q_mono (Kd.Q_far (p := ⟨gb371, 1, none⟩) (Kd.Q_far (p := ⟨gb371, 0, none⟩) (Kd.Q_types HO_343000.out BK371.out (by decide)) (fun _ hk => hk.2) (.slice Ao199 t367.length co199)) (fun _ hk => hk.2) (.int .i64 t370)) (fun _ h_ => h_.1)))) (Kd.R_base ho0) hb); replace HO_349000 := Aside0.mk (Kd.Q_elder' (xqt_ ((Kd.Q_mono (Kd.Q_far (p := ⟨gb371, 1, none⟩) (Kd.Q_far (p := ⟨gb371, 0, none⟩) (Kd.Q_types HO_349000.out BK371.out (by decide)) (fun _ hk => hk.2) (.slice Ao199 t367.length co199)) (fun _ hk => hk.2) (.int .i64 t370)) (fun _ h_ => h_.1)))) (Kd.R_base ho0) hb); replace HO369 := Aside0.mk (Kd.Q_elder' (xqt_ ((Kd.Q_mono (Kd.Q_far (p := ⟨gb371, 1, none⟩) (Kd.Q_far (p := ⟨gb371, 0, none⟩) (Kd.Q_types HO369.out BK371.out (by decide)) (fun _ hk => hk.2) (.slice Ao199 t367.length co199)) (fun _ hk => hk.2) (.int .i64 t370)) (fun _ h_ => h_.1)))) (Kd.R_base ho0) hb); replace BK329 := Aside0.mk (blk_below (g := gb329) (o := .cells #[.slice Ao12 t321.length co12, .int .i64 t324] 25 (0, 0)) (by (with_reducible repeat (first | refine blk_drewN ?_ _ | refine blk_drew ?_ | refine blk_alloc ?_ _)); refine blk_far ?_ NB329_371.out _; (with_reducible repeat (first | refine blk_drewN ?_ _ | refine blk_drew ?_ | refine blk_alloc ?_ _)); refine blk_far ?_ NB329_371.out _; (with_reducible repeat (first | refine blk_drewN ?_ _ | refine blk_drew ?_ | refine blk_alloc ?_ _)); exact BK329.out) hb); replace BK330 := Aside0.mk (blk_below (g := gb330) (o := .cells #[.slice Ao15 t325.length co15, .int .i64 t328] 25 (0, 0)) (by (with_reducible repeat (first | refine blk_drewN ?_ _ | refine blk_drew ?_ | refine blk_alloc ?_ _)); refine blk_far ?_ NB330_371.out _; (with_reducible repeat (first | refine blk_drewN ?_ _ | refine blk_drew ?_ | refine blk_alloc ?_ _)); refine blk_far ?_ NB330_371.out _; (with_reducible repeat (first | refine blk_drewN ?_ _ | refine blk_drew ?_ | refine blk_alloc ?_ _)); exact BK330.out) hb); replace BK336 := Aside0.mk (blk_below (g := gb336) (o := .cells #[.slice Ao19 t331.length co19, .int .i64 t334] 25 (0, 0)) (by (with_reducible repeat (first | refine blk_drewN ?_ _ | refine blk_drew ?_ | refine blk_alloc ?_ _)); refine blk_far ?_ NB336_371.out _; (with_reducible repeat (first | refine blk_drewN ?_ _ | refine blk_drew ?_ | refine blk_alloc ?_ _)); refine blk_far ?_ NB336_371.out _; (with_reducible repeat (first | refine blk_drewN ?_ _ | refine blk_drew ?_ | refine blk_alloc ?_ _)); exact BK336.out) hb); replace BK342 := Aside0.mk (blk_below (g := gb342) (o := .cells #[.slice Ao27 t337.length co27, .int .i64 t340] 25 (0, 0)) (by (with_reducible repeat (first | refine blk_drewN ?_ _ | refine blk_drew ?_ | refine blk_alloc ?_ _)); refine blk_far ?_ NB342_371.out _; (with_reducible repeat (first | refine blk_drewN ?_ _ | refine blk_drew ?_ | refine blk_alloc ?_ _)); refine blk_far ?_ NB342_371.out _; (with_reducible repeat (first | refine blk_drewN ?_ _ | refine blk_drew ?_ | refine blk_alloc ?_ _)); exact BK342.out) hb); replace BK348 := Aside0.mk (blk_below (g := gb348) (o := .cells #[.slice Ao36 t343.length co36, .int .i64 t346] 25 (0, 0)) (by (with_reducible repeat (first | refine blk_drewN ?_ _ | refine blk_drew ?_ | refine blk_alloc ?_ _)); refine blk_far ?_ NB348_371.out _; (with_reducible repeat (first | refine blk_drewN ?_ _ | refine blk_drew ?_ | refine blk_alloc ?_ _)); refine blk_far ?_ NB348_371.out _; (with_reducible repeat (first | refine blk_drewN ?_ _ | refine blk_drew ?_ | refine blk_alloc ?_ _)); exact BK348.out) hb); replace BK371 := Aside0.mk (blk_below (g := gb371) (o := .cells #[.slice Ao199 t367.length co199, .int .i64 t370] 25 (0, 0)) (by (with_reducible repeat (first | refine blk_drewN ?_ _ | refine blk_drew ?_ | refine blk_alloc ?_ _)); refine blk_put (cs := #[.slice Ao199 t367.length co199, .int .i64 0]) ?_ 1 _ rfl; (with_reducible repeat (first | refine blk_drewN ?_ _ | refine blk_drew ?_ | refine blk_alloc ?_ _)); refine blk_put (cs := #[.slice none 0 0, .int .i64 0]) ?_ 0 _ rfl; (with_reducible repeat (first | refine blk_drewN ?_ _ | refine blk_drew ?_ | refine blk_alloc ?_ _)); exact BK371.out) hb); replace HB := xws_ HB hb; (try clear hb); (try clear hb2); (try clear hk); (try clear hi); (try clear ho0)) | ((with_reducible refine gate_dst (N := 25) rfl ?_); refine xbe_ (N := 25) (cs := #[.slice none 0 0, .int .i64 0]) (t := 25) ?_; intro gb377 hg w207 hbox hb; replace HO_330000 := xqb_ HO_330000 hb; replace HO_331000 := xqb_ HO_331000 hb; replace HO_337000 := xqb_ HO_337000 hb; replace HO_343000 := xqb_ HO_343000 hb; replace HO_349000 := xqb_ HO_349000 hb; replace HO369 := xqb_ HO369 hb; replace HO374 := xrb_ HO374 hb; have BK377 := Aside0.mk (hbox); have GW377 := xge_ HB hg; have GE377 := xge_ HB hg; replace HB := xws_ HB hb; have NB329_377 := xlt_ BK329 hg; have NB377_329 := xgt_ BK329 hg; replace BK329 := xbb_ BK329 hb; have NB330_377 := xlt_ BK330 hg; have NB377_330 := xgt_ BK330 hg; replace BK330 := xbb_ BK330 hb; have NB336_377 := xlt_ BK336 hg; have NB377_336 := xgt_ BK336 hg; replace BK336 := xbb_ BK336 hb; have NB342_377 := xlt_ BK342 hg; have NB377_342 := xgt_ BK342 hg; replace BK342 := xbb_ BK342 hb; have NB348_377 := xlt_ BK348 hg; have NB377_348 := xgt_ BK348 hg; replace BK348 := xbb_ BK348 hb; have NB371_377 := xlt_ BK371 hg; have NB377_371 := xgt_ BK371 hg; replace BK371 := xbb_ BK371 hb; clear hb hbox hg; obtain ⟨Ao208, co208, eo208⟩ := Kd.R_slice HO374.out; subst eo208; have hnb209 := NB377_329.out; have hnc209 := NB329_377.out; have hnb210 := NB377_330.out; have hnc210 := NB330_377.out; have hnb211 := NB377_336.out; have hnc211 := NB336_377.out; have hnb212 := NB377_342.out; have hnc212 := NB342_377.out; have hnb213 := NB377_348.out; have hnc213 := NB348_377.out; have hnb214 := NB377_371.out; have hnc214 := NB371_377.out; have hcz215_0 : w207.cell? ⟨gb377, 0, none⟩ = some (.slice none 0 0) := xk_ BK377 0; have hcz215_1 : w207.cell? ⟨gb377, 1, none⟩ = some (.int .i64 0) := xk_ BK377 1; have hfz215_0 := blk_frozen BK377.out 0; have hfz215_1 := blk_frozen BK377.out 1; have hcz216_0 : w207.cell? ⟨gb371, 0, none⟩ = some (.slice Ao199 t367.length co199) := xk_ BK371 0; have hcz216_1 : w207.cell? ⟨gb371, 1, none⟩ = some (.int .i64 t370) := xk_ BK371 1; have hfz216_0 := blk_frozen BK371.out 0; have hfz216_1 := blk_frozen BK371.out 1) | ((with_reducible refine gate_callee (f := 24) rfl ?_); refine xgl_ (some 157) Try.func24 #[.agg #[.slice Ao199 t367.length co199, .int .i64 t370]] ?_; (with_reducible refine (spec_HalveSketch.calls kj86 _ _ t367 t370 t378 t381 t382 _ ?side1 ?side2 A195.out).mono ?_); (case side1 => refine (Kd.Q_reads' (e := 3) (base := w.heap.size) (ok := fun k_ => ((((((True ∧ some k_ ≠ (.slice Ao12 t321.length co12 : Value).ownBlock) ∧ some k_ ≠ (.slice Ao15 t325.length co15 : Value).ownBlock) ∧ some k_ ≠ (.slice Ao19 t331.length co19 : Value).ownBlock) ∧ some k_ ≠ (.slice Ao27 t337.length co27 : Value).ownBlock) ∧ some k_ ≠ (.slice Ao36 t343.length co36 : Value).ownBlock) ∧ some k_ ≠ (.slice Ao208 t372.length co208 : Value).ownBlock)) (n := t367.length) (c := co199) ?_).2.2; exact (xqt_ ((Kd.Q_mono (Kd.Q_far (p := ⟨gb377, 1, none⟩) (Kd.Q_far (p := ⟨gb377, 0, none⟩) (Kd.Q_types HO369.out BK377.out (by decide)) (fun _ hk => hk.2) (.slice Ao208 t372.length co208)) (fun _ hk => hk.2) (.int .i64 t375)) (fun _ h_ => h_.1))))); (case side2 => exact (Kd.Q_reads' HO369.out).2.1); rintro e w217 ⟨v379, rfl, ho0, hb⟩; refine ⟨_, rfl, ?_⟩; have HO380 := Aside0.mk (Kd.R_lower (Kd.R_new' (Kd.R_new' (Kd.R_new' (Kd.R_new' (Kd.R_new' (Kd.R_new' (Kd.R_new' ho0 (Kd.Q_lt (xqt_ ((Kd.Q_mono (Kd.Q_far (p := ⟨gb377, 1, none⟩) (Kd.Q_far (p := ⟨gb377, 0, none⟩) (Kd.Q_types HO_330000.out BK377.out (by decide)) (fun _ hk => hk.2) (.slice Ao208 t372.length co208)) (fun _ hk => hk.2) (.int .i64 t375)) (fun _ h_ => h_.1)))))) (Kd.Q_lt (xqt_ ((Kd.Q_mono (Kd.Q_far (p := ⟨gb377, 1, none⟩) (Kd.Q_far (p := ⟨gb377, 0, none⟩) (Kd.Q_types HO_331000.out BK377.out (by decide)) (fun _ hk => hk.2) (.slice Ao208 t372.length co208)) (fun _ hk => hk.2) (.int .i64 t375)) (fun _ h_ => h_.1)))))) (Kd.Q_lt (xqt_ ((Kd.Q_mono (Kd.Q_far (p := ⟨gb377, 1, none⟩) (Kd.Q_far (p := ⟨gb377, 0, none⟩) (Kd.Q_types HO_337000.out BK377.out (by decide)) (fun _ hk => hk.2) (.slice Ao208 t372.length co208)) (fun _ hk => hk.2) (.int .i64 t375)) (fun _ h_ => h_.1)))))) (Kd.Q_lt (xqt_ ((Kd.Q_mono (Kd.Q_far (p := ⟨gb377, 1, none⟩) (Kd.Q_far (p := ⟨gb377, 0, none⟩) (Kd.Q_types HO_343000.out BK377.out (by decide)) (fun _ hk => hk.2) (.slice Ao208 t372.length co208)) (fun _ hk => hk.2) (.int .i64 t375)) (fun _ h_ => h_.1)))))) (Kd.Q_lt (xqt_ ((Kd.Q_mono (Kd.Q_far (p := ⟨gb377, 1, none⟩) (Kd.Q_far (p := ⟨gb377, 0, none⟩) (Kd.Q_types HO_349000.out BK377.out (by decide)) (fun _ hk => hk.2) (.slice Ao208 t372.length co208)) (fun _ hk => hk.2) (.int .i64 t375)) (fun _ h_ => h_.1)))))) (Kd.Q_lt (xqt_ ((Kd.Q_mono (Kd.Q_far (p := ⟨gb377, 1, none⟩) (Kd.Q_far (p := ⟨gb377, 0, none⟩) (Kd.Q_types HO369.out BK377.out (by decide)) (fun _ hk => hk.2) (.slice Ao208 t372.length co208)) (fun _ hk => hk.2) (.int .i64 t375)) (fun _ h_ => h_.1)))))) (Kd.R_lt (xrt_ ((Kd.R_mono (Kd.R_far (p := ⟨gb377, 1, none⟩) (Kd.R_far (p := ⟨gb377, 0, none⟩) (Kd.R_types HO374.out BK377.out (by decide)) (fun _ hk => hk.2) (.slice Ao208 t372.length co208)) (fun _ hk => hk.2) (.int .i64 t375)) (fun _ h_ => h_.1)))))) (below_size (xw_ HB))); replace HO_330000 := Aside0.mk (Kd.Q_elder' (xqt_ ((Kd.Q_mono (Kd.Q_far (p := ⟨gb377, 1, none⟩) (Kd.Q_far (p := ⟨gb377, 0, none⟩) (Kd.Q_types HO_330000.out BK377.out (by decide)) (fun _ hk => hk.2) (.slice Ao208 t372.length co208)) (fun _ hk => hk.2) (.int .i64 t375)) (fun _ h_ => h_.1)))) (Kd.R_base ho0) hb); replace HO_331000 := Aside0.mk (Kd.Q_elder' (xqt_ ((Kd.Q_mono (Kd.Q_far (p := ⟨gb377, 1, none⟩) (Kd.Q_far (p := ⟨gb377, 0, none⟩) (Kd.Q_types HO_331000.out BK377.out (by decide)) (fun _ hk => hk.2) (.slice Ao208 t372.length co208)) (fun _ hk => hk.2) (.int .i64 t375)) (fun _ h_ => h_.1)))) (Kd.R_base ho0) hb); replace HO_337000 := Aside0.mk (Kd.Q_elder' (xqt_ ((Kd.Q_mono (Kd.Q_far (p := ⟨gb377, 1, none⟩) (Kd.Q_far (p := ⟨gb377, 0, none⟩) (Kd.Q_types HO_337000.out BK377.out (by decide)) (fun _ hk => hk.2) (.slice Ao208 t372.length co208)) (fun _ hk => hk.2) (.int .i64 t375)) (fun _ h_ => h_.1)))) (Kd.R_base ho0) hb); replace HO_343000 := Aside0.mk (Kd.Q_elder' (xqt_ ((Kd.Q_mono (Kd.Q_far (p := ⟨gb377, 1, none⟩) (Kd.Q_far (p := ⟨gb377, 0, none⟩) (Kd.Q_types HO_343000.out BK377.out (by decide)) (fun _ hk => hk.2) (.slice Ao208 t372.length co208)) (fun _ hk => hk.2) (.int .i64 t375)) (fun _ h_ => h_.1)))) (Kd.R_base ho0) hb); replace HO_349000 := Aside0.mk (Kd.Q_elder' (xqt_ ((Kd.Q_mono (Kd.Q_far (p := ⟨gb377, 1, none⟩) (Kd.Q_far (p := ⟨gb377, 0, none⟩) (Kd.Q_types HO_349000.out BK377.out (by decide)) (fun _ hk => hk.2) (.slice Ao208 t372.length co208)) (fun _ hk => hk.2) (.int .i64 t375)) (fun _ h_ => h_.1)))) (Kd.R_base ho0) hb); replace HO369 := Aside0.mk (Kd.Q_elder' (xqt_ ((Kd.Q_mono (Kd.Q_far (p := ⟨gb377, 1, none⟩) (Kd.Q_far (p := ⟨gb377, 0, none⟩) (Kd.Q_types HO369.out BK377.out (by decide)) (fun _ hk => hk.2) (.slice Ao208 t372.length co208)) (fun _ hk => hk.2) (.int .i64 t375)) (fun _ h_ => h_.1)))) (Kd.R_base ho0) hb); replace HO374 := Aside0.mk (Kd.R_elder' (xrt_ ((Kd.R_mono (Kd.R_far (p := ⟨gb377, 1, none⟩) (Kd.R_far (p := ⟨gb377, 0, none⟩) (Kd.R_types HO374.out BK377.out (by decide)) (fun _ hk => hk.2) (.slice Ao208 t372.length co208)) (fun _ hk => hk.2) (.int .i64 t375)) (fun _ h_ => h_.1)))) (Kd.R_base ho0) hb); replace BK329 := Aside0.mk (blk_below (g := gb329) (o := .cells #[.slice Ao12 t321.length co12, .int .i64 t324] 25 (0, 0)) (by (with_reducible repeat (first | refine blk_drewN ?_ _ | refine blk_drew ?_ | refine blk_alloc ?_ _)); refine blk_far ?_ NB329_377.out _; (with_reducible repeat (first | refine blk_drewN ?_ _ | refine blk_drew ?_ | refine blk_alloc ?_ _)); refine blk_far ?_ NB329_377.out _; (with_reducible repeat (first | refine blk_drewN ?_ _ | refine blk_drew ?_ | refine blk_alloc ?_ _)); exact BK329.out) hb); replace BK330 := Aside0.mk (blk_below (g := gb330) (o := .cells #[.slice Ao15 t325.length co15, .int .i64 t328] 25 (0, 0)) (by (with_reducible repeat (first | refine blk_drewN ?_ _ | refine blk_drew ?_ | refine blk_alloc ?_ _)); refine blk_far ?_ NB330_377.out _; (with_reducible repeat (first | refine blk_drewN ?_ _ | refine blk_drew ?_ | refine blk_alloc ?_ _)); refine blk_far ?_ NB330_377.out _; (with_reducible repeat (first | refine blk_drewN ?_ _ | refine blk_drew ?_ | refine blk_alloc ?_ _)); exact BK330.out) hb); replace BK336 := Aside0.mk (blk_below (g := gb336) (o := .cells #[.slice Ao19 t331.length co19, .int .i64 t334] 25 (0, 0)) (by (with_reducible repeat (first | refine blk_drewN ?_ _ | refine blk_drew ?_ | refine blk_alloc ?_ _)); refine blk_far ?_ NB336_377.out _; (with_reducible repeat (first | refine blk_drewN ?_ _ | refine blk_drew ?_ | refine blk_alloc ?_ _)); refine blk_far ?_ NB336_377.out _; (with_reducible repeat (first | refine blk_drewN ?_ _ | refine blk_drew ?_ | refine blk_alloc ?_ _)); exact BK336.out) hb); replace BK342 := Aside0.mk (blk_below (g := gb342) (o := .cells #[.slice Ao27 t337.length co27, .int .i64 t340] 25 (0, 0)) (by (with_reducible repeat (first | refine blk_drewN ?_ _ | refine blk_drew ?_ | refine blk_alloc ?_ _)); refine blk_far ?_ NB342_377.out _; (with_reducible repeat (first | refine blk_drewN ?_ _ | refine blk_drew ?_ | refine blk_alloc ?_ _)); refine blk_far ?_ NB342_377.out _; (with_reducible repeat (first | refine blk_drewN ?_ _ | refine blk_drew ?_ | refine blk_alloc ?_ _)); exact BK342.out) hb); replace BK348 := Aside0.mk (blk_below (g := gb348) (o := .cells #[.slice Ao36 t343.length co36, .int .i64 t346] 25 (0, 0)) (by (with_reducible repeat (first | refine blk_drewN ?_ _ | refine blk_drew ?_ | refine blk_alloc ?_ _)); refine blk_far ?_ NB348_377.out _; (with_reducible repeat (first | refine blk_drewN ?_ _ | refine blk_drew ?_ | refine blk_alloc ?_ _)); refine blk_far ?_ NB348_377.out _; (with_reducible repeat (first | refine blk_drewN ?_ _ | refine blk_drew ?_ | refine blk_alloc ?_ _)); exact BK348.out) hb); replace BK371 := Aside0.mk (blk_below (g := gb371) (o := .cells #[.slice Ao199 t367.length co199, .int .i64 t370] 25 (0, 0)) (by (with_reducible repeat (first | refine blk_drewN ?_ _ | refine blk_drew ?_ | refine blk_alloc ?_ _)); refine blk_far ?_ NB371_377.out _; (with_reducible repeat (first | refine blk_drewN ?_ _ | refine blk_drew ?_ | refine blk_alloc ?_ _)); refine blk_far ?_ NB371_377.out _; (with_reducible repeat (first | refine blk_drewN ?_ _ | refine blk_drew ?_ | refine blk_alloc ?_ _)); exact BK371.out) hb); replace BK377 := Aside0.mk (blk_below (g := gb377) (o := .cells #[.slice Ao208 t372.length co208, .int .i64 t375] 25 (0, 0)) (by (with_reducible repeat (first | refine blk_drewN ?_ _ | refine blk_drew ?_ | refine blk_alloc ?_ _)); refine blk_put (cs := #[.slice Ao208 t372.length co208, .int .i64 0]) ?_ 1 _ rfl; (with_reducible repeat (first | refine blk_drewN ?_ _ | refine blk_drew ?_ | refine blk_alloc ?_ _)); refine blk_put (cs := #[.slice none 0 0, .int .i64 0]) ?_ 0 _ rfl; (with_reducible repeat (first | refine blk_drewN ?_ _ | refine blk_drew ?_ | refine blk_alloc ?_ _)); exact BK377.out) hb); replace HB := xws_ HB hb; (try clear hb); (try clear hb2); (try clear hk); (try clear hi); (try clear ho0)) | ((with_reducible refine gate_dst (N := 27) rfl ?_); refine xbe_ (N := 27) (cs := #[.slice none 0 0, .int .i64 0]) (t := 25) ?_; intro gb383 hg w218 hbox hb; replace HO_330000 := xqb_ HO_330000 hb; replace HO_331000 := xqb_ HO_331000 hb; replace HO_337000 := xqb_ HO_337000 hb; replace HO_343000 := xqb_ HO_343000 hb; replace HO_349000 := xqb_ HO_349000 hb; replace HO369 := xqb_ HO369 hb; replace HO374 := xrb_ HO374 hb; replace HO380 := xrb_ HO380 hb; have BK383 := Aside0.mk (hbox); have GW383 := xge_ HB hg; have GE383 := xge_ HB hg; replace HB := xws_ HB hb; have NB329_383 := xlt_ BK329 hg; have NB383_329 := xgt_ BK329 hg; replace BK329 := xbb_ BK329 hb; have NB330_383 := xlt_ BK330 hg; have NB383_330 := xgt_ BK330 hg; replace BK330 := xbb_ BK330 hb; have NB336_383 := xlt_ BK336 hg; have NB383_336 := xgt_ BK336 hg; replace BK336 := xbb_ BK336 hb; have NB342_383 := xlt_ BK342 hg; have NB383_342 := xgt_ BK342 hg; replace BK342 := xbb_ BK342 hb; have NB348_383 := xlt_ BK348 hg; have NB383_348 := xgt_ BK348 hg; replace BK348 := xbb_ BK348 hb; have NB371_383 := xlt_ BK371 hg; have NB383_371 := xgt_ BK371 hg; replace BK371 := xbb_ BK371 hb; have NB377_383 := xlt_ BK377 hg; have NB383_377 := xgt_ BK377 hg; replace BK377 := xbb_ BK377 hb; clear hb hbox hg; obtain ⟨Ao219, co219, eo219⟩ := Kd.R_slice HO380.out; subst eo219; have hnb220 := NB383_329.out; have hnc220 := NB329_383.out; have hnb221 := NB383_330.out; have hnc221 := NB330_383.out; have hnb222 := NB383_336.out; have hnc222 := NB336_383.out; have hnb223 := NB383_342.out; have hnc223 := NB342_383.out; have hnb224 := NB383_348.out; have hnc224 := NB348_383.out; have hnb225 := NB383_371.out; have hnc225 := NB371_383.out; have hnb226 := NB383_377.out; have hnc226 := NB377_383.out; have hcz227_0 : w218.cell? ⟨gb383, 0, none⟩ = some (.slice none 0 0) := xk_ BK383 0; have hcz227_1 : w218.cell? ⟨gb383, 1, none⟩ = some (.int .i64 0) := xk_ BK383 1; have hfz227_0 := blk_frozen BK383.out 0; have hfz227_1 := blk_frozen BK383.out 1))
             go_ret
             exact ⟨by first | rfl | (simp [errW_none, errW_some] <;> rfl) | (simp [*, errW_none, errW_some] <;> rfl), xw_ HB⟩
            ·rw [if_neg c196] at H
             have c196b0 : (t376 != t382) = false := by simpa using c196
             (try (have c196b1 : decide (t376 = t382) = true := by simpa using c196))
             (try (have c196b2 : (t376 == t382) = true := by simpa using c196))
             clear c196
             replace H := Option.bind_eq_some_iff.mp H
             obtain ⟨t384, A2280, H⟩ := H
             replace H : (if t384 = true then (if t376 = true then (some (decide (t375 ≤ (wrap64 (Int.tdiv t370 2))))) else (some true)) else (some false)) = some r := H
             have A228 := Aside0.mk A2280
             clear A2280
             by_cases c229 : t384 = true
             ·subst c229
              have H1 : (if t376 = true then (some (decide (t375 ≤ (wrap64 (Int.tdiv t370 2))))) else (some true)) = some r := by rw [if_pos rfl] at H; exact H
              clear H
              have H := H1
              clear H1
              by_cases c230 : t376 = true
              ·subst c230
               have H1 : (some (decide (t375 ≤ (wrap64 (Int.tdiv t370 2))))) = some r := by rw [if_pos rfl] at H; exact H
               clear H
               have H := H1
               clear H1
               obtain rfl := Option.some.inj H
               go_wp2_with (first | ((with_reducible refine gate_callee (f := 22) rfl ?_); refine xgl_ (some 149) Try.func22 #[.slice A1 l1.length c1] ?_; (with_reducible refine (spec_DrawHalveSketch.calls kj86 _ _ l1 t367 t370 _ ?side1 ?side2 A193.out).mono ?_); (case side1 => exact xc_ ((Kd.C_below HR1.out HB.out))); (case side2 => exact HC1.out); rintro e w231 ⟨v368, rfl, ho0, hb⟩; refine ⟨_, rfl, ?_⟩; have HO369 := Aside0.mk (Kd.Q_lower (Kd.Q_new' (Kd.Q_new' (Kd.Q_new' (Kd.Q_new' (Kd.Q_new' ho0 (Kd.Q_lt (xq_ HO_330000))) (Kd.Q_lt (xq_ HO_331000))) (Kd.Q_lt (xq_ HO_337000))) (Kd.Q_lt (xq_ HO_343000))) (Kd.Q_lt (xq_ HO_349000))) (below_size (xw_ HB))); replace HO_330000 := xqe_ HO_330000 (Kd.Q_base ho0) hb; replace HO_331000 := xqe_ HO_331000 (Kd.Q_base ho0) hb; replace HO_337000 := xqe_ HO_337000 (Kd.Q_base ho0) hb; replace HO_343000 := xqe_ HO_343000 (Kd.Q_base ho0) hb; replace HO_349000 := xqe_ HO_349000 (Kd.Q_base ho0) hb; replace BK329 := xbb_ BK329 hb; replace BK330 := xbb_ BK330 hb; replace BK336 := xbb_ BK336 hb; replace BK342 := xbb_ BK342 hb; replace BK348 := xbb_ BK348 hb; replace HB := xws_ HB hb; (try clear hb); (try clear hb2); (try clear hk); (try clear hi); (try clear ho0)) | ((with_reducible refine gate_dst (N := 24) rfl ?_); refine xbe_ (N := 24) (cs := #[.slice none 0 0, .int .i64 0]) (t := 25) ?_; intro gb371 hg w232 hbox hb; replace HO_330000 := xqb_ HO_330000 hb; replace HO_331000 := xqb_ HO_331000 hb; replace HO_337000 := xqb_ HO_337000 hb; replace HO_343000 := xqb_ HO_343000 hb; replace HO_349000 := xqb_ HO_349000 hb; replace HO369 := xqb_ HO369 hb; have BK371 := Aside0.mk (hbox); have GW371 := xge_ HB hg; have GE371 := xge_ HB hg; replace HB := xws_ HB hb; have NB329_371 := xlt_ BK329 hg; have NB371_329 := xgt_ BK329 hg; replace BK329 := xbb_ BK329 hb; have NB330_371 := xlt_ BK330 hg; have NB371_330 := xgt_ BK330 hg; replace BK330 := xbb_ BK330 hb; have NB336_371 := xlt_ BK336 hg; have NB371_336 := xgt_ BK336 hg; replace BK336 := xbb_ BK336 hb; have NB342_371 := xlt_ BK342 hg; have NB371_342 := xgt_ BK342 hg; replace BK342 := xbb_ BK342 hb; have NB348_371 := xlt_ BK348 hg; have NB371_348 := xgt_ BK348 hg; replace BK348 := xbb_ BK348 hb; clear hb hbox hg; obtain ⟨Ao233, co233, eo233, _⟩ := Kd.Q_slice HO369.out; subst eo233; have hnb234 := NB371_329.out; have hnc234 := NB329_371.out; have hnb235 := NB371_330.out; have hnc235 := NB330_371.out; have hnb236 := NB371_336.out; have hnc236 := NB336_371.out; have hnb237 := NB371_342.out; have hnc237 := NB342_371.out; have hnb238 := NB371_348.out; have hnc238 := NB348_371.out; have hcz239_0 : w232.cell? ⟨gb371, 0, none⟩ = some (.slice none 0 0) := xk_ BK371 0; have hcz239_1 : w232.cell? ⟨gb371, 1, none⟩ = some (.int .i64 0) := xk_ BK371 1; have hfz239_0 := blk_frozen BK371.out 0; have hfz239_1 := blk_frozen BK371.out 1) | ((with_reducible refine gate_callee (f := 23) rfl ?_); refine xgl_ (some 152) Try.func23 #[.agg #[.slice Ao233 t367.length co233, .int .i64 t370]] ?_; (with_reducible refine (impl_HalveSketch.calls kj86 _ _ t367 t370 t372 t375 true _ ?side1 ?side2 A194.out).mono ?_); (case side1 => refine (Kd.Q_reads' (e := 3) (base := w.heap.size) (ok := fun k_ => (((((True ∧ some k_ ≠ (.slice Ao12 t321.length co12 : Value).ownBlock) ∧ some k_ ≠ (.slice Ao15 t325.length co15 : Value).ownBlock) ∧ some k_ ≠ (.slice Ao19 t331.length co19 : Value).ownBlock) ∧ some k_ ≠ (.slice Ao27 t337.length co27 : Value).ownBlock) ∧ some k_ ≠ (.slice Ao36 t343.length co36 : Value).ownBlock)) (n := t367.length) (c := co233) ?_).2.2; exact (xqt_ ((Kd.Q_mono (Kd.Q_far (p := ⟨gb371, 1, none⟩) (Kd.Q_far (p := ⟨gb371, 0, none⟩) (Kd.Q_types HO369.out BK371.out (by decide)) (fun _ hk => hk.2) (.slice Ao233 t367.length co233)) (fun _ hk => hk.2) (.int .i64 t370)) (fun _ h_ => h_.1))))); (case side2 => exact (Kd.Q_reads' HO369.out).2.1); rintro e w240 ⟨v373, rfl, ho0, hb⟩; refine ⟨_, rfl, ?_⟩; have HO374 := Aside0.mk (Kd.R_lower (Kd.R_new' (Kd.R_new' (Kd.R_new' (Kd.R_new' (Kd.R_new' (Kd.R_new' ho0 (Kd.Q_lt (xqt_ ((Kd.Q_mono (Kd.Q_far (p := ⟨gb371, 1, none⟩) (Kd.Q_far (p := ⟨gb371, 0, none⟩) (Kd.Q_types HO_330000.out BK371.out (by decide)) (fun _ hk => hk.2) (.slice Ao233 t367.length co233)) (fun _ hk => hk.2) (.int .i64 t370)) (fun _ h_ => h_.1)))))) (Kd.Q_lt (xqt_ ((Kd.Q_mono (Kd.Q_far (p := ⟨gb371, 1, none⟩) (Kd.Q_far (p := ⟨gb371, 0, none⟩) (Kd.Q_types HO_331000.out BK371.out (by decide)) (fun _ hk => hk.2) (.slice Ao233 t367.length co233)) (fun _ hk => hk.2) (.int .i64 t370)) (fun _ h_ => h_.1)))))) (Kd.Q_lt (xqt_ ((Kd.Q_mono (Kd.Q_far (p := ⟨gb371, 1, none⟩) (Kd.Q_far (p := ⟨gb371, 0, none⟩) (Kd.Q_types HO_337000.out BK371.out (by decide)) (fun _ hk => hk.2) (.slice Ao233 t367.length co233)) (fun _ hk => hk.2) (.int .i64 t370)) (fun _ h_ => h_.1)))))) (Kd.Q_lt (xqt_ ((Kd.Q_mono (Kd.Q_far (p := ⟨gb371, 1, none⟩) (Kd.Q_far (p := ⟨gb371, 0, none⟩) (Kd.Q_types HO_343000.out BK371.out (by decide)) (fun _ hk => hk.2) (.slice Ao233 t367.length co233)) (fun _ hk => hk.2) (.int .i64 t370)) (fun _ h_ => h_.1)))))) (Kd.Q_lt (xqt_ ((Kd.Q_mono (Kd.Q_far (p := ⟨gb371, 1, none⟩) (Kd.Q_far (p := ⟨gb371, 0, none⟩) (Kd.Q_types HO_349000.out BK371.out (by decide)) (fun _ hk => hk.2) (.slice Ao233 t367.length co233)) (fun _ hk => hk.2) (.int .i64 t370)) (fun _ h_ => h_.1)))))) (Kd.Q_lt (xqt_ ((Kd.Q_mono (Kd.Q_far (p := ⟨gb371, 1, none⟩) (Kd.Q_far (p := ⟨gb371, 0, none⟩) (Kd.Q_types HO369.out BK371.out (by decide)) (fun _ hk => hk.2) (.slice Ao233 t367.length co233)) (fun _ hk => hk.2) (.int .i64 t370)) (fun _ h_ => h_.1)))))) (below_size (xw_ HB))); replace HO_330000 := Aside0.mk (Kd.Q_elder' (xqt_ ((Kd.Q_mono (Kd.Q_far (p := ⟨gb371, 1, none⟩) (Kd.Q_far (p := ⟨gb371, 0, none⟩) (Kd.Q_types HO_330000.out BK371.out (by decide)) (fun _ hk => hk.2) (.slice Ao233 t367.length co233)) (fun _ hk => hk.2) (.int .i64 t370)) (fun _ h_ => h_.1)))) (Kd.R_base ho0) hb); replace HO_331000 := Aside0.mk (Kd.Q_elder' (xqt_ ((Kd.Q_mono (Kd.Q_far (p := ⟨gb371, 1, none⟩) (Kd.Q_far (p := ⟨gb371, 0, none⟩) (Kd.Q_types HO_331000.out BK371.out (by decide)) (fun _ hk => hk.2) (.slice Ao233 t367.length co233)) (fun _ hk => hk.2) (.int .i64 t370)) (fun _ h_ => h_.1)))) (Kd.R_base ho0) hb); replace HO_337000 := Aside0.mk (Kd.Q_elder' (xqt_ ((Kd.Q_mono (Kd.Q_far (p := ⟨gb371, 1, none⟩) (Kd.Q_far (p := ⟨gb371, 0, none⟩) (Kd.Q_types HO_337000.out BK371.out (by decide)) (fun _ hk => hk.2) (.slice Ao233 t367.length co233)) (fun _ hk => hk.2) (.int .i64 t370)) (fun _ h_ => h_.1)))) (Kd.R_base ho0) hb); replace HO_343000 := Aside0.mk (Kd.Q_elder' (xqt_ ((Kd.Q_mono (Kd.Q_far (p := ⟨gb371, 1, none⟩) (Kd.Q_far (p := ⟨gb371, 0, none⟩) (Kd.Q_types HO_343000.out BK371.out (by decide)) (fun _ hk => hk.2) (.slice Ao233 t367.length co233)) (fun _ hk => hk.2) (.int .i64 t370)) (fun _ h_ => h_.1)))) (Kd.R_base ho0) hb); replace HO_349000 := Aside0.mk (Kd.Q_elder' (xqt_ ((Kd.Q_mono (Kd.Q_far (p := ⟨gb371, 1, none⟩) (Kd.Q_far (p := ⟨gb371, 0, none⟩) (Kd.Q_types HO_349000.out BK371.out (by decide)) (fun _ hk => hk.2) (.slice Ao233 t367.length co233)) (fun _ hk => hk.2) (.int .i64 t370)) (fun _ h_ => h_.1)))) (Kd.R_base ho0) hb); replace HO369 := Aside0.mk (Kd.Q_elder' (xqt_ ((Kd.Q_mono (Kd.Q_far (p := ⟨gb371, 1, none⟩) (Kd.Q_far (p := ⟨gb371, 0, none⟩) (Kd.Q_types HO369.out BK371.out (by decide)) (fun _ hk => hk.2) (.slice Ao233 t367.length co233)) (fun _ hk => hk.2) (.int .i64 t370)) (fun _ h_ => h_.1)))) (Kd.R_base ho0) hb); replace BK329 := Aside0.mk (blk_below (g := gb329) (o := .cells #[.slice Ao12 t321.length co12, .int .i64 t324] 25 (0, 0)) (by (with_reducible repeat (first | refine blk_drewN ?_ _ | refine blk_drew ?_ | refine blk_alloc ?_ _)); refine blk_far ?_ NB329_371.out _; (with_reducible repeat (first | refine blk_drewN ?_ _ | refine blk_drew ?_ | refine blk_alloc ?_ _)); refine blk_far ?_ NB329_371.out _; (with_reducible repeat (first | refine blk_drewN ?_ _ | refine blk_drew ?_ | refine blk_alloc ?_ _)); exact BK329.out) hb); replace BK330 := Aside0.mk (blk_below (g := gb330) (o := .cells #[.slice Ao15 t325.length co15, .int .i64 t328] 25 (0, 0)) (by (with_reducible repeat (first | refine blk_drewN ?_ _ | refine blk_drew ?_ | refine blk_alloc ?_ _)); refine blk_far ?_ NB330_371.out _; (with_reducible repeat (first | refine blk_drewN ?_ _ | refine blk_drew ?_ | refine blk_alloc ?_ _)); refine blk_far ?_ NB330_371.out _; (with_reducible repeat (first | refine blk_drewN ?_ _ | refine blk_drew ?_ | refine blk_alloc ?_ _)); exact BK330.out) hb); replace BK336 := Aside0.mk (blk_below (g := gb336) (o := .cells #[.slice Ao19 t331.length co19, .int .i64 t334] 25 (0, 0)) (by (with_reducible repeat (first | refine blk_drewN ?_ _ | refine blk_drew ?_ | refine blk_alloc ?_ _)); refine blk_far ?_ NB336_371.out _; (with_reducible repeat (first | refine blk_drewN ?_ _ | refine blk_drew ?_ | refine blk_alloc ?_ _)); refine blk_far ?_ NB336_371.out _; (with_reducible repeat (first | refine blk_drewN ?_ _ | refine blk_drew ?_ | refine blk_alloc ?_ _)); exact BK336.out) hb); replace BK342 := Aside0.mk (blk_below (g := gb342) (o := .cells #[.slice Ao27 t337.length co27, .int .i64 t340] 25 (0, 0)) (by (with_reducible repeat (first | refine blk_drewN ?_ _ | refine blk_drew ?_ | refine blk_alloc ?_ _)); refine blk_far ?_ NB342_371.out _; (with_reducible repeat (first | refine blk_drewN ?_ _ | refine blk_drew ?_ | refine blk_alloc ?_ _)); refine blk_far ?_ NB342_371.out _; (with_reducible repeat (first | refine blk_drewN ?_ _ | refine blk_drew ?_ | refine blk_alloc ?_ _)); exact BK342.out) hb); replace BK348 := Aside0.mk (blk_below (g := gb348) (o := .cells #[.slice Ao36 t343.length co36, .int .i64 t346] 25 (0, 0)) (by (with_reducible repeat (first | refine blk_drewN ?_ _ | refine blk_drew ?_ | refine blk_alloc ?_ _)); refine blk_far ?_ NB348_371.out _; (with_reducible repeat (first | refine blk_drewN ?_ _ | refine blk_drew ?_ | refine blk_alloc ?_ _)); refine blk_far ?_ NB348_371.out _; (with_reducible repeat (first | refine blk_drewN ?_ _ | refine blk_drew ?_ | refine blk_alloc ?_ _)); exact BK348.out) hb); replace BK371 := Aside0.mk (blk_below (g := gb371) (o := .cells #[.slice Ao233 t367.length co233, .int .i64 t370] 25 (0, 0)) (by (with_reducible repeat (first | refine blk_drewN ?_ _ | refine blk_drew ?_ | refine blk_alloc ?_ _)); refine blk_put (cs := #[.slice Ao233 t367.length co233, .int .i64 0]) ?_ 1 _ rfl; (with_reducible repeat (first | refine blk_drewN ?_ _ | refine blk_drew ?_ | refine blk_alloc ?_ _)); refine blk_put (cs := #[.slice none 0 0, .int .i64 0]) ?_ 0 _ rfl; (with_reducible repeat (first | refine blk_drewN ?_ _ | refine blk_drew ?_ | refine blk_alloc ?_ _)); exact BK371.out) hb); replace HB := xws_ HB hb; (try clear hb); (try clear hb2); (try clear hk); (try clear hi); (try clear ho0)) | ((with_reducible refine gate_dst (N := 25) rfl ?_); refine xbe_ (N := 25) (cs := #[.slice none 0 0, .int .i64 0]) (t := 25) ?_; intro gb377 hg w241 hbox hb; replace HO_330000 := xqb_ HO_330000 hb; replace HO_331000 := xqb_ HO_331000 hb; replace HO_337000 := xqb_ HO_337000 hb; replace HO_343000 := xqb_ HO_343000 hb; replace HO_349000 := xqb_ HO_349000 hb; replace HO369 := xqb_ HO369 hb; replace HO374 := xrb_ HO374 hb; have BK377 := Aside0.mk (hbox); have GW377 := xge_ HB hg; have GE377 := xge_ HB hg; replace HB := xws_ HB hb; have NB329_377 := xlt_ BK329 hg; have NB377_329 := xgt_ BK329 hg; replace BK329 := xbb_ BK329 hb; have NB330_377 := xlt_ BK330 hg; have NB377_330 := xgt_ BK330 hg; replace BK330 := xbb_ BK330 hb; have NB336_377 := xlt_ BK336 hg; have NB377_336 := xgt_ BK336 hg; replace BK336 := xbb_ BK336 hb; have NB342_377 := xlt_ BK342 hg; have NB377_342 := xgt_ BK342 hg; replace BK342 := xbb_ BK342 hb; have NB348_377 := xlt_ BK348 hg; have NB377_348 := xgt_ BK348 hg; replace BK348 := xbb_ BK348 hb; have NB371_377 := xlt_ BK371 hg; have NB377_371 := xgt_ BK371 hg; replace BK371 := xbb_ BK371 hb; clear hb hbox hg; obtain ⟨Ao242, co242, eo242⟩ := Kd.R_slice HO374.out; subst eo242; have hnb243 := NB377_329.out; have hnc243 := NB329_377.out; have hnb244 := NB377_330.out; have hnc244 := NB330_377.out; have hnb245 := NB377_336.out; have hnc245 := NB336_377.out; have hnb246 := NB377_342.out; have hnc246 := NB342_377.out; have hnb247 := NB377_348.out; have hnc247 := NB348_377.out; have hnb248 := NB377_371.out; have hnc248 := NB371_377.out; have hcz249_0 : w241.cell? ⟨gb377, 0, none⟩ = some (.slice none 0 0) := xk_ BK377 0; have hcz249_1 : w241.cell? ⟨gb377, 1, none⟩ = some (.int .i64 0) := xk_ BK377 1; have hfz249_0 := blk_frozen BK377.out 0; have hfz249_1 := blk_frozen BK377.out 1; have hcz250_0 : w241.cell? ⟨gb371, 0, none⟩ = some (.slice Ao233 t367.length co233) := xk_ BK371 0; have hcz250_1 : w241.cell? ⟨gb371, 1, none⟩ = some (.int .i64 t370) := xk_ BK371 1; have hfz250_0 := blk_frozen BK371.out 0; have hfz250_1 := blk_frozen BK371.out 1) | ((with_reducible refine gate_callee (f := 24) rfl ?_); refine xgl_ (some 157) Try.func24 #[.agg #[.slice Ao233 t367.length co233, .int .i64 t370]] ?_; (with_reducible refine (spec_HalveSketch.calls kj86 _ _ t367 t370 t378 t381 t382 _ ?side1 ?side2 A195.out).mono ?_); (case side1 => refine (Kd.Q_reads' (e := 3) (base := w.heap.size) (ok := fun k_ => ((((((True ∧ some k_ ≠ (.slice Ao12 t321.length co12 : Value).ownBlock) ∧ some k_ ≠ (.slice Ao15 t325.length co15 : Value).ownBlock) ∧ some k_ ≠ (.slice Ao19 t331.length co19 : Value).ownBlock) ∧ some k_ ≠ (.slice Ao27 t337.length co27 : Value).ownBlock) ∧ some k_ ≠ (.slice Ao36 t343.length co36 : Value).ownBlock) ∧ some k_ ≠ (.slice Ao242 t372.length co242 : Value).ownBlock)) (n := t367.length) (c := co233) ?_).2.2; exact (xqt_ ((Kd.Q_mono (Kd.Q_far (p := ⟨gb377, 1, none⟩) (Kd.Q_far (p := ⟨gb377, 0, none⟩) (Kd.Q_types HO369.out BK377.out (by decide)) (fun _ hk => hk.2) (.slice Ao242 t372.length co242)) (fun _ hk => hk.2) (.int .i64 t375)) (fun _ h_ => h_.1))))); (case side2 => exact (Kd.Q_reads' HO369.out).2.1); rintro e w251 ⟨v379, rfl, ho0, hb⟩; refine ⟨_, rfl, ?_⟩; have HO380 := Aside0.mk (Kd.R_lower (Kd.R_new' (Kd.R_new' (Kd.R_new' (Kd.R_new' (Kd.R_new' (Kd.R_new' (Kd.R_new' ho0 (Kd.Q_lt (xqt_ ((Kd.Q_mono (Kd.Q_far (p := ⟨gb377, 1, none⟩) (Kd.Q_far (p := ⟨gb377, 0, none⟩) (Kd.Q_types HO_330000.out BK377.out (by decide)) (fun _ hk => hk.2) (.slice Ao242 t372.length co242)) (fun _ hk => hk.2) (.int .i64 t375)) (fun _ h_ => h_.1)))))) (Kd.Q_lt (xqt_ ((Kd.Q_mono (Kd.Q_far (p := ⟨gb377, 1, none⟩) (Kd.Q_far (p := ⟨gb377, 0, none⟩) (Kd.Q_types HO_331000.out BK377.out (by decide)) (fun _ hk => hk.2) (.slice Ao242 t372.length co242)) (fun _ hk => hk.2) (.int .i64 t375)) (fun _ h_ => h_.1)))))) (Kd.Q_lt (xqt_ ((Kd.Q_mono (Kd.Q_far (p := ⟨gb377, 1, none⟩) (Kd.Q_far (p := ⟨gb377, 0, none⟩) (Kd.Q_types HO_337000.out BK377.out (by decide)) (fun _ hk => hk.2) (.slice Ao242 t372.length co242)) (fun _ hk => hk.2) (.int .i64 t375)) (fun _ h_ => h_.1)))))) (Kd.Q_lt (xqt_ ((Kd.Q_mono (Kd.Q_far (p := ⟨gb377, 1, none⟩) (Kd.Q_far (p := ⟨gb377, 0, none⟩) (Kd.Q_types HO_343000.out BK377.out (by decide)) (fun _ hk => hk.2) (.slice Ao242 t372.length co242)) (fun _ hk => hk.2) (.int .i64 t375)) (fun _ h_ => h_.1)))))) (Kd.Q_lt (xqt_ ((Kd.Q_mono (Kd.Q_far (p := ⟨gb377, 1, none⟩) (Kd.Q_far (p := ⟨gb377, 0, none⟩) (Kd.Q_types HO_349000.out BK377.out (by decide)) (fun _ hk => hk.2) (.slice Ao242 t372.length co242)) (fun _ hk => hk.2) (.int .i64 t375)) (fun _ h_ => h_.1)))))) (Kd.Q_lt (xqt_ ((Kd.Q_mono (Kd.Q_far (p := ⟨gb377, 1, none⟩) (Kd.Q_far (p := ⟨gb377, 0, none⟩) (Kd.Q_types HO369.out BK377.out (by decide)) (fun _ hk => hk.2) (.slice Ao242 t372.length co242)) (fun _ hk => hk.2) (.int .i64 t375)) (fun _ h_ => h_.1)))))) (Kd.R_lt (xrt_ ((Kd.R_mono (Kd.R_far (p := ⟨gb377, 1, none⟩) (Kd.R_far (p := ⟨gb377, 0, none⟩) (Kd.R_types HO374.out BK377.out (by decide)) (fun _ hk => hk.2) (.slice Ao242 t372.length co242)) (fun _ hk => hk.2) (.int .i64 t375)) (fun _ h_ => h_.1)))))) (below_size (xw_ HB))); replace HO_330000 := Aside0.mk (Kd.Q_elder' (xqt_ ((Kd.Q_mono (Kd.Q_far (p := ⟨gb377, 1, none⟩) (Kd.Q_far (p := ⟨gb377, 0, none⟩) (Kd.Q_types HO_330000.out BK377.out (by decide)) (fun _ hk => hk.2) (.slice Ao242 t372.length co242)) (fun _ hk => hk.2) (.int .i64 t375)) (fun _ h_ => h_.1)))) (Kd.R_base ho0) hb); replace HO_331000 := Aside0.mk (Kd.Q_elder' (xqt_ ((Kd.Q_mono (Kd.Q_far (p := ⟨gb377, 1, none⟩) (Kd.Q_far (p := ⟨gb377, 0, none⟩) (Kd.Q_types HO_331000.out BK377.out (by decide)) (fun _ hk => hk.2) (.slice Ao242 t372.length co242)) (fun _ hk => hk.2) (.int .i64 t375)) (fun _ h_ => h_.1)))) (Kd.R_base ho0) hb); replace HO_337000 := Aside0.mk (Kd.Q_elder' (xqt_ ((Kd.Q_mono (Kd.Q_far (p := ⟨gb377, 1, none⟩) (Kd.Q_far (p := ⟨gb377, 0, none⟩) (Kd.Q_types HO_337000.out BK377.out (by decide)) (fun _ hk => hk.2) (.slice Ao242 t372.length co242)) (fun _ hk => hk.2) (.int .i64 t375)) (fun _ h_ => h_.1)))) (Kd.R_base ho0) hb); replace HO_343000 := Aside0.mk (Kd.Q_elder' (xqt_ ((Kd.Q_mono (Kd.Q_far (p := ⟨gb377, 1, none⟩) (Kd.Q_far (p := ⟨gb377, 0, none⟩) (Kd.Q_types HO_343000.out BK377.out (by decide)) (fun _ hk => hk.2) (.slice Ao242 t372.length co242)) (fun _ hk => hk.2) (.int .i64 t375)) (fun _ h_ => h_.1)))) (Kd.R_base ho0) hb); replace HO_349000 := Aside0.mk (Kd.Q_elder' (xqt_ ((Kd.Q_mono (Kd.Q_far (p := ⟨gb377, 1, none⟩) (Kd.Q_far (p := ⟨gb377, 0, none⟩) (Kd.Q_types HO_349000.out BK377.out (by decide)) (fun _ hk => hk.2) (.slice Ao242 t372.length co242)) (fun _ hk => hk.2) (.int .i64 t375)) (fun _ h_ => h_.1)))) (Kd.R_base ho0) hb); replace HO369 := Aside0.mk (Kd.Q_elder' (xqt_ ((Kd.Q_mono (Kd.Q_far (p := ⟨gb377, 1, none⟩) (Kd.Q_far (p := ⟨gb377, 0, none⟩) (Kd.Q_types HO369.out BK377.out (by decide)) (fun _ hk => hk.2) (.slice Ao242 t372.length co242)) (fun _ hk => hk.2) (.int .i64 t375)) (fun _ h_ => h_.1)))) (Kd.R_base ho0) hb); replace HO374 := Aside0.mk (Kd.R_elder' (xrt_ ((Kd.R_mono (Kd.R_far (p := ⟨gb377, 1, none⟩) (Kd.R_far (p := ⟨gb377, 0, none⟩) (Kd.R_types HO374.out BK377.out (by decide)) (fun _ hk => hk.2) (.slice Ao242 t372.length co242)) (fun _ hk => hk.2) (.int .i64 t375)) (fun _ h_ => h_.1)))) (Kd.R_base ho0) hb); replace BK329 := Aside0.mk (blk_below (g := gb329) (o := .cells #[.slice Ao12 t321.length co12, .int .i64 t324] 25 (0, 0)) (by (with_reducible repeat (first | refine blk_drewN ?_ _ | refine blk_drew ?_ | refine blk_alloc ?_ _)); refine blk_far ?_ NB329_377.out _; (with_reducible repeat (first | refine blk_drewN ?_ _ | refine blk_drew ?_ | refine blk_alloc ?_ _)); refine blk_far ?_ NB329_377.out _; (with_reducible repeat (first | refine blk_drewN ?_ _ | refine blk_drew ?_ | refine blk_alloc ?_ _)); exact BK329.out) hb); replace BK330 := Aside0.mk (blk_below (g := gb330) (o := .cells #[.slice Ao15 t325.length co15, .int .i64 t328] 25 (0, 0)) (by (with_reducible repeat (first | refine blk_drewN ?_ _ | refine blk_drew ?_ | refine blk_alloc ?_ _)); refine blk_far ?_ NB330_377.out _; (with_reducible repeat (first | refine blk_drewN ?_ _ | refine blk_drew ?_ | refine blk_alloc ?_ _)); refine blk_far ?_ NB330_377.out _; (with_reducible repeat (first | refine blk_drewN ?_ _ | refine blk_drew ?_ | refine blk_alloc ?_ _)); exact BK330.out) hb); replace BK336 := Aside0.mk (blk_below (g := gb336) (o := .cells #[.slice Ao19 t331.length co19, .int .i64 t334] 25 (0, 0)) (by (with_reducible repeat (first | refine blk_drewN ?_ _ | refine blk_drew ?_ | refine blk_alloc ?_ _)); refine blk_far ?_ NB336_377.out _; (with_reducible repeat (first | refine blk_drewN ?_ _ | refine blk_drew ?_ | refine blk_alloc ?_ _)); refine blk_far ?_ NB336_377.out _; (with_reducible repeat (first | refine blk_drewN ?_ _ | refine blk_drew ?_ | refine blk_alloc ?_ _)); exact BK336.out) hb); replace BK342 := Aside0.mk (blk_below (g := gb342) (o := .cells #[.slice Ao27 t337.length co27, .int .i64 t340] 25 (0, 0)) (by (with_reducible repeat (first | refine blk_drewN ?_ _ | refine blk_drew ?_ | refine blk_alloc ?_ _)); refine blk_far ?_ NB342_377.out _; (with_reducible repeat (first | refine blk_drewN ?_ _ | refine blk_drew ?_ | refine blk_alloc ?_ _)); refine blk_far ?_ NB342_377.out _; (with_reducible repeat (first | refine blk_drewN ?_ _ | refine blk_drew ?_ | refine blk_alloc ?_ _)); exact BK342.out) hb); replace BK348 := Aside0.mk (blk_below (g := gb348) (o := .cells #[.slice Ao36 t343.length co36, .int .i64 t346] 25 (0, 0)) (by (with_reducible repeat (first | refine blk_drewN ?_ _ | refine blk_drew ?_ | refine blk_alloc ?_ _)); refine blk_far ?_ NB348_377.out _; (with_reducible repeat (first | refine blk_drewN ?_ _ | refine blk_drew ?_ | refine blk_alloc ?_ _)); refine blk_far ?_ NB348_377.out _; (with_reducible repeat (first | refine blk_drewN ?_ _ | refine blk_drew ?_ | refine blk_alloc ?_ _)); exact BK348.out) hb); replace BK371 := Aside0.mk (blk_below (g := gb371) (o := .cells #[.slice Ao233 t367.length co233, .int .i64 t370] 25 (0, 0)) (by (with_reducible repeat (first | refine blk_drewN ?_ _ | refine blk_drew ?_ | refine blk_alloc ?_ _)); refine blk_far ?_ NB371_377.out _; (with_reducible repeat (first | refine blk_drewN ?_ _ | refine blk_drew ?_ | refine blk_alloc ?_ _)); refine blk_far ?_ NB371_377.out _; (with_reducible repeat (first | refine blk_drewN ?_ _ | refine blk_drew ?_ | refine blk_alloc ?_ _)); exact BK371.out) hb); replace BK377 := Aside0.mk (blk_below (g := gb377) (o := .cells #[.slice Ao242 t372.length co242, .int .i64 t375] 25 (0, 0)) (by (with_reducible repeat (first | refine blk_drewN ?_ _ | refine blk_drew ?_ | refine blk_alloc ?_ _)); refine blk_put (cs := #[.slice Ao242 t372.length co242, .int .i64 0]) ?_ 1 _ rfl; (with_reducible repeat (first | refine blk_drewN ?_ _ | refine blk_drew ?_ | refine blk_alloc ?_ _)); refine blk_put (cs := #[.slice none 0 0, .int .i64 0]) ?_ 0 _ rfl; (with_reducible repeat (first | refine blk_drewN ?_ _ | refine blk_drew ?_ | refine blk_alloc ?_ _)); exact BK377.out) hb); replace HB := xws_ HB hb; (try clear hb); (try clear hb2); (try clear hk); (try clear hi); (try clear ho0)) | ((with_reducible refine gate_dst (N := 27) rfl ?_); refine xbe_ (N := 27) (cs := #[.slice none 0 0, .int .i64 0]) (t := 25) ?_; intro gb383 hg w252 hbox hb; replace HO_330000 := xqb_ HO_330000 hb; replace HO_331000 := xqb_ HO_331000 hb; replace HO_337000 := xqb_ HO_337000 hb; replace HO_343000 := xqb_ HO_343000 hb; replace HO_349000 := xqb_ HO_349000 hb; replace HO369 := xqb_ HO369 hb; replace HO374 := xrb_ HO374 hb; replace HO380 := xrb_ HO380 hb; have BK383 := Aside0.mk (hbox); have GW383 := xge_ HB hg; have GE383 := xge_ HB hg; replace HB := xws_ HB hb; have NB329_383 := xlt_ BK329 hg; have NB383_329 := xgt_ BK329 hg; replace BK329 := xbb_ BK329 hb; have NB330_383 := xlt_ BK330 hg; have NB383_330 := xgt_ BK330 hg; replace BK330 := xbb_ BK330 hb; have NB336_383 := xlt_ BK336 hg; have NB383_336 := xgt_ BK336 hg; replace BK336 := xbb_ BK336 hb; have NB342_383 := xlt_ BK342 hg; have NB383_342 := xgt_ BK342 hg; replace BK342 := xbb_ BK342 hb; have NB348_383 := xlt_ BK348 hg; have NB383_348 := xgt_ BK348 hg; replace BK348 := xbb_ BK348 hb; have NB371_383 := xlt_ BK371 hg; have NB383_371 := xgt_ BK371 hg; replace BK371 := xbb_ BK371 hb; have NB377_383 := xlt_ BK377 hg; have NB383_377 := xgt_ BK377 hg; replace BK377 := xbb_ BK377 hb; clear hb hbox hg; obtain ⟨Ao253, co253, eo253⟩ := Kd.R_slice HO380.out; subst eo253; have hnb254 := NB383_329.out; have hnc254 := NB329_383.out; have hnb255 := NB383_330.out; have hnc255 := NB330_383.out; have hnb256 := NB383_336.out; have hnc256 := NB336_383.out; have hnb257 := NB383_342.out; have hnc257 := NB342_383.out; have hnb258 := NB383_348.out; have hnc258 := NB348_383.out; have hnb259 := NB383_371.out; have hnc259 := NB371_383.out; have hnb260 := NB383_377.out; have hnc260 := NB377_383.out; have hcz261_0 : w252.cell? ⟨gb383, 0, none⟩ = some (.slice none 0 0) := xk_ BK383 0; have hcz261_1 : w252.cell? ⟨gb383, 1, none⟩ = some (.int .i64 0) := xk_ BK383 1; have hfz261_0 := blk_frozen BK383.out 0; have hfz261_1 := blk_frozen BK383.out 1; have hcz262_0 : w252.cell? ⟨gb377, 0, none⟩ = some (.slice Ao242 t372.length co242) := xk_ BK377 0; have hcz262_1 : w252.cell? ⟨gb377, 1, none⟩ = some (.int .i64 t375) := xk_ BK377 1; have hfz262_0 := blk_frozen BK377.out 0; have hfz262_1 := blk_frozen BK377.out 1) | (go_at_call 8; (with_reducible refine (laws_sameSketches.calls kj86 _ _ t372 t375 _ _ t378 t381 true _ ?side1 ?side2 ?side3 ?side4 A228.out).mono ?_); (case side1 => refine (Kd.R_reads' (e := 3) (base := w.heap.size) (ok := fun k_ => (((((((True ∧ some k_ ≠ (.slice Ao12 t321.length co12 : Value).ownBlock) ∧ some k_ ≠ (.slice Ao15 t325.length co15 : Value).ownBlock) ∧ some k_ ≠ (.slice Ao19 t331.length co19 : Value).ownBlock) ∧ some k_ ≠ (.slice Ao27 t337.length co27 : Value).ownBlock) ∧ some k_ ≠ (.slice Ao36 t343.length co36 : Value).ownBlock) ∧ some k_ ≠ (.slice Ao233 t367.length co233 : Value).ownBlock) ∧ some k_ ≠ (.slice Ao253 t378.length co253 : Value).ownBlock)) (n := t372.length) (c := co242) ?_).2.2; exact (xrt_ ((Kd.R_mono (Kd.R_far (p := ⟨gb383, 1, none⟩) (Kd.R_far (p := ⟨gb383, 0, none⟩) (Kd.R_types HO374.out BK383.out (by decide)) (fun _ hk => hk.2) (.slice Ao253 t378.length co253)) (fun _ hk => hk.2) (.int .i64 t381)) (fun _ h_ => h_.1))))); (case side2 => exact (Kd.R_reads' HO374.out).2.1); (case side3 => refine (Kd.R_reads' (e := 3) (base := w.heap.size) (ok := fun k_ => (((((((True ∧ some k_ ≠ (.slice Ao12 t321.length co12 : Value).ownBlock) ∧ some k_ ≠ (.slice Ao15 t325.length co15 : Value).ownBlock) ∧ some k_ ≠ (.slice Ao19 t331.length co19 : Value).ownBlock) ∧ some k_ ≠ (.slice Ao27 t337.length co27 : Value).ownBlock) ∧ some k_ ≠ (.slice Ao36 t343.length co36 : Value).ownBlock) ∧ some k_ ≠ (.slice Ao233 t367.length co233 : Value).ownBlock) ∧ some k_ ≠ (.slice Ao242 t372.length co242 : Value).ownBlock)) (n := t378.length) (c := co253) ?_).2.2; exact (xrt_ ((Kd.R_mono (Kd.R_far (p := ⟨gb383, 1, none⟩) (Kd.R_far (p := ⟨gb383, 0, none⟩) (Kd.R_types HO380.out BK383.out (by decide)) (fun _ hk => hk.2) (.slice Ao253 t378.length co253)) (fun _ hk => hk.2) (.int .i64 t381)) (fun _ h_ => h_.1))))); (case side4 => exact (Kd.R_reads' HO380.out).2.1); rintro e w263 ⟨rfl, hb⟩; replace HO_330000 := Aside0.mk (Kd.Q_below (xqt_ ((Kd.Q_mono (Kd.Q_far (p := ⟨gb383, 1, none⟩) (Kd.Q_far (p := ⟨gb383, 0, none⟩) (Kd.Q_types HO_330000.out BK383.out (by decide)) (fun _ hk => hk.2) (.slice Ao253 t378.length co253)) (fun _ hk => hk.2) (.int .i64 t381)) (fun _ h_ => h_.1)))) hb); replace HO_331000 := Aside0.mk (Kd.Q_below (xqt_ ((Kd.Q_mono (Kd.Q_far (p := ⟨gb383, 1, none⟩) (Kd.Q_far (p := ⟨gb383, 0, none⟩) (Kd.Q_types HO_331000.out BK383.out (by decide)) (fun _ hk => hk.2) (.slice Ao253 t378.length co253)) (fun _ hk => hk.2) (.int .i64 t381)) (fun _ h_ => h_.1)))) hb); replace HO_337000 := Aside0.mk (Kd.Q_below (xqt_ ((Kd.Q_mono (Kd.Q_far (p := ⟨gb383, 1, none⟩) (Kd.Q_far (p := ⟨gb383, 0, none⟩) (Kd.Q_types HO_337000.out BK383.out (by decide)) (fun _ hk => hk.2) (.slice Ao253 t378.length co253)) (fun _ hk => hk.2) (.int .i64 t381)) (fun _ h_ => h_.1)))) hb); replace HO_343000 := Aside0.mk (Kd.Q_below (xqt_ ((Kd.Q_mono (Kd.Q_far (p := ⟨gb383, 1, none⟩) (Kd.Q_far (p := ⟨gb383, 0, none⟩) (Kd.Q_types HO_343000.out BK383.out (by decide)) (fun _ hk => hk.2) (.slice Ao253 t378.length co253)) (fun _ hk => hk.2) (.int .i64 t381)) (fun _ h_ => h_.1)))) hb); replace HO_349000 := Aside0.mk (Kd.Q_below (xqt_ ((Kd.Q_mono (Kd.Q_far (p := ⟨gb383, 1, none⟩) (Kd.Q_far (p := ⟨gb383, 0, none⟩) (Kd.Q_types HO_349000.out BK383.out (by decide)) (fun _ hk => hk.2) (.slice Ao253 t378.length co253)) (fun _ hk => hk.2) (.int .i64 t381)) (fun _ h_ => h_.1)))) hb); replace HO369 := Aside0.mk (Kd.Q_below (xqt_ ((Kd.Q_mono (Kd.Q_far (p := ⟨gb383, 1, none⟩) (Kd.Q_far (p := ⟨gb383, 0, none⟩) (Kd.Q_types HO369.out BK383.out (by decide)) (fun _ hk => hk.2) (.slice Ao253 t378.length co253)) (fun _ hk => hk.2) (.int .i64 t381)) (fun _ h_ => h_.1)))) hb); replace HO374 := Aside0.mk (Kd.R_below (xrt_ ((Kd.R_mono (Kd.R_far (p := ⟨gb383, 1, none⟩) (Kd.R_far (p := ⟨gb383, 0, none⟩) (Kd.R_types HO374.out BK383.out (by decide)) (fun _ hk => hk.2) (.slice Ao253 t378.length co253)) (fun _ hk => hk.2) (.int .i64 t381)) (fun _ h_ => h_.1)))) hb); replace HO380 := Aside0.mk (Kd.R_below (xrt_ ((Kd.R_mono (Kd.R_far (p := ⟨gb383, 1, none⟩) (Kd.R_far (p := ⟨gb383, 0, none⟩) (Kd.R_types HO380.out BK383.out (by decide)) (fun _ hk => hk.2) (.slice Ao253 t378.length co253)) (fun _ hk => hk.2) (.int .i64 t381)) (fun _ h_ => h_.1)))) hb); replace BK329 := Aside0.mk (blk_below (g := gb329) (o := .cells #[.slice Ao12 t321.length co12, .int .i64 t324] 25 (0, 0)) (by (with_reducible repeat (first | refine blk_drewN ?_ _ | refine blk_drew ?_ | refine blk_alloc ?_ _)); refine blk_far ?_ NB329_383.out _; (with_reducible repeat (first | refine blk_drewN ?_ _ | refine blk_drew ?_ | refine blk_alloc ?_ _)); refine blk_far ?_ NB329_383.out _; (with_reducible repeat (first | refine blk_drewN ?_ _ | refine blk_drew ?_ | refine blk_alloc ?_ _)); exact BK329.out) hb); replace BK330 := Aside0.mk (blk_below (g := gb330) (o := .cells #[.slice Ao15 t325.length co15, .int .i64 t328] 25 (0, 0)) (by (with_reducible repeat (first | refine blk_drewN ?_ _ | refine blk_drew ?_ | refine blk_alloc ?_ _)); refine blk_far ?_ NB330_383.out _; (with_reducible repeat (first | refine blk_drewN ?_ _ | refine blk_drew ?_ | refine blk_alloc ?_ _)); refine blk_far ?_ NB330_383.out _; (with_reducible repeat (first | refine blk_drewN ?_ _ | refine blk_drew ?_ | refine blk_alloc ?_ _)); exact BK330.out) hb); replace BK336 := Aside0.mk (blk_below (g := gb336) (o := .cells #[.slice Ao19 t331.length co19, .int .i64 t334] 25 (0, 0)) (by (with_reducible repeat (first | refine blk_drewN ?_ _ | refine blk_drew ?_ | refine blk_alloc ?_ _)); refine blk_far ?_ NB336_383.out _; (with_reducible repeat (first | refine blk_drewN ?_ _ | refine blk_drew ?_ | refine blk_alloc ?_ _)); refine blk_far ?_ NB336_383.out _; (with_reducible repeat (first | refine blk_drewN ?_ _ | refine blk_drew ?_ | refine blk_alloc ?_ _)); exact BK336.out) hb); replace BK342 := Aside0.mk (blk_below (g := gb342) (o := .cells #[.slice Ao27 t337.length co27, .int .i64 t340] 25 (0, 0)) (by (with_reducible repeat (first | refine blk_drewN ?_ _ | refine blk_drew ?_ | refine blk_alloc ?_ _)); refine blk_far ?_ NB342_383.out _; (with_reducible repeat (first | refine blk_drewN ?_ _ | refine blk_drew ?_ | refine blk_alloc ?_ _)); refine blk_far ?_ NB342_383.out _; (with_reducible repeat (first | refine blk_drewN ?_ _ | refine blk_drew ?_ | refine blk_alloc ?_ _)); exact BK342.out) hb); replace BK348 := Aside0.mk (blk_below (g := gb348) (o := .cells #[.slice Ao36 t343.length co36, .int .i64 t346] 25 (0, 0)) (by (with_reducible repeat (first | refine blk_drewN ?_ _ | refine blk_drew ?_ | refine blk_alloc ?_ _)); refine blk_far ?_ NB348_383.out _; (with_reducible repeat (first | refine blk_drewN ?_ _ | refine blk_drew ?_ | refine blk_alloc ?_ _)); refine blk_far ?_ NB348_383.out _; (with_reducible repeat (first | refine blk_drewN ?_ _ | refine blk_drew ?_ | refine blk_alloc ?_ _)); exact BK348.out) hb); replace BK371 := Aside0.mk (blk_below (g := gb371) (o := .cells #[.slice Ao233 t367.length co233, .int .i64 t370] 25 (0, 0)) (by (with_reducible repeat (first | refine blk_drewN ?_ _ | refine blk_drew ?_ | refine blk_alloc ?_ _)); refine blk_far ?_ NB371_383.out _; (with_reducible repeat (first | refine blk_drewN ?_ _ | refine blk_drew ?_ | refine blk_alloc ?_ _)); refine blk_far ?_ NB371_383.out _; (with_reducible repeat (first | refine blk_drewN ?_ _ | refine blk_drew ?_ | refine blk_alloc ?_ _)); exact BK371.out) hb); replace BK377 := Aside0.mk (blk_below (g := gb377) (o := .cells #[.slice Ao242 t372.length co242, .int .i64 t375] 25 (0, 0)) (by (with_reducible repeat (first | refine blk_drewN ?_ _ | refine blk_drew ?_ | refine blk_alloc ?_ _)); refine blk_far ?_ NB377_383.out _; (with_reducible repeat (first | refine blk_drewN ?_ _ | refine blk_drew ?_ | refine blk_alloc ?_ _)); refine blk_far ?_ NB377_383.out _; (with_reducible repeat (first | refine blk_drewN ?_ _ | refine blk_drew ?_ | refine blk_alloc ?_ _)); exact BK377.out) hb); replace BK383 := Aside0.mk (blk_below (g := gb383) (o := .cells #[.slice Ao253 t378.length co253, .int .i64 t381] 25 (0, 0)) (by (with_reducible repeat (first | refine blk_drewN ?_ _ | refine blk_drew ?_ | refine blk_alloc ?_ _)); refine blk_put (cs := #[.slice Ao253 t378.length co253, .int .i64 0]) ?_ 1 _ rfl; (with_reducible repeat (first | refine blk_drewN ?_ _ | refine blk_drew ?_ | refine blk_alloc ?_ _)); refine blk_put (cs := #[.slice none 0 0, .int .i64 0]) ?_ 0 _ rfl; (with_reducible repeat (first | refine blk_drewN ?_ _ | refine blk_drew ?_ | refine blk_alloc ?_ _)); exact BK383.out) hb); replace HB := xws_ HB hb; (try clear hb); (try clear hb2); (try clear hk); (try clear hi); have hcz264_0 : w263.cell? ⟨gb377, 0, none⟩ = some (.slice Ao242 t372.length co242) := xk_ BK377 0; have hcz264_1 : w263.cell? ⟨gb377, 1, none⟩ = some (.int .i64 t375) := xk_ BK377 1; have hfz264_0 := blk_frozen BK377.out 0; have hfz264_1 := blk_frozen BK377.out 1; have hcz265_0 : w263.cell? ⟨gb371, 0, none⟩ = some (.slice Ao233 t367.length co233) := xk_ BK371 0; have hcz265_1 : w263.cell? ⟨gb371, 1, none⟩ = some (.int .i64 t370) := xk_ BK371 1; have hfz265_0 := blk_frozen BK371.out 0; have hfz265_1 := blk_frozen BK371.out 1))
               go_ret
               exact ⟨by first | rfl | (simp [errW_none, errW_some] <;> rfl) | (simp [*, errW_none, errW_some] <;> rfl), xw_ HB⟩
              ·replace c230 := Bool.eq_false_iff.mpr c230
               subst c230
               have H1 : (some true) = some r := by rw [if_neg (show ¬ (false = true) by decide)] at H; exact H
               clear H
               have H := H1
               clear H1
               obtain rfl := Option.some.inj H
               go_wp2_with (first | ((with_reducible refine gate_callee (f := 22) rfl ?_); refine xgl_ (some 149) Try.func22 #[.slice A1 l1.length c1] ?_; (with_reducible refine (spec_DrawHalveSketch.calls kj86 _ _ l1 t367 t370 _ ?side1 ?side2 A193.out).mono ?_); (case side1 => exact xc_ ((Kd.C_below HR1.out HB.out))); (case side2 => exact HC1.out); rintro e w266 ⟨v368, rfl, ho0, hb⟩; refine ⟨_, rfl, ?_⟩; have HO369 := Aside0.mk (Kd.Q_lower (Kd.Q_new' (Kd.Q_new' (Kd.Q_new' (Kd.Q_new' (Kd.Q_new' ho0 (Kd.Q_lt (xq_ HO_330000))) (Kd.Q_lt (xq_ HO_331000))) (Kd.Q_lt (xq_ HO_337000))) (Kd.Q_lt (xq_ HO_343000))) (Kd.Q_lt (xq_ HO_349000))) (below_size (xw_ HB))); replace HO_330000 := xqe_ HO_330000 (Kd.Q_base ho0) hb; replace HO_331000 := xqe_ HO_331000 (Kd.Q_base ho0) hb; replace HO_337000 := xqe_ HO_337000 (Kd.Q_base ho0) hb; replace HO_343000 := xqe_ HO_343000 (Kd.Q_base ho0) hb; replace HO_349000 := xqe_ HO_349000 (Kd.Q_base ho0) hb; replace BK329 := xbb_ BK329 hb; replace BK330 := xbb_ BK330 hb; replace BK336 := xbb_ BK336 hb; replace BK342 := xbb_ BK342 hb; replace BK348 := xbb_ BK348 hb; replace HB := xws_ HB hb; (try clear hb); (try clear hb2); (try clear hk); (try clear hi); (try clear ho0)) | ((with_reducible refine gate_dst (N := 24) rfl ?_); refine xbe_ (N := 24) (cs := #[.slice none 0 0, .int .i64 0]) (t := 25) ?_; intro gb371 hg w267 hbox hb; replace HO_330000 := xqb_ HO_330000 hb; replace HO_331000 := xqb_ HO_331000 hb; replace HO_337000 := xqb_ HO_337000 hb; replace HO_343000 := xqb_ HO_343000 hb; replace HO_349000 := xqb_ HO_349000 hb; replace HO369 := xqb_ HO369 hb; have BK371 := Aside0.mk (hbox); have GW371 := xge_ HB hg; have GE371 := xge_ HB hg; replace HB := xws_ HB hb; have NB329_371 := xlt_ BK329 hg; have NB371_329 := xgt_ BK329 hg; replace BK329 := xbb_ BK329 hb; have NB330_371 := xlt_ BK330 hg; have NB371_330 := xgt_ BK330 hg; replace BK330 := xbb_ BK330 hb; have NB336_371 := xlt_ BK336 hg; have NB371_336 := xgt_ BK336 hg; replace BK336 := xbb_ BK336 hb; have NB342_371 := xlt_ BK342 hg; have NB371_342 := xgt_ BK342 hg; replace BK342 := xbb_ BK342 hb; have NB348_371 := xlt_ BK348 hg; have NB371_348 := xgt_ BK348 hg; replace BK348 := xbb_ BK348 hb; clear hb hbox hg; obtain ⟨Ao268, co268, eo268, _⟩ := Kd.Q_slice HO369.out; subst eo268; have hnb269 := NB371_329.out; have hnc269 := NB329_371.out; have hnb270 := NB371_330.out; have hnc270 := NB330_371.out; have hnb271 := NB371_336.out; have hnc271 := NB336_371.out; have hnb272 := NB371_342.out; have hnc272 := NB342_371.out; have hnb273 := NB371_348.out; have hnc273 := NB348_371.out; have hcz274_0 : w267.cell? ⟨gb371, 0, none⟩ = some (.slice none 0 0) := xk_ BK371 0; have hcz274_1 : w267.cell? ⟨gb371, 1, none⟩ = some (.int .i64 0) := xk_ BK371 1; have hfz274_0 := blk_frozen BK371.out 0; have hfz274_1 := blk_frozen BK371.out 1) | ((with_reducible refine gate_callee (f := 23) rfl ?_); refine xgl_ (some 152) Try.func23 #[.agg #[.slice Ao268 t367.length co268, .int .i64 t370]] ?_; (with_reducible refine (impl_HalveSketch.calls kj86 _ _ t367 t370 t372 t375 false _ ?side1 ?side2 A194.out).mono ?_); (case side1 => refine (Kd.Q_reads' (e := 3) (base := w.heap.size) (ok := fun k_ => (((((True ∧ some k_ ≠ (.slice Ao12 t321.length co12 : Value).ownBlock) ∧ some k_ ≠ (.slice Ao15 t325.length co15 : Value).ownBlock) ∧ some k_ ≠ (.slice Ao19 t331.length co19 : Value).ownBlock) ∧ some k_ ≠ (.slice Ao27 t337.length co27 : Value).ownBlock) ∧ some k_ ≠ (.slice Ao36 t343.length co36 : Value).ownBlock)) (n := t367.length) (c := co268) ?_).2.2; exact (xqt_ ((Kd.Q_mono (Kd.Q_far (p := ⟨gb371, 1, none⟩) (Kd.Q_far (p := ⟨gb371, 0, none⟩) (Kd.Q_types HO369.out BK371.out (by decide)) (fun _ hk => hk.2) (.slice Ao268 t367.length co268)) (fun _ hk => hk.2) (.int .i64 t370)) (fun _ h_ => h_.1))))); (case side2 => exact (Kd.Q_reads' HO369.out).2.1); rintro e w275 ⟨v373, rfl, ho0, hb⟩; refine ⟨_, rfl, ?_⟩; have HO374 := Aside0.mk (Kd.R_lower (Kd.R_new' (Kd.R_new' (Kd.R_new' (Kd.R_new' (Kd.R_new' (Kd.R_new' ho0 (Kd.Q_lt (xqt_ ((Kd.Q_mono (Kd.Q_far (p := ⟨gb371, 1, none⟩) (Kd.Q_far (p := ⟨gb371, 0, none⟩) (Kd.Q_types HO_330000.out BK371.out (by decide)) (fun _ hk => hk.2) (.slice Ao268 t367.length co268)) (fun _ hk => hk.2) (.int .i64 t370)) (fun _ h_ => h_.1)))))) (Kd.Q_lt (xqt_ ((Kd.Q_mono (Kd.Q_far (p := ⟨gb371, 1, none⟩) (Kd.Q_far (p := ⟨gb371, 0, none⟩) (Kd.Q_types HO_331000.out BK371.out (by decide)) (fun _ hk => hk.2) (.slice Ao268 t367.length co268)) (fun _ hk => hk.2) (.int .i64 t370)) (fun _ h_ => h_.1)))))) (Kd.Q_lt (xqt_ ((Kd.Q_mono (Kd.Q_far (p := ⟨gb371, 1, none⟩) (Kd.Q_far (p := ⟨gb371, 0, none⟩) (Kd.Q_types HO_337000.out BK371.out (by decide)) (fun _ hk => hk.2) (.slice Ao268 t367.length co268)) (fun _ hk => hk.2) (.int .i64 t370)) (fun _ h_ => h_.1)))))) (Kd.Q_lt (xqt_ ((Kd.Q_mono (Kd.Q_far (p := ⟨gb371, 1, none⟩) (Kd.Q_far (p := ⟨gb371, 0, none⟩) (Kd.Q_types HO_343000.out BK371.out (by decide)) (fun _ hk => hk.2) (.slice Ao268 t367.length co268)) (fun _ hk => hk.2) (.int .i64 t370)) (fun _ h_ => h_.1)))))) (Kd.Q_lt (xqt_ ((Kd.Q_mono (Kd.Q_far (p := ⟨gb371, 1, none⟩) (Kd.Q_far (p := ⟨gb371, 0, none⟩) (Kd.Q_types HO_349000.out BK371.out (by decide)) (fun _ hk => hk.2) (.slice Ao268 t367.length co268)) (fun _ hk => hk.2) (.int .i64 t370)) (fun _ h_ => h_.1)))))) (Kd.Q_lt (xqt_ ((Kd.Q_mono (Kd.Q_far (p := ⟨gb371, 1, none⟩) (Kd.Q_far (p := ⟨gb371, 0, none⟩) (Kd.Q_types HO369.out BK371.out (by decide)) (fun _ hk => hk.2) (.slice Ao268 t367.length co268)) (fun _ hk => hk.2) (.int .i64 t370)) (fun _ h_ => h_.1)))))) (below_size (xw_ HB))); replace HO_330000 := Aside0.mk (Kd.Q_elder' (xqt_ ((Kd.Q_mono (Kd.Q_far (p := ⟨gb371, 1, none⟩) (Kd.Q_far (p := ⟨gb371, 0, none⟩) (Kd.Q_types HO_330000.out BK371.out (by decide)) (fun _ hk => hk.2) (.slice Ao268 t367.length co268)) (fun _ hk => hk.2) (.int .i64 t370)) (fun _ h_ => h_.1)))) (Kd.R_base ho0) hb); replace HO_331000 := Aside0.mk (Kd.Q_elder' (xqt_ ((Kd.Q_mono (Kd.Q_far (p := ⟨gb371, 1, none⟩) (Kd.Q_far (p := ⟨gb371, 0, none⟩) (Kd.Q_types HO_331000.out BK371.out (by decide)) (fun _ hk => hk.2) (.slice Ao268 t367.length co268)) (fun _ hk => hk.2) (.int .i64 t370)) (fun _ h_ => h_.1)))) (Kd.R_base ho0) hb); replace HO_337000 := Aside0.mk (Kd.Q_elder' (xqt_ ((Kd.Q_mono (Kd.Q_far (p := ⟨gb371, 1, none⟩) (Kd.Q_far (p := ⟨gb371, 0, none⟩) (Kd.Q_types HO_337000.out BK371.out (by decide)) (fun _ hk => hk.2) (.slice Ao268 t367.length co268)) (fun _ hk => hk.2) (.int .i64 t370)) (fun _ h_ => h_.1)))) (Kd.R_base ho0) hb); replace HO_343000 := Aside0.mk (Kd.Q_elder' (xqt_ ((Kd.Q_mono (Kd.Q_far (p := ⟨gb371, 1, none⟩) (Kd.Q_far (p := ⟨gb371, 0, none⟩) (Kd.Q_types HO_343000.out BK371.out (by decide)) (fun _ hk => hk.2) (.slice Ao268 t367.length co268)) (fun _ hk => hk.2) (.int .i64 t370)) (fun _ h_ => h_.1)))) (Kd.R_base ho0) hb); replace HO_349000 := Aside0.mk (Kd.Q_elder' (xqt_ ((Kd.Q_mono (Kd.Q_far (p := ⟨gb371, 1, none⟩) (Kd.Q_far (p := ⟨gb371, 0, none⟩) (Kd.Q_types HO_349000.out BK371.out (by decide)) (fun _ hk => hk.2) (.slice Ao268 t367.length co268)) (fun _ hk => hk.2) (.int .i64 t370)) (fun _ h_ => h_.1)))) (Kd.R_base ho0) hb); replace HO369 := Aside0.mk (Kd.Q_elder' (xqt_ ((Kd.Q_mono (Kd.Q_far (p := ⟨gb371, 1, none⟩) (Kd.Q_far (p := ⟨gb371, 0, none⟩) (Kd.Q_types HO369.out BK371.out (by decide)) (fun _ hk => hk.2) (.slice Ao268 t367.length co268)) (fun _ hk => hk.2) (.int .i64 t370)) (fun _ h_ => h_.1)))) (Kd.R_base ho0) hb); replace BK329 := Aside0.mk (blk_below (g := gb329) (o := .cells #[.slice Ao12 t321.length co12, .int .i64 t324] 25 (0, 0)) (by (with_reducible repeat (first | refine blk_drewN ?_ _ | refine blk_drew ?_ | refine blk_alloc ?_ _)); refine blk_far ?_ NB329_371.out _; (with_reducible repeat (first | refine blk_drewN ?_ _ | refine blk_drew ?_ | refine blk_alloc ?_ _)); refine blk_far ?_ NB329_371.out _; (with_reducible repeat (first | refine blk_drewN ?_ _ | refine blk_drew ?_ | refine blk_alloc ?_ _)); exact BK329.out) hb); replace BK330 := Aside0.mk (blk_below (g := gb330) (o := .cells #[.slice Ao15 t325.length co15, .int .i64 t328] 25 (0, 0)) (by (with_reducible repeat (first | refine blk_drewN ?_ _ | refine blk_drew ?_ | refine blk_alloc ?_ _)); refine blk_far ?_ NB330_371.out _; (with_reducible repeat (first | refine blk_drewN ?_ _ | refine blk_drew ?_ | refine blk_alloc ?_ _)); refine blk_far ?_ NB330_371.out _; (with_reducible repeat (first | refine blk_drewN ?_ _ | refine blk_drew ?_ | refine blk_alloc ?_ _)); exact BK330.out) hb); replace BK336 := Aside0.mk (blk_below (g := gb336) (o := .cells #[.slice Ao19 t331.length co19, .int .i64 t334] 25 (0, 0)) (by (with_reducible repeat (first | refine blk_drewN ?_ _ | refine blk_drew ?_ | refine blk_alloc ?_ _)); refine blk_far ?_ NB336_371.out _; (with_reducible repeat (first | refine blk_drewN ?_ _ | refine blk_drew ?_ | refine blk_alloc ?_ _)); refine blk_far ?_ NB336_371.out _; (with_reducible repeat (first | refine blk_drewN ?_ _ | refine blk_drew ?_ | refine blk_alloc ?_ _)); exact BK336.out) hb); replace BK342 := Aside0.mk (blk_below (g := gb342) (o := .cells #[.slice Ao27 t337.length co27, .int .i64 t340] 25 (0, 0)) (by (with_reducible repeat (first | refine blk_drewN ?_ _ | refine blk_drew ?_ | refine blk_alloc ?_ _)); refine blk_far ?_ NB342_371.out _; (with_reducible repeat (first | refine blk_drewN ?_ _ | refine blk_drew ?_ | refine blk_alloc ?_ _)); refine blk_far ?_ NB342_371.out _; (with_reducible repeat (first | refine blk_drewN ?_ _ | refine blk_drew ?_ | refine blk_alloc ?_ _)); exact BK342.out) hb); replace BK348 := Aside0.mk (blk_below (g := gb348) (o := .cells #[.slice Ao36 t343.length co36, .int .i64 t346] 25 (0, 0)) (by (with_reducible repeat (first | refine blk_drewN ?_ _ | refine blk_drew ?_ | refine blk_alloc ?_ _)); refine blk_far ?_ NB348_371.out _; (with_reducible repeat (first | refine blk_drewN ?_ _ | refine blk_drew ?_ | refine blk_alloc ?_ _)); refine blk_far ?_ NB348_371.out _; (with_reducible repeat (first | refine blk_drewN ?_ _ | refine blk_drew ?_ | refine blk_alloc ?_ _)); exact BK348.out) hb); replace BK371 := Aside0.mk (blk_below (g := gb371) (o := .cells #[.slice Ao268 t367.length co268, .int .i64 t370] 25 (0, 0)) (by (with_reducible repeat (first | refine blk_drewN ?_ _ | refine blk_drew ?_ | refine blk_alloc ?_ _)); refine blk_put (cs := #[.slice Ao268 t367.length co268, .int .i64 0]) ?_ 1 _ rfl; (with_reducible repeat (first | refine blk_drewN ?_ _ | refine blk_drew ?_ | refine blk_alloc ?_ _)); refine blk_put (cs := #[.slice none 0 0, .int .i64 0]) ?_ 0 _ rfl; (with_reducible repeat (first | refine blk_drewN ?_ _ | refine blk_drew ?_ | refine blk_alloc ?_ _)); exact BK371.out) hb); replace HB := xws_ HB hb; (try clear hb); (try clear hb2); (try clear hk); (try clear hi); (try clear ho0)) | ((with_reducible refine gate_dst (N := 25) rfl ?_); refine xbe_ (N := 25) (cs := #[.slice none 0 0, .int .i64 0]) (t := 25) ?_; intro gb377 hg w276 hbox hb; replace HO_330000 := xqb_ HO_330000 hb; replace HO_331000 := xqb_ HO_331000 hb; replace HO_337000 := xqb_ HO_337000 hb; replace HO_343000 := xqb_ HO_343000 hb; replace HO_349000 := xqb_ HO_349000 hb; replace HO369 := xqb_ HO369 hb; replace HO374 := xrb_ HO374 hb; have BK377 := Aside0.mk (hbox); have GW377 := xge_ HB hg; have GE377 := xge_ HB hg; replace HB := xws_ HB hb; have NB329_377 := xlt_ BK329 hg; have NB377_329 := xgt_ BK329 hg; replace BK329 := xbb_ BK329 hb; have NB330_377 := xlt_ BK330 hg; have NB377_330 := xgt_ BK330 hg; replace BK330 := xbb_ BK330 hb; have NB336_377 := xlt_ BK336 hg; have NB377_336 := xgt_ BK336 hg; replace BK336 := xbb_ BK336 hb; have NB342_377 := xlt_ BK342 hg; have NB377_342 := xgt_ BK342 hg; replace BK342 := xbb_ BK342 hb; have NB348_377 := xlt_ BK348 hg; have NB377_348 := xgt_ BK348 hg; replace BK348 := xbb_ BK348 hb; have NB371_377 := xlt_ BK371 hg; have NB377_371 := xgt_ BK371 hg; replace BK371 := xbb_ BK371 hb; clear hb hbox hg; obtain ⟨Ao277, co277, eo277⟩ := Kd.R_slice HO374.out; subst eo277; have hnb278 := NB377_329.out; have hnc278 := NB329_377.out; have hnb279 := NB377_330.out; have hnc279 := NB330_377.out; have hnb280 := NB377_336.out; have hnc280 := NB336_377.out; have hnb281 := NB377_342.out; have hnc281 := NB342_377.out; have hnb282 := NB377_348.out; have hnc282 := NB348_377.out; have hnb283 := NB377_371.out; have hnc283 := NB371_377.out; have hcz284_0 : w276.cell? ⟨gb377, 0, none⟩ = some (.slice none 0 0) := xk_ BK377 0; have hcz284_1 : w276.cell? ⟨gb377, 1, none⟩ = some (.int .i64 0) := xk_ BK377 1; have hfz284_0 := blk_frozen BK377.out 0; have hfz284_1 := blk_frozen BK377.out 1; have hcz285_0 : w276.cell? ⟨gb371, 0, none⟩ = some (.slice Ao268 t367.length co268) := xk_ BK371 0; have hcz285_1 : w276.cell? ⟨gb371, 1, none⟩ = some (.int .i64 t370) := xk_ BK371 1; have hfz285_0 := blk_frozen BK371.out 0; have hfz285_1 := blk_frozen BK371.out 1) | ((with_reducible refine gate_callee (f := 24) rfl ?_); refine xgl_ (some 157) Try.func24 #[.agg #[.slice Ao268 t367.length co268, .int .i64 t370]] ?_; (with_reducible refine (spec_HalveSketch.calls kj86 _ _ t367 t370 t378 t381 t382 _ ?side1 ?side2 A195.out).mono ?_); (case side1 => refine (Kd.Q_reads' (e := 3) (base := w.heap.size) (ok := fun k_ => ((((((True ∧ some k_ ≠ (.slice Ao12 t321.length co12 : Value).ownBlock) ∧ some k_ ≠ (.slice Ao15 t325.length co15 : Value).ownBlock) ∧ some k_ ≠ (.slice Ao19 t331.length co19 : Value).ownBlock) ∧ some k_ ≠ (.slice Ao27 t337.length co27 : Value).ownBlock) ∧ some k_ ≠ (.slice Ao36 t343.length co36 : Value).ownBlock) ∧ some k_ ≠ (.slice Ao277 t372.length co277 : Value).ownBlock)) (n := t367.length) (c := co268) ?_).2.2; exact (xqt_ ((Kd.Q_mono (Kd.Q_far (p := ⟨gb377, 1, none⟩) (Kd.Q_far (p := ⟨gb377, 0, none⟩) (Kd.Q_types HO369.out BK377.out (by decide)) (fun _ hk => hk.2) (.slice Ao277 t372.length co277)) (fun _ hk => hk.2) (.int .i64 t375)) (fun _ h_ => h_.1))))); (case side2 => exact (Kd.Q_reads' HO369.out).2.1); rintro e w286 ⟨v379, rfl, ho0, hb⟩; refine ⟨_, rfl, ?_⟩; have HO380 := Aside0.mk (Kd.R_lower (Kd.R_new' (Kd.R_new' (Kd.R_new' (Kd.R_new' (Kd.R_new' (Kd.R_new' (Kd.R_new' ho0 (Kd.Q_lt (xqt_ ((Kd.Q_mono (Kd.Q_far (p := ⟨gb377, 1, none⟩) (Kd.Q_far (p := ⟨gb377, 0, none⟩) (Kd.Q_types HO_330000.out BK377.out (by decide)) (fun _ hk => hk.2) (.slice Ao277 t372.length co277)) (fun _ hk => hk.2) (.int .i64 t375)) (fun _ h_ => h_.1)))))) (Kd.Q_lt (xqt_ ((Kd.Q_mono (Kd.Q_far (p := ⟨gb377, 1, none⟩) (Kd.Q_far (p := ⟨gb377, 0, none⟩) (Kd.Q_types HO_331000.out BK377.out (by decide)) (fun _ hk => hk.2) (.slice Ao277 t372.length co277)) (fun _ hk => hk.2) (.int .i64 t375)) (fun _ h_ => h_.1)))))) (Kd.Q_lt (xqt_ ((Kd.Q_mono (Kd.Q_far (p := ⟨gb377, 1, none⟩) (Kd.Q_far (p := ⟨gb377, 0, none⟩) (Kd.Q_types HO_337000.out BK377.out (by decide)) (fun _ hk => hk.2) (.slice Ao277 t372.length co277)) (fun _ hk => hk.2) (.int .i64 t375)) (fun _ h_ => h_.1)))))) (Kd.Q_lt (xqt_ ((Kd.Q_mono (Kd.Q_far (p := ⟨gb377, 1, none⟩) (Kd.Q_far (p := ⟨gb377, 0, none⟩) (Kd.Q_types HO_343000.out BK377.out (by decide)) (fun _ hk => hk.2) (.slice Ao277 t372.length co277)) (fun _ hk => hk.2) (.int .i64 t375)) (fun _ h_ => h_.1)))))) (Kd.Q_lt (xqt_ ((Kd.Q_mono (Kd.Q_far (p := ⟨gb377, 1, none⟩) (Kd.Q_far (p := ⟨gb377, 0, none⟩) (Kd.Q_types HO_349000.out BK377.out (by decide)) (fun _ hk => hk.2) (.slice Ao277 t372.length co277)) (fun _ hk => hk.2) (.int .i64 t375)) (fun _ h_ => h_.1)))))) (Kd.Q_lt (xqt_ ((Kd.Q_mono (Kd.Q_far (p := ⟨gb377, 1, none⟩) (Kd.Q_far (p := ⟨gb377, 0, none⟩) (Kd.Q_types HO369.out BK377.out (by decide)) (fun _ hk => hk.2) (.slice Ao277 t372.length co277)) (fun _ hk => hk.2) (.int .i64 t375)) (fun _ h_ => h_.1)))))) (Kd.R_lt (xrt_ ((Kd.R_mono (Kd.R_far (p := ⟨gb377, 1, none⟩) (Kd.R_far (p := ⟨gb377, 0, none⟩) (Kd.R_types HO374.out BK377.out (by decide)) (fun _ hk => hk.2) (.slice Ao277 t372.length co277)) (fun _ hk => hk.2) (.int .i64 t375)) (fun _ h_ => h_.1)))))) (below_size (xw_ HB))); replace HO_330000 := Aside0.mk (Kd.Q_elder' (xqt_ ((Kd.Q_mono (Kd.Q_far (p := ⟨gb377, 1, none⟩) (Kd.Q_far (p := ⟨gb377, 0, none⟩) (Kd.Q_types HO_330000.out BK377.out (by decide)) (fun _ hk => hk.2) (.slice Ao277 t372.length co277)) (fun _ hk => hk.2) (.int .i64 t375)) (fun _ h_ => h_.1)))) (Kd.R_base ho0) hb); replace HO_331000 := Aside0.mk (Kd.Q_elder' (xqt_ ((Kd.Q_mono (Kd.Q_far (p := ⟨gb377, 1, none⟩) (Kd.Q_far (p := ⟨gb377, 0, none⟩) (Kd.Q_types HO_331000.out BK377.out (by decide)) (fun _ hk => hk.2) (.slice Ao277 t372.length co277)) (fun _ hk => hk.2) (.int .i64 t375)) (fun _ h_ => h_.1)))) (Kd.R_base ho0) hb); replace HO_337000 := Aside0.mk (Kd.Q_elder' (xqt_ ((Kd.Q_mono (Kd.Q_far (p := ⟨gb377, 1, none⟩) (Kd.Q_far (p := ⟨gb377, 0, none⟩) (Kd.Q_types HO_337000.out BK377.out (by decide)) (fun _ hk => hk.2) (.slice Ao277 t372.length co277)) (fun _ hk => hk.2) (.int .i64 t375)) (fun _ h_ => h_.1)))) (Kd.R_base ho0) hb); replace HO_343000 := Aside0.mk (Kd.Q_elder' (xqt_ ((Kd.Q_mono (Kd.Q_far (p := ⟨gb377, 1, none⟩) (Kd.Q_far (p := ⟨gb377, 0, none⟩) (Kd.Q_types HO_343000.out BK377.out (by decide)) (fun _ hk => hk.2) (.slice Ao277 t372.length co277)) (fun _ hk => hk.2) (.int .i64 t375)) (fun _ h_ => h_.1)))) (Kd.R_base ho0) hb); replace HO_349000 := Aside0.mk (Kd.Q_elder' (xqt_ ((Kd.Q_mono (Kd.Q_far (p := ⟨gb377, 1, none⟩) (Kd.Q_far (p := ⟨gb377, 0, none⟩) (Kd.Q_types HO_349000.out BK377.out (by decide)) (fun _ hk => hk.2) (.slice Ao277 t372.length co277)) (fun _ hk => hk.2) (.int .i64 t375)) (fun _ h_ => h_.1)))) (Kd.R_base ho0) hb); replace HO369 := Aside0.mk (Kd.Q_elder' (xqt_ ((Kd.Q_mono (Kd.Q_far (p := ⟨gb377, 1, none⟩) (Kd.Q_far (p := ⟨gb377, 0, none⟩) (Kd.Q_types HO369.out BK377.out (by decide)) (fun _ hk => hk.2) (.slice Ao277 t372.length co277)) (fun _ hk => hk.2) (.int .i64 t375)) (fun _ h_ => h_.1)))) (Kd.R_base ho0) hb); replace HO374 := Aside0.mk (Kd.R_elder' (xrt_ ((Kd.R_mono (Kd.R_far (p := ⟨gb377, 1, none⟩) (Kd.R_far (p := ⟨gb377, 0, none⟩) (Kd.R_types HO374.out BK377.out (by decide)) (fun _ hk => hk.2) (.slice Ao277 t372.length co277)) (fun _ hk => hk.2) (.int .i64 t375)) (fun _ h_ => h_.1)))) (Kd.R_base ho0) hb); replace BK329 := Aside0.mk (blk_below (g := gb329) (o := .cells #[.slice Ao12 t321.length co12, .int .i64 t324] 25 (0, 0)) (by (with_reducible repeat (first | refine blk_drewN ?_ _ | refine blk_drew ?_ | refine blk_alloc ?_ _)); refine blk_far ?_ NB329_377.out _; (with_reducible repeat (first | refine blk_drewN ?_ _ | refine blk_drew ?_ | refine blk_alloc ?_ _)); refine blk_far ?_ NB329_377.out _; (with_reducible repeat (first | refine blk_drewN ?_ _ | refine blk_drew ?_ | refine blk_alloc ?_ _)); exact BK329.out) hb); replace BK330 := Aside0.mk (blk_below (g := gb330) (o := .cells #[.slice Ao15 t325.length co15, .int .i64 t328] 25 (0, 0)) (by (with_reducible repeat (first | refine blk_drewN ?_ _ | refine blk_drew ?_ | refine blk_alloc ?_ _)); refine blk_far ?_ NB330_377.out _; (with_reducible repeat (first | refine blk_drewN ?_ _ | refine blk_drew ?_ | refine blk_alloc ?_ _)); refine blk_far ?_ NB330_377.out _; (with_reducible repeat (first | refine blk_drewN ?_ _ | refine blk_drew ?_ | refine blk_alloc ?_ _)); exact BK330.out) hb); replace BK336 := Aside0.mk (blk_below (g := gb336) (o := .cells #[.slice Ao19 t331.length co19, .int .i64 t334] 25 (0, 0)) (by (with_reducible repeat (first | refine blk_drewN ?_ _ | refine blk_drew ?_ | refine blk_alloc ?_ _)); refine blk_far ?_ NB336_377.out _; (with_reducible repeat (first | refine blk_drewN ?_ _ | refine blk_drew ?_ | refine blk_alloc ?_ _)); refine blk_far ?_ NB336_377.out _; (with_reducible repeat (first | refine blk_drewN ?_ _ | refine blk_drew ?_ | refine blk_alloc ?_ _)); exact BK336.out) hb); replace BK342 := Aside0.mk (blk_below (g := gb342) (o := .cells #[.slice Ao27 t337.length co27, .int .i64 t340] 25 (0, 0)) (by (with_reducible repeat (first | refine blk_drewN ?_ _ | refine blk_drew ?_ | refine blk_alloc ?_ _)); refine blk_far ?_ NB342_377.out _; (with_reducible repeat (first | refine blk_drewN ?_ _ | refine blk_drew ?_ | refine blk_alloc ?_ _)); refine blk_far ?_ NB342_377.out _; (with_reducible repeat (first | refine blk_drewN ?_ _ | refine blk_drew ?_ | refine blk_alloc ?_ _)); exact BK342.out) hb); replace BK348 := Aside0.mk (blk_below (g := gb348) (o := .cells #[.slice Ao36 t343.length co36, .int .i64 t346] 25 (0, 0)) (by (with_reducible repeat (first | refine blk_drewN ?_ _ | refine blk_drew ?_ | refine blk_alloc ?_ _)); refine blk_far ?_ NB348_377.out _; (with_reducible repeat (first | refine blk_drewN ?_ _ | refine blk_drew ?_ | refine blk_alloc ?_ _)); refine blk_far ?_ NB348_377.out _; (with_reducible repeat (first | refine blk_drewN ?_ _ | refine blk_drew ?_ | refine blk_alloc ?_ _)); exact BK348.out) hb); replace BK371 := Aside0.mk (blk_below (g := gb371) (o := .cells #[.slice Ao268 t367.length co268, .int .i64 t370] 25 (0, 0)) (by (with_reducible repeat (first | refine blk_drewN ?_ _ | refine blk_drew ?_ | refine blk_alloc ?_ _)); refine blk_far ?_ NB371_377.out _; (with_reducible repeat (first | refine blk_drewN ?_ _ | refine blk_drew ?_ | refine blk_alloc ?_ _)); refine blk_far ?_ NB371_377.out _; (with_reducible repeat (first | refine blk_drewN ?_ _ | refine blk_drew ?_ | refine blk_alloc ?_ _)); exact BK371.out) hb); replace BK377 := Aside0.mk (blk_below (g := gb377) (o := .cells #[.slice Ao277 t372.length co277, .int .i64 t375] 25 (0, 0)) (by (with_reducible repeat (first | refine blk_drewN ?_ _ | refine blk_drew ?_ | refine blk_alloc ?_ _)); refine blk_put (cs := #[.slice Ao277 t372.length co277, .int .i64 0]) ?_ 1 _ rfl; (with_reducible repeat (first | refine blk_drewN ?_ _ | refine blk_drew ?_ | refine blk_alloc ?_ _)); refine blk_put (cs := #[.slice none 0 0, .int .i64 0]) ?_ 0 _ rfl; (with_reducible repeat (first | refine blk_drewN ?_ _ | refine blk_drew ?_ | refine blk_alloc ?_ _)); exact BK377.out) hb); replace HB := xws_ HB hb; (try clear hb); (try clear hb2); (try clear hk); (try clear hi); (try clear ho0)) | ((with_reducible refine gate_dst (N := 27) rfl ?_); refine xbe_ (N := 27) (cs := #[.slice none 0 0, .int .i64 0]) (t := 25) ?_; intro gb383 hg w287 hbox hb; replace HO_330000 := xqb_ HO_330000 hb; replace HO_331000 := xqb_ HO_331000 hb; replace HO_337000 := xqb_ HO_337000 hb; replace HO_343000 := xqb_ HO_343000 hb; replace HO_349000 := xqb_ HO_349000 hb; replace HO369 := xqb_ HO369 hb; replace HO374 := xrb_ HO374 hb; replace HO380 := xrb_ HO380 hb; have BK383 := Aside0.mk (hbox); have GW383 := xge_ HB hg; have GE383 := xge_ HB hg; replace HB := xws_ HB hb; have NB329_383 := xlt_ BK329 hg; have NB383_329 := xgt_ BK329 hg; replace BK329 := xbb_ BK329 hb; have NB330_383 := xlt_ BK330 hg; have NB383_330 := xgt_ BK330 hg; replace BK330 := xbb_ BK330 hb; have NB336_383 := xlt_ BK336 hg; have NB383_336 := xgt_ BK336 hg; replace BK336 := xbb_ BK336 hb; have NB342_383 := xlt_ BK342 hg; have NB383_342 := xgt_ BK342 hg; replace BK342 := xbb_ BK342 hb; have NB348_383 := xlt_ BK348 hg; have NB383_348 := xgt_ BK348 hg; replace BK348 := xbb_ BK348 hb; have NB371_383 := xlt_ BK371 hg; have NB383_371 := xgt_ BK371 hg; replace BK371 := xbb_ BK371 hb; have NB377_383 := xlt_ BK377 hg; have NB383_377 := xgt_ BK377 hg; replace BK377 := xbb_ BK377 hb; clear hb hbox hg; obtain ⟨Ao288, co288, eo288⟩ := Kd.R_slice HO380.out; subst eo288; have hnb289 := NB383_329.out; have hnc289 := NB329_383.out; have hnb290 := NB383_330.out; have hnc290 := NB330_383.out; have hnb291 := NB383_336.out; have hnc291 := NB336_383.out; have hnb292 := NB383_342.out; have hnc292 := NB342_383.out; have hnb293 := NB383_348.out; have hnc293 := NB348_383.out; have hnb294 := NB383_371.out; have hnc294 := NB371_383.out; have hnb295 := NB383_377.out; have hnc295 := NB377_383.out; have hcz296_0 : w287.cell? ⟨gb383, 0, none⟩ = some (.slice none 0 0) := xk_ BK383 0; have hcz296_1 : w287.cell? ⟨gb383, 1, none⟩ = some (.int .i64 0) := xk_ BK383 1; have hfz296_0 := blk_frozen BK383.out 0; have hfz296_1 := blk_frozen BK383.out 1; have hcz297_0 : w287.cell? ⟨gb377, 0, none⟩ = some (.slice Ao277 t372.length co277) := xk_ BK377 0; have hcz297_1 : w287.cell? ⟨gb377, 1, none⟩ = some (.int .i64 t375) := xk_ BK377 1; have hfz297_0 := blk_frozen BK377.out 0; have hfz297_1 := blk_frozen BK377.out 1) | (go_at_call 8; (with_reducible refine (laws_sameSketches.calls kj86 _ _ t372 t375 _ _ t378 t381 true _ ?side1 ?side2 ?side3 ?side4 A228.out).mono ?_); (case side1 => refine (Kd.R_reads' (e := 3) (base := w.heap.size) (ok := fun k_ => (((((((True ∧ some k_ ≠ (.slice Ao12 t321.length co12 : Value).ownBlock) ∧ some k_ ≠ (.slice Ao15 t325.length co15 : Value).ownBlock) ∧ some k_ ≠ (.slice Ao19 t331.length co19 : Value).ownBlock) ∧ some k_ ≠ (.slice Ao27 t337.length co27 : Value).ownBlock) ∧ some k_ ≠ (.slice Ao36 t343.length co36 : Value).ownBlock) ∧ some k_ ≠ (.slice Ao268 t367.length co268 : Value).ownBlock) ∧ some k_ ≠ (.slice Ao288 t378.length co288 : Value).ownBlock)) (n := t372.length) (c := co277) ?_).2.2; exact (xrt_ ((Kd.R_mono (Kd.R_far (p := ⟨gb383, 1, none⟩) (Kd.R_far (p := ⟨gb383, 0, none⟩) (Kd.R_types HO374.out BK383.out (by decide)) (fun _ hk => hk.2) (.slice Ao288 t378.length co288)) (fun _ hk => hk.2) (.int .i64 t381)) (fun _ h_ => h_.1))))); (case side2 => exact (Kd.R_reads' HO374.out).2.1); (case side3 => refine (Kd.R_reads' (e := 3) (base := w.heap.size) (ok := fun k_ => (((((((True ∧ some k_ ≠ (.slice Ao12 t321.length co12 : Value).ownBlock) ∧ some k_ ≠ (.slice Ao15 t325.length co15 : Value).ownBlock) ∧ some k_ ≠ (.slice Ao19 t331.length co19 : Value).ownBlock) ∧ some k_ ≠ (.slice Ao27 t337.length co27 : Value).ownBlock) ∧ some k_ ≠ (.slice Ao36 t343.length co36 : Value).ownBlock) ∧ some k_ ≠ (.slice Ao268 t367.length co268 : Value).ownBlock) ∧ some k_ ≠ (.slice Ao277 t372.length co277 : Value).ownBlock)) (n := t378.length) (c := co288) ?_).2.2; exact (xrt_ ((Kd.R_mono (Kd.R_far (p := ⟨gb383, 1, none⟩) (Kd.R_far (p := ⟨gb383, 0, none⟩) (Kd.R_types HO380.out BK383.out (by decide)) (fun _ hk => hk.2) (.slice Ao288 t378.length co288)) (fun _ hk => hk.2) (.int .i64 t381)) (fun _ h_ => h_.1))))); (case side4 => exact (Kd.R_reads' HO380.out).2.1); rintro e w298 ⟨rfl, hb⟩; replace HO_330000 := Aside0.mk (Kd.Q_below (xqt_ ((Kd.Q_mono (Kd.Q_far (p := ⟨gb383, 1, none⟩) (Kd.Q_far (p := ⟨gb383, 0, none⟩) (Kd.Q_types HO_330000.out BK383.out (by decide)) (fun _ hk => hk.2) (.slice Ao288 t378.length co288)) (fun _ hk => hk.2) (.int .i64 t381)) (fun _ h_ => h_.1)))) hb); replace HO_331000 := Aside0.mk (Kd.Q_below (xqt_ ((Kd.Q_mono (Kd.Q_far (p := ⟨gb383, 1, none⟩) (Kd.Q_far (p := ⟨gb383, 0, none⟩) (Kd.Q_types HO_331000.out BK383.out (by decide)) (fun _ hk => hk.2) (.slice Ao288 t378.length co288)) (fun _ hk => hk.2) (.int .i64 t381)) (fun _ h_ => h_.1)))) hb); replace HO_337000 := Aside0.mk (Kd.Q_below (xqt_ ((Kd.Q_mono (Kd.Q_far (p := ⟨gb383, 1, none⟩) (Kd.Q_far (p := ⟨gb383, 0, none⟩) (Kd.Q_types HO_337000.out BK383.out (by decide)) (fun _ hk => hk.2) (.slice Ao288 t378.length co288)) (fun _ hk => hk.2) (.int .i64 t381)) (fun _ h_ => h_.1)))) hb); replace HO_343000 := Aside0.mk (Kd.Q_below (xqt_ ((Kd.Q_mono (Kd.Q_far (p := ⟨gb383, 1, none⟩) (Kd.Q_far (p := ⟨gb383, 0, none⟩) (Kd.Q_types HO_343000.out BK383.out (by decide)) (fun _ hk => hk.2) (.slice Ao288 t378.length co288)) (fun _ hk => hk.2) (.int .i64 t381)) (fun _ h_ => h_.1)))) hb); replace HO_349000 := Aside0.mk (Kd.Q_below (xqt_ ((Kd.Q_mono (Kd.Q_far (p := ⟨gb383, 1, none⟩) (Kd.Q_far (p := ⟨gb383, 0, none⟩) (Kd.Q_types HO_349000.out BK383.out (by decide)) (fun _ hk => hk.2) (.slice Ao288 t378.length co288)) (fun _ hk => hk.2) (.int .i64 t381)) (fun _ h_ => h_.1)))) hb); replace HO369 := Aside0.mk (Kd.Q_below (xqt_ ((Kd.Q_mono (Kd.Q_far (p := ⟨gb383, 1, none⟩) (Kd.Q_far (p := ⟨gb383, 0, none⟩) (Kd.Q_types HO369.out BK383.out (by decide)) (fun _ hk => hk.2) (.slice Ao288 t378.length co288)) (fun _ hk => hk.2) (.int .i64 t381)) (fun _ h_ => h_.1)))) hb); replace HO374 := Aside0.mk (Kd.R_below (xrt_ ((Kd.R_mono (Kd.R_far (p := ⟨gb383, 1, none⟩) (Kd.R_far (p := ⟨gb383, 0, none⟩) (Kd.R_types HO374.out BK383.out (by decide)) (fun _ hk => hk.2) (.slice Ao288 t378.length co288)) (fun _ hk => hk.2) (.int .i64 t381)) (fun _ h_ => h_.1)))) hb); replace HO380 := Aside0.mk (Kd.R_below (xrt_ ((Kd.R_mono (Kd.R_far (p := ⟨gb383, 1, none⟩) (Kd.R_far (p := ⟨gb383, 0, none⟩) (Kd.R_types HO380.out BK383.out (by decide)) (fun _ hk => hk.2) (.slice Ao288 t378.length co288)) (fun _ hk => hk.2) (.int .i64 t381)) (fun _ h_ => h_.1)))) hb); replace BK329 := Aside0.mk (blk_below (g := gb329) (o := .cells #[.slice Ao12 t321.length co12, .int .i64 t324] 25 (0, 0)) (by (with_reducible repeat (first | refine blk_drewN ?_ _ | refine blk_drew ?_ | refine blk_alloc ?_ _)); refine blk_far ?_ NB329_383.out _; (with_reducible repeat (first | refine blk_drewN ?_ _ | refine blk_drew ?_ | refine blk_alloc ?_ _)); refine blk_far ?_ NB329_383.out _; (with_reducible repeat (first | refine blk_drewN ?_ _ | refine blk_drew ?_ | refine blk_alloc ?_ _)); exact BK329.out) hb); replace BK330 := Aside0.mk (blk_below (g := gb330) (o := .cells #[.slice Ao15 t325.length co15, .int .i64 t328] 25 (0, 0)) (by (with_reducible repeat (first | refine blk_drewN ?_ _ | refine blk_drew ?_ | refine blk_alloc ?_ _)); refine blk_far ?_ NB330_383.out _; (with_reducible repeat (first | refine blk_drewN ?_ _ | refine blk_drew ?_ | refine blk_alloc ?_ _)); refine blk_far ?_ NB330_383.out _; (with_reducible repeat (first | refine blk_drewN ?_ _ | refine blk_drew ?_ | refine blk_alloc ?_ _)); exact BK330.out) hb); replace BK336 := Aside0.mk (blk_below (g := gb336) (o := .cells #[.slice Ao19 t331.length co19, .int .i64 t334] 25 (0, 0)) (by (with_reducible repeat (first | refine blk_drewN ?_ _ | refine blk_drew ?_ | refine blk_alloc ?_ _)); refine blk_far ?_ NB336_383.out _; (with_reducible repeat (first | refine blk_drewN ?_ _ | refine blk_drew ?_ | refine blk_alloc ?_ _)); refine blk_far ?_ NB336_383.out _; (with_reducible repeat (first | refine blk_drewN ?_ _ | refine blk_drew ?_ | refine blk_alloc ?_ _)); exact BK336.out) hb); replace BK342 := Aside0.mk (blk_below (g := gb342) (o := .cells #[.slice Ao27 t337.length co27, .int .i64 t340] 25 (0, 0)) (by (with_reducible repeat (first | refine blk_drewN ?_ _ | refine blk_drew ?_ | refine blk_alloc ?_ _)); refine blk_far ?_ NB342_383.out _; (with_reducible repeat (first | refine blk_drewN ?_ _ | refine blk_drew ?_ | refine blk_alloc ?_ _)); refine blk_far ?_ NB342_383.out _; (with_reducible repeat (first | refine blk_drewN ?_ _ | refine blk_drew ?_ | refine blk_alloc ?_ _)); exact BK342.out) hb); replace BK348 := Aside0.mk (blk_below (g := gb348) (o := .cells #[.slice Ao36 t343.length co36, .int .i64 t346] 25 (0, 0)) (by (with_reducible repeat (first | refine blk_drewN ?_ _ | refine blk_drew ?_ | refine blk_alloc ?_ _)); refine blk_far ?_ NB348_383.out _; (with_reducible repeat (first | refine blk_drewN ?_ _ | refine blk_drew ?_ | refine blk_alloc ?_ _)); refine blk_far ?_ NB348_383.out _; (with_reducible repeat (first | refine blk_drewN ?_ _ | refine blk_drew ?_ | refine blk_alloc ?_ _)); exact BK348.out) hb); replace BK371 := Aside0.mk (blk_below (g := gb371) (o := .cells #[.slice Ao268 t367.length co268, .int .i64 t370] 25 (0, 0)) (by (with_reducible repeat (first | refine blk_drewN ?_ _ | refine blk_drew ?_ | refine blk_alloc ?_ _)); refine blk_far ?_ NB371_383.out _; (with_reducible repeat (first | refine blk_drewN ?_ _ | refine blk_drew ?_ | refine blk_alloc ?_ _)); refine blk_far ?_ NB371_383.out _; (with_reducible repeat (first | refine blk_drewN ?_ _ | refine blk_drew ?_ | refine blk_alloc ?_ _)); exact BK371.out) hb); replace BK377 := Aside0.mk (blk_below (g := gb377) (o := .cells #[.slice Ao277 t372.length co277, .int .i64 t375] 25 (0, 0)) (by (with_reducible repeat (first | refine blk_drewN ?_ _ | refine blk_drew ?_ | refine blk_alloc ?_ _)); refine blk_far ?_ NB377_383.out _; (with_reducible repeat (first | refine blk_drewN ?_ _ | refine blk_drew ?_ | refine blk_alloc ?_ _)); refine blk_far ?_ NB377_383.out _; (with_reducible repeat (first | refine blk_drewN ?_ _ | refine blk_drew ?_ | refine blk_alloc ?_ _)); exact BK377.out) hb); replace BK383 := Aside0.mk (blk_below (g := gb383) (o := .cells #[.slice Ao288 t378.length co288, .int .i64 t381] 25 (0, 0)) (by (with_reducible repeat (first | refine blk_drewN ?_ _ | refine blk_drew ?_ | refine blk_alloc ?_ _)); refine blk_put (cs := #[.slice Ao288 t378.length co288, .int .i64 0]) ?_ 1 _ rfl; (with_reducible repeat (first | refine blk_drewN ?_ _ | refine blk_drew ?_ | refine blk_alloc ?_ _)); refine blk_put (cs := #[.slice none 0 0, .int .i64 0]) ?_ 0 _ rfl; (with_reducible repeat (first | refine blk_drewN ?_ _ | refine blk_drew ?_ | refine blk_alloc ?_ _)); exact BK383.out) hb); replace HB := xws_ HB hb; (try clear hb); (try clear hb2); (try clear hk); (try clear hi)))
               go_ret
               exact ⟨by first | rfl | (simp [errW_none, errW_some] <;> rfl) | (simp [*, errW_none, errW_some] <;> rfl), xw_ HB⟩
             ·replace c229 := Bool.eq_false_iff.mpr c229
              subst c229
              have H1 : (some false) = some r := by rw [if_neg (show ¬ (false = true) by decide)] at H; exact H
              clear H
              have H := H1
              clear H1
              obtain rfl := Option.some.inj H
              go_wp2_with (first | ((with_reducible refine gate_callee (f := 22) rfl ?_); refine xgl_ (some 149) Try.func22 #[.slice A1 l1.length c1] ?_; (with_reducible refine (spec_DrawHalveSketch.calls kj86 _ _ l1 t367 t370 _ ?side1 ?side2 A193.out).mono ?_); (case side1 => exact xc_ ((Kd.C_below HR1.out HB.out))); (case side2 => exact HC1.out); rintro e w299 ⟨v368, rfl, ho0, hb⟩; refine ⟨_, rfl, ?_⟩; have HO369 := Aside0.mk (Kd.Q_lower (Kd.Q_new' (Kd.Q_new' (Kd.Q_new' (Kd.Q_new' (Kd.Q_new' ho0 (Kd.Q_lt (xq_ HO_330000))) (Kd.Q_lt (xq_ HO_331000))) (Kd.Q_lt (xq_ HO_337000))) (Kd.Q_lt (xq_ HO_343000))) (Kd.Q_lt (xq_ HO_349000))) (below_size (xw_ HB))); replace HO_330000 := xqe_ HO_330000 (Kd.Q_base ho0) hb; replace HO_331000 := xqe_ HO_331000 (Kd.Q_base ho0) hb; replace HO_337000 := xqe_ HO_337000 (Kd.Q_base ho0) hb; replace HO_343000 := xqe_ HO_343000 (Kd.Q_base ho0) hb; replace HO_349000 := xqe_ HO_349000 (Kd.Q_base ho0) hb; replace BK329 := xbb_ BK329 hb; replace BK330 := xbb_ BK330 hb; replace BK336 := xbb_ BK336 hb; replace BK342 := xbb_ BK342 hb; replace BK348 := xbb_ BK348 hb; replace HB := xws_ HB hb; (try clear hb); (try clear hb2); (try clear hk); (try clear hi); (try clear ho0)) | ((with_reducible refine gate_dst (N := 24) rfl ?_); refine xbe_ (N := 24) (cs := #[.slice none 0 0, .int .i64 0]) (t := 25) ?_; intro gb371 hg w300 hbox hb; replace HO_330000 := xqb_ HO_330000 hb; replace HO_331000 := xqb_ HO_331000 hb; replace HO_337000 := xqb_ HO_337000 hb; replace HO_343000 := xqb_ HO_343000 hb; replace HO_349000 := xqb_ HO_349000 hb; replace HO369 := xqb_ HO369 hb; have BK371 := Aside0.mk (hbox); have GW371 := xge_ HB hg; have GE371 := xge_ HB hg; replace HB := xws_ HB hb; have NB329_371 := xlt_ BK329 hg; have NB371_329 := xgt_ BK329 hg; replace BK329 := xbb_ BK329 hb; have NB330_371 := xlt_ BK330 hg; have NB371_330 := xgt_ BK330 hg; replace BK330 := xbb_ BK330 hb; have NB336_371 := xlt_ BK336 hg; have NB371_336 := xgt_ BK336 hg; replace BK336 := xbb_ BK336 hb; have NB342_371 := xlt_ BK342 hg; have NB371_342 := xgt_ BK342 hg; replace BK342 := xbb_ BK342 hb; have NB348_371 := xlt_ BK348 hg; have NB371_348 := xgt_ BK348 hg; replace BK348 := xbb_ BK348 hb; clear hb hbox hg; obtain ⟨Ao301, co301, eo301, _⟩ := Kd.Q_slice HO369.out; subst eo301; have hnb302 := NB371_329.out; have hnc302 := NB329_371.out; have hnb303 := NB371_330.out; have hnc303 := NB330_371.out; have hnb304 := NB371_336.out; have hnc304 := NB336_371.out; have hnb305 := NB371_342.out; have hnc305 := NB342_371.out; have hnb306 := NB371_348.out; have hnc306 := NB348_371.out; have hcz307_0 : w300.cell? ⟨gb371, 0, none⟩ = some (.slice none 0 0) := xk_ BK371 0; have hcz307_1 : w300.cell? ⟨gb371, 1, none⟩ = some (.int .i64 0) := xk_ BK371 1; have hfz307_0 := blk_frozen BK371.out 0; have hfz307_1 := blk_frozen BK371.out 1) | ((with_reducible refine gate_callee (f := 23) rfl ?_); refine xgl_ (some 152) Try.func23 #[.agg #[.slice Ao301 t367.length co301, .int .i64 t370]] ?_; (with_reducible refine (impl_HalveSketch.calls kj86 _ _ t367 t370 t372 t375 t376 _ ?side1 ?side2 A194.out).mono ?_); (case side1 => refine (Kd.Q_reads' (e := 3) (base := w.heap.size) (ok := fun k_ => (((((True ∧ some k_ ≠ (.slice Ao12 t321.length co12 : Value).ownBlock) ∧ some k_ ≠ (.slice Ao15 t325.length co15 : Value).ownBlock) ∧ some k_ ≠ (.slice Ao19 t331.length co19 : Value).ownBlock) ∧ some k_ ≠ (.slice Ao27 t337.length co27 : Value).ownBlock) ∧ some k_ ≠ (.slice Ao36 t343.length co36 : Value).ownBlock)) (n := t367.length) (c := co301) ?_).2.2; exact (xqt_ ((Kd.Q_mono (Kd.Q_far (p := ⟨gb371, 1, none⟩) (Kd.Q_far (p := ⟨gb371, 0, none⟩) (Kd.Q_types HO369.out BK371.out (by decide)) (fun _ hk => hk.2) (.slice Ao301 t367.length co301)) (fun _ hk => hk.2) (.int .i64 t370)) (fun _ h_ => h_.1))))); (case side2 => exact (Kd.Q_reads' HO369.out).2.1); rintro e w308 ⟨v373, rfl, ho0, hb⟩; refine ⟨_, rfl, ?_⟩; have HO374 := Aside0.mk (Kd.R_lower (Kd.R_new' (Kd.R_new' (Kd.R_new' (Kd.R_new' (Kd.R_new' (Kd.R_new' ho0 (Kd.Q_lt (xqt_ ((Kd.Q_mono (Kd.Q_far (p := ⟨gb371, 1, none⟩) (Kd.Q_far (p := ⟨gb371, 0, none⟩) (Kd.Q_types HO_330000.out BK371.out (by decide)) (fun _ hk => hk.2) (.slice Ao301 t367.length co301)) (fun _ hk => hk.2) (.int .i64 t370)) (fun _ h_ => h_.1)))))) (Kd.Q_lt (xqt_ ((Kd.Q_mono (Kd.Q_far (p := ⟨gb371, 1, none⟩) (Kd.Q_far (p := ⟨gb371, 0, none⟩) (Kd.Q_types HO_331000.out BK371.out (by decide)) (fun _ hk => hk.2) (.slice Ao301 t367.length co301)) (fun _ hk => hk.2) (.int .i64 t370)) (fun _ h_ => h_.1)))))) (Kd.Q_lt (xqt_ ((Kd.Q_mono (Kd.Q_far (p := ⟨gb371, 1, none⟩) (Kd.Q_far (p := ⟨gb371, 0, none⟩) (Kd.Q_types HO_337000.out BK371.out (by decide)) (fun _ hk => hk.2) (.slice Ao301 t367.length co301)) (fun _ hk => hk.2) (.int .i64 t370)) (fun _ h_ => h_.1)))))) (Kd.Q_lt (xqt_ ((Kd.Q_mono (Kd.Q_far (p := ⟨gb371, 1, none⟩) (Kd.Q_far (p := ⟨gb371, 0, none⟩) (Kd.Q_types HO_343000.out BK371.out (by decide)) (fun _ hk => hk.2) (.slice Ao301 t367.length co301)) (fun _ hk => hk.2) (.int .i64 t370)) (fun _ h_ => h_.1)))))) (Kd.Q_lt (xqt_ ((Kd.Q_mono (Kd.Q_far (p := ⟨gb371, 1, none⟩) (Kd.Q_far (p := ⟨gb371, 0, none⟩) (Kd.Q_types HO_349000.out BK371.out (by decide)) (fun _ hk => hk.2) (.slice Ao301 t367.length co301)) (fun _ hk => hk.2) (.int .i64 t370)) (fun _ h_ => h_.1)))))) (Kd.Q_lt (xqt_ ((Kd.Q_mono (Kd.Q_far (p := ⟨gb371, 1, none⟩) (Kd.Q_far (p := ⟨gb371, 0, none⟩) (Kd.Q_types HO369.out BK371.out (by decide)) (fun _ hk => hk.2) (.slice Ao301 t367.length co301)) (fun _ hk => hk.2) (.int .i64 t370)) (fun _ h_ => h_.1)))))) (below_size (xw_ HB))); replace HO_330000 := Aside0.mk (Kd.Q_elder' (xqt_ ((Kd.Q_mono (Kd.Q_far (p := ⟨gb371, 1, none⟩) (Kd.Q_far (p := ⟨gb371, 0, none⟩) (Kd.Q_types HO_330000.out BK371.out (by decide)) (fun _ hk => hk.2) (.slice Ao301 t367.length co301)) (fun _ hk => hk.2) (.int .i64 t370)) (fun _ h_ => h_.1)))) (Kd.R_base ho0) hb); replace HO_331000 := Aside0.mk (Kd.Q_elder' (xqt_ ((Kd.Q_mono (Kd.Q_far (p := ⟨gb371, 1, none⟩) (Kd.Q_far (p := ⟨gb371, 0, none⟩) (Kd.Q_types HO_331000.out BK371.out (by decide)) (fun _ hk => hk.2) (.slice Ao301 t367.length co301)) (fun _ hk => hk.2) (.int .i64 t370)) (fun _ h_ => h_.1)))) (Kd.R_base ho0) hb); replace HO_337000 := Aside0.mk (Kd.Q_elder' (xqt_ ((Kd.Q_mono (Kd.Q_far (p := ⟨gb371, 1, none⟩) (Kd.Q_far (p := ⟨gb371, 0, none⟩) (Kd.Q_types HO_337000.out BK371.out (by decide)) (fun _ hk => hk.2) (.slice Ao301 t367.length co301)) (fun _ hk => hk.2) (.int .i64 t370)) (fun _ h_ => h_.1)))) (Kd.R_base ho0) hb); replace HO_343000 := Aside0.mk (Kd.Q_elder' (xqt_ ((Kd.Q_mono (Kd.Q_far (p := ⟨gb371, 1, none⟩) (Kd.Q_far (p := ⟨gb371, 0, none⟩) (Kd.Q_types HO_343000.out BK371.out (by decide)) (fun _ hk => hk.2) (.slice Ao301 t367.length co301)) (fun _ hk => hk.2) (.int .i64 t370)) (fun _ h_ => h_.1)))) (Kd.R_base ho0) hb); replace HO_349000 := Aside0.mk (Kd.Q_elder' (xqt_ ((Kd.Q_mono (Kd.Q_far (p := ⟨gb371, 1, none⟩) (Kd.Q_far (p := ⟨gb371, 0, none⟩) (Kd.Q_types HO_349000.out BK371.out (by decide)) (fun _ hk => hk.2) (.slice Ao301 t367.length co301)) (fun _ hk => hk.2) (.int .i64 t370)) (fun _ h_ => h_.1)))) (Kd.R_base ho0) hb); replace HO369 := Aside0.mk (Kd.Q_elder' (xqt_ ((Kd.Q_mono (Kd.Q_far (p := ⟨gb371, 1, none⟩) (Kd.Q_far (p := ⟨gb371, 0, none⟩) (Kd.Q_types HO369.out BK371.out (by decide)) (fun _ hk => hk.2) (.slice Ao301 t367.length co301)) (fun _ hk => hk.2) (.int .i64 t370)) (fun _ h_ => h_.1)))) (Kd.R_base ho0) hb); replace BK329 := Aside0.mk (blk_below (g := gb329) (o := .cells #[.slice Ao12 t321.length co12, .int .i64 t324] 25 (0, 0)) (by (with_reducible repeat (first | refine blk_drewN ?_ _ | refine blk_drew ?_ | refine blk_alloc ?_ _)); refine blk_far ?_ NB329_371.out _; (with_reducible repeat (first | refine blk_drewN ?_ _ | refine blk_drew ?_ | refine blk_alloc ?_ _)); refine blk_far ?_ NB329_371.out _; (with_reducible repeat (first | refine blk_drewN ?_ _ | refine blk_drew ?_ | refine blk_alloc ?_ _)); exact BK329.out) hb); replace BK330 := Aside0.mk (blk_below (g := gb330) (o := .cells #[.slice Ao15 t325.length co15, .int .i64 t328] 25 (0, 0)) (by (with_reducible repeat (first | refine blk_drewN ?_ _ | refine blk_drew ?_ | refine blk_alloc ?_ _)); refine blk_far ?_ NB330_371.out _; (with_reducible repeat (first | refine blk_drewN ?_ _ | refine blk_drew ?_ | refine blk_alloc ?_ _)); refine blk_far ?_ NB330_371.out _; (with_reducible repeat (first | refine blk_drewN ?_ _ | refine blk_drew ?_ | refine blk_alloc ?_ _)); exact BK330.out) hb); replace BK336 := Aside0.mk (blk_below (g := gb336) (o := .cells #[.slice Ao19 t331.length co19, .int .i64 t334] 25 (0, 0)) (by (with_reducible repeat (first | refine blk_drewN ?_ _ | refine blk_drew ?_ | refine blk_alloc ?_ _)); refine blk_far ?_ NB336_371.out _; (with_reducible repeat (first | refine blk_drewN ?_ _ | refine blk_drew ?_ | refine blk_alloc ?_ _)); refine blk_far ?_ NB336_371.out _; (with_reducible repeat (first | refine blk_drewN ?_ _ | refine blk_drew ?_ | refine blk_alloc ?_ _)); exact BK336.out) hb); replace BK342 := Aside0.mk (blk_below (g := gb342) (o := .cells #[.slice Ao27 t337.length co27, .int .i64 t340] 25 (0, 0)) (by (with_reducible repeat (first | refine blk_drewN ?_ _ | refine blk_drew ?_ | refine blk_alloc ?_ _)); refine blk_far ?_ NB342_371.out _; (with_reducible repeat (first | refine blk_drewN ?_ _ | refine blk_drew ?_ | refine blk_alloc ?_ _)); refine blk_far ?_ NB342_371.out _; (with_reducible repeat (first | refine blk_drewN ?_ _ | refine blk_drew ?_ | refine blk_alloc ?_ _)); exact BK342.out) hb); replace BK348 := Aside0.mk (blk_below (g := gb348) (o := .cells #[.slice Ao36 t343.length co36, .int .i64 t346] 25 (0, 0)) (by (with_reducible repeat (first | refine blk_drewN ?_ _ | refine blk_drew ?_ | refine blk_alloc ?_ _)); refine blk_far ?_ NB348_371.out _; (with_reducible repeat (first | refine blk_drewN ?_ _ | refine blk_drew ?_ | refine blk_alloc ?_ _)); refine blk_far ?_ NB348_371.out _; (with_reducible repeat (first | refine blk_drewN ?_ _ | refine blk_drew ?_ | refine blk_alloc ?_ _)); exact BK348.out) hb); replace BK371 := Aside0.mk (blk_below (g := gb371) (o := .cells #[.slice Ao301 t367.length co301, .int .i64 t370] 25 (0, 0)) (by (with_reducible repeat (first | refine blk_drewN ?_ _ | refine blk_drew ?_ | refine blk_alloc ?_ _)); refine blk_put (cs := #[.slice Ao301 t367.length co301, .int .i64 0]) ?_ 1 _ rfl; (with_reducible repeat (first | refine blk_drewN ?_ _ | refine blk_drew ?_ | refine blk_alloc ?_ _)); refine blk_put (cs := #[.slice none 0 0, .int .i64 0]) ?_ 0 _ rfl; (with_reducible repeat (first | refine blk_drewN ?_ _ | refine blk_drew ?_ | refine blk_alloc ?_ _)); exact BK371.out) hb); replace HB := xws_ HB hb; (try clear hb); (try clear hb2); (try clear hk); (try clear hi); (try clear ho0)) | ((with_reducible refine gate_dst (N := 25) rfl ?_); refine xbe_ (N := 25) (cs := #[.slice none 0 0, .int .i64 0]) (t := 25) ?_; intro gb377 hg w309 hbox hb; replace HO_330000 := xqb_ HO_330000 hb; replace HO_331000 := xqb_ HO_331000 hb; replace HO_337000 := xqb_ HO_337000 hb; replace HO_343000 := xqb_ HO_343000 hb; replace HO_349000 := xqb_ HO_349000 hb; replace HO369 := xqb_ HO369 hb; replace HO374 := xrb_ HO374 hb; have BK377 := Aside0.mk (hbox); have GW377 := xge_ HB hg; have GE377 := xge_ HB hg; replace HB := xws_ HB hb; have NB329_377 := xlt_ BK329 hg; have NB377_329 := xgt_ BK329 hg; replace BK329 := xbb_ BK329 hb; have NB330_377 := xlt_ BK330 hg; have NB377_330 := xgt_ BK330 hg; replace BK330 := xbb_ BK330 hb; have NB336_377 := xlt_ BK336 hg; have NB377_336 := xgt_ BK336 hg; replace BK336 := xbb_ BK336 hb; have NB342_377 := xlt_ BK342 hg; have NB377_342 := xgt_ BK342 hg; replace BK342 := xbb_ BK342 hb; have NB348_377 := xlt_ BK348 hg; have NB377_348 := xgt_ BK348 hg; replace BK348 := xbb_ BK348 hb; have NB371_377 := xlt_ BK371 hg; have NB377_371 := xgt_ BK371 hg; replace BK371 := xbb_ BK371 hb; clear hb hbox hg; obtain ⟨Ao310, co310, eo310⟩ := Kd.R_slice HO374.out; subst eo310; have hnb311 := NB377_329.out; have hnc311 := NB329_377.out; have hnb312 := NB377_330.out; have hnc312 := NB330_377.out; have hnb313 := NB377_336.out; have hnc313 := NB336_377.out; have hnb314 := NB377_342.out; have hnc314 := NB342_377.out; have hnb315 := NB377_348.out; have hnc315 := NB348_377.out; have hnb316 := NB377_371.out; have hnc316 := NB371_377.out; have hcz317_0 : w309.cell? ⟨gb377, 0, none⟩ = some (.slice none 0 0) := xk_ BK377 0; have hcz317_1 : w309.cell? ⟨gb377, 1, none⟩ = some (.int .i64 0) := xk_ BK377 1; have hfz317_0 := blk_frozen BK377.out 0; have hfz317_1 := blk_frozen BK377.out 1; have hcz318_0 : w309.cell? ⟨gb371, 0, none⟩ = some (.slice Ao301 t367.length co301) := xk_ BK371 0; have hcz318_1 : w309.cell? ⟨gb371, 1, none⟩ = some (.int .i64 t370) := xk_ BK371 1; have hfz318_0 := blk_frozen BK371.out 0; have hfz318_1 := blk_frozen BK371.out 1) | ((with_reducible refine gate_callee (f := 24) rfl ?_); refine xgl_ (some 157) Try.func24 #[.agg #[.slice Ao301 t367.length co301, .int .i64 t370]] ?_; (with_reducible refine (spec_HalveSketch.calls kj86 _ _ t367 t370 t378 t381 t382 _ ?side1 ?side2 A195.out).mono ?_); (case side1 => refine (Kd.Q_reads' (e := 3) (base := w.heap.size) (ok := fun k_ => ((((((True ∧ some k_ ≠ (.slice Ao12 t321.length co12 : Value).ownBlock) ∧ some k_ ≠ (.slice Ao15 t325.length co15 : Value).ownBlock) ∧ some k_ ≠ (.slice Ao19 t331.length co19 : Value).ownBlock) ∧ some k_ ≠ (.slice Ao27 t337.length co27 : Value).ownBlock) ∧ some k_ ≠ (.slice Ao36 t343.length co36 : Value).ownBlock) ∧ some k_ ≠ (.slice Ao310 t372.length co310 : Value).ownBlock)) (n := t367.length) (c := co301) ?_).2.2; exact (xqt_ ((Kd.Q_mono (Kd.Q_far (p := ⟨gb377, 1, none⟩) (Kd.Q_far (p := ⟨gb377, 0, none⟩) (Kd.Q_types HO369.out BK377.out (by decide)) (fun _ hk => hk.2) (.slice Ao310 t372.length co310)) (fun _ hk => hk.2) (.int .i64 t375)) (fun _ h_ => h_.1))))); (case side2 => exact (Kd.Q_reads' HO369.out).2.1); rintro e w319 ⟨v379, rfl, ho0, hb⟩; refine ⟨_, rfl, ?_⟩; have HO380 := Aside0.mk (Kd.R_lower (Kd.R_new' (Kd.R_new' (Kd.R_new' (Kd.R_new' (Kd.R_new' (Kd.R_new' (Kd.R_new' ho0 (Kd.Q_lt (xqt_ ((Kd.Q_mono (Kd.Q_far (p := ⟨gb377, 1, none⟩) (Kd.Q_far (p := ⟨gb377, 0, none⟩) (Kd.Q_types HO_330000.out BK377.out (by decide)) (fun _ hk => hk.2) (.slice Ao310 t372.length co310)) (fun _ hk => hk.2) (.int .i64 t375)) (fun _ h_ => h_.1)))))) (Kd.Q_lt (xqt_ ((Kd.Q_mono (Kd.Q_far (p := ⟨gb377, 1, none⟩) (Kd.Q_far (p := ⟨gb377, 0, none⟩) (Kd.Q_types HO_331000.out BK377.out (by decide)) (fun _ hk => hk.2) (.slice Ao310 t372.length co310)) (fun _ hk => hk.2) (.int .i64 t375)) (fun _ h_ => h_.1)))))) (Kd.Q_lt (xqt_ ((Kd.Q_mono (Kd.Q_far (p := ⟨gb377, 1, none⟩) (Kd.Q_far (p := ⟨gb377, 0, none⟩) (Kd.Q_types HO_337000.out BK377.out (by decide)) (fun _ hk => hk.2) (.slice Ao310 t372.length co310)) (fun _ hk => hk.2) (.int .i64 t375)) (fun _ h_ => h_.1)))))) (Kd.Q_lt (xqt_ ((Kd.Q_mono (Kd.Q_far (p := ⟨gb377, 1, none⟩) (Kd.Q_far (p := ⟨gb377, 0, none⟩) (Kd.Q_types HO_343000.out BK377.out (by decide)) (fun _ hk => hk.2) (.slice Ao310 t372.length co310)) (fun _ hk => hk.2) (.int .i64 t375)) (fun _ h_ => h_.1)))))) (Kd.Q_lt (xqt_ ((Kd.Q_mono (Kd.Q_far (p := ⟨gb377, 1, none⟩) (Kd.Q_far (p := ⟨gb377, 0, none⟩) (Kd.Q_types HO_349000.out BK377.out (by decide)) (fun _ hk => hk.2) (.slice Ao310 t372.length co310)) (fun _ hk => hk.2) (.int .i64 t375)) (fun _ h_ => h_.1)))))) (Kd.Q_lt (xqt_ ((Kd.Q_mono (Kd.Q_far (p := ⟨gb377, 1, none⟩) (Kd.Q_far (p := ⟨gb377, 0, none⟩) (Kd.Q_types HO369.out BK377.out (by decide)) (fun _ hk => hk.2) (.slice Ao310 t372.length co310)) (fun _ hk => hk.2) (.int .i64 t375)) (fun _ h_ => h_.1)))))) (Kd.R_lt (xrt_ ((Kd.R_mono (Kd.R_far (p := ⟨gb377, 1, none⟩) (Kd.R_far (p := ⟨gb377, 0, none⟩) (Kd.R_types HO374.out BK377.out (by decide)) (fun _ hk => hk.2) (.slice Ao310 t372.length co310)) (fun _ hk => hk.2) (.int .i64 t375)) (fun _ h_ => h_.1)))))) (below_size (xw_ HB))); replace HO_330000 := Aside0.mk (Kd.Q_elder' (xqt_ ((Kd.Q_mono (Kd.Q_far (p := ⟨gb377, 1, none⟩) (Kd.Q_far (p := ⟨gb377, 0, none⟩) (Kd.Q_types HO_330000.out BK377.out (by decide)) (fun _ hk => hk.2) (.slice Ao310 t372.length co310)) (fun _ hk => hk.2) (.int .i64 t375)) (fun _ h_ => h_.1)))) (Kd.R_base ho0) hb); replace HO_331000 := Aside0.mk (Kd.Q_elder' (xqt_ ((Kd.Q_mono (Kd.Q_far (p := ⟨gb377, 1, none⟩) (Kd.Q_far (p := ⟨gb377, 0, none⟩) (Kd.Q_types HO_331000.out BK377.out (by decide)) (fun _ hk => hk.2) (.slice Ao310 t372.length co310)) (fun _ hk => hk.2) (.int .i64 t375)) (fun _ h_ => h_.1)))) (Kd.R_base ho0) hb); replace HO_337000 := Aside0.mk (Kd.Q_elder' (xqt_ ((Kd.Q_mono (Kd.Q_far (p := ⟨gb377, 1, none⟩) (Kd.Q_far (p := ⟨gb377, 0, none⟩) (Kd.Q_types HO_337000.out BK377.out (by decide)) (fun _ hk => hk.2) (.slice Ao310 t372.length co310)) (fun _ hk => hk.2) (.int .i64 t375)) (fun _ h_ => h_.1)))) (Kd.R_base ho0) hb); replace HO_343000 := Aside0.mk (Kd.Q_elder' (xqt_ ((Kd.Q_mono (Kd.Q_far (p := ⟨gb377, 1, none⟩) (Kd.Q_far (p := ⟨gb377, 0, none⟩) (Kd.Q_types HO_343000.out BK377.out (by decide)) (fun _ hk => hk.2) (.slice Ao310 t372.length co310)) (fun _ hk => hk.2) (.int .i64 t375)) (fun _ h_ => h_.1)))) (Kd.R_base ho0) hb); replace HO_349000 := Aside0.mk (Kd.Q_elder' (xqt_ ((Kd.Q_mono (Kd.Q_far (p := ⟨gb377, 1, none⟩) (Kd.Q_far (p := ⟨gb377, 0, none⟩) (Kd.Q_types HO_349000.out BK377.out (by decide)) (fun _ hk => hk.2) (.slice Ao310 t372.length co310)) (fun _ hk => hk.2) (.int .i64 t375)) (fun _ h_ => h_.1)))) (Kd.R_base ho0) hb); replace HO369 := Aside0.mk (Kd.Q_elder' (xqt_ ((Kd.Q_mono (Kd.Q_far (p := ⟨gb377, 1, none⟩) (Kd.Q_far (p := ⟨gb377, 0, none⟩) (Kd.Q_types HO369.out BK377.out (by decide)) (fun _ hk => hk.2) (.slice Ao310 t372.length co310)) (fun _ hk => hk.2) (.int .i64 t375)) (fun _ h_ => h_.1)))) (Kd.R_base ho0) hb); replace HO374 := Aside0.mk (Kd.R_elder' (xrt_ ((Kd.R_mono (Kd.R_far (p := ⟨gb377, 1, none⟩) (Kd.R_far (p := ⟨gb377, 0, none⟩) (Kd.R_types HO374.out BK377.out (by decide)) (fun _ hk => hk.2) (.slice Ao310 t372.length co310)) (fun _ hk => hk.2) (.int .i64 t375)) (fun _ h_ => h_.1)))) (Kd.R_base ho0) hb); replace BK329 := Aside0.mk (blk_below (g := gb329) (o := .cells #[.slice Ao12 t321.length co12, .int .i64 t324] 25 (0, 0)) (by (with_reducible repeat (first | refine blk_drewN ?_ _ | refine blk_drew ?_ | refine blk_alloc ?_ _)); refine blk_far ?_ NB329_377.out _; (with_reducible repeat (first | refine blk_drewN ?_ _ | refine blk_drew ?_ | refine blk_alloc ?_ _)); refine blk_far ?_ NB329_377.out _; (with_reducible repeat (first | refine blk_drewN ?_ _ | refine blk_drew ?_ | refine blk_alloc ?_ _)); exact BK329.out) hb); replace BK330 := Aside0.mk (blk_below (g := gb330) (o := .cells #[.slice Ao15 t325.length co15, .int .i64 t328] 25 (0, 0)) (by (with_reducible repeat (first | refine blk_drewN ?_ _ | refine blk_drew ?_ | refine blk_alloc ?_ _)); refine blk_far ?_ NB330_377.out _; (with_reducible repeat (first | refine blk_drewN ?_ _ | refine blk_drew ?_ | refine blk_alloc ?_ _)); refine blk_far ?_ NB330_377.out _; (with_reducible repeat (first | refine blk_drewN ?_ _ | refine blk_drew ?_ | refine blk_alloc ?_ _)); exact BK330.out) hb); replace BK336 := Aside0.mk (blk_below (g := gb336) (o := .cells #[.slice Ao19 t331.length co19, .int .i64 t334] 25 (0, 0)) (by (with_reducible repeat (first | refine blk_drewN ?_ _ | refine blk_drew ?_ | refine blk_alloc ?_ _)); refine blk_far ?_ NB336_377.out _; (with_reducible repeat (first | refine blk_drewN ?_ _ | refine blk_drew ?_ | refine blk_alloc ?_ _)); refine blk_far ?_ NB336_377.out _; (with_reducible repeat (first | refine blk_drewN ?_ _ | refine blk_drew ?_ | refine blk_alloc ?_ _)); exact BK336.out) hb); replace BK342 := Aside0.mk (blk_below (g := gb342) (o := .cells #[.slice Ao27 t337.length co27, .int .i64 t340] 25 (0, 0)) (by (with_reducible repeat (first | refine blk_drewN ?_ _ | refine blk_drew ?_ | refine blk_alloc ?_ _)); refine blk_far ?_ NB342_377.out _; (with_reducible repeat (first | refine blk_drewN ?_ _ | refine blk_drew ?_ | refine blk_alloc ?_ _)); refine blk_far ?_ NB342_377.out _; (with_reducible repeat (first | refine blk_drewN ?_ _ | refine blk_drew ?_ | refine blk_alloc ?_ _)); exact BK342.out) hb); replace BK348 := Aside0.mk (blk_below (g := gb348) (o := .cells #[.slice Ao36 t343.length co36, .int .i64 t346] 25 (0, 0)) (by (with_reducible repeat (first | refine blk_drewN ?_ _ | refine blk_drew ?_ | refine blk_alloc ?_ _)); refine blk_far ?_ NB348_377.out _; (with_reducible repeat (first | refine blk_drewN ?_ _ | refine blk_drew ?_ | refine blk_alloc ?_ _)); refine blk_far ?_ NB348_377.out _; (with_reducible repeat (first | refine blk_drewN ?_ _ | refine blk_drew ?_ | refine blk_alloc ?_ _)); exact BK348.out) hb); replace BK371 := Aside0.mk (blk_below (g := gb371) (o := .cells #[.slice Ao301 t367.length co301, .int .i64 t370] 25 (0, 0)) (by (with_reducible repeat (first | refine blk_drewN ?_ _ | refine blk_drew ?_ | refine blk_alloc ?_ _)); refine blk_far ?_ NB371_377.out _; (with_reducible repeat (first | refine blk_drewN ?_ _ | refine blk_drew ?_ | refine blk_alloc ?_ _)); refine blk_far ?_ NB371_377.out _; (with_reducible repeat (first | refine blk_drewN ?_ _ | refine blk_drew ?_ | refine blk_alloc ?_ _)); exact BK371.out) hb); replace BK377 := Aside0.mk (blk_below (g := gb377) (o := .cells #[.slice Ao310 t372.length co310, .int .i64 t375] 25 (0, 0)) (by (with_reducible repeat (first | refine blk_drewN ?_ _ | refine blk_drew ?_ | refine blk_alloc ?_ _)); refine blk_put (cs := #[.slice Ao310 t372.length co310, .int .i64 0]) ?_ 1 _ rfl; (with_reducible repeat (first | refine blk_drewN ?_ _ | refine blk_drew ?_ | refine blk_alloc ?_ _)); refine blk_put (cs := #[.slice none 0 0, .int .i64 0]) ?_ 0 _ rfl; (with_reducible repeat (first | refine blk_drewN ?_ _ | refine blk_drew ?_ | refine blk_alloc ?_ _)); exact BK377.out) hb); replace HB := xws_ HB hb; (try clear hb); (try clear hb2); (try clear hk); (try clear hi); (try clear ho0)) | ((with_reducible refine gate_dst (N := 27) rfl ?_); refine xbe_ (N := 27) (cs := #[.slice none 0 0, .int .i64 0]) (t := 25) ?_; intro gb383 hg w320 hbox hb; replace HO_330000 := xqb_ HO_330000 hb; replace HO_331000 := xqb_ HO_331000 hb; replace HO_337000 := xqb_ HO_337000 hb; replace HO_343000 := xqb_ HO_343000 hb; replace HO_349000 := xqb_ HO_349000 hb; replace HO369 := xqb_ HO369 hb; replace HO374 := xrb_ HO374 hb; replace HO380 := xrb_ HO380 hb; have BK383 := Aside0.mk (hbox); have GW383 := xge_ HB hg; have GE383 := xge_ HB hg; replace HB := xws_ HB hb; have NB329_383 := xlt_ BK329 hg; have NB383_329 := xgt_ BK329 hg; replace BK329 := xbb_ BK329 hb; have NB330_383 := xlt_ BK330 hg; have NB383_330 := xgt_ BK330 hg; replace BK330 := xbb_ BK330 hb; have NB336_383 := xlt_ BK336 hg; have NB383_336 := xgt_ BK336 hg; replace BK336 := xbb_ BK336 hb; have NB342_383 := xlt_ BK342 hg; have NB383_342 := xgt_ BK342 hg; replace BK342 := xbb_ BK342 hb; have NB348_383 := xlt_ BK348 hg; have NB383_348 := xgt_ BK348 hg; replace BK348 := xbb_ BK348 hb; have NB371_383 := xlt_ BK371 hg; have NB383_371 := xgt_ BK371 hg; replace BK371 := xbb_ BK371 hb; have NB377_383 := xlt_ BK377 hg; have NB383_377 := xgt_ BK377 hg; replace BK377 := xbb_ BK377 hb; clear hb hbox hg; obtain ⟨Ao321, co321, eo321⟩ := Kd.R_slice HO380.out; subst eo321; have hnb322 := NB383_329.out; have hnc322 := NB329_383.out; have hnb323 := NB383_330.out; have hnc323 := NB330_383.out; have hnb324 := NB383_336.out; have hnc324 := NB336_383.out; have hnb325 := NB383_342.out; have hnc325 := NB342_383.out; have hnb326 := NB383_348.out; have hnc326 := NB348_383.out; have hnb327 := NB383_371.out; have hnc327 := NB371_383.out; have hnb328 := NB383_377.out; have hnc328 := NB377_383.out; have hcz329_0 : w320.cell? ⟨gb383, 0, none⟩ = some (.slice none 0 0) := xk_ BK383 0; have hcz329_1 : w320.cell? ⟨gb383, 1, none⟩ = some (.int .i64 0) := xk_ BK383 1; have hfz329_0 := blk_frozen BK383.out 0; have hfz329_1 := blk_frozen BK383.out 1; have hcz330_0 : w320.cell? ⟨gb377, 0, none⟩ = some (.slice Ao310 t372.length co310) := xk_ BK377 0; have hcz330_1 : w320.cell? ⟨gb377, 1, none⟩ = some (.int .i64 t375) := xk_ BK377 1; have hfz330_0 := blk_frozen BK377.out 0; have hfz330_1 := blk_frozen BK377.out 1) | (go_at_call 8; (with_reducible refine (laws_sameSketches.calls kj86 _ _ t372 t375 _ _ t378 t381 false _ ?side1 ?side2 ?side3 ?side4 A228.out).mono ?_); (case side1 => refine (Kd.R_reads' (e := 3) (base := w.heap.size) (ok := fun k_ => (((((((True ∧ some k_ ≠ (.slice Ao12 t321.length co12 : Value).ownBlock) ∧ some k_ ≠ (.slice Ao15 t325.length co15 : Value).ownBlock) ∧ some k_ ≠ (.slice Ao19 t331.length co19 : Value).ownBlock) ∧ some k_ ≠ (.slice Ao27 t337.length co27 : Value).ownBlock) ∧ some k_ ≠ (.slice Ao36 t343.length co36 : Value).ownBlock) ∧ some k_ ≠ (.slice Ao301 t367.length co301 : Value).ownBlock) ∧ some k_ ≠ (.slice Ao321 t378.length co321 : Value).ownBlock)) (n := t372.length) (c := co310) ?_).2.2; exact (xrt_ ((Kd.R_mono (Kd.R_far (p := ⟨gb383, 1, none⟩) (Kd.R_far (p := ⟨gb383, 0, none⟩) (Kd.R_types HO374.out BK383.out (by decide)) (fun _ hk => hk.2) (.slice Ao321 t378.length co321)) (fun _ hk => hk.2) (.int .i64 t381)) (fun _ h_ => h_.1))))); (case side2 => exact (Kd.R_reads' HO374.out).2.1); (case side3 => refine (Kd.R_reads' (e := 3) (base := w.heap.size) (ok := fun k_ => (((((((True ∧ some k_ ≠ (.slice Ao12 t321.length co12 : Value).ownBlock) ∧ some k_ ≠ (.slice Ao15 t325.length co15 : Value).ownBlock) ∧ some k_ ≠ (.slice Ao19 t331.length co19 : Value).ownBlock) ∧ some k_ ≠ (.slice Ao27 t337.length co27 : Value).ownBlock) ∧ some k_ ≠ (.slice Ao36 t343.length co36 : Value).ownBlock) ∧ some k_ ≠ (.slice Ao301 t367.length co301 : Value).ownBlock) ∧ some k_ ≠ (.slice Ao310 t372.length co310 : Value).ownBlock)) (n := t378.length) (c := co321) ?_).2.2; exact (xrt_ ((Kd.R_mono (Kd.R_far (p := ⟨gb383, 1, none⟩) (Kd.R_far (p := ⟨gb383, 0, none⟩) (Kd.R_types HO380.out BK383.out (by decide)) (fun _ hk => hk.2) (.slice Ao321 t378.length co321)) (fun _ hk => hk.2) (.int .i64 t381)) (fun _ h_ => h_.1))))); (case side4 => exact (Kd.R_reads' HO380.out).2.1); rintro e w331 ⟨rfl, hb⟩; replace HO_330000 := Aside0.mk (Kd.Q_below (xqt_ ((Kd.Q_mono (Kd.Q_far (p := ⟨gb383, 1, none⟩) (Kd.Q_far (p := ⟨gb383, 0, none⟩) (Kd.Q_types HO_330000.out BK383.out (by decide)) (fun _ hk => hk.2) (.slice Ao321 t378.length co321)) (fun _ hk => hk.2) (.int .i64 t381)) (fun _ h_ => h_.1)))) hb); replace HO_331000 := Aside0.mk (Kd.Q_below (xqt_ ((Kd.Q_mono (Kd.Q_far (p := ⟨gb383, 1, none⟩) (Kd.Q_far (p := ⟨gb383, 0, none⟩) (Kd.Q_types HO_331000.out BK383.out (by decide)) (fun _ hk => hk.2) (.slice Ao321 t378.length co321)) (fun _ hk => hk.2) (.int .i64 t381)) (fun _ h_ => h_.1)))) hb); replace HO_337000 := Aside0.mk (Kd.Q_below (xqt_ ((Kd.Q_mono (Kd.Q_far (p := ⟨gb383, 1, none⟩) (Kd.Q_far (p := ⟨gb383, 0, none⟩) (Kd.Q_types HO_337000.out BK383.out (by decide)) (fun _ hk => hk.2) (.slice Ao321 t378.length co321)) (fun _ hk => hk.2) (.int .i64 t381)) (fun _ h_ => h_.1)))) hb); replace HO_343000 := Aside0.mk (Kd.Q_below (xqt_ ((Kd.Q_mono (Kd.Q_far (p := ⟨gb383, 1, none⟩) (Kd.Q_far (p := ⟨gb383, 0, none⟩) (Kd.Q_types HO_343000.out BK383.out (by decide)) (fun _ hk => hk.2) (.slice Ao321 t378.length co321)) (fun _ hk => hk.2) (.int .i64 t381)) (fun _ h_ => h_.1)))) hb); replace HO_349000 := Aside0.mk (Kd.Q_below (xqt_ ((Kd.Q_mono (Kd.Q_far (p := ⟨gb383, 1, none⟩) (Kd.Q_far (p := ⟨gb383, 0, none⟩) (Kd.Q_types HO_349000.out BK383.out (by decide)) (fun _ hk => hk.2) (.slice Ao321 t378.length co321)) (fun _ hk => hk.2) (.int .i64 t381)) (fun _ h_ => h_.1)))) hb); replace HO369 := Aside0.mk (Kd.Q_below (xqt_ ((Kd.Q_mono (Kd.Q_far (p := ⟨gb383, 1, none⟩) (Kd.Q_far (p := ⟨gb383, 0, none⟩) (Kd.Q_types HO369.out BK383.out (by decide)) (fun _ hk => hk.2) (.slice Ao321 t378.length co321)) (fun _ hk => hk.2) (.int .i64 t381)) (fun _ h_ => h_.1)))) hb); replace HO374 := Aside0.mk (Kd.R_below (xrt_ ((Kd.R_mono (Kd.R_far (p := ⟨gb383, 1, none⟩) (Kd.R_far (p := ⟨gb383, 0, none⟩) (Kd.R_types HO374.out BK383.out (by decide)) (fun _ hk => hk.2) (.slice Ao321 t378.length co321)) (fun _ hk => hk.2) (.int .i64 t381)) (fun _ h_ => h_.1)))) hb); replace HO380 := Aside0.mk (Kd.R_below (xrt_ ((Kd.R_mono (Kd.R_far (p := ⟨gb383, 1, none⟩) (Kd.R_far (p := ⟨gb383, 0, none⟩) (Kd.R_types HO380.out BK383.out (by decide)) (fun _ hk => hk.2) (.slice Ao321 t378.length co321)) (fun _ hk => hk.2) (.int .i64 t381)) (fun _ h_ => h_.1)))) hb); replace BK329 := Aside0.mk (blk_below (g := gb329) (o := .cells #[.slice Ao12 t321.length co12, .int .i64 t324] 25 (0, 0)) (by (with_reducible repeat (first | refine blk_drewN ?_ _ | refine blk_drew ?_ | refine blk_alloc ?_ _)); refine blk_far ?_ NB329_383.out _; (with_reducible repeat (first | refine blk_drewN ?_ _ | refine blk_drew ?_ | refine blk_alloc ?_ _)); refine blk_far ?_ NB329_383.out _; (with_reducible repeat (first | refine blk_drewN ?_ _ | refine blk_drew ?_ | refine blk_alloc ?_ _)); exact BK329.out) hb); replace BK330 := Aside0.mk (blk_below (g := gb330) (o := .cells #[.slice Ao15 t325.length co15, .int .i64 t328] 25 (0, 0)) (by (with_reducible repeat (first | refine blk_drewN ?_ _ | refine blk_drew ?_ | refine blk_alloc ?_ _)); refine blk_far ?_ NB330_383.out _; (with_reducible repeat (first | refine blk_drewN ?_ _ | refine blk_drew ?_ | refine blk_alloc ?_ _)); refine blk_far ?_ NB330_383.out _; (with_reducible repeat (first | refine blk_drewN ?_ _ | refine blk_drew ?_ | refine blk_alloc ?_ _)); exact BK330.out) hb); replace BK336 := Aside0.mk (blk_below (g := gb336) (o := .cells #[.slice Ao19 t331.length co19, .int .i64 t334] 25 (0, 0)) (by (with_reducible repeat (first | refine blk_drewN ?_ _ | refine blk_drew ?_ | refine blk_alloc ?_ _)); refine blk_far ?_ NB336_383.out _; (with_reducible repeat (first | refine blk_drewN ?_ _ | refine blk_drew ?_ | refine blk_alloc ?_ _)); refine blk_far ?_ NB336_383.out _; (with_reducible repeat (first | refine blk_drewN ?_ _ | refine blk_drew ?_ | refine blk_alloc ?_ _)); exact BK336.out) hb); replace BK342 := Aside0.mk (blk_below (g := gb342) (o := .cells #[.slice Ao27 t337.length co27, .int .i64 t340] 25 (0, 0)) (by (with_reducible repeat (first | refine blk_drewN ?_ _ | refine blk_drew ?_ | refine blk_alloc ?_ _)); refine blk_far ?_ NB342_383.out _; (with_reducible repeat (first | refine blk_drewN ?_ _ | refine blk_drew ?_ | refine blk_alloc ?_ _)); refine blk_far ?_ NB342_383.out _; (with_reducible repeat (first | refine blk_drewN ?_ _ | refine blk_drew ?_ | refine blk_alloc ?_ _)); exact BK342.out) hb); replace BK348 := Aside0.mk (blk_below (g := gb348) (o := .cells #[.slice Ao36 t343.length co36, .int .i64 t346] 25 (0, 0)) (by (with_reducible repeat (first | refine blk_drewN ?_ _ | refine blk_drew ?_ | refine blk_alloc ?_ _)); refine blk_far ?_ NB348_383.out _; (with_reducible repeat (first | refine blk_drewN ?_ _ | refine blk_drew ?_ | refine blk_alloc ?_ _)); refine blk_far ?_ NB348_383.out _; (with_reducible repeat (first | refine blk_drewN ?_ _ | refine blk_drew ?_ | refine blk_alloc ?_ _)); exact BK348.out) hb); replace BK371 := Aside0.mk (blk_below (g := gb371) (o := .cells #[.slice Ao301 t367.length co301, .int .i64 t370] 25 (0, 0)) (by (with_reducible repeat (first | refine blk_drewN ?_ _ | refine blk_drew ?_ | refine blk_alloc ?_ _)); refine blk_far ?_ NB371_383.out _; (with_reducible repeat (first | refine blk_drewN ?_ _ | refine blk_drew ?_ | refine blk_alloc ?_ _)); refine blk_far ?_ NB371_383.out _; (with_reducible repeat (first | refine blk_drewN ?_ _ | refine blk_drew ?_ | refine blk_alloc ?_ _)); exact BK371.out) hb); replace BK377 := Aside0.mk (blk_below (g := gb377) (o := .cells #[.slice Ao310 t372.length co310, .int .i64 t375] 25 (0, 0)) (by (with_reducible repeat (first | refine blk_drewN ?_ _ | refine blk_drew ?_ | refine blk_alloc ?_ _)); refine blk_far ?_ NB377_383.out _; (with_reducible repeat (first | refine blk_drewN ?_ _ | refine blk_drew ?_ | refine blk_alloc ?_ _)); refine blk_far ?_ NB377_383.out _; (with_reducible repeat (first | refine blk_drewN ?_ _ | refine blk_drew ?_ | refine blk_alloc ?_ _)); exact BK377.out) hb); replace BK383 := Aside0.mk (blk_below (g := gb383) (o := .cells #[.slice Ao321 t378.length co321, .int .i64 t381] 25 (0, 0)) (by (with_reducible repeat (first | refine blk_drewN ?_ _ | refine blk_drew ?_ | refine blk_alloc ?_ _)); refine blk_put (cs := #[.slice Ao321 t378.length co321, .int .i64 0]) ?_ 1 _ rfl; (with_reducible repeat (first | refine blk_drewN ?_ _ | refine blk_drew ?_ | refine blk_alloc ?_ _)); refine blk_put (cs := #[.slice none 0 0, .int .i64 0]) ?_ 0 _ rfl; (with_reducible repeat (first | refine blk_drewN ?_ _ | refine blk_drew ?_ | refine blk_alloc ?_ _)); exact BK383.out) hb); replace HB := xws_ HB hb; (try clear hb); (try clear hb2); (try clear hk); (try clear hi)))
              go_ret
              exact ⟨by first | rfl | (simp [errW_none, errW_some] <;> rfl) | (simp [*, errW_none, errW_some] <;> rfl), xw_ HB⟩

/-- THE ONE PURE STATEMENT of laws_FnSummed: yours. -/
def laws_FnSummed.Pure : Prop := ∀ (l0 : List Int) (l1 : List Int), l0.length ≤ maxLen → l0.length * 1 ≤ 140737488351232 → (∀ x ∈ l0, (Lit.int .u8 x).wf = true) → l1.length ≤ maxLen → l1.length * 1 ≤ 140737488351232 → (∀ x ∈ l1, (Lit.int .u8 x).wf = true) → ∃ k, laws_FnSummed.f k l0 l1 = some true
theorem laws_FnSummed.walk (P : laws_FnSummed.Pure) (a0 : Option Addr) (len0 cap0 : Nat) (z0 : List Int) (a1 : Option Addr) (len1 cap1 : Nat) (z1 : List Int) (w : World) (w0 : (a0 = none ∧ len0 = 0 ∧ cap0 = 0 ∧ z0 = []) ∨ ∃ x, a0 = some x ∧ len0 ≤ cap0 ∧ cap0 ≤ maxLen ∧ z0.length = cap0 ∧ (∀ i, i < z0.length → w.cell? (x.add i) = some (.int .u8 (z0.getD i 0))) ∧ ∀ n ∈ z0, (Lit.int .u8 n).wf = true) (y0 : len0 * 1 ≤ 140737488351232) (w1 : (a1 = none ∧ len1 = 0 ∧ cap1 = 0 ∧ z1 = []) ∨ ∃ x, a1 = some x ∧ len1 ≤ cap1 ∧ cap1 ≤ maxLen ∧ z1.length = cap1 ∧ (∀ i, i < z1.length → w.cell? (x.add i) = some (.int .u8 (z1.getD i 0))) ∧ ∀ n ∈ z1, (Lit.int .u8 n).wf = true) (y1 : len1 * 1 ≤ 140737488351232) :
  Calls Try.prog 4 #[.slice a0 len0 cap0, .slice a1 len1 cap1] w fun e w' => e = .returned (.bool true) ∧ Below w.heap.size w w' := by
 obtain ⟨l0, rfl, hr0, hm0, hw0, hc0⟩ := ReadsInt.ofRowC w0
 obtain ⟨l1, rfl, hr1, hm1, hw1, hc1⟩ := ReadsInt.ofRowC w1
 obtain ⟨k, h⟩ := P l0 l1 hm0 y0 hw0 hm1 y1 hw1
 refine (laws_FnSummed.calls k _ _ l0 _ _ l1 true w (Kd.C_of_reads (d := (0 : Int)) (h1 := fun _ => rfl) hr0) hc0 (Kd.C_of_reads (d := (0 : Int)) (h1 := fun _ => rfl) hr1) hc1 h).mono ?_
 rintro e w' ⟨rfl, hd⟩
 exact ⟨rfl, hd⟩

end Go.Proofs.Ytemeajidcggniaa.PFnSummed
