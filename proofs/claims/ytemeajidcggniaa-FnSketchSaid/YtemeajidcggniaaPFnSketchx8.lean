-- Written by a program of this project (xprint.py) out of the translation; Lean checks it.
import Derived.Test.YtemeajidcggniaaPFnSketchx0
import Derived.Test.YtemeajidcggniaaPFnSketchx1
import Derived.Test.YtemeajidcggniaaPFnSketchx2
import Derived.Test.YtemeajidcggniaaPFnSketchx5
import Derived.Test.YtemeajidcggniaaPFnSketchx6
import Derived.Test.YtemeajidcggniaaPFnSketchx7
namespace Go.Proofs.Ytemeajidcggniaa.PFnSketch
open Go.RowKit Go.Proofs.YtemeajidcggniaaW.PrintWords Go.Proofs.YtemeajidcggniaaW.PrintLast Go.Proofs.YtemeajidcggniaaW.PrintMore
attribute [local go_sem] max2_int min2_int max_two min_two max_three min_three max_four min_four   -- for this text's walks alone
set_option linter.unusedVariables false
set_option linter.unusedSimpArgs false

/-! ### laws_FnSketch: function 3 -/
mutual
def laws_FnSketch.j0 : Nat → List Int → ByteArray → Int → Bool → Bool → List Int → Int → List Int → Int → Option (Bool)
 | 0, _, _, _, _, _, _, _, _, _ => none
 | k + 1, x1, x6, x7, x9, x76, x289000, x289001, x295000, x295001 => if x76 = true then (some false) else (if x9 = true then ((impl_EstimateOf.f k x289000 x289001 x6).bind fun bt304 => ((impl_EstimateOf.f k x295000 x295001 x6).bind fun bt306 => ((spec_DrawEstimateOf.f k x1).bind fun bt308 => ((impl_EstimateOf.f k x289000 x289001 bt308.2.2).bind fun bt314 => ((impl_EstimateOf.f k x295000 x295001 bt308.2.2).bind fun bt316 => (if bt304.2 = true then (if bt306.2 = true then (if bt306.1 = (wrap64 (bt304.1 + x7)) then (if bt306.1 > x295001 then (laws_FnSketch.j1 k x1 x6 bt306.1 bt308.2.2 bt314.2 bt316.1 true x295000 x295001) else (if (bt314.2 != bt316.2) = true then (laws_FnSketch.j1 k x1 x6 bt306.1 bt308.2.2 bt314.2 bt316.1 true x295000 x295001) else (if bt316.1 < bt314.1 then (laws_FnSketch.j1 k x1 x6 bt306.1 bt308.2.2 bt314.2 bt316.1 true x295000 x295001) else (laws_FnSketch.j1 k x1 x6 bt306.1 bt308.2.2 bt314.2 bt316.1 (decide (bt316.1 > (wrap64 (bt314.1 + x7)))) x295000 x295001)))) else (laws_FnSketch.j1 k x1 x6 bt306.1 bt308.2.2 bt314.2 bt316.1 true x295000 x295001)) else (laws_FnSketch.j1 k x1 x6 bt306.1 bt308.2.2 bt314.2 bt316.1 true x295000 x295001)) else (laws_FnSketch.j1 k x1 x6 bt306.1 bt308.2.2 bt314.2 bt316.1 true x295000 x295001))))))) else (laws_FnSketch.j2 k x1))
def laws_FnSketch.j2 : Nat → List Int → Option (Bool)
 | 0, _ => none
 | k + 1, x1 => (impl_NewSketch.f).bind fun bt320 => (if 4 ≤ 35184372088832 then (laws_FnSketch.l0 k (List.replicate 4 0) x1 (x1.length : Int) 0 bt320.1 bt320.2) else (none))
def laws_FnSketch.j4 : Nat → List Int → List Int → Int → Option (Bool)
 | 0, _, _, _ => none
 | k + 1, x25, x325000, x325001 => laws_FnSketch.l1 k x25 (x25.length : Int) 0 x325000 x325001
def laws_FnSketch.l1 : Nat → List Int → Int → Int → List Int → Int → Option (Bool)
 | 0, _, _, _, _, _ => none
 | k + 1, x198, x199, x200, x325000, x325001 => if x200 < x199 then (if 0 ≤ x200 then (if x200 < (x198.length : Int) then ((some (([(wrap64 (97 + x200)) % 256] : List Int) : List Int)).bind fun y341 => (if 4 + (strOfNums y341).size ≤ 9223372036854775807 then ((impl_EstimateOf.f k x325000 x325001 ((⟨#[107, 101, 121, 45]⟩ : ByteArray) ++ (strOfNums y341))).bind fun bt344 => (if bt344.2 = true then (if bt344.1 < (rd x198 x200) then (some false) else (if bt344.1 > x325001 then (some false) else (laws_FnSketch.l1 k x198 x199 (wrap64 (x200 + 1)) x325000 x325001))) else (some false))) else (none))) else (none)) else (none)) else (some true)
def laws_FnSketch.l0 : Nat → List Int → List Int → Int → Int → List Int → Int → Option (Bool)
 | 0, _, _, _, _, _, _ => none
 | k + 1, x25, x165, x166, x167, x325000, x325001 => if x167 < x166 then (if 0 ≤ x167 then (if x167 < (x165.length : Int) then (if x167 = 60 then (laws_FnSketch.j4 k x25 x325000 x325001) else ((some (([(wrap64 (97 + (Int.tmod (wrap64 (rd x165 x167)) 4))) % 256] : List Int) : List Int)).bind fun y329 => (if 4 + (strOfNums y329).size ≤ 9223372036854775807 then ((impl_CountIn.f k x325000 x325001 ((⟨#[107, 101, 121, 45]⟩ : ByteArray) ++ (strOfNums y329)) 1).bind fun bt332 => (if bt332.2.2 = true then (if 0 ≤ (Int.tmod (wrap64 (rd x165 x167)) 4) then (if (Int.tmod (wrap64 (rd x165 x167)) 4) < (x25.length : Int) then (laws_FnSketch.l0 k (x25.set ((Int.tmod (wrap64 (rd x165 x167)) 4) : Int).toNat (wrap64 ((rd x25 (Int.tmod (wrap64 (rd x165 x167)) 4)) + 1))) x165 x166 (wrap64 (x167 + 1)) bt332.1 bt332.2.1) else (none)) else (none)) else (some false))) else (none)))) else (none)) else (none)) else (laws_FnSketch.j4 k x25 x325000 x325001)
def laws_FnSketch.j1 : Nat → List Int → ByteArray → Int → ByteArray → Bool → Int → Bool → List Int → Int → Option (Bool)
 | 0, _, _, _, _, _, _, _, _, _ => none
 | k + 1, x1, x6, x14, x17, x19, x20, x142, x295000, x295001 => if x142 = true then (some false) else ((impl_AdmitsKey.f k x295000 x295001 x6 x17).bind fun bt318 => (if (bt318.2 != x19) = true then (some false) else (if x19 = true then (if (bt318.1 != (decide (x14 > x20))) = true then (some false) else (laws_FnSketch.j2 k x1)) else (if (bt318.1 != false) = true then (some false) else (laws_FnSketch.j2 k x1)))))
end
def laws_FnSketch.f (k : Nat) (l0 : List Int) (l1 : List Int) : Option (Bool) := if (wrap64 ((l0.length : Int) + (l1.length : Int))) > 1048576 then (some true) else ((spec_DrawCountIn.f k l0).bind fun bt282 => ((impl_CountIn.f k bt282.1 bt282.2.1 bt282.2.2.1 bt282.2.2.2).bind fun bt289 => ((spec_CountIn.f k bt282.1 bt282.2.1 bt282.2.2.1 bt282.2.2.2).bind fun bt295 => (if (bt289.2.2 != bt295.2.2) = true then (laws_FnSketch.j0 k l1 bt282.2.2.1 bt282.2.2.2 bt289.2.2 true bt282.1 bt282.2.1 bt289.1 bt289.2.1) else ((laws_sameSketches.f k bt289.1 bt289.2.1 bt295.1 bt295.2.1).bind fun t301 => (if t301 = true then ((impl_GoodSketch.f bt282.1 bt282.2.1).bind fun t302 => ((spec_GoodSketch.f k bt282.1 bt282.2.1).bind fun t303 => (laws_FnSketch.j0 k l1 bt282.2.2.1 bt282.2.2.2 bt289.2.2 (t302 != t303) bt282.1 bt282.2.1 bt289.1 bt289.2.1))) else (laws_FnSketch.j0 k l1 bt282.2.2.1 bt282.2.2.2 bt289.2.2 true bt282.1 bt282.2.1 bt289.1 bt289.2.1)))))))
theorem laws_FnSketch.mono_l : ∀ k, (∀ y0 y1 y2 y3 y4 y5 y6 y7 y8, LeO (laws_FnSketch.j0 k y0 y1 y2 y3 y4 y5 y6 y7 y8) (laws_FnSketch.j0 (k + 1) y0 y1 y2 y3 y4 y5 y6 y7 y8)) ∧ (∀ y0, LeO (laws_FnSketch.j2 k y0) (laws_FnSketch.j2 (k + 1) y0)) ∧ (∀ y0 y1 y2, LeO (laws_FnSketch.j4 k y0 y1 y2) (laws_FnSketch.j4 (k + 1) y0 y1 y2)) ∧ (∀ y0 y1 y2 y3 y4, LeO (laws_FnSketch.l1 k y0 y1 y2 y3 y4) (laws_FnSketch.l1 (k + 1) y0 y1 y2 y3 y4)) ∧ (∀ y0 y1 y2 y3 y4 y5, LeO (laws_FnSketch.l0 k y0 y1 y2 y3 y4 y5) (laws_FnSketch.l0 (k + 1) y0 y1 y2 y3 y4 y5)) ∧ (∀ y0 y1 y2 y3 y4 y5 y6 y7 y8, LeO (laws_FnSketch.j1 k y0 y1 y2 y3 y4 y5 y6 y7 y8) (laws_FnSketch.j1 (k + 1) y0 y1 y2 y3 y4 y5 y6 y7 y8))
 | 0 => ⟨fun _ _ _ _ _ _ _ _ _ r h => by simp [laws_FnSketch.j0] at h, fun _ r h => by simp [laws_FnSketch.j2] at h, fun _ _ _ r h => by simp [laws_FnSketch.j4] at h, fun _ _ _ _ _ r h => by simp [laws_FnSketch.l1] at h, fun _ _ _ _ _ _ r h => by simp [laws_FnSketch.l0] at h, fun _ _ _ _ _ _ _ _ _ r h => by simp [laws_FnSketch.j1] at h⟩
 | k + 1 => by
  obtain ⟨ih0, ih1, ih2, ih3, ih4, ih5⟩ := laws_FnSketch.mono_l k
  refine ⟨?_, ?_, ?_, ?_, ?_, ?_⟩
  ·intro y0 y1 y2 y3 y4 y5 y6 y7 y8
   unfold laws_FnSketch.j0
   repeat' first
   | (with_reducible exact ih0 _ _ _ _ _ _ _ _ _)
   | (with_reducible exact ih1 _)
   | (with_reducible exact ih2 _ _ _)
   | (with_reducible exact ih3 _ _ _ _ _)
   | (with_reducible exact ih4 _ _ _ _ _ _)
   | (with_reducible exact ih5 _ _ _ _ _ _ _ _ _)
   | (with_reducible exact impl_AdmitsKey.mono _ _ _ _ _)
   | (with_reducible exact impl_CountIn.mono _ _ _ _ _)
   | (with_reducible exact impl_EstimateOf.mono _ _ _ _)
   | (with_reducible exact laws_sameSketches.mono _ _ _ _ _)
   | (with_reducible exact spec_CountIn.mono _ _ _ _ _)
   | (with_reducible exact spec_DrawCountIn.mono _ _)
   | (with_reducible exact spec_DrawEstimateOf.mono _ _)
   | (with_reducible exact spec_GoodSketch.mono _ _ _)
   | (with_reducible exact LeO.refl _)
   | (with_reducible exact LeO.none _)
   | (with_reducible refine LeO.ite ?_ ?_)
   | (with_reducible refine LeO.bind ?_ (fun _ => ?_))
   | exact ih0 _ _ _ _ _ _ _ _ _
   | exact ih1 _
   | exact ih2 _ _ _
   | exact ih3 _ _ _ _ _
   | exact ih4 _ _ _ _ _ _
   | exact ih5 _ _ _ _ _ _ _ _ _
   | exact impl_AdmitsKey.mono _ _ _ _ _
   | exact impl_CountIn.mono _ _ _ _ _
   | exact impl_EstimateOf.mono _ _ _ _
   | exact laws_sameSketches.mono _ _ _ _ _
   | exact spec_CountIn.mono _ _ _ _ _
   | exact spec_DrawCountIn.mono _ _
   | exact spec_DrawEstimateOf.mono _ _
   | exact spec_GoodSketch.mono _ _ _
   | exact LeO.none _
   | refine LeO.ite ?_ ?_
   | refine LeO.bind ?_ (fun _ => ?_)
  ·intro y0
   unfold laws_FnSketch.j2
   repeat' first
   | (with_reducible exact ih0 _ _ _ _ _ _ _ _ _)
   | (with_reducible exact ih1 _)
   | (with_reducible exact ih2 _ _ _)
   | (with_reducible exact ih3 _ _ _ _ _)
   | (with_reducible exact ih4 _ _ _ _ _ _)
   | (with_reducible exact ih5 _ _ _ _ _ _ _ _ _)
   | (with_reducible exact impl_AdmitsKey.mono _ _ _ _ _)
   | (with_reducible exact impl_CountIn.mono _ _ _ _ _)
   | (with_reducible exact impl_EstimateOf.mono _ _ _ _)
   | (with_reducible exact laws_sameSketches.mono _ _ _ _ _)
   | (with_reducible exact spec_CountIn.mono _ _ _ _ _)
   | (with_reducible exact spec_DrawCountIn.mono _ _)
   | (with_reducible exact spec_DrawEstimateOf.mono _ _)
   | (with_reducible exact spec_GoodSketch.mono _ _ _)
   | (with_reducible exact LeO.refl _)
   | (with_reducible exact LeO.none _)
   | (with_reducible refine LeO.ite ?_ ?_)
   | (with_reducible refine LeO.bind ?_ (fun _ => ?_))
   | exact ih0 _ _ _ _ _ _ _ _ _
   | exact ih1 _
   | exact ih2 _ _ _
   | exact ih3 _ _ _ _ _
   | exact ih4 _ _ _ _ _ _
   | exact ih5 _ _ _ _ _ _ _ _ _
   | exact impl_AdmitsKey.mono _ _ _ _ _
   | exact impl_CountIn.mono _ _ _ _ _
   | exact impl_EstimateOf.mono _ _ _ _
   | exact laws_sameSketches.mono _ _ _ _ _
   | exact spec_CountIn.mono _ _ _ _ _
   | exact spec_DrawCountIn.mono _ _
   | exact spec_DrawEstimateOf.mono _ _
   | exact spec_GoodSketch.mono _ _ _
   | exact LeO.none _
   | refine LeO.ite ?_ ?_
   | refine LeO.bind ?_ (fun _ => ?_)
  ·intro y0 y1 y2
   unfold laws_FnSketch.j4
   repeat' first
   | (with_reducible exact ih0 _ _ _ _ _ _ _ _ _)
   | (with_reducible exact ih1 _)
   | (with_reducible exact ih2 _ _ _)
   | (with_reducible exact ih3 _ _ _ _ _)
   | (with_reducible exact ih4 _ _ _ _ _ _)
   | (with_reducible exact ih5 _ _ _ _ _ _ _ _ _)
   | (with_reducible exact impl_AdmitsKey.mono _ _ _ _ _)
   | (with_reducible exact impl_CountIn.mono _ _ _ _ _)
   | (with_reducible exact impl_EstimateOf.mono _ _ _ _)
   | (with_reducible exact laws_sameSketches.mono _ _ _ _ _)
   | (with_reducible exact spec_CountIn.mono _ _ _ _ _)
   | (with_reducible exact spec_DrawCountIn.mono _ _)
   | (with_reducible exact spec_DrawEstimateOf.mono _ _)
   | (with_reducible exact spec_GoodSketch.mono _ _ _)
   | (with_reducible exact LeO.refl _)
   | (with_reducible exact LeO.none _)
   | (with_reducible refine LeO.ite ?_ ?_)
   | (with_reducible refine LeO.bind ?_ (fun _ => ?_))
   | exact ih0 _ _ _ _ _ _ _ _ _
   | exact ih1 _
   | exact ih2 _ _ _
   | exact ih3 _ _ _ _ _
   | exact ih4 _ _ _ _ _ _
   | exact ih5 _ _ _ _ _ _ _ _ _
   | exact impl_AdmitsKey.mono _ _ _ _ _
   | exact impl_CountIn.mono _ _ _ _ _
   | exact impl_EstimateOf.mono _ _ _ _
   | exact laws_sameSketches.mono _ _ _ _ _
   | exact spec_CountIn.mono _ _ _ _ _
   | exact spec_DrawCountIn.mono _ _
   | exact spec_DrawEstimateOf.mono _ _
   | exact spec_GoodSketch.mono _ _ _
   | exact LeO.none _
   | refine LeO.ite ?_ ?_
   | refine LeO.bind ?_ (fun _ => ?_)
  ·intro y0 y1 y2 y3 y4
   unfold laws_FnSketch.l1
   repeat' first
   | (with_reducible exact ih0 _ _ _ _ _ _ _ _ _)
   | (with_reducible exact ih1 _)
   | (with_reducible exact ih2 _ _ _)
   | (with_reducible exact ih3 _ _ _ _ _)
   | (with_reducible exact ih4 _ _ _ _ _ _)
   | (with_reducible exact ih5 _ _ _ _ _ _ _ _ _)
   | (with_reducible exact impl_AdmitsKey.mono _ _ _ _ _)
   | (with_reducible exact impl_CountIn.mono _ _ _ _ _)
   | (with_reducible exact impl_EstimateOf.mono _ _ _ _)
   | (with_reducible exact laws_sameSketches.mono _ _ _ _ _)
   | (with_reducible exact spec_CountIn.mono _ _ _ _ _)
   | (with_reducible exact spec_DrawCountIn.mono _ _)
   | (with_reducible exact spec_DrawEstimateOf.mono _ _)
   | (with_reducible exact spec_GoodSketch.mono _ _ _)
   | (with_reducible exact LeO.refl _)
   | (with_reducible exact LeO.none _)
   | (with_reducible refine LeO.ite ?_ ?_)
   | (with_reducible refine LeO.bind ?_ (fun _ => ?_))
   | exact ih0 _ _ _ _ _ _ _ _ _
   | exact ih1 _
   | exact ih2 _ _ _
   | exact ih3 _ _ _ _ _
   | exact ih4 _ _ _ _ _ _
   | exact ih5 _ _ _ _ _ _ _ _ _
   | exact impl_AdmitsKey.mono _ _ _ _ _
   | exact impl_CountIn.mono _ _ _ _ _
   | exact impl_EstimateOf.mono _ _ _ _
   | exact laws_sameSketches.mono _ _ _ _ _
   | exact spec_CountIn.mono _ _ _ _ _
   | exact spec_DrawCountIn.mono _ _
   | exact spec_DrawEstimateOf.mono _ _
   | exact spec_GoodSketch.mono _ _ _
   | exact LeO.none _
   | refine LeO.ite ?_ ?_
   | refine LeO.bind ?_ (fun _ => ?_)
  ·intro y0 y1 y2 y3 y4 y5
   unfold laws_FnSketch.l0
   repeat' first
   | (with_reducible exact ih0 _ _ _ _ _ _ _ _ _)
   | (with_reducible exact ih1 _)
   | (with_reducible exact ih2 _ _ _)
   | (with_reducible exact ih3 _ _ _ _ _)
   | (with_reducible exact ih4 _ _ _ _ _ _)
   | (with_reducible exact ih5 _ _ _ _ _ _ _ _ _)
   | (with_reducible exact impl_AdmitsKey.mono _ _ _ _ _)
   | (with_reducible exact impl_CountIn.mono _ _ _ _ _)
   | (with_reducible exact impl_EstimateOf.mono _ _ _ _)
   | (with_reducible exact laws_sameSketches.mono _ _ _ _ _)
   | (with_reducible exact spec_CountIn.mono _ _ _ _ _)
   | (with_reducible exact spec_DrawCountIn.mono _ _)
   | (with_reducible exact spec_DrawEstimateOf.mono _ _)
   | (with_reducible exact spec_GoodSketch.mono _ _ _)
   | (with_reducible exact LeO.refl _)
   | (with_reducible exact LeO.none _)
   | (with_reducible refine LeO.ite ?_ ?_)
   | (with_reducible refine LeO.bind ?_ (fun _ => ?_))
   | exact ih0 _ _ _ _ _ _ _ _ _
   | exact ih1 _
   | exact ih2 _ _ _
   | exact ih3 _ _ _ _ _
   | exact ih4 _ _ _ _ _ _
   | exact ih5 _ _ _ _ _ _ _ _ _
   | exact impl_AdmitsKey.mono _ _ _ _ _
   | exact impl_CountIn.mono _ _ _ _ _
   | exact impl_EstimateOf.mono _ _ _ _
   | exact laws_sameSketches.mono _ _ _ _ _
   | exact spec_CountIn.mono _ _ _ _ _
   | exact spec_DrawCountIn.mono _ _
   | exact spec_DrawEstimateOf.mono _ _
   | exact spec_GoodSketch.mono _ _ _
   | exact LeO.none _
   | refine LeO.ite ?_ ?_
   | refine LeO.bind ?_ (fun _ => ?_)
  ·intro y0 y1 y2 y3 y4 y5 y6 y7 y8
   unfold laws_FnSketch.j1
   repeat' first
   | (with_reducible exact ih0 _ _ _ _ _ _ _ _ _)
   | (with_reducible exact ih1 _)
   | (with_reducible exact ih2 _ _ _)
   | (with_reducible exact ih3 _ _ _ _ _)
   | (with_reducible exact ih4 _ _ _ _ _ _)
   | (with_reducible exact ih5 _ _ _ _ _ _ _ _ _)
   | (with_reducible exact impl_AdmitsKey.mono _ _ _ _ _)
   | (with_reducible exact impl_CountIn.mono _ _ _ _ _)
   | (with_reducible exact impl_EstimateOf.mono _ _ _ _)
   | (with_reducible exact laws_sameSketches.mono _ _ _ _ _)
   | (with_reducible exact spec_CountIn.mono _ _ _ _ _)
   | (with_reducible exact spec_DrawCountIn.mono _ _)
   | (with_reducible exact spec_DrawEstimateOf.mono _ _)
   | (with_reducible exact spec_GoodSketch.mono _ _ _)
   | (with_reducible exact LeO.refl _)
   | (with_reducible exact LeO.none _)
   | (with_reducible refine LeO.ite ?_ ?_)
   | (with_reducible refine LeO.bind ?_ (fun _ => ?_))
   | exact ih0 _ _ _ _ _ _ _ _ _
   | exact ih1 _
   | exact ih2 _ _ _
   | exact ih3 _ _ _ _ _
   | exact ih4 _ _ _ _ _ _
   | exact ih5 _ _ _ _ _ _ _ _ _
   | exact impl_AdmitsKey.mono _ _ _ _ _
   | exact impl_CountIn.mono _ _ _ _ _
   | exact impl_EstimateOf.mono _ _ _ _
   | exact laws_sameSketches.mono _ _ _ _ _
   | exact spec_CountIn.mono _ _ _ _ _
   | exact spec_DrawCountIn.mono _ _
   | exact spec_DrawEstimateOf.mono _ _
   | exact spec_GoodSketch.mono _ _ _
   | exact LeO.none _
   | refine LeO.ite ?_ ?_
   | refine LeO.bind ?_ (fun _ => ?_)
theorem laws_FnSketch.mono : ∀ a0 a1 k, LeO (laws_FnSketch.f k a0 a1) (laws_FnSketch.f (k + 1) a0 a1) := by
 intro a0 a1 k
 obtain ⟨ih0, ih1, ih2, ih3, ih4, ih5⟩ := laws_FnSketch.mono_l k
 unfold laws_FnSketch.f
 repeat' first
   | (with_reducible exact ih0 _ _ _ _ _ _ _ _ _)
   | (with_reducible exact ih1 _)
   | (with_reducible exact ih2 _ _ _)
   | (with_reducible exact ih3 _ _ _ _ _)
   | (with_reducible exact ih4 _ _ _ _ _ _)
   | (with_reducible exact ih5 _ _ _ _ _ _ _ _ _)
   | (with_reducible exact impl_AdmitsKey.mono _ _ _ _ _)
   | (with_reducible exact impl_CountIn.mono _ _ _ _ _)
   | (with_reducible exact impl_EstimateOf.mono _ _ _ _)
   | (with_reducible exact laws_sameSketches.mono _ _ _ _ _)
   | (with_reducible exact spec_CountIn.mono _ _ _ _ _)
   | (with_reducible exact spec_DrawCountIn.mono _ _)
   | (with_reducible exact spec_DrawEstimateOf.mono _ _)
   | (with_reducible exact spec_GoodSketch.mono _ _ _)
   | (with_reducible exact LeO.refl _)
   | (with_reducible exact LeO.none _)
   | (with_reducible refine LeO.ite ?_ ?_)
   | (with_reducible refine LeO.bind ?_ (fun _ => ?_))
   | exact ih0 _ _ _ _ _ _ _ _ _
   | exact ih1 _
   | exact ih2 _ _ _
   | exact ih3 _ _ _ _ _
   | exact ih4 _ _ _ _ _ _
   | exact ih5 _ _ _ _ _ _ _ _ _
   | exact impl_AdmitsKey.mono _ _ _ _ _
   | exact impl_CountIn.mono _ _ _ _ _
   | exact impl_EstimateOf.mono _ _ _ _
   | exact laws_sameSketches.mono _ _ _ _ _
   | exact spec_CountIn.mono _ _ _ _ _
   | exact spec_DrawCountIn.mono _ _
   | exact spec_DrawEstimateOf.mono _ _
   | exact spec_GoodSketch.mono _ _ _
   | exact LeO.none _
   | refine LeO.ite ?_ ?_
   | refine LeO.bind ?_ (fun _ => ?_)
def laws_FnSketch.T6 : Bool × List (List Nat × List Nat) := (true, [([], []), ([], []), ([0, 1], [0, 1]), ([2], [2]), ([3], [3]), ([3], [3]), ([4, 5, 3, 3], [3, 4, 5]), ([6, 3], [3, 6]), ([3, 7], [3, 7]), ([8, 6], [8]), ([9], [9]), ([10, 9, 9], [9, 10]), ([9], [9]), ([12, 11, 9], [9, 12]), ([11, 13, 9], [9, 11, 13]), ([9, 14], [9, 14])])
def laws_FnSketch.B6 : List Nat := [0, 0, 3, 7, 15, 15, 63, 127, 255, 511, 1023, 2047, 1023, 8191, 16383, 32767]
theorem laws_FnSketch.tab6 : rtab .any (opsOf Try.f3 6) = laws_FnSketch.T6 := by kernel_rfl
theorem laws_FnSketch.bits6 : waitsOk laws_FnSketch.T6.2 laws_FnSketch.B6 = true := by kernel_rfl
structure laws_FnSketch.callsKept (p : Prop) : Prop where
  out : p
set_option maxHeartbeats 8000000 in
set_option maxRecDepth 100000 in
noncomputable def laws_FnSketch.calls1 : PSigma (fun T0 : (∀ (k : Nat) (A0 : Option Addr) (c0 : Nat) (l0 : List Int) (A1 : Option Addr) (c1 : Nat) (l1 : List Int) (r : Bool) (w : World), Prop) => ∀ (k : Nat) (A0 : Option Addr) (c0 : Nat) (l0 : List Int) (A1 : Option Addr) (c1 : Nat) (l1 : List Int) (r : Bool) (w : World) (hr0 : Kd.C (Kd.int .u8) w A0 l0.length l0) (hc0 : l0.length ≤ c0) (hr1 : Kd.C (Kd.int .u8) w A1 l1.length l1) (hc1 : l1.length ≤ c1) (h : laws_FnSketch.f k l0 l1 = some r), laws_FnSketch.callsKept (T0 k A0 c0 l0 A1 c1 l1 r w) → Calls Try.prog 3 #[.slice A0 l0.length c0, .slice A1 l1.length c1] w fun e w' => e = .returned (.bool r) ∧ Below w.heap.size w w') := by
 apply PSigma.mk
 intro k A0 c0 l0 A1 c1 l1 r w hr0 hc0 hr1 hc1 h hT0
 have hu25 := Try.underlying25
 have HR0 := Aside0.mk hr0
 have HC0 := Aside0.mk hc0
 clear hr0 hc0
 have HR1 := Aside0.mk hr1
 have HC1 := Aside0.mk hc1
 clear hr1 hc1
 have HB := Aside0.mk (Below.refl w.heap.size w)
 have H : (if (wrap64 ((l0.length : Int) + (l1.length : Int))) > 1048576 then (some true) else ((spec_DrawCountIn.f k l0).bind fun bt282 => ((impl_CountIn.f k bt282.1 bt282.2.1 bt282.2.2.1 bt282.2.2.2).bind fun bt289 => ((spec_CountIn.f k bt282.1 bt282.2.1 bt282.2.2.1 bt282.2.2.2).bind fun bt295 => (if (bt289.2.2 != bt295.2.2) = true then (laws_FnSketch.j0 k l1 bt282.2.2.1 bt282.2.2.2 bt289.2.2 true bt282.1 bt282.2.1 bt289.1 bt289.2.1) else ((laws_sameSketches.f k bt289.1 bt289.2.1 bt295.1 bt295.2.1).bind fun t301 => (if t301 = true then ((impl_GoodSketch.f bt282.1 bt282.2.1).bind fun t302 => ((spec_GoodSketch.f k bt282.1 bt282.2.1).bind fun t303 => (laws_FnSketch.j0 k l1 bt282.2.2.1 bt282.2.2.2 bt289.2.2 (t302 != t303) bt282.1 bt282.2.1 bt289.1 bt289.2.1))) else (laws_FnSketch.j0 k l1 bt282.2.2.1 bt282.2.2.2 bt289.2.2 true bt282.1 bt282.2.1 bt289.1 bt289.2.1)))))))) = some r := h
 clear h
 by_cases c3 : (wrap64 ((l0.length : Int) + (l1.length : Int))) > 1048576
 ·rw [if_pos c3] at H
  have c3b0 : decide (1048576 < (wrap64 ((l0.length : Int) + (l1.length : Int)))) = true := decide_eq_true c3
  clear c3
  obtain rfl := Option.some.inj H
  go_enter Try.func3, Try.ntmps3
  go_wp2
  go_ret
  exact ⟨by first | rfl | (simp [errW_none, errW_some] <;> rfl) | (simp [*, errW_none, errW_some] <;> rfl), xw_ HB⟩
 ·rw [if_neg c3] at H
  have c3b0 : decide (1048576 < (wrap64 ((l0.length : Int) + (l1.length : Int)))) = false := decide_eq_false c3
  clear c3
  replace H := Option.bind_eq_some_iff.mp H
  obtain ⟨⟨t282, t285, t286, t287⟩, A40, H⟩ := H
  replace H : ((impl_CountIn.f k t282 t285 t286 t287).bind fun bt289 => ((spec_CountIn.f k t282 t285 t286 t287).bind fun bt295 => (if (bt289.2.2 != bt295.2.2) = true then (laws_FnSketch.j0 k l1 t286 t287 bt289.2.2 true t282 t285 bt289.1 bt289.2.1) else ((laws_sameSketches.f k bt289.1 bt289.2.1 bt295.1 bt295.2.1).bind fun t301 => (if t301 = true then ((impl_GoodSketch.f t282 t285).bind fun t302 => ((spec_GoodSketch.f k t282 t285).bind fun t303 => (laws_FnSketch.j0 k l1 t286 t287 bt289.2.2 (t302 != t303) t282 t285 bt289.1 bt289.2.1))) else (laws_FnSketch.j0 k l1 t286 t287 bt289.2.2 true t282 t285 bt289.1 bt289.2.1)))))) = some r := H
  have A4 := Aside0.mk A40
  clear A40
  replace H := Option.bind_eq_some_iff.mp H
  obtain ⟨⟨t289, t292, t293⟩, A50, H⟩ := H
  replace H : ((spec_CountIn.f k t282 t285 t286 t287).bind fun bt295 => (if (t293 != bt295.2.2) = true then (laws_FnSketch.j0 k l1 t286 t287 t293 true t282 t285 t289 t292) else ((laws_sameSketches.f k t289 t292 bt295.1 bt295.2.1).bind fun t301 => (if t301 = true then ((impl_GoodSketch.f t282 t285).bind fun t302 => ((spec_GoodSketch.f k t282 t285).bind fun t303 => (laws_FnSketch.j0 k l1 t286 t287 t293 (t302 != t303) t282 t285 t289 t292))) else (laws_FnSketch.j0 k l1 t286 t287 t293 true t282 t285 t289 t292))))) = some r := H
  have A5 := Aside0.mk A50
  clear A50
  replace H := Option.bind_eq_some_iff.mp H
  obtain ⟨⟨t295, t298, t299⟩, A60, H⟩ := H
  replace H : (if (t293 != t299) = true then (laws_FnSketch.j0 k l1 t286 t287 t293 true t282 t285 t289 t292) else ((laws_sameSketches.f k t289 t292 t295 t298).bind fun t301 => (if t301 = true then ((impl_GoodSketch.f t282 t285).bind fun t302 => ((spec_GoodSketch.f k t282 t285).bind fun t303 => (laws_FnSketch.j0 k l1 t286 t287 t293 (t302 != t303) t282 t285 t289 t292))) else (laws_FnSketch.j0 k l1 t286 t287 t293 true t282 t285 t289 t292)))) = some r := H
  have A6 := Aside0.mk A60
  clear A60
  have HC7 := Aside0.mk H
  clear H
  go_enter Try.func3, Try.ntmps3
  go_upto_region 6 with (first | ((with_reducible refine gate_callee (f := 5) rfl ?_); refine xgl_ (some 43) Try.func5 #[.slice A0 l0.length c0] ?_; (with_reducible refine (spec_DrawCountIn.calls k _ _ l0 t282 t285 t286 t287 _ ?side1 ?side2 A4.out).mono ?_); (case side1 => repeat (first | exact HR0.out | (with_reducible refine Kd.C_alloc ?_ _) | (with_reducible refine Kd.C_drewN ?_ _) | (with_reducible refine Kd.C_drew ?_))); (case side2 => exact HC0.out); rintro e w8 ⟨v283, rfl, ho0, hb⟩; refine ⟨_, rfl, ?_⟩; have HO284 := Aside0.mk (Kd.Q_lower ho0 (below_size (xw_ HB))); replace HB := xws_ HB hb; (try clear hb); (try clear hb2); (try clear hk); (try clear hi); (try clear ho0)) | ((with_reducible refine gate_dst (N := 5) rfl ?_); refine xbe_ (N := 5) (cs := #[.slice none 0 0, .int .i64 0]) (t := 25) ?_; intro gb288 hg w9 hbox hb; replace HO284 := xqb_ HO284 hb; have BK288 := Aside0.mk (hbox); have GW288 := xge_ HB hg; have GE288 := xge_ HB hg; replace HB := xws_ HB hb; clear hb hbox hg; obtain ⟨Ao10, co10, eo10, _⟩ := Kd.Q_slice HO284.out; subst eo10; have hcz11_0 : w9.cell? ⟨gb288, 0, none⟩ = some (.slice none 0 0) := xk_ BK288 0; have hcz11_1 : w9.cell? ⟨gb288, 1, none⟩ = some (.int .i64 0) := xk_ BK288 1; have hfz11_0 := blk_frozen BK288.out 0; have hfz11_1 := blk_frozen BK288.out 1) | ((with_reducible refine gate_callee (f := 6) rfl ?_); refine xgl_ (some 51) Try.func6 #[.agg #[.slice Ao10 t282.length co10, .int .i64 t285], .string t286, .int .i64 t287] ?_; (with_reducible refine (impl_CountIn.calls k _ _ t282 t285 t286 t287 t289 t292 t293 _ ?side1 ?side2 A5.out).mono ?_); (case side1 => refine (Kd.Q_reads' (e := 3) (base := w.heap.size) (ok := fun k_ => True) (n := t282.length) (c := co10) ?_).2.2; exact (xqt_ ((Kd.Q_mono (Kd.Q_far (p := ⟨gb288, 1, none⟩) (Kd.Q_far (p := ⟨gb288, 0, none⟩) (Kd.Q_types HO284.out BK288.out (by decide)) (fun _ hk => hk.2) (.slice Ao10 t282.length co10)) (fun _ hk => hk.2) (.int .i64 t285)) (fun _ h_ => h_.1))))); (case side2 => exact (Kd.Q_reads' HO284.out).2.1); rintro e w12 ⟨v290, rfl, ho0, hb⟩; refine ⟨_, rfl, ?_⟩; have HO291 := Aside0.mk (Kd.R_lower (Kd.R_new' ho0 (Kd.Q_lt (xqt_ ((Kd.Q_mono (Kd.Q_far (p := ⟨gb288, 1, none⟩) (Kd.Q_far (p := ⟨gb288, 0, none⟩) (Kd.Q_types HO284.out BK288.out (by decide)) (fun _ hk => hk.2) (.slice Ao10 t282.length co10)) (fun _ hk => hk.2) (.int .i64 t285)) (fun _ h_ => h_.1)))))) (below_size (xw_ HB))); replace HO284 := Aside0.mk (Kd.Q_elder' (xqt_ ((Kd.Q_mono (Kd.Q_far (p := ⟨gb288, 1, none⟩) (Kd.Q_far (p := ⟨gb288, 0, none⟩) (Kd.Q_types HO284.out BK288.out (by decide)) (fun _ hk => hk.2) (.slice Ao10 t282.length co10)) (fun _ hk => hk.2) (.int .i64 t285)) (fun _ h_ => h_.1)))) (Kd.R_base ho0) hb); replace BK288 := Aside0.mk (blk_below (g := gb288) (o := .cells #[.slice Ao10 t282.length co10, .int .i64 t285] 25 (0, 0)) (by (with_reducible repeat (first | refine blk_drewN ?_ _ | refine blk_drew ?_ | refine blk_alloc ?_ _)); refine blk_put (cs := #[.slice Ao10 t282.length co10, .int .i64 0]) ?_ 1 _ rfl; (with_reducible repeat (first | refine blk_drewN ?_ _ | refine blk_drew ?_ | refine blk_alloc ?_ _)); refine blk_put (cs := #[.slice none 0 0, .int .i64 0]) ?_ 0 _ rfl; (with_reducible repeat (first | refine blk_drewN ?_ _ | refine blk_drew ?_ | refine blk_alloc ?_ _)); exact BK288.out) hb); replace HB := xws_ HB hb; (try clear hb); (try clear hb2); (try clear hk); (try clear hi); (try clear ho0)) | ((with_reducible refine gate_dst (N := 8) rfl ?_); refine xbe_ (N := 8) (cs := #[.slice none 0 0, .int .i64 0]) (t := 25) ?_; intro gb294 hg w13 hbox hb; replace HO284 := xqb_ HO284 hb; replace HO291 := xrb_ HO291 hb; have BK294 := Aside0.mk (hbox); have GW294 := xge_ HB hg; have GE294 := xge_ HB hg; replace HB := xws_ HB hb; have NB288_294 := xlt_ BK288 hg; have NB294_288 := xgt_ BK288 hg; replace BK288 := xbb_ BK288 hb; clear hb hbox hg; obtain ⟨Ao14, co14, eo14⟩ := Kd.R_slice HO291.out; subst eo14; have hnb15 := NB294_288.out; have hnc15 := NB288_294.out; have hcz16_0 : w13.cell? ⟨gb294, 0, none⟩ = some (.slice none 0 0) := xk_ BK294 0; have hcz16_1 : w13.cell? ⟨gb294, 1, none⟩ = some (.int .i64 0) := xk_ BK294 1; have hfz16_0 := blk_frozen BK294.out 0; have hfz16_1 := blk_frozen BK294.out 1; have hcz17_0 : w13.cell? ⟨gb288, 0, none⟩ = some (.slice Ao10 t282.length co10) := xk_ BK288 0; have hcz17_1 : w13.cell? ⟨gb288, 1, none⟩ = some (.int .i64 t285) := xk_ BK288 1; have hfz17_0 := blk_frozen BK288.out 0; have hfz17_1 := blk_frozen BK288.out 1) | ((with_reducible refine gate_callee (f := 7) rfl ?_); refine xgl_ (some 58) Try.func7 #[.agg #[.slice Ao10 t282.length co10, .int .i64 t285], .string t286, .int .i64 t287] ?_; (with_reducible refine (spec_CountIn.calls k _ _ t282 t285 t286 t287 t295 t298 t299 _ ?side1 ?side2 A6.out).mono ?_); (case side1 => refine (Kd.Q_reads' (e := 3) (base := w.heap.size) (ok := fun k_ => (True ∧ some k_ ≠ (.slice Ao14 t289.length co14 : Value).ownBlock)) (n := t282.length) (c := co10) ?_).2.2; exact (xqt_ ((Kd.Q_mono (Kd.Q_far (p := ⟨gb294, 1, none⟩) (Kd.Q_far (p := ⟨gb294, 0, none⟩) (Kd.Q_types HO284.out BK294.out (by decide)) (fun _ hk => hk.2) (.slice Ao14 t289.length co14)) (fun _ hk => hk.2) (.int .i64 t292)) (fun _ h_ => h_.1))))); (case side2 => exact (Kd.Q_reads' HO284.out).2.1); rintro e w18 ⟨v296, rfl, ho0, hb⟩; refine ⟨_, rfl, ?_⟩; have HO297 := Aside0.mk (Kd.R_lower (Kd.R_new' (Kd.R_new' ho0 (Kd.Q_lt (xqt_ ((Kd.Q_mono (Kd.Q_far (p := ⟨gb294, 1, none⟩) (Kd.Q_far (p := ⟨gb294, 0, none⟩) (Kd.Q_types HO284.out BK294.out (by decide)) (fun _ hk => hk.2) (.slice Ao14 t289.length co14)) (fun _ hk => hk.2) (.int .i64 t292)) (fun _ h_ => h_.1)))))) (Kd.R_lt (xrt_ ((Kd.R_mono (Kd.R_far (p := ⟨gb294, 1, none⟩) (Kd.R_far (p := ⟨gb294, 0, none⟩) (Kd.R_types HO291.out BK294.out (by decide)) (fun _ hk => hk.2) (.slice Ao14 t289.length co14)) (fun _ hk => hk.2) (.int .i64 t292)) (fun _ h_ => h_.1)))))) (below_size (xw_ HB))); replace HO284 := Aside0.mk (Kd.Q_elder' (xqt_ ((Kd.Q_mono (Kd.Q_far (p := ⟨gb294, 1, none⟩) (Kd.Q_far (p := ⟨gb294, 0, none⟩) (Kd.Q_types HO284.out BK294.out (by decide)) (fun _ hk => hk.2) (.slice Ao14 t289.length co14)) (fun _ hk => hk.2) (.int .i64 t292)) (fun _ h_ => h_.1)))) (Kd.R_base ho0) hb); replace HO291 := Aside0.mk (Kd.R_elder' (xrt_ ((Kd.R_mono (Kd.R_far (p := ⟨gb294, 1, none⟩) (Kd.R_far (p := ⟨gb294, 0, none⟩) (Kd.R_types HO291.out BK294.out (by decide)) (fun _ hk => hk.2) (.slice Ao14 t289.length co14)) (fun _ hk => hk.2) (.int .i64 t292)) (fun _ h_ => h_.1)))) (Kd.R_base ho0) hb); replace BK288 := Aside0.mk (blk_below (g := gb288) (o := .cells #[.slice Ao10 t282.length co10, .int .i64 t285] 25 (0, 0)) (by (with_reducible repeat (first | refine blk_drewN ?_ _ | refine blk_drew ?_ | refine blk_alloc ?_ _)); refine blk_far ?_ NB288_294.out _; (with_reducible repeat (first | refine blk_drewN ?_ _ | refine blk_drew ?_ | refine blk_alloc ?_ _)); refine blk_far ?_ NB288_294.out _; (with_reducible repeat (first | refine blk_drewN ?_ _ | refine blk_drew ?_ | refine blk_alloc ?_ _)); exact BK288.out) hb); replace BK294 := Aside0.mk (blk_below (g := gb294) (o := .cells #[.slice Ao14 t289.length co14, .int .i64 t292] 25 (0, 0)) (by (with_reducible repeat (first | refine blk_drewN ?_ _ | refine blk_drew ?_ | refine blk_alloc ?_ _)); refine blk_put (cs := #[.slice Ao14 t289.length co14, .int .i64 0]) ?_ 1 _ rfl; (with_reducible repeat (first | refine blk_drewN ?_ _ | refine blk_drew ?_ | refine blk_alloc ?_ _)); refine blk_put (cs := #[.slice none 0 0, .int .i64 0]) ?_ 0 _ rfl; (with_reducible repeat (first | refine blk_drewN ?_ _ | refine blk_drew ?_ | refine blk_alloc ?_ _)); exact BK294.out) hb); replace HB := xws_ HB hb; (try clear hb); (try clear hb2); (try clear hk); (try clear hi); (try clear ho0)) | ((with_reducible refine gate_dst (N := 10) rfl ?_); refine xbe_ (N := 10) (cs := #[.slice none 0 0, .int .i64 0]) (t := 25) ?_; intro gb300 hg w19 hbox hb; replace HO284 := xqb_ HO284 hb; replace HO291 := xrb_ HO291 hb; replace HO297 := xrb_ HO297 hb; have BK300 := Aside0.mk (hbox); have GW300 := xge_ HB hg; have GE300 := xge_ HB hg; replace HB := xws_ HB hb; have NB288_300 := xlt_ BK288 hg; have NB300_288 := xgt_ BK288 hg; replace BK288 := xbb_ BK288 hb; have NB294_300 := xlt_ BK294 hg; have NB300_294 := xgt_ BK294 hg; replace BK294 := xbb_ BK294 hb; clear hb hbox hg; obtain ⟨Ao20, co20, eo20⟩ := Kd.R_slice HO297.out; subst eo20; have hnb21 := NB300_288.out; have hnc21 := NB288_300.out; have hnb22 := NB300_294.out; have hnc22 := NB294_300.out; have hcz23_0 : w19.cell? ⟨gb300, 0, none⟩ = some (.slice none 0 0) := xk_ BK300 0; have hcz23_1 : w19.cell? ⟨gb300, 1, none⟩ = some (.int .i64 0) := xk_ BK300 1; have hfz23_0 := blk_frozen BK300.out 0; have hfz23_1 := blk_frozen BK300.out 1))
  (try simp only [Act.put, List.setIfInBounds_toArray, List.set_cons_zero, List.set_cons_succ])
  go_cut [76] (fun v76 wc => ∃ (kq : Nat) (x76_6 : Bool), v76 = .bool x76_6 ∧ Aside0 (laws_FnSketch.j0 kq l1 t286 t287 t293 x76_6 t282 t285 t289 t292 = some r) ∧ Aside0 (kq ≤ k) ∧ Aside0 (Kd.Q (Kd.int .i64) 3 wc w.heap.size (fun k_ => some k_ ≠ ((.slice Ao14 t289.length co14) : Value).ownBlock ∧ some k_ ≠ ((.slice Ao20 t295.length co20) : Value).ownBlock) (.slice Ao10 t282.length co10) t282) ∧ Aside0 (Kd.Q (Kd.int .i64) 3 wc w.heap.size (fun k_ => some k_ ≠ ((.slice Ao10 t282.length co10) : Value).ownBlock ∧ some k_ ≠ ((.slice Ao20 t295.length co20) : Value).ownBlock) (.slice Ao14 t289.length co14) t289) ∧ Aside0 (Kd.Q (Kd.int .i64) 3 wc w.heap.size (fun k_ => some k_ ≠ ((.slice Ao10 t282.length co10) : Value).ownBlock ∧ some k_ ≠ ((.slice Ao14 t289.length co14) : Value).ownBlock) (.slice Ao20 t295.length co20) t295) ∧ Aside0 (wc.heap[gb288]? = some (.cells #[(.slice Ao10 t282.length co10), .int .i64 t285] 25 (0, 0))) ∧ Aside0 (wc.heap[gb294]? = some (.cells #[(.slice Ao14 t289.length co14), .int .i64 t292] 25 (0, 0))) ∧ Aside0 (wc.heap[gb300]? = some (.cells #[(.slice Ao20 t295.length co20), .int .i64 t298] 25 (0, 0))) ∧ Aside0 (Below w.heap.size w wc))
  case first =>
   have H := HC7.out
   clear HC7
   by_cases c24 : (t293 != t299) = true
   ·rw [if_pos c24] at H
    have c24b0 : (t293 != t299) = true := c24
    (try (have c24b1 : decide (t293 = t299) = false := by simpa using c24))
    (try (have c24b2 : (t293 == t299) = false := by simpa using c24))
    (try (have c24b3 : ¬ (t293 = t299) := by simpa using c24))
    clear c24
    (first | rw [c24b0] | (simp only [i64_w, i32_w]; rw [c24b0]) | skip)
    have H' := Aside0.mk H
    clear H
    try go_wp2
    have n0_ : Aside0 (Kd.Q (Kd.int .i64) 3 ((w19.setCell ⟨gb300, 0, none⟩ (.slice Ao20 t295.length co20)).setCell ⟨gb300, 1, none⟩ (.int .i64 t298)) w.heap.size (fun k_ => some k_ ≠ (.slice Ao14 t289.length co14 : Value).ownBlock ∧ some k_ ≠ (.slice Ao20 t295.length co20 : Value).ownBlock) (.slice Ao10 t282.length co10) t282) := ⟨xqt_ (Kd.Q_mono (Kd.Q_far (p := ⟨gb300, 1, none⟩) (Kd.Q_far (p := ⟨gb300, 0, none⟩) (Kd.Q_types HO284.out BK300.out (by decide)) (fun _ hk => hk.2) (.slice Ao20 t295.length co20)) (fun _ hk => hk.2) (.int .i64 t298)) (fun _ hk => ⟨hk.1.1.2, hk.1.2⟩))⟩
    have n1_ : Aside0 (Kd.R (Kd.int .i64) 3 ((w19.setCell ⟨gb300, 0, none⟩ (.slice Ao20 t295.length co20)).setCell ⟨gb300, 1, none⟩ (.int .i64 t298)) w.heap.size (fun k_ => some k_ ≠ (.slice Ao10 t282.length co10 : Value).ownBlock ∧ some k_ ≠ (.slice Ao20 t295.length co20 : Value).ownBlock) (.slice Ao14 t289.length co14) t289) := ⟨xrt_ (Kd.R_mono (Kd.R_far (p := ⟨gb300, 1, none⟩) (Kd.R_far (p := ⟨gb300, 0, none⟩) (Kd.R_types HO291.out BK300.out (by decide)) (fun _ hk => hk.2) (.slice Ao20 t295.length co20)) (fun _ hk => hk.2) (.int .i64 t298)) (fun _ hk => ⟨hk.1.1.2, hk.1.2⟩))⟩
    have n2_ : Aside0 (Kd.R (Kd.int .i64) 3 ((w19.setCell ⟨gb300, 0, none⟩ (.slice Ao20 t295.length co20)).setCell ⟨gb300, 1, none⟩ (.int .i64 t298)) w.heap.size (fun k_ => some k_ ≠ (.slice Ao10 t282.length co10 : Value).ownBlock ∧ some k_ ≠ (.slice Ao14 t289.length co14 : Value).ownBlock) (.slice Ao20 t295.length co20) t295) := ⟨xrt_ (Kd.R_mono (Kd.R_far (p := ⟨gb300, 1, none⟩) (Kd.R_far (p := ⟨gb300, 0, none⟩) (Kd.R_types HO297.out BK300.out (by decide)) (fun _ hk => hk.2) (.slice Ao20 t295.length co20)) (fun _ hk => hk.2) (.int .i64 t298)) (fun _ hk => ⟨hk.1.1.2, hk.1.2⟩))⟩
    have n3_ : Aside0 (((w19.setCell ⟨gb300, 0, none⟩ (.slice Ao20 t295.length co20)).setCell ⟨gb300, 1, none⟩ (.int .i64 t298)).heap[gb288]? = some (.cells #[.slice Ao10 t282.length co10, .int .i64 t285] 25 (0, 0))) := ⟨by (with_reducible repeat (first | refine blk_drewN ?_ _ | refine blk_drew ?_ | refine blk_alloc ?_ _)); refine blk_far ?_ NB288_300.out _; (with_reducible repeat (first | refine blk_drewN ?_ _ | refine blk_drew ?_ | refine blk_alloc ?_ _)); refine blk_far ?_ NB288_300.out _; (with_reducible repeat (first | refine blk_drewN ?_ _ | refine blk_drew ?_ | refine blk_alloc ?_ _)); exact BK288.out⟩
    have n4_ : Aside0 (((w19.setCell ⟨gb300, 0, none⟩ (.slice Ao20 t295.length co20)).setCell ⟨gb300, 1, none⟩ (.int .i64 t298)).heap[gb294]? = some (.cells #[.slice Ao14 t289.length co14, .int .i64 t292] 25 (0, 0))) := ⟨by (with_reducible repeat (first | refine blk_drewN ?_ _ | refine blk_drew ?_ | refine blk_alloc ?_ _)); refine blk_far ?_ NB294_300.out _; (with_reducible repeat (first | refine blk_drewN ?_ _ | refine blk_drew ?_ | refine blk_alloc ?_ _)); refine blk_far ?_ NB294_300.out _; (with_reducible repeat (first | refine blk_drewN ?_ _ | refine blk_drew ?_ | refine blk_alloc ?_ _)); exact BK294.out⟩
    have n5_ : Aside0 (((w19.setCell ⟨gb300, 0, none⟩ (.slice Ao20 t295.length co20)).setCell ⟨gb300, 1, none⟩ (.int .i64 t298)).heap[gb300]? = some (.cells #[.slice Ao20 t295.length co20, .int .i64 t298] 25 (0, 0))) := ⟨by (with_reducible repeat (first | refine blk_drewN ?_ _ | refine blk_drew ?_ | refine blk_alloc ?_ _)); refine blk_put (cs := #[.slice Ao20 t295.length co20, .int .i64 0]) ?_ 1 _ rfl; (with_reducible repeat (first | refine blk_drewN ?_ _ | refine blk_drew ?_ | refine blk_alloc ?_ _)); refine blk_put (cs := #[.slice none 0 0, .int .i64 0]) ?_ 0 _ rfl; (with_reducible repeat (first | refine blk_drewN ?_ _ | refine blk_drew ?_ | refine blk_alloc ?_ _)); exact BK300.out⟩
    have n6_ : Aside0 (Below w.heap.size w ((w19.setCell ⟨gb300, 0, none⟩ (.slice Ao20 t295.length co20)).setCell ⟨gb300, 1, none⟩ (.int .i64 t298))) := ⟨xw_ HB⟩
    (try clear HO284)
    (try clear HO291)
    (try clear HO297)
    (try clear BK288)
    (try clear BK294)
    (try clear BK300)
    (try clear HB)
    generalize ((w19.setCell ⟨gb300, 0, none⟩ (.slice Ao20 t295.length co20)).setCell ⟨gb300, 1, none⟩ (.int .i64 t298)) = w25 at n0_ n1_ n2_ n3_ n4_ n5_ n6_ ⊢
    have HO284 := n0_
    have HO291 := n1_
    have HO297 := n2_
    have BK288 := n3_
    have BK294 := n4_
    have BK300 := n5_
    have HB := n6_
    clear n0_ n1_ n2_ n3_ n4_ n5_ n6_
    replace HO284 := Aside0.mk (Kd.Q_drew HO284.out)
    replace HO291 := Aside0.mk (Kd.R_drew HO291.out)
    replace HO297 := Aside0.mk (Kd.R_drew HO297.out)
    replace BK288 := Aside0.mk (blk_drew BK288.out)
    replace BK294 := Aside0.mk (blk_drew BK294.out)
    replace BK300 := Aside0.mk (blk_drew BK300.out)
    replace HB := Aside0.mk (below_drew1 HB.out)
    refine start_ (n := 16) (S := fun w' => True) (ds := []) #[false, false, false, false, false, false, false, false, false, false, false, false, false, false, false, false] (by kernel_rfl) rfl rfl trivial (fun hHeld => ?_); refine with_tabW laws_FnSketch.tab6 laws_FnSketch.bits6 (fun HT_ HW_ => ?_)
    generalize w25.drew = w26 at HO284 HO291 HO297 BK288 BK294 BK300 HB hHeld ⊢
    refine pure_ (i := 0) (N := some 61) (v := ?_) (a' := ?_) #[true, false, false, false, false, false, false, false, false, false, false, false, false, false, false, false] rfl rfl (any_of HT_.out (by kernel_rfl)) (fun _ _ _ h => h) (Or.inl ⟨by rfl, ?_⟩) ?_ ?_
    rotate_left
    ·intro w'
     go_simp
     with_reducible rfl
    rotate_left
    ·simp only [Act.put, List.setIfInBounds_toArray, List.set_cons_zero, List.set_cons_succ, i64_w, i32_w]
     rfl
    refine pure_ (i := 1) (N := some 62) (v := ?_) (a' := ?_) #[true, true, false, false, false, false, false, false, false, false, false, false, false, false, false, false] rfl rfl (any_of HT_.out (by kernel_rfl)) (fun _ _ _ h => h) (Or.inl ⟨by rfl, ?_⟩) ?_ ?_
    rotate_left
    ·intro w'
     go_simp
     with_reducible rfl
    rotate_left
    ·simp only [Act.put, List.setIfInBounds_toArray, List.set_cons_zero, List.set_cons_succ, i64_w, i32_w]
     rfl
    refine pure_ (i := 2) (N := some 63) (v := ?_) (a' := ?_) #[true, true, true, false, false, false, false, false, false, false, false, false, false, false, false, false] rfl rfl (any_of HT_.out (by kernel_rfl)) (fun _ _ _ h => h) (Or.inl ⟨by rfl, ?_⟩) ?_ ?_
    rotate_left
    ·intro w'
     go_simp
     with_reducible rfl
    rotate_left
    ·simp only [Act.put, List.setIfInBounds_toArray, List.set_cons_zero, List.set_cons_succ, i64_w, i32_w]
     rfl
    refine pure_ (i := 3) (N := some 64) (v := ?_) (a' := ?_) #[true, true, true, true, false, false, false, false, false, false, false, false, false, false, false, false] rfl rfl (any_of HT_.out (by kernel_rfl)) (fun _ _ _ h => h) (Or.inl ⟨by rfl, ?_⟩) ?_ ?_
    rotate_left
    ·intro w'
     go_simp
     with_reducible rfl
    rotate_left
    ·simp only [Act.put, List.setIfInBounds_toArray, List.set_cons_zero, List.set_cons_succ, i64_w, i32_w]
     rfl
    refine pure_ (i := 4) (N := some 65) (v := undef) (a' := ?_) #[true, true, true, true, true, false, false, false, false, false, false, false, false, false, false, false] rfl rfl (any_of HT_.out (by kernel_rfl)) (fun _ _ _ h => h) (Or.inr ⟨by rfl, rfl⟩) ?_ ?_
    rotate_left
    ·simp only [Act.put, List.setIfInBounds_toArray, List.set_cons_zero, List.set_cons_succ, i64_w, i32_w]
     rfl
    refine pure_ (i := 5) (N := some 66) (v := undef) (a' := ?_) #[true, true, true, true, true, true, false, false, false, false, false, false, false, false, false, false] rfl rfl (any_of HT_.out (by kernel_rfl)) (fun _ _ _ h => h) (Or.inr ⟨by rfl, rfl⟩) ?_ ?_
    rotate_left
    ·simp only [Act.put, List.setIfInBounds_toArray, List.set_cons_zero, List.set_cons_succ, i64_w, i32_w]
     rfl
    refine pure_ (i := 6) (N := some 67) (v := undef) (a' := ?_) #[true, true, true, true, true, true, true, false, false, false, false, false, false, false, false, false] rfl rfl (any_of HT_.out (by kernel_rfl)) (fun _ _ _ h => h) (Or.inr ⟨by rfl, rfl⟩) ?_ ?_
    rotate_left
    ·simp only [Act.put, List.setIfInBounds_toArray, List.set_cons_zero, List.set_cons_succ, i64_w, i32_w]
     rfl
    refine pure_ (i := 7) (N := some 68) (v := undef) (a' := ?_) #[true, true, true, true, true, true, true, true, false, false, false, false, false, false, false, false] rfl rfl (any_of HT_.out (by kernel_rfl)) (fun _ _ _ h => h) (Or.inr ⟨by rfl, rfl⟩) ?_ ?_
    rotate_left
    ·simp only [Act.put, List.setIfInBounds_toArray, List.set_cons_zero, List.set_cons_succ, i64_w, i32_w]
     rfl
    refine pure_ (i := 8) (N := some 69) (v := ?_) (a' := ?_) #[true, true, true, true, true, true, true, true, true, false, false, false, false, false, false, false] rfl rfl (any_of HT_.out (by kernel_rfl)) (fun _ _ _ h => h) (Or.inl ⟨by rfl, ?_⟩) ?_ ?_
    rotate_left
    ·intro w'
     go_simp
     with_reducible rfl
    rotate_left
    ·simp only [Act.put, List.setIfInBounds_toArray, List.set_cons_zero, List.set_cons_succ, i64_w, i32_w]
     rfl
    refine pure_ (i := 9) (N := some 70) (v := ?_) (a' := ?_) #[true, true, true, true, true, true, true, true, true, true, false, false, false, false, false, false] rfl rfl (any_of HT_.out (by kernel_rfl)) (fun _ _ _ h => h) (Or.inl ⟨by rfl, ?_⟩) ?_ ?_
    rotate_left
    ·intro w'
     go_simp
     with_reducible rfl
    rotate_left
    ·simp only [Act.put, List.setIfInBounds_toArray, List.set_cons_zero, List.set_cons_succ, i64_w, i32_w]
     rfl
    refine pure_ (i := 10) (N := some 71) (v := undef) (a' := ?_) #[true, true, true, true, true, true, true, true, true, true, true, false, false, false, false, false] rfl rfl (any_of HT_.out (by kernel_rfl)) (fun _ _ _ h => h) (Or.inr ⟨by rfl, rfl⟩) ?_ ?_
    rotate_left
    ·simp only [Act.put, List.setIfInBounds_toArray, List.set_cons_zero, List.set_cons_succ, i64_w, i32_w]
     rfl
    refine pure_ (i := 11) (N := some 72) (v := undef) (a' := ?_) #[true, true, true, true, true, true, true, true, true, true, true, true, false, false, false, false] rfl rfl (any_of HT_.out (by kernel_rfl)) (fun _ _ _ h => h) (Or.inr ⟨by rfl, rfl⟩) ?_ ?_
    rotate_left
    ·simp only [Act.put, List.setIfInBounds_toArray, List.set_cons_zero, List.set_cons_succ, i64_w, i32_w]
     rfl
    refine pure_ (i := 12) (N := some 73) (v := undef) (a' := ?_) #[true, true, true, true, true, true, true, true, true, true, true, true, true, false, false, false] rfl rfl (any_of HT_.out (by kernel_rfl)) (fun _ _ _ h => h) (Or.inr ⟨by rfl, rfl⟩) ?_ ?_
    rotate_left
    ·simp only [Act.put, List.setIfInBounds_toArray, List.set_cons_zero, List.set_cons_succ, i64_w, i32_w]
     rfl
    refine pure_ (i := 13) (N := some 74) (v := undef) (a' := ?_) #[true, true, true, true, true, true, true, true, true, true, true, true, true, true, false, false] rfl rfl (any_of HT_.out (by kernel_rfl)) (fun _ _ _ h => h) (Or.inr ⟨by rfl, rfl⟩) ?_ ?_
    rotate_left
    ·simp only [Act.put, List.setIfInBounds_toArray, List.set_cons_zero, List.set_cons_succ, i64_w, i32_w]
     rfl
    refine pure_ (i := 14) (N := some 75) (v := undef) (a' := ?_) #[true, true, true, true, true, true, true, true, true, true, true, true, true, true, true, false] rfl rfl (any_of HT_.out (by kernel_rfl)) (fun _ _ _ h => h) (Or.inr ⟨by rfl, rfl⟩) ?_ ?_
    rotate_left
    ·simp only [Act.put, List.setIfInBounds_toArray, List.set_cons_zero, List.set_cons_succ, i64_w, i32_w]
     rfl
    refine pure_ (i := 15) (N := some 76) (v := ?_) (a' := ?_) #[true, true, true, true, true, true, true, true, true, true, true, true, true, true, true, true] rfl rfl (any_of HT_.out (by kernel_rfl)) (fun _ _ _ h => h) (Or.inl ⟨by rfl, ?_⟩) ?_ ?_
    rotate_left
    ·intro w'
     go_simp
     with_reducible rfl
    rotate_left
    ·simp only [Act.put, List.setIfInBounds_toArray, List.set_cons_zero, List.set_cons_succ, i64_w, i32_w]
     rfl
    refine done_ (done_of HT_.out (by kernel_rfl)) ?_
    try go_wp2
    go_meet
    case rel => exact ⟨_, (true), (by first | rfl | (simp; done) | (simp [*]; done)), H', ⟨by first | omega | exact Nat.le_refl _⟩, ⟨xq_ HO284⟩, ⟨Kd.Q_of_R (xr_ HO291)⟩, ⟨Kd.Q_of_R (xr_ HO297)⟩, ⟨xb_ BK288⟩, ⟨xb_ BK294⟩, ⟨xb_ BK300⟩, ⟨xw_ HB⟩⟩
   ·rw [if_neg c24] at H
    have c24b0 : (t293 != t299) = false := by simpa using c24
    (try (have c24b1 : decide (t293 = t299) = true := by simpa using c24))
    (try (have c24b2 : (t293 == t299) = true := by simpa using c24))
    clear c24
    (first | rw [c24b0] | (simp only [i64_w, i32_w]; rw [c24b0]) | skip)
    replace H := Option.bind_eq_some_iff.mp H
    obtain ⟨t301, A270, H⟩ := H
    replace H : (if t301 = true then ((impl_GoodSketch.f t282 t285).bind fun t302 => ((spec_GoodSketch.f k t282 t285).bind fun t303 => (laws_FnSketch.j0 k l1 t286 t287 t293 (t302 != t303) t282 t285 t289 t292))) else (laws_FnSketch.j0 k l1 t286 t287 t293 true t282 t285 t289 t292)) = some r := H
    have A27 := Aside0.mk A270
    clear A270
    by_cases c28 : t301 = true
    ·subst c28
     have H1 : ((impl_GoodSketch.f t282 t285).bind fun t302 => ((spec_GoodSketch.f k t282 t285).bind fun t303 => (laws_FnSketch.j0 k l1 t286 t287 t293 (t302 != t303) t282 t285 t289 t292))) = some r := by rw [if_pos rfl] at H; exact H
     clear H
     have H := H1
     clear H1
     replace H := Option.bind_eq_some_iff.mp H
     obtain ⟨t302, A290, H⟩ := H
     replace H : ((spec_GoodSketch.f k t282 t285).bind fun t303 => (laws_FnSketch.j0 k l1 t286 t287 t293 (t302 != t303) t282 t285 t289 t292)) = some r := H
     have A29 := Aside0.mk A290
     clear A290
     replace H := Option.bind_eq_some_iff.mp H
     obtain ⟨t303, A300, H⟩ := H
     replace H : (laws_FnSketch.j0 k l1 t286 t287 t293 (t302 != t303) t282 t285 t289 t292) = some r := H
     have A30 := Aside0.mk A300
     clear A300
     have H' := Aside0.mk H
     clear H
     try go_wp2
     have n0_ : Aside0 (Kd.Q (Kd.int .i64) 3 ((w19.setCell ⟨gb300, 0, none⟩ (.slice Ao20 t295.length co20)).setCell ⟨gb300, 1, none⟩ (.int .i64 t298)) w.heap.size (fun k_ => some k_ ≠ (.slice Ao14 t289.length co14 : Value).ownBlock ∧ some k_ ≠ (.slice Ao20 t295.length co20 : Value).ownBlock) (.slice Ao10 t282.length co10) t282) := ⟨xqt_ (Kd.Q_mono (Kd.Q_far (p := ⟨gb300, 1, none⟩) (Kd.Q_far (p := ⟨gb300, 0, none⟩) (Kd.Q_types HO284.out BK300.out (by decide)) (fun _ hk => hk.2) (.slice Ao20 t295.length co20)) (fun _ hk => hk.2) (.int .i64 t298)) (fun _ hk => ⟨hk.1.1.2, hk.1.2⟩))⟩
     have n1_ : Aside0 (Kd.R (Kd.int .i64) 3 ((w19.setCell ⟨gb300, 0, none⟩ (.slice Ao20 t295.length co20)).setCell ⟨gb300, 1, none⟩ (.int .i64 t298)) w.heap.size (fun k_ => some k_ ≠ (.slice Ao10 t282.length co10 : Value).ownBlock ∧ some k_ ≠ (.slice Ao20 t295.length co20 : Value).ownBlock) (.slice Ao14 t289.length co14) t289) := ⟨xrt_ (Kd.R_mono (Kd.R_far (p := ⟨gb300, 1, none⟩) (Kd.R_far (p := ⟨gb300, 0, none⟩) (Kd.R_types HO291.out BK300.out (by decide)) (fun _ hk => hk.2) (.slice Ao20 t295.length co20)) (fun _ hk => hk.2) (.int .i64 t298)) (fun _ hk => ⟨hk.1.1.2, hk.1.2⟩))⟩
     have n2_ : Aside0 (Kd.R (Kd.int .i64) 3 ((w19.setCell ⟨gb300, 0, none⟩ (.slice Ao20 t295.length co20)).setCell ⟨gb300, 1, none⟩ (.int .i64 t298)) w.heap.size (fun k_ => some k_ ≠ (.slice Ao10 t282.length co10 : Value).ownBlock ∧ some k_ ≠ (.slice Ao14 t289.length co14 : Value).ownBlock) (.slice Ao20 t295.length co20) t295) := ⟨xrt_ (Kd.R_mono (Kd.R_far (p := ⟨gb300, 1, none⟩) (Kd.R_far (p := ⟨gb300, 0, none⟩) (Kd.R_types HO297.out BK300.out (by decide)) (fun _ hk => hk.2) (.slice Ao20 t295.length co20)) (fun _ hk => hk.2) (.int .i64 t298)) (fun _ hk => ⟨hk.1.1.2, hk.1.2⟩))⟩
     have n3_ : Aside0 (((w19.setCell ⟨gb300, 0, none⟩ (.slice Ao20 t295.length co20)).setCell ⟨gb300, 1, none⟩ (.int .i64 t298)).heap[gb288]? = some (.cells #[.slice Ao10 t282.length co10, .int .i64 t285] 25 (0, 0))) := ⟨by (with_reducible repeat (first | refine blk_drewN ?_ _ | refine blk_drew ?_ | refine blk_alloc ?_ _)); refine blk_far ?_ NB288_300.out _; (with_reducible repeat (first | refine blk_drewN ?_ _ | refine blk_drew ?_ | refine blk_alloc ?_ _)); refine blk_far ?_ NB288_300.out _; (with_reducible repeat (first | refine blk_drewN ?_ _ | refine blk_drew ?_ | refine blk_alloc ?_ _)); exact BK288.out⟩
     have n4_ : Aside0 (((w19.setCell ⟨gb300, 0, none⟩ (.slice Ao20 t295.length co20)).setCell ⟨gb300, 1, none⟩ (.int .i64 t298)).heap[gb294]? = some (.cells #[.slice Ao14 t289.length co14, .int .i64 t292] 25 (0, 0))) := ⟨by (with_reducible repeat (first | refine blk_drewN ?_ _ | refine blk_drew ?_ | refine blk_alloc ?_ _)); refine blk_far ?_ NB294_300.out _; (with_reducible repeat (first | refine blk_drewN ?_ _ | refine blk_drew ?_ | refine blk_alloc ?_ _)); refine blk_far ?_ NB294_300.out _; (with_reducible repeat (first | refine blk_drewN ?_ _ | refine blk_drew ?_ | refine blk_alloc ?_ _)); exact BK294.out⟩
     have n5_ : Aside0 (((w19.setCell ⟨gb300, 0, none⟩ (.slice Ao20 t295.length co20)).setCell ⟨gb300, 1, none⟩ (.int .i64 t298)).heap[gb300]? = some (.cells #[.slice Ao20 t295.length co20, .int .i64 t298] 25 (0, 0))) := ⟨by (with_reducible repeat (first | refine blk_drewN ?_ _ | refine blk_drew ?_ | refine blk_alloc ?_ _)); refine blk_put (cs := #[.slice Ao20 t295.length co20, .int .i64 0]) ?_ 1 _ rfl; (with_reducible repeat (first | refine blk_drewN ?_ _ | refine blk_drew ?_ | refine blk_alloc ?_ _)); refine blk_put (cs := #[.slice none 0 0, .int .i64 0]) ?_ 0 _ rfl; (with_reducible repeat (first | refine blk_drewN ?_ _ | refine blk_drew ?_ | refine blk_alloc ?_ _)); exact BK300.out⟩
     have n6_ : Aside0 (Below w.heap.size w ((w19.setCell ⟨gb300, 0, none⟩ (.slice Ao20 t295.length co20)).setCell ⟨gb300, 1, none⟩ (.int .i64 t298))) := ⟨xw_ HB⟩
     (try clear HO284)
     (try clear HO291)
     (try clear HO297)
     (try clear BK288)
     (try clear BK294)
     (try clear BK300)
     (try clear HB)
     generalize ((w19.setCell ⟨gb300, 0, none⟩ (.slice Ao20 t295.length co20)).setCell ⟨gb300, 1, none⟩ (.int .i64 t298)) = w31 at n0_ n1_ n2_ n3_ n4_ n5_ n6_ ⊢
     have HO284 := n0_
     have HO291 := n1_
     have HO297 := n2_
     have BK288 := n3_
     have BK294 := n4_
     have BK300 := n5_
     have HB := n6_
     clear n0_ n1_ n2_ n3_ n4_ n5_ n6_
     replace HO284 := Aside0.mk (Kd.Q_drew HO284.out)
     replace HO291 := Aside0.mk (Kd.R_drew HO291.out)
     replace HO297 := Aside0.mk (Kd.R_drew HO297.out)
     replace BK288 := Aside0.mk (blk_drew BK288.out)
     replace BK294 := Aside0.mk (blk_drew BK294.out)
     replace BK300 := Aside0.mk (blk_drew BK300.out)
     replace HB := Aside0.mk (below_drew1 HB.out)
     refine start_ (n := 16) (S := fun w' => w'.cell? ⟨gb294, 0, none⟩ = some (.slice Ao14 t289.length co14) ∧ w'.cell? ⟨gb294, 1, none⟩ = some (.int .i64 t292) ∧ w'.cell? ⟨gb300, 0, none⟩ = some (.slice Ao20 t295.length co20) ∧ w'.cell? ⟨gb300, 1, none⟩ = some (.int .i64 t298) ∧ w'.cell? ⟨gb288, 0, none⟩ = some (.slice Ao10 t282.length co10) ∧ w'.cell? ⟨gb288, 1, none⟩ = some (.int .i64 t285)) (ds := []) #[false, false, false, false, false, false, false, false, false, false, false, false, false, false, false, false] (by kernel_rfl) rfl rfl ⟨xk_ BK294 0, xk_ BK294 1, xk_ BK300 0, xk_ BK300 1, xk_ BK288 0, xk_ BK288 1⟩ (fun hHeld => ?_); refine with_tabW laws_FnSketch.tab6 laws_FnSketch.bits6 (fun HT_ HW_ => ?_)
     generalize w31.drew = w32 at HO284 HO291 HO297 BK288 BK294 BK300 HB hHeld ⊢
     refine pure_ (i := 0) (N := some 61) (v := ?_) (a' := ?_) #[true, false, false, false, false, false, false, false, false, false, false, false, false, false, false, false] rfl rfl (any_of HT_.out (by kernel_rfl)) (fun _ _ _ h => h) (Or.inl ⟨by rfl, ?_⟩) ?_ ?_
     rotate_left
     ·intro w'
      go_simp
      with_reducible rfl
     rotate_left
     ·simp only [Act.put, List.setIfInBounds_toArray, List.set_cons_zero, List.set_cons_succ, i64_w, i32_w]
      rfl
     refine pure_ (i := 1) (N := some 62) (v := ?_) (a' := ?_) #[true, true, false, false, false, false, false, false, false, false, false, false, false, false, false, false] rfl rfl (any_of HT_.out (by kernel_rfl)) (fun _ _ _ h => h) (Or.inl ⟨by rfl, ?_⟩) ?_ ?_
     rotate_left
     ·intro w'
      go_simp
      with_reducible rfl
     rotate_left
     ·simp only [Act.put, List.setIfInBounds_toArray, List.set_cons_zero, List.set_cons_succ, i64_w, i32_w]
      rfl
     refine pure_ (i := 2) (N := some 63) (v := ?_) (a' := ?_) #[true, true, true, false, false, false, false, false, false, false, false, false, false, false, false, false] rfl rfl (any_of HT_.out (by kernel_rfl)) (fun _ _ _ h => h) (Or.inl ⟨by rfl, ?_⟩) ?_ ?_
     rotate_left
     ·intro w'
      go_simp
      with_reducible rfl
     rotate_left
     ·simp only [Act.put, List.setIfInBounds_toArray, List.set_cons_zero, List.set_cons_succ, i64_w, i32_w]
      rfl
     refine pure_ (i := 3) (N := some 64) (v := ?_) (a' := ?_) #[true, true, true, true, false, false, false, false, false, false, false, false, false, false, false, false] rfl rfl (any_of HT_.out (by kernel_rfl)) (fun _ _ _ h => h) (Or.inl ⟨by rfl, ?_⟩) ?_ ?_
     rotate_left
     ·intro w'
      go_simp
      with_reducible rfl
     rotate_left
     ·simp only [Act.put, List.setIfInBounds_toArray, List.set_cons_zero, List.set_cons_succ, i64_w, i32_w]
      rfl
     refine take_ (i := 4) (N := some 65) (v := ?_) (a' := ?_) #[true, true, true, true, true, false, false, false, false, false, false, false, false, false, false, false] rfl rfl (take_ofW HT_.out HW_.out (by kernel_rfl)) (fun _ _ _ h => h) (Or.inl ⟨by rfl, ?_⟩) hHeld ?_ ?_
     rotate_left
     ·rintro w' ⟨s0, s1, s2, s3, s4, s5⟩
      go_simp
      with_reducible rfl
     rotate_left
     ·simp only [Act.put, List.setIfInBounds_toArray, List.set_cons_zero, List.set_cons_succ, i64_w, i32_w]
      rfl
     refine take_ (i := 5) (N := some 66) (v := ?_) (a' := ?_) #[true, true, true, true, true, true, false, false, false, false, false, false, false, false, false, false] rfl rfl (take_ofW HT_.out HW_.out (by kernel_rfl)) (fun _ _ _ h => h) (Or.inl ⟨by rfl, ?_⟩) hHeld ?_ ?_
     rotate_left
     ·rintro w' ⟨s0, s1, s2, s3, s4, s5⟩
      go_simp
      with_reducible rfl
     rotate_left
     ·simp only [Act.put, List.setIfInBounds_toArray, List.set_cons_zero, List.set_cons_succ, i64_w, i32_w]
      rfl
     refine one_ (i := 6) (N := some 67) #[true, true, true, true, true, true, true, false, false, false, false, false, false, false, false, false] rfl rfl (one_of HT_.out (by kernel_rfl)) (by decide) (fun K hK => ?_)
     refine xgo_ Try.func8 #[.agg #[.slice Ao14 t289.length co14, .int .i64 t292], .agg #[.slice Ao20 t295.length co20, .int .i64 t298]] ?_
     with_reducible refine (laws_sameSketches.calls k _ _ t289 t292 _ _ t295 t298 true _ ?side1 ?side2 ?side3 ?side4 A27.out).mono ?_
     (case side1 => exact xc_ ((Kd.R_reads' HO291.out).2.2))
     (case side2 => exact (Kd.R_reads' HO291.out).2.1)
     (case side3 => exact xc_ ((Kd.R_reads' HO297.out).2.2))
     (case side4 => exact (Kd.R_reads' HO297.out).2.1)
     rintro e w33 ⟨rfl, hb⟩
     refine ⟨_, rfl, ?_⟩
     replace HO284 := xqb_ HO284 hb
     replace HO291 := xrb_ HO291 hb
     replace HO297 := xrb_ HO297 hb
     replace BK288 := xbb_ BK288 hb
     replace BK294 := xbb_ BK294 hb
     replace BK300 := xbb_ BK300 hb
     replace HB := xws_ HB hb
     (try clear hb)
     (try clear hb2)
     (try clear hk)
     (try clear hi)
     refine hK.out _ _ ⟨xk_ BK294 0, xk_ BK294 1, xk_ BK300 0, xk_ BK300 1, xk_ BK288 0, xk_ BK288 1⟩ (fun hHeld => ?_)
     clear hK K
     refine norm_ (a' := ?_) ?_ ?_
     rotate_left
     ·show Act.put _ (some 67) _ = _
      simp only [Act.put, List.setIfInBounds_toArray, List.set_cons_zero, List.set_cons_succ, i64_w, i32_w]
      rfl
     refine pure_ (i := 7) (N := some 68) (v := ?_) (a' := ?_) #[true, true, true, true, true, true, true, true, false, false, false, false, false, false, false, false] rfl rfl (any_of HT_.out (by kernel_rfl)) (fun _ _ _ h => h) (Or.inl ⟨by rfl, ?_⟩) ?_ ?_
     rotate_left
     ·intro w'
      go_simp
      with_reducible rfl
     rotate_left
     ·simp only [Act.put, List.setIfInBounds_toArray, List.set_cons_zero, List.set_cons_succ, i64_w, i32_w]
      rfl
     refine pure_ (i := 8) (N := some 69) (v := ?_) (a' := ?_) #[true, true, true, true, true, true, true, true, true, false, false, false, false, false, false, false] rfl rfl (any_of HT_.out (by kernel_rfl)) (fun _ _ _ h => h) (Or.inl ⟨by rfl, ?_⟩) ?_ ?_
     rotate_left
     ·intro w'
      go_simp
      with_reducible rfl
     rotate_left
     ·simp only [Act.put, List.setIfInBounds_toArray, List.set_cons_zero, List.set_cons_succ, i64_w, i32_w]
      rfl
     refine pure_ (i := 9) (N := some 70) (v := ?_) (a' := ?_) #[true, true, true, true, true, true, true, true, true, true, false, false, false, false, false, false] rfl rfl (any_of HT_.out (by kernel_rfl)) (fun _ _ _ h => h) (Or.inl ⟨by rfl, ?_⟩) ?_ ?_
     rotate_left
     ·intro w'
      go_simp
      with_reducible rfl
     rotate_left
     ·simp only [Act.put, List.setIfInBounds_toArray, List.set_cons_zero, List.set_cons_succ, i64_w, i32_w]
      rfl
     refine take_ (i := 10) (N := some 71) (v := ?_) (a' := ?_) #[true, true, true, true, true, true, true, true, true, true, true, false, false, false, false, false] rfl rfl (take_ofW HT_.out HW_.out (by kernel_rfl)) (fun _ _ _ h => h) (Or.inl ⟨by rfl, ?_⟩) hHeld ?_ ?_
     rotate_left
     ·rintro w' ⟨s0, s1, s2, s3, s4, s5⟩
      go_simp
      with_reducible rfl
     rotate_left
     ·simp only [Act.put, List.setIfInBounds_toArray, List.set_cons_zero, List.set_cons_succ, i64_w, i32_w]
      rfl
     refine take_ (i := 12) (N := some 73) (v := ?_) (a' := ?_) #[true, true, true, true, true, true, true, true, true, true, true, false, true, false, false, false] rfl rfl (take_ofW HT_.out HW_.out (by kernel_rfl)) (fun _ _ _ h => h) (Or.inl ⟨by rfl, ?_⟩) hHeld ?_ ?_
     rotate_left
     ·rintro w' ⟨s0, s1, s2, s3, s4, s5⟩
      go_simp
      with_reducible rfl
     rotate_left
     ·simp only [Act.put, List.setIfInBounds_toArray, List.set_cons_zero, List.set_cons_succ, i64_w, i32_w]
      rfl
     refine one_ (i := 11) (N := some 72) #[true, true, true, true, true, true, true, true, true, true, true, true, true, false, false, false] rfl rfl (one_of HT_.out (by kernel_rfl)) (by decide) (fun K hK => ?_)
     refine xgo_ Try.func9 #[.agg #[.slice Ao10 t282.length co10, .int .i64 t285]] ?_
     with_reducible refine (impl_GoodSketch.calls _ _ t282 t285 t302 _ ?side1 ?side2 A29.out).mono ?_
     (case side1 => exact xc_ ((Kd.Q_reads' HO284.out).2.2))
     (case side2 => exact (Kd.Q_reads' HO284.out).2.1)
     rintro e w34 ⟨rfl, hb⟩
     refine ⟨_, rfl, ?_⟩
     replace HO284 := xqb_ HO284 hb
     replace HO291 := xrb_ HO291 hb
     replace HO297 := xrb_ HO297 hb
     replace BK288 := xbb_ BK288 hb
     replace BK294 := xbb_ BK294 hb
     replace BK300 := xbb_ BK300 hb
     replace HB := xws_ HB hb
     (try clear hb)
     (try clear hb2)
     (try clear hk)
     (try clear hi)
     refine hK.out _ _ ⟨xk_ BK294 0, xk_ BK294 1, xk_ BK300 0, xk_ BK300 1, xk_ BK288 0, xk_ BK288 1⟩ (fun hHeld => ?_)
     clear hK K
     refine norm_ (a' := ?_) ?_ ?_
     rotate_left
     ·show Act.put _ (some 72) _ = _
      simp only [Act.put, List.setIfInBounds_toArray, List.set_cons_zero, List.set_cons_succ, i64_w, i32_w]
      rfl
     refine one_ (i := 13) (N := some 74) #[true, true, true, true, true, true, true, true, true, true, true, true, true, true, false, false] rfl rfl (one_of HT_.out (by kernel_rfl)) (by decide) (fun K hK => ?_)
     refine xgo_ Try.func10 #[.agg #[.slice Ao10 t282.length co10, .int .i64 t285]] ?_
     with_reducible refine (spec_GoodSketch.calls k _ _ t282 t285 t303 _ ?side1 ?side2 A30.out).mono ?_
     (case side1 => exact xc_ ((Kd.Q_reads' HO284.out).2.2))
     (case side2 => exact (Kd.Q_reads' HO284.out).2.1)
     rintro e w35 ⟨rfl, hb⟩
     refine ⟨_, rfl, ?_⟩
     replace HO284 := xqb_ HO284 hb
     replace HO291 := xrb_ HO291 hb
     replace HO297 := xrb_ HO297 hb
     replace BK288 := xbb_ BK288 hb
     replace BK294 := xbb_ BK294 hb
     replace BK300 := xbb_ BK300 hb
     replace HB := xws_ HB hb
     (try clear hb)
     (try clear hb2)
     (try clear hk)
     (try clear hi)
     refine hK.out _ _ ⟨xk_ BK294 0, xk_ BK294 1, xk_ BK300 0, xk_ BK300 1, xk_ BK288 0, xk_ BK288 1⟩ (fun hHeld => ?_)
     clear hK K
     refine norm_ (a' := ?_) ?_ ?_
     rotate_left
     ·show Act.put _ (some 74) _ = _
      simp only [Act.put, List.setIfInBounds_toArray, List.set_cons_zero, List.set_cons_succ, i64_w, i32_w]
      rfl
     refine pure_ (i := 14) (N := some 75) (v := ?_) (a' := ?_) #[true, true, true, true, true, true, true, true, true, true, true, true, true, true, true, false] rfl rfl (any_of HT_.out (by kernel_rfl)) (fun _ _ _ h => h) (Or.inl ⟨by rfl, ?_⟩) ?_ ?_
     rotate_left
     ·intro w'
      go_simp
      with_reducible rfl
     rotate_left
     ·simp only [Act.put, List.setIfInBounds_toArray, List.set_cons_zero, List.set_cons_succ, i64_w, i32_w]
      rfl
     refine pure_ (i := 15) (N := some 76) (v := ?_) (a' := ?_) #[true, true, true, true, true, true, true, true, true, true, true, true, true, true, true, true] rfl rfl (any_of HT_.out (by kernel_rfl)) (fun _ _ _ h => h) (Or.inl ⟨by rfl, ?_⟩) ?_ ?_
     rotate_left
     ·intro w'
      go_simp
      with_reducible rfl
     rotate_left
     ·simp only [Act.put, List.setIfInBounds_toArray, List.set_cons_zero, List.set_cons_succ, i64_w, i32_w]
      rfl
     refine done_ (done_of HT_.out (by kernel_rfl)) ?_
     try go_wp2
     go_meet
     case rel => exact ⟨_, ((t302 != t303)), (by first | rfl | (simp; done) | (simp [*]; done)), H', ⟨by first | omega | exact Nat.le_refl _⟩, ⟨xq_ HO284⟩, ⟨Kd.Q_of_R (xr_ HO291)⟩, ⟨Kd.Q_of_R (xr_ HO297)⟩, ⟨xb_ BK288⟩, ⟨xb_ BK294⟩, ⟨xb_ BK300⟩, ⟨xw_ HB⟩⟩
    ·replace c28 := Bool.eq_false_iff.mpr c28
     subst c28
     have H1 : (laws_FnSketch.j0 k l1 t286 t287 t293 true t282 t285 t289 t292) = some r := by rw [if_neg (show ¬ (false = true) by decide)] at H; exact H
     clear H
     have H := H1
     clear H1
     have H' := Aside0.mk H
     clear H
     try go_wp2
     have n0_ : Aside0 (Kd.Q (Kd.int .i64) 3 ((w19.setCell ⟨gb300, 0, none⟩ (.slice Ao20 t295.length co20)).setCell ⟨gb300, 1, none⟩ (.int .i64 t298)) w.heap.size (fun k_ => some k_ ≠ (.slice Ao14 t289.length co14 : Value).ownBlock ∧ some k_ ≠ (.slice Ao20 t295.length co20 : Value).ownBlock) (.slice Ao10 t282.length co10) t282) := ⟨xqt_ (Kd.Q_mono (Kd.Q_far (p := ⟨gb300, 1, none⟩) (Kd.Q_far (p := ⟨gb300, 0, none⟩) (Kd.Q_types HO284.out BK300.out (by decide)) (fun _ hk => hk.2) (.slice Ao20 t295.length co20)) (fun _ hk => hk.2) (.int .i64 t298)) (fun _ hk => ⟨hk.1.1.2, hk.1.2⟩))⟩
     have n1_ : Aside0 (Kd.R (Kd.int .i64) 3 ((w19.setCell ⟨gb300, 0, none⟩ (.slice Ao20 t295.length co20)).setCell ⟨gb300, 1, none⟩ (.int .i64 t298)) w.heap.size (fun k_ => some k_ ≠ (.slice Ao10 t282.length co10 : Value).ownBlock ∧ some k_ ≠ (.slice Ao20 t295.length co20 : Value).ownBlock) (.slice Ao14 t289.length co14) t289) := ⟨xrt_ (Kd.R_mono (Kd.R_far (p := ⟨gb300, 1, none⟩) (Kd.R_far (p := ⟨gb300, 0, none⟩) (Kd.R_types HO291.out BK300.out (by decide)) (fun _ hk => hk.2) (.slice Ao20 t295.length co20)) (fun _ hk => hk.2) (.int .i64 t298)) (fun _ hk => ⟨hk.1.1.2, hk.1.2⟩))⟩
     have n2_ : Aside0 (Kd.R (Kd.int .i64) 3 ((w19.setCell ⟨gb300, 0, none⟩ (.slice Ao20 t295.length co20)).setCell ⟨gb300, 1, none⟩ (.int .i64 t298)) w.heap.size (fun k_ => some k_ ≠ (.slice Ao10 t282.length co10 : Value).ownBlock ∧ some k_ ≠ (.slice Ao14 t289.length co14 : Value).ownBlock) (.slice Ao20 t295.length co20) t295) := ⟨xrt_ (Kd.R_mono (Kd.R_far (p := ⟨gb300, 1, none⟩) (Kd.R_far (p := ⟨gb300, 0, none⟩) (Kd.R_types HO297.out BK300.out (by decide)) (fun _ hk => hk.2) (.slice Ao20 t295.length co20)) (fun _ hk => hk.2) (.int .i64 t298)) (fun _ hk => ⟨hk.1.1.2, hk.1.2⟩))⟩
     have n3_ : Aside0 (((w19.setCell ⟨gb300, 0, none⟩ (.slice Ao20 t295.length co20)).setCell ⟨gb300, 1, none⟩ (.int .i64 t298)).heap[gb288]? = some (.cells #[.slice Ao10 t282.length co10, .int .i64 t285] 25 (0, 0))) := ⟨by (with_reducible repeat (first | refine blk_drewN ?_ _ | refine blk_drew ?_ | refine blk_alloc ?_ _)); refine blk_far ?_ NB288_300.out _; (with_reducible repeat (first | refine blk_drewN ?_ _ | refine blk_drew ?_ | refine blk_alloc ?_ _)); refine blk_far ?_ NB288_300.out _; (with_reducible repeat (first | refine blk_drewN ?_ _ | refine blk_drew ?_ | refine blk_alloc ?_ _)); exact BK288.out⟩
     have n4_ : Aside0 (((w19.setCell ⟨gb300, 0, none⟩ (.slice Ao20 t295.length co20)).setCell ⟨gb300, 1, none⟩ (.int .i64 t298)).heap[gb294]? = some (.cells #[.slice Ao14 t289.length co14, .int .i64 t292] 25 (0, 0))) := ⟨by (with_reducible repeat (first | refine blk_drewN ?_ _ | refine blk_drew ?_ | refine blk_alloc ?_ _)); refine blk_far ?_ NB294_300.out _; (with_reducible repeat (first | refine blk_drewN ?_ _ | refine blk_drew ?_ | refine blk_alloc ?_ _)); refine blk_far ?_ NB294_300.out _; (with_reducible repeat (first | refine blk_drewN ?_ _ | refine blk_drew ?_ | refine blk_alloc ?_ _)); exact BK294.out⟩
     have n5_ : Aside0 (((w19.setCell ⟨gb300, 0, none⟩ (.slice Ao20 t295.length co20)).setCell ⟨gb300, 1, none⟩ (.int .i64 t298)).heap[gb300]? = some (.cells #[.slice Ao20 t295.length co20, .int .i64 t298] 25 (0, 0))) := ⟨by (with_reducible repeat (first | refine blk_drewN ?_ _ | refine blk_drew ?_ | refine blk_alloc ?_ _)); refine blk_put (cs := #[.slice Ao20 t295.length co20, .int .i64 0]) ?_ 1 _ rfl; (with_reducible repeat (first | refine blk_drewN ?_ _ | refine blk_drew ?_ | refine blk_alloc ?_ _)); refine blk_put (cs := #[.slice none 0 0, .int .i64 0]) ?_ 0 _ rfl; (with_reducible repeat (first | refine blk_drewN ?_ _ | refine blk_drew ?_ | refine blk_alloc ?_ _)); exact BK300.out⟩
     have n6_ : Aside0 (Below w.heap.size w ((w19.setCell ⟨gb300, 0, none⟩ (.slice Ao20 t295.length co20)).setCell ⟨gb300, 1, none⟩ (.int .i64 t298))) := ⟨xw_ HB⟩
     (try clear HO284)
     (try clear HO291)
     (try clear HO297)
     (try clear BK288)
     (try clear BK294)
     (try clear BK300)
     (try clear HB)
     generalize ((w19.setCell ⟨gb300, 0, none⟩ (.slice Ao20 t295.length co20)).setCell ⟨gb300, 1, none⟩ (.int .i64 t298)) = w36 at n0_ n1_ n2_ n3_ n4_ n5_ n6_ ⊢
     have HO284 := n0_
     have HO291 := n1_
     have HO297 := n2_
     have BK288 := n3_
     have BK294 := n4_
     have BK300 := n5_
     have HB := n6_
     clear n0_ n1_ n2_ n3_ n4_ n5_ n6_
     replace HO284 := Aside0.mk (Kd.Q_drew HO284.out)
     replace HO291 := Aside0.mk (Kd.R_drew HO291.out)
     replace HO297 := Aside0.mk (Kd.R_drew HO297.out)
     replace BK288 := Aside0.mk (blk_drew BK288.out)
     replace BK294 := Aside0.mk (blk_drew BK294.out)
     replace BK300 := Aside0.mk (blk_drew BK300.out)
     replace HB := Aside0.mk (below_drew1 HB.out)
     refine start_ (n := 16) (S := fun w' => w'.cell? ⟨gb294, 0, none⟩ = some (.slice Ao14 t289.length co14) ∧ w'.cell? ⟨gb294, 1, none⟩ = some (.int .i64 t292) ∧ w'.cell? ⟨gb300, 0, none⟩ = some (.slice Ao20 t295.length co20) ∧ w'.cell? ⟨gb300, 1, none⟩ = some (.int .i64 t298)) (ds := []) #[false, false, false, false, false, false, false, false, false, false, false, false, false, false, false, false] (by kernel_rfl) rfl rfl ⟨xk_ BK294 0, xk_ BK294 1, xk_ BK300 0, xk_ BK300 1⟩ (fun hHeld => ?_); refine with_tabW laws_FnSketch.tab6 laws_FnSketch.bits6 (fun HT_ HW_ => ?_)
     generalize w36.drew = w37 at HO284 HO291 HO297 BK288 BK294 BK300 HB hHeld ⊢
     refine pure_ (i := 0) (N := some 61) (v := ?_) (a' := ?_) #[true, false, false, false, false, false, false, false, false, false, false, false, false, false, false, false] rfl rfl (any_of HT_.out (by kernel_rfl)) (fun _ _ _ h => h) (Or.inl ⟨by rfl, ?_⟩) ?_ ?_
     rotate_left
     ·intro w'
      go_simp
      with_reducible rfl
     rotate_left
     ·simp only [Act.put, List.setIfInBounds_toArray, List.set_cons_zero, List.set_cons_succ, i64_w, i32_w]
      rfl
     refine pure_ (i := 1) (N := some 62) (v := ?_) (a' := ?_) #[true, true, false, false, false, false, false, false, false, false, false, false, false, false, false, false] rfl rfl (any_of HT_.out (by kernel_rfl)) (fun _ _ _ h => h) (Or.inl ⟨by rfl, ?_⟩) ?_ ?_
     rotate_left
     ·intro w'
      go_simp
      with_reducible rfl
     rotate_left
     ·simp only [Act.put, List.setIfInBounds_toArray, List.set_cons_zero, List.set_cons_succ, i64_w, i32_w]
      rfl
     refine pure_ (i := 2) (N := some 63) (v := ?_) (a' := ?_) #[true, true, true, false, false, false, false, false, false, false, false, false, false, false, false, false] rfl rfl (any_of HT_.out (by kernel_rfl)) (fun _ _ _ h => h) (Or.inl ⟨by rfl, ?_⟩) ?_ ?_
     rotate_left
     ·intro w'
      go_simp
      with_reducible rfl
     rotate_left
     ·simp only [Act.put, List.setIfInBounds_toArray, List.set_cons_zero, List.set_cons_succ, i64_w, i32_w]
      rfl
     refine pure_ (i := 3) (N := some 64) (v := ?_) (a' := ?_) #[true, true, true, true, false, false, false, false, false, false, false, false, false, false, false, false] rfl rfl (any_of HT_.out (by kernel_rfl)) (fun _ _ _ h => h) (Or.inl ⟨by rfl, ?_⟩) ?_ ?_
     rotate_left
     ·intro w'
      go_simp
      with_reducible rfl
     rotate_left
     ·simp only [Act.put, List.setIfInBounds_toArray, List.set_cons_zero, List.set_cons_succ, i64_w, i32_w]
      rfl
     refine take_ (i := 4) (N := some 65) (v := ?_) (a' := ?_) #[true, true, true, true, true, false, false, false, false, false, false, false, false, false, false, false] rfl rfl (take_ofW HT_.out HW_.out (by kernel_rfl)) (fun _ _ _ h => h) (Or.inl ⟨by rfl, ?_⟩) hHeld ?_ ?_
     rotate_left
     ·rintro w' ⟨s0, s1, s2, s3⟩
      go_simp
      with_reducible rfl
     rotate_left
     ·simp only [Act.put, List.setIfInBounds_toArray, List.set_cons_zero, List.set_cons_succ, i64_w, i32_w]
      rfl
     refine take_ (i := 5) (N := some 66) (v := ?_) (a' := ?_) #[true, true, true, true, true, true, false, false, false, false, false, false, false, false, false, false] rfl rfl (take_ofW HT_.out HW_.out (by kernel_rfl)) (fun _ _ _ h => h) (Or.inl ⟨by rfl, ?_⟩) hHeld ?_ ?_
     rotate_left
     ·rintro w' ⟨s0, s1, s2, s3⟩
      go_simp
      with_reducible rfl
     rotate_left
     ·simp only [Act.put, List.setIfInBounds_toArray, List.set_cons_zero, List.set_cons_succ, i64_w, i32_w]
      rfl
     refine one_ (i := 6) (N := some 67) #[true, true, true, true, true, true, true, false, false, false, false, false, false, false, false, false] rfl rfl (one_of HT_.out (by kernel_rfl)) (by decide) (fun K hK => ?_)
     refine xgo_ Try.func8 #[.agg #[.slice Ao14 t289.length co14, .int .i64 t292], .agg #[.slice Ao20 t295.length co20, .int .i64 t298]] ?_
     with_reducible refine (laws_sameSketches.calls k _ _ t289 t292 _ _ t295 t298 false _ ?side1 ?side2 ?side3 ?side4 A27.out).mono ?_
     (case side1 => exact xc_ ((Kd.R_reads' HO291.out).2.2))
     (case side2 => exact (Kd.R_reads' HO291.out).2.1)
     (case side3 => exact xc_ ((Kd.R_reads' HO297.out).2.2))
     (case side4 => exact (Kd.R_reads' HO297.out).2.1)
     rintro e w38 ⟨rfl, hb⟩
     refine ⟨_, rfl, ?_⟩
     replace HO284 := xqb_ HO284 hb
     replace HO291 := xrb_ HO291 hb
     replace HO297 := xrb_ HO297 hb
     replace BK288 := xbb_ BK288 hb
     replace BK294 := xbb_ BK294 hb
     replace BK300 := xbb_ BK300 hb
     replace HB := xws_ HB hb
     (try clear hb)
     (try clear hb2)
     (try clear hk)
     (try clear hi)
     refine hK.out _ _ ⟨xk_ BK294 0, xk_ BK294 1, xk_ BK300 0, xk_ BK300 1⟩ (fun hHeld => ?_)
     clear hK K
     refine norm_ (a' := ?_) ?_ ?_
     rotate_left
     ·show Act.put _ (some 67) _ = _
      simp only [Act.put, List.setIfInBounds_toArray, List.set_cons_zero, List.set_cons_succ, i64_w, i32_w]
      rfl
     refine pure_ (i := 7) (N := some 68) (v := ?_) (a' := ?_) #[true, true, true, true, true, true, true, true, false, false, false, false, false, false, false, false] rfl rfl (any_of HT_.out (by kernel_rfl)) (fun _ _ _ h => h) (Or.inl ⟨by rfl, ?_⟩) ?_ ?_
     rotate_left
     ·intro w'
      go_simp
      with_reducible rfl
     rotate_left
     ·simp only [Act.put, List.setIfInBounds_toArray, List.set_cons_zero, List.set_cons_succ, i64_w, i32_w]
      rfl
     refine pure_ (i := 8) (N := some 69) (v := ?_) (a' := ?_) #[true, true, true, true, true, true, true, true, true, false, false, false, false, false, false, false] rfl rfl (any_of HT_.out (by kernel_rfl)) (fun _ _ _ h => h) (Or.inl ⟨by rfl, ?_⟩) ?_ ?_
     rotate_left
     ·intro w'
      go_simp
      with_reducible rfl
     rotate_left
     ·simp only [Act.put, List.setIfInBounds_toArray, List.set_cons_zero, List.set_cons_succ, i64_w, i32_w]
      rfl
     refine pure_ (i := 9) (N := some 70) (v := ?_) (a' := ?_) #[true, true, true, true, true, true, true, true, true, true, false, false, false, false, false, false] rfl rfl (any_of HT_.out (by kernel_rfl)) (fun _ _ _ h => h) (Or.inl ⟨by rfl, ?_⟩) ?_ ?_
     rotate_left
     ·intro w'
      go_simp
      with_reducible rfl
     rotate_left
     ·simp only [Act.put, List.setIfInBounds_toArray, List.set_cons_zero, List.set_cons_succ, i64_w, i32_w]
      rfl
     refine pure_ (i := 10) (N := some 71) (v := undef) (a' := ?_) #[true, true, true, true, true, true, true, true, true, true, true, false, false, false, false, false] rfl rfl (any_of HT_.out (by kernel_rfl)) (fun _ _ _ h => h) (Or.inr ⟨by rfl, rfl⟩) ?_ ?_
     rotate_left
     ·simp only [Act.put, List.setIfInBounds_toArray, List.set_cons_zero, List.set_cons_succ, i64_w, i32_w]
      rfl
     refine pure_ (i := 11) (N := some 72) (v := undef) (a' := ?_) #[true, true, true, true, true, true, true, true, true, true, true, true, false, false, false, false] rfl rfl (any_of HT_.out (by kernel_rfl)) (fun _ _ _ h => h) (Or.inr ⟨by rfl, rfl⟩) ?_ ?_
     rotate_left
     ·simp only [Act.put, List.setIfInBounds_toArray, List.set_cons_zero, List.set_cons_succ, i64_w, i32_w]
      rfl
     refine pure_ (i := 12) (N := some 73) (v := undef) (a' := ?_) #[true, true, true, true, true, true, true, true, true, true, true, true, true, false, false, false] rfl rfl (any_of HT_.out (by kernel_rfl)) (fun _ _ _ h => h) (Or.inr ⟨by rfl, rfl⟩) ?_ ?_
     rotate_left
     ·simp only [Act.put, List.setIfInBounds_toArray, List.set_cons_zero, List.set_cons_succ, i64_w, i32_w]
      rfl
     refine pure_ (i := 13) (N := some 74) (v := undef) (a' := ?_) #[true, true, true, true, true, true, true, true, true, true, true, true, true, true, false, false] rfl rfl (any_of HT_.out (by kernel_rfl)) (fun _ _ _ h => h) (Or.inr ⟨by rfl, rfl⟩) ?_ ?_
     rotate_left
     ·simp only [Act.put, List.setIfInBounds_toArray, List.set_cons_zero, List.set_cons_succ, i64_w, i32_w]
      rfl
     refine pure_ (i := 14) (N := some 75) (v := undef) (a' := ?_) #[true, true, true, true, true, true, true, true, true, true, true, true, true, true, true, false] rfl rfl (any_of HT_.out (by kernel_rfl)) (fun _ _ _ h => h) (Or.inr ⟨by rfl, rfl⟩) ?_ ?_
     rotate_left
     ·simp only [Act.put, List.setIfInBounds_toArray, List.set_cons_zero, List.set_cons_succ, i64_w, i32_w]
      rfl
     refine pure_ (i := 15) (N := some 76) (v := ?_) (a' := ?_) #[true, true, true, true, true, true, true, true, true, true, true, true, true, true, true, true] rfl rfl (any_of HT_.out (by kernel_rfl)) (fun _ _ _ h => h) (Or.inl ⟨by rfl, ?_⟩) ?_ ?_
     rotate_left
     ·intro w'
      go_simp
      with_reducible rfl
     rotate_left
     ·simp only [Act.put, List.setIfInBounds_toArray, List.set_cons_zero, List.set_cons_succ, i64_w, i32_w]
      rfl
     refine done_ (done_of HT_.out (by kernel_rfl)) ?_
     try go_wp2
     go_meet
     case rel => exact ⟨_, (true), (by first | rfl | (simp; done) | (simp [*]; done)), H', ⟨by first | omega | exact Nat.le_refl _⟩, ⟨xq_ HO284⟩, ⟨Kd.Q_of_R (xr_ HO291)⟩, ⟨Kd.Q_of_R (xr_ HO297)⟩, ⟨xb_ BK288⟩, ⟨xb_ BK294⟩, ⟨xb_ BK300⟩, ⟨xw_ HB⟩⟩
  case rest =>
   clear HC7
   try clear c1
   try clear c2
   try clear p2
   try clear c8
   try clear c9
   try clear c10
   try clear c24
   try clear c24b0
   try clear c24b1
   try clear c24b2
   try clear c28
   obtain ⟨kq, x76_6, rfl, HA, HJ6, HO_289000, HO_295000, HO_301000, BK288, BK294, BK300, HB⟩ := hcut
   rename_i zz0_0 zz0_1 zz0_2 zz0_3 zz0_4 zz0_5 zz0_6 zz0_7 zz0_8 zz0_9
   revert hu25 HR0 HC0 HR1 HC1 c3b0 t282 t285 t286 t287 A4 t289 t292 t293 A5 t295 t298 t299 A6 zz0_0 w8 gb288 w9 GW288 GE288 Ao10 co10 zz0_1 hcz11_0 hcz11_1 hfz11_0 hfz11_1 w12 gb294 w13 GW294 GE294 NB288_294 NB294_288 Ao14 co14 hnb15 hnc15 hcz16_0 hcz16_1 hfz16_0 hfz16_1 hcz17_0 hcz17_1 hfz17_0 hfz17_1 w18 gb300 w19 zz0_2 GW300 GE300 zz0_3 NB288_300 NB300_288 zz0_4 NB294_300 NB300_294 zz0_5 Ao20 co20 HO284 HO291 HO297 hnb21 hnc21 hnb22 hnc22 hcz23_0 hcz23_1 hfz23_0 hfz23_1 zz0_6 zz0_7 zz0_8 zz0_9 wc u16 u35 u36 u37 u38 u39 u40 u41 u42 u43 u44 u45 u46 u47 u48 u49 u50 u51 u52 u53 u54 u55 u56 u57 u58 u59 u60 u61 u62 u63 u64 u65 u66 u67 u68 u69 u70 u71 u72 u73 u74 u75 u77 u78 u79 u80 u81 u82 u83 u84 u85 u86 u87 u88 u89 u90 u91 u92 u93 u94 u95 u96 u97 u98 u99 u100 u101 u102 u103 u104 u105 u106 u107 u108 u109 u110 u111 u112 u113 u114 u115 u116 u117 u118 u119 u120 u121 u122 u123 u124 u125 u126 u127 u128 u129 u130 u131 u132 u133 u134 u135 u136 u137 u138 u139 u140 u141 u142 u143 u144 u145 u146 u147 u148 u149 u150 u151 u152 u153 u154 u155 u156 u157 u158 u159 u160 u161 u162 u163 u164 u168 u169 u170 u171 u172 u173 u174 u175 u176 u177 u178 u179 u180 u181 u182 u183 u184 u185 u186 u187 u188 u189 u190 u191 u192 u193 u194 u195 u196 u197 u201 u202 u203 u204 u205 u206 u207 u208 u209 u210 u211 u212 u213 u214 u215 u216 u217 u218 u219 u220 u221 u222 u223 u224 u225 u226 u227 u228 u229 kq x76_6 HA HJ6 HO_289000 HO_295000 HO_301000 BK288 BK294 BK300 HB
   exact hT0.out
end Go.Proofs.Ytemeajidcggniaa.PFnSketch
