-- Written by a program of this project (xprint.py) out of the translation; Lean checks it.
import Derived.Test.YtplcocljgoipkaaPFnDaysx0
import Derived.Test.YtplcocljgoipkaaPFnDaysx1
import Derived.Test.YtplcocljgoipkaaPFnDaysx2
import Derived.Test.YtplcocljgoipkaaPFnDaysx3
import Derived.Test.YtplcocljgoipkaaPFnDaysx4
import Derived.Test.YtplcocljgoipkaaPFnDaysx6
namespace Go.Proofs.Ytplcocljgoipkaa.PFnDays
open Go.RowKit Go.Proofs.YtplcocljgoipkaaW.PrintWords Go.Proofs.YtplcocljgoipkaaW.PrintLast Go.Proofs.YtplcocljgoipkaaW.PrintMore
attribute [local go_sem] max2_int min2_int max_two min_two max_three min_three max_four min_four   -- for this text's walks alone
set_option linter.unusedVariables false
set_option linter.unusedSimpArgs false

attribute [local go_sem high] eqA24
/-! ### laws_FnDays: function 3 -/
mutual
def laws_FnDays.j0 : Nat → List Int → Int → Bool → Bool → Int → Int → Int → Int → Int → Int → Option (Bool)
  | 0, _, _, _, _, _, _, _, _, _, _ => none
  | k + 1, x1, x6, x7, x63, x270000, x270001, x270002, x270003, x270004, x270005 => if x63 = true then (some false) else (if x7 = true then ((impl_DateAt.f k x6).bind fun bt275 => ((impl_DaysOf.f k x270000 x270001 x270002).bind fun bt283 => (if bt275.2.2.2.2.2.2 = true then (if bt283.2 = true then (if (!(bt275.1 == x270000) || (!(bt275.2.1 == x270001) || (!(bt275.2.2.1 == x270002) || (!(bt275.2.2.2.1 == x270003) || (!(bt275.2.2.2.2.1 == x270004) || (!(bt275.2.2.2.2.2.1 == x270005))))))) = true then (laws_FnDays.j1 k x1 bt283.1 true x270000 x270001 x270002 x270003 x270004 x270005) else (laws_FnDays.j1 k x1 bt283.1 (bt283.1 != (wrap64 (Int.tdiv x6 86400))) x270000 x270001 x270002 x270003 x270004 x270005)) else (laws_FnDays.j1 k x1 bt283.1 true x270000 x270001 x270002 x270003 x270004 x270005)) else (laws_FnDays.j1 k x1 bt283.1 true x270000 x270001 x270002 x270003 x270004 x270005)))) else (laws_FnDays.j3 k x1))
def laws_FnDays.j3 : Nat → List Int → Option (Bool)
  | 0, _ => none
  | k + 1, x1 => (spec_DrawDateAt.f x1).bind fun t295 => ((impl_DateAt.f k t295).bind fun bt296 => ((spec_DateAt.f k t295).bind fun bt304 => (if (bt296.2.2.2.2.2.2 != bt304.2.2.2.2.2.2) = true then (laws_FnDays.j4 k t295 bt296.2.2.2.2.2.2 true bt296.1 bt296.2.1 bt296.2.2.1 bt296.2.2.2.1 bt296.2.2.2.2.1 bt296.2.2.2.2.2.1) else (laws_FnDays.j4 k t295 bt296.2.2.2.2.2.2 (!(bt296.1 == bt304.1) || (!(bt296.2.1 == bt304.2.1) || (!(bt296.2.2.1 == bt304.2.2.1) || (!(bt296.2.2.2.1 == bt304.2.2.2.1) || (!(bt296.2.2.2.2.1 == bt304.2.2.2.2.1) || (!(bt296.2.2.2.2.2.1 == bt304.2.2.2.2.2.1))))))) bt296.1 bt296.2.1 bt296.2.2.1 bt296.2.2.2.1 bt296.2.2.2.2.1 bt296.2.2.2.2.2.1))))
def laws_FnDays.j4 : Nat → Int → Bool → Bool → Int → Int → Int → Int → Int → Int → Option (Bool)
  | 0, _, _, _, _, _, _, _, _, _ => none
  | k + 1, x25, x27, x185, x304000, x304001, x304002, x304003, x304004, x304005 => if x185 = true then (some false) else (if x27 = true then ((impl_SecondsOf.f k x304000 x304001 x304002 x304003 x304004 x304005).bind fun bt312 => (if bt312.2 = true then (some (bt312.1 == x25)) else (some false))) else (some (x304000 == 0 && (x304001 == 0 && (x304002 == 0 && (x304003 == 0 && (x304004 == 0 && (x304005 == 0))))))))
def laws_FnDays.j1 : Nat → List Int → Int → Bool → Int → Int → Int → Int → Int → Int → Option (Bool)
  | 0, _, _, _, _, _, _, _, _, _ => none
  | k + 1, x1, x12, x96, x270000, x270001, x270002, x270003, x270004, x270005 => if x96 = true then (some false) else ((impl_WeekdayOf.f x12).bind fun bt285 => ((impl_WeekdayOf.f (wrap64 (x12 + 1))).bind fun bt287 => (if bt285.2 = true then (if bt287.2 = true then (laws_FnDays.j2 k x1 (bt287.1 != (Int.tmod (wrap64 (bt285.1 + 1)) 7)) x270000 x270001 x270002 x270003 x270004 x270005) else (laws_FnDays.j2 k x1 false x270000 x270001 x270002 x270003 x270004 x270005)) else (laws_FnDays.j2 k x1 true x270000 x270001 x270002 x270003 x270004 x270005))))
def laws_FnDays.j2 : Nat → List Int → Bool → Int → Int → Int → Int → Int → Int → Option (Bool)
  | 0, _, _, _, _, _, _, _, _ => none
  | k + 1, x1, x119, x270000, x270001, x270002, x270003, x270004, x270005 => if x119 = true then (some false) else ((impl_IsLeap.f x270000).bind fun bt289 => ((impl_DaysOf.f k x270000 1 1).bind fun bt291 => ((impl_DaysOf.f k x270000 12 31).bind fun bt293 => (if bt289.2 = true then (if bt291.2 = true then (if bt293.2 = true then (if (bt289.1 != ((wrap64 ((wrap64 (bt293.1 - bt291.1)) + 1)) == 366)) = true then (some false) else (if bt289.1 = true then (laws_FnDays.j3 k x1) else (if (wrap64 ((wrap64 (bt293.1 - bt291.1)) + 1)) = 365 then (laws_FnDays.j3 k x1) else (some false)))) else (some false)) else (some false)) else (some false)))))
end
def laws_FnDays.f (k : Nat) (l0 : List Int) (l1 : List Int) : Option (Bool) := if (wrap64 ((l0.length : Int) + (l1.length : Int))) > 1048576 then (some true) else ((spec_DrawSecondsOf.f l0).bind fun bt263 => ((impl_SecondsOf.f k bt263.1 bt263.2.1 bt263.2.2.1 bt263.2.2.2.1 bt263.2.2.2.2.1 bt263.2.2.2.2.2).bind fun bt270 => ((spec_SecondsOf.f k bt263.1 bt263.2.1 bt263.2.2.1 bt263.2.2.2.1 bt263.2.2.2.2.1 bt263.2.2.2.2.2).bind fun bt272 => (if (bt270.2 != bt272.2) = true then (laws_FnDays.j0 k l1 bt270.1 bt270.2 true bt263.1 bt263.2.1 bt263.2.2.1 bt263.2.2.2.1 bt263.2.2.2.2.1 bt263.2.2.2.2.2) else (if bt270.1 = bt272.1 then ((impl_GoodDate.f bt263.1 bt263.2.1 bt263.2.2.1 bt263.2.2.2.1 bt263.2.2.2.2.1 bt263.2.2.2.2.2).bind fun t274 => (laws_FnDays.j0 k l1 bt270.1 bt270.2 (t274 != bt272.2) bt263.1 bt263.2.1 bt263.2.2.1 bt263.2.2.2.1 bt263.2.2.2.2.1 bt263.2.2.2.2.2)) else (laws_FnDays.j0 k l1 bt270.1 bt270.2 true bt263.1 bt263.2.1 bt263.2.2.1 bt263.2.2.2.1 bt263.2.2.2.2.1 bt263.2.2.2.2.2))))))
theorem laws_FnDays.mono_l : ∀ k, (∀ y0 y1 y2 y3 y4 y5 y6 y7 y8 y9, LeO (laws_FnDays.j0 k y0 y1 y2 y3 y4 y5 y6 y7 y8 y9) (laws_FnDays.j0 (k + 1) y0 y1 y2 y3 y4 y5 y6 y7 y8 y9)) ∧ (∀ y0, LeO (laws_FnDays.j3 k y0) (laws_FnDays.j3 (k + 1) y0)) ∧ (∀ y0 y1 y2 y3 y4 y5 y6 y7 y8, LeO (laws_FnDays.j4 k y0 y1 y2 y3 y4 y5 y6 y7 y8) (laws_FnDays.j4 (k + 1) y0 y1 y2 y3 y4 y5 y6 y7 y8)) ∧ (∀ y0 y1 y2 y3 y4 y5 y6 y7 y8, LeO (laws_FnDays.j1 k y0 y1 y2 y3 y4 y5 y6 y7 y8) (laws_FnDays.j1 (k + 1) y0 y1 y2 y3 y4 y5 y6 y7 y8)) ∧ (∀ y0 y1 y2 y3 y4 y5 y6 y7, LeO (laws_FnDays.j2 k y0 y1 y2 y3 y4 y5 y6 y7) (laws_FnDays.j2 (k + 1) y0 y1 y2 y3 y4 y5 y6 y7))
  | 0 => ⟨fun _ _ _ _ _ _ _ _ _ _ r h => by simp [laws_FnDays.j0] at h, fun _ r h => by simp [laws_FnDays.j3] at h, fun _ _ _ _ _ _ _ _ _ r h => by simp [laws_FnDays.j4] at h, fun _ _ _ _ _ _ _ _ _ r h => by simp [laws_FnDays.j1] at h, fun _ _ _ _ _ _ _ _ r h => by simp [laws_FnDays.j2] at h⟩
  | k + 1 => by
    obtain ⟨ih0, ih1, ih2, ih3, ih4⟩ := laws_FnDays.mono_l k
    refine ⟨?_, ?_, ?_, ?_, ?_⟩
    · intro y0 y1 y2 y3 y4 y5 y6 y7 y8 y9
      unfold laws_FnDays.j0
      repeat' first
      | (with_reducible exact ih0 _ _ _ _ _ _ _ _ _ _)
      | (with_reducible exact ih1 _)
      | (with_reducible exact ih2 _ _ _ _ _ _ _ _ _)
      | (with_reducible exact ih3 _ _ _ _ _ _ _ _ _)
      | (with_reducible exact ih4 _ _ _ _ _ _ _ _)
      | (with_reducible exact impl_DateAt.mono _ _)
      | (with_reducible exact impl_DaysOf.mono _ _ _ _)
      | (with_reducible exact impl_SecondsOf.mono _ _ _ _ _ _ _)
      | (with_reducible exact spec_DateAt.mono _ _)
      | (with_reducible exact spec_SecondsOf.mono _ _ _ _ _ _ _)
      | (with_reducible exact LeO.refl _)
      | (with_reducible exact LeO.none _)
      | (with_reducible refine LeO.ite ?_ ?_)
      | (with_reducible refine LeO.bind ?_ (fun _ => ?_))
      | exact ih0 _ _ _ _ _ _ _ _ _ _
      | exact ih1 _
      | exact ih2 _ _ _ _ _ _ _ _ _
      | exact ih3 _ _ _ _ _ _ _ _ _
      | exact ih4 _ _ _ _ _ _ _ _
      | exact impl_DateAt.mono _ _
      | exact impl_DaysOf.mono _ _ _ _
      | exact impl_SecondsOf.mono _ _ _ _ _ _ _
      | exact spec_DateAt.mono _ _
      | exact spec_SecondsOf.mono _ _ _ _ _ _ _
      | exact LeO.none _
      | refine LeO.ite ?_ ?_
      | refine LeO.bind ?_ (fun _ => ?_)
    · intro y0
      unfold laws_FnDays.j3
      repeat' first
      | (with_reducible exact ih0 _ _ _ _ _ _ _ _ _ _)
      | (with_reducible exact ih1 _)
      | (with_reducible exact ih2 _ _ _ _ _ _ _ _ _)
      | (with_reducible exact ih3 _ _ _ _ _ _ _ _ _)
      | (with_reducible exact ih4 _ _ _ _ _ _ _ _)
      | (with_reducible exact impl_DateAt.mono _ _)
      | (with_reducible exact impl_DaysOf.mono _ _ _ _)
      | (with_reducible exact impl_SecondsOf.mono _ _ _ _ _ _ _)
      | (with_reducible exact spec_DateAt.mono _ _)
      | (with_reducible exact spec_SecondsOf.mono _ _ _ _ _ _ _)
      | (with_reducible exact LeO.refl _)
      | (with_reducible exact LeO.none _)
      | (with_reducible refine LeO.ite ?_ ?_)
      | (with_reducible refine LeO.bind ?_ (fun _ => ?_))
      | exact ih0 _ _ _ _ _ _ _ _ _ _
      | exact ih1 _
      | exact ih2 _ _ _ _ _ _ _ _ _
      | exact ih3 _ _ _ _ _ _ _ _ _
      | exact ih4 _ _ _ _ _ _ _ _
      | exact impl_DateAt.mono _ _
      | exact impl_DaysOf.mono _ _ _ _
      | exact impl_SecondsOf.mono _ _ _ _ _ _ _
      | exact spec_DateAt.mono _ _
      | exact spec_SecondsOf.mono _ _ _ _ _ _ _
      | exact LeO.none _
      | refine LeO.ite ?_ ?_
      | refine LeO.bind ?_ (fun _ => ?_)
    · intro y0 y1 y2 y3 y4 y5 y6 y7 y8
      unfold laws_FnDays.j4
      repeat' first
      | (with_reducible exact ih0 _ _ _ _ _ _ _ _ _ _)
      | (with_reducible exact ih1 _)
      | (with_reducible exact ih2 _ _ _ _ _ _ _ _ _)
      | (with_reducible exact ih3 _ _ _ _ _ _ _ _ _)
      | (with_reducible exact ih4 _ _ _ _ _ _ _ _)
      | (with_reducible exact impl_DateAt.mono _ _)
      | (with_reducible exact impl_DaysOf.mono _ _ _ _)
      | (with_reducible exact impl_SecondsOf.mono _ _ _ _ _ _ _)
      | (with_reducible exact spec_DateAt.mono _ _)
      | (with_reducible exact spec_SecondsOf.mono _ _ _ _ _ _ _)
      | (with_reducible exact LeO.refl _)
      | (with_reducible exact LeO.none _)
      | (with_reducible refine LeO.ite ?_ ?_)
      | (with_reducible refine LeO.bind ?_ (fun _ => ?_))
      | exact ih0 _ _ _ _ _ _ _ _ _ _
      | exact ih1 _
      | exact ih2 _ _ _ _ _ _ _ _ _
      | exact ih3 _ _ _ _ _ _ _ _ _
      | exact ih4 _ _ _ _ _ _ _ _
      | exact impl_DateAt.mono _ _
      | exact impl_DaysOf.mono _ _ _ _
      | exact impl_SecondsOf.mono _ _ _ _ _ _ _
      | exact spec_DateAt.mono _ _
      | exact spec_SecondsOf.mono _ _ _ _ _ _ _
      | exact LeO.none _
      | refine LeO.ite ?_ ?_
      | refine LeO.bind ?_ (fun _ => ?_)
    · intro y0 y1 y2 y3 y4 y5 y6 y7 y8
      unfold laws_FnDays.j1
      repeat' first
      | (with_reducible exact ih0 _ _ _ _ _ _ _ _ _ _)
      | (with_reducible exact ih1 _)
      | (with_reducible exact ih2 _ _ _ _ _ _ _ _ _)
      | (with_reducible exact ih3 _ _ _ _ _ _ _ _ _)
      | (with_reducible exact ih4 _ _ _ _ _ _ _ _)
      | (with_reducible exact impl_DateAt.mono _ _)
      | (with_reducible exact impl_DaysOf.mono _ _ _ _)
      | (with_reducible exact impl_SecondsOf.mono _ _ _ _ _ _ _)
      | (with_reducible exact spec_DateAt.mono _ _)
      | (with_reducible exact spec_SecondsOf.mono _ _ _ _ _ _ _)
      | (with_reducible exact LeO.refl _)
      | (with_reducible exact LeO.none _)
      | (with_reducible refine LeO.ite ?_ ?_)
      | (with_reducible refine LeO.bind ?_ (fun _ => ?_))
      | exact ih0 _ _ _ _ _ _ _ _ _ _
      | exact ih1 _
      | exact ih2 _ _ _ _ _ _ _ _ _
      | exact ih3 _ _ _ _ _ _ _ _ _
      | exact ih4 _ _ _ _ _ _ _ _
      | exact impl_DateAt.mono _ _
      | exact impl_DaysOf.mono _ _ _ _
      | exact impl_SecondsOf.mono _ _ _ _ _ _ _
      | exact spec_DateAt.mono _ _
      | exact spec_SecondsOf.mono _ _ _ _ _ _ _
      | exact LeO.none _
      | refine LeO.ite ?_ ?_
      | refine LeO.bind ?_ (fun _ => ?_)
    · intro y0 y1 y2 y3 y4 y5 y6 y7
      unfold laws_FnDays.j2
      repeat' first
      | (with_reducible exact ih0 _ _ _ _ _ _ _ _ _ _)
      | (with_reducible exact ih1 _)
      | (with_reducible exact ih2 _ _ _ _ _ _ _ _ _)
      | (with_reducible exact ih3 _ _ _ _ _ _ _ _ _)
      | (with_reducible exact ih4 _ _ _ _ _ _ _ _)
      | (with_reducible exact impl_DateAt.mono _ _)
      | (with_reducible exact impl_DaysOf.mono _ _ _ _)
      | (with_reducible exact impl_SecondsOf.mono _ _ _ _ _ _ _)
      | (with_reducible exact spec_DateAt.mono _ _)
      | (with_reducible exact spec_SecondsOf.mono _ _ _ _ _ _ _)
      | (with_reducible exact LeO.refl _)
      | (with_reducible exact LeO.none _)
      | (with_reducible refine LeO.ite ?_ ?_)
      | (with_reducible refine LeO.bind ?_ (fun _ => ?_))
      | exact ih0 _ _ _ _ _ _ _ _ _ _
      | exact ih1 _
      | exact ih2 _ _ _ _ _ _ _ _ _
      | exact ih3 _ _ _ _ _ _ _ _ _
      | exact ih4 _ _ _ _ _ _ _ _
      | exact impl_DateAt.mono _ _
      | exact impl_DaysOf.mono _ _ _ _
      | exact impl_SecondsOf.mono _ _ _ _ _ _ _
      | exact spec_DateAt.mono _ _
      | exact spec_SecondsOf.mono _ _ _ _ _ _ _
      | exact LeO.none _
      | refine LeO.ite ?_ ?_
      | refine LeO.bind ?_ (fun _ => ?_)
theorem laws_FnDays.mono : ∀ a0 a1 k, LeO (laws_FnDays.f k a0 a1) (laws_FnDays.f (k + 1) a0 a1) := by
  intro a0 a1 k
  obtain ⟨ih0, ih1, ih2, ih3, ih4⟩ := laws_FnDays.mono_l k
  unfold laws_FnDays.f
  repeat' first
      | (with_reducible exact ih0 _ _ _ _ _ _ _ _ _ _)
      | (with_reducible exact ih1 _)
      | (with_reducible exact ih2 _ _ _ _ _ _ _ _ _)
      | (with_reducible exact ih3 _ _ _ _ _ _ _ _ _)
      | (with_reducible exact ih4 _ _ _ _ _ _ _ _)
      | (with_reducible exact impl_DateAt.mono _ _)
      | (with_reducible exact impl_DaysOf.mono _ _ _ _)
      | (with_reducible exact impl_SecondsOf.mono _ _ _ _ _ _ _)
      | (with_reducible exact spec_DateAt.mono _ _)
      | (with_reducible exact spec_SecondsOf.mono _ _ _ _ _ _ _)
      | (with_reducible exact LeO.refl _)
      | (with_reducible exact LeO.none _)
      | (with_reducible refine LeO.ite ?_ ?_)
      | (with_reducible refine LeO.bind ?_ (fun _ => ?_))
      | exact ih0 _ _ _ _ _ _ _ _ _ _
      | exact ih1 _
      | exact ih2 _ _ _ _ _ _ _ _ _
      | exact ih3 _ _ _ _ _ _ _ _ _
      | exact ih4 _ _ _ _ _ _ _ _
      | exact impl_DateAt.mono _ _
      | exact impl_DaysOf.mono _ _ _ _
      | exact impl_SecondsOf.mono _ _ _ _ _ _ _
      | exact spec_DateAt.mono _ _
      | exact spec_SecondsOf.mono _ _ _ _ _ _ _
      | exact LeO.none _
      | refine LeO.ite ?_ ?_
      | refine LeO.bind ?_ (fun _ => ?_)
structure laws_FnDays.callsKept (p : Prop) : Prop where
  out : p
set_option maxHeartbeats 8000000 in
set_option maxRecDepth 100000 in
noncomputable def laws_FnDays.calls1 : PSigma (fun T0 : (∀ (k : Nat) (A0 : Option Addr) (c0 : Nat) (l0 : List Int) (A1 : Option Addr) (c1 : Nat) (l1 : List Int) (r : Bool) (w : World), Prop) => PSigma (fun T1 : (∀ (k : Nat) (A0 : Option Addr) (c0 : Nat) (l0 : List Int) (A1 : Option Addr) (c1 : Nat) (l1 : List Int) (r : Bool) (w : World), Prop) => ∀ (k : Nat) (A0 : Option Addr) (c0 : Nat) (l0 : List Int) (A1 : Option Addr) (c1 : Nat) (l1 : List Int) (r : Bool) (w : World) (hr0 : Kd.C (Kd.int .u8) w A0 l0.length l0) (hc0 : l0.length ≤ c0) (hr1 : Kd.C (Kd.int .u8) w A1 l1.length l1) (hc1 : l1.length ≤ c1) (h : laws_FnDays.f k l0 l1 = some r), laws_FnDays.callsKept (T0 k A0 c0 l0 A1 c1 l1 r w) → laws_FnDays.callsKept (T1 k A0 c0 l0 A1 c1 l1 r w) → Calls Try.prog 3 #[.slice A0 l0.length c0, .slice A1 l1.length c1] w fun e w' => e = .returned (.bool r) ∧ Below w.heap.size w w')) := by
  apply PSigma.mk
  apply PSigma.mk
  intro k A0 c0 l0 A1 c1 l1 r w hr0 hc0 hr1 hc1 h hT0 hT1
  have hu24 := Try.underlying24
  have HR0 := Aside0.mk hr0
  have HC0 := Aside0.mk hc0
  clear hr0 hc0
  have HR1 := Aside0.mk hr1
  have HC1 := Aside0.mk hc1
  clear hr1 hc1
  have HB := Aside0.mk (Below.refl w.heap.size w)
  have H : (if (wrap64 ((l0.length : Int) + (l1.length : Int))) > 1048576 then (some true) else ((spec_DrawSecondsOf.f l0).bind fun bt263 => ((impl_SecondsOf.f k bt263.1 bt263.2.1 bt263.2.2.1 bt263.2.2.2.1 bt263.2.2.2.2.1 bt263.2.2.2.2.2).bind fun bt270 => ((spec_SecondsOf.f k bt263.1 bt263.2.1 bt263.2.2.1 bt263.2.2.2.1 bt263.2.2.2.2.1 bt263.2.2.2.2.2).bind fun bt272 => (if (bt270.2 != bt272.2) = true then (laws_FnDays.j0 k l1 bt270.1 bt270.2 true bt263.1 bt263.2.1 bt263.2.2.1 bt263.2.2.2.1 bt263.2.2.2.2.1 bt263.2.2.2.2.2) else (if bt270.1 = bt272.1 then ((impl_GoodDate.f bt263.1 bt263.2.1 bt263.2.2.1 bt263.2.2.2.1 bt263.2.2.2.2.1 bt263.2.2.2.2.2).bind fun t274 => (laws_FnDays.j0 k l1 bt270.1 bt270.2 (t274 != bt272.2) bt263.1 bt263.2.1 bt263.2.2.1 bt263.2.2.2.1 bt263.2.2.2.2.1 bt263.2.2.2.2.2)) else (laws_FnDays.j0 k l1 bt270.1 bt270.2 true bt263.1 bt263.2.1 bt263.2.2.1 bt263.2.2.2.1 bt263.2.2.2.2.1 bt263.2.2.2.2.2))))))) = some r := h
  clear h
  by_cases c3 : (wrap64 ((l0.length : Int) + (l1.length : Int))) > 1048576
  · rw [if_pos c3] at H
    have c3b0 : decide (1048576 < (wrap64 ((l0.length : Int) + (l1.length : Int)))) = true := decide_eq_true c3
    clear c3
    obtain rfl := Option.some.inj H
    go_enter Try.func3, Try.ntmps3
    go_wp2
    go_ret
    exact ⟨by first | rfl | (simp [errW_none, errW_some] <;> rfl) | (simp [*, errW_none, errW_some] <;> rfl), by repeat (first | (with_reducible first | exact HB.out | apply below_alloc | apply pw_below_drewN | apply below_drew1) | exact HB.out)⟩
  · rw [if_neg c3] at H
    have c3b0 : decide (1048576 < (wrap64 ((l0.length : Int) + (l1.length : Int)))) = false := decide_eq_false c3
    clear c3
    replace H := Option.bind_eq_some_iff.mp H
    obtain ⟨⟨t263, t264, t265, t266, t267, t268⟩, A40, H⟩ := H
    replace H : ((impl_SecondsOf.f k t263 t264 t265 t266 t267 t268).bind fun bt270 => ((spec_SecondsOf.f k t263 t264 t265 t266 t267 t268).bind fun bt272 => (if (bt270.2 != bt272.2) = true then (laws_FnDays.j0 k l1 bt270.1 bt270.2 true t263 t264 t265 t266 t267 t268) else (if bt270.1 = bt272.1 then ((impl_GoodDate.f t263 t264 t265 t266 t267 t268).bind fun t274 => (laws_FnDays.j0 k l1 bt270.1 bt270.2 (t274 != bt272.2) t263 t264 t265 t266 t267 t268)) else (laws_FnDays.j0 k l1 bt270.1 bt270.2 true t263 t264 t265 t266 t267 t268))))) = some r := H
    have A4 := Aside0.mk A40
    clear A40
    replace H := Option.bind_eq_some_iff.mp H
    obtain ⟨⟨t270, t271⟩, A50, H⟩ := H
    replace H : ((spec_SecondsOf.f k t263 t264 t265 t266 t267 t268).bind fun bt272 => (if (t271 != bt272.2) = true then (laws_FnDays.j0 k l1 t270 t271 true t263 t264 t265 t266 t267 t268) else (if t270 = bt272.1 then ((impl_GoodDate.f t263 t264 t265 t266 t267 t268).bind fun t274 => (laws_FnDays.j0 k l1 t270 t271 (t274 != bt272.2) t263 t264 t265 t266 t267 t268)) else (laws_FnDays.j0 k l1 t270 t271 true t263 t264 t265 t266 t267 t268)))) = some r := H
    have A5 := Aside0.mk A50
    clear A50
    replace H := Option.bind_eq_some_iff.mp H
    obtain ⟨⟨t272, t273⟩, A60, H⟩ := H
    replace H : (if (t271 != t273) = true then (laws_FnDays.j0 k l1 t270 t271 true t263 t264 t265 t266 t267 t268) else (if t270 = t272 then ((impl_GoodDate.f t263 t264 t265 t266 t267 t268).bind fun t274 => (laws_FnDays.j0 k l1 t270 t271 (t274 != t273) t263 t264 t265 t266 t267 t268)) else (laws_FnDays.j0 k l1 t270 t271 true t263 t264 t265 t266 t267 t268))) = some r := H
    have A6 := Aside0.mk A60
    clear A60
    have HC7 := Aside0.mk H
    clear H
    go_enter Try.func3, Try.ntmps3
    go_upto_region 6 with (first | ((with_reducible refine gate_callee (f := 5) rfl ?_); refine goesL_ (some 39) rfl rfl Try.func5 (by kernel_rfl) rfl #[.slice A0 l0.length c0] rfl (by (try simp only [List.map_toArray, List.map_cons, List.map_nil]); first | done | rfl | (simp only [List.length_drop, List.length_take]; rfl)) ?_; (with_reducible refine (spec_DrawSecondsOf.calls _ _ l0 t263 t264 t265 t266 t267 t268 _ ?side1 ?side2 A4.out).mono ?_); (case side1 => repeat (first | exact HR0.out | (with_reducible refine Kd.C_alloc ?_ _) | (with_reducible refine Kd.C_drewN ?_ _) | (with_reducible refine Kd.C_drew ?_))); (case side2 => exact HC0.out); rintro e w8 ⟨rfl, hb⟩; refine ⟨_, rfl, ?_⟩; have n0_ := Aside0.mk (below_step (by repeat (first | (with_reducible first | exact HB.out | apply below_alloc | apply pw_below_drewN | apply below_drew1) | exact HB.out)) hb); clear HB; have HB := n0_; clear n0_; (try clear hb); (try clear hb2); (try clear hk); (try clear hi)) | ((with_reducible refine gate_dst (N := 5) rfl ?_); refine box_event ?hg (N := 5) ?hd (cs := #[.int .i64 0, .int .i64 0, .int .i64 0, .int .i64 0, .int .i64 0, .int .i64 0]) (t := 24) ?hr ?_; (case hd => rfl); (case hg => rfl); (case hr => first | (go_simp; done) | (go_simp; rfl)); intro gb269 hg w9 hbox hb; have n0_ := Aside0.mk (below_step (by repeat (first | (with_reducible first | exact HB.out | apply below_alloc | apply pw_below_drewN | apply below_drew1) | exact HB.out)) hb); have n1_ := Aside0.mk (hbox); have n2_ := Aside0.mk ((by rw [hg]; exact (below_size (by repeat (first | (with_reducible first | exact HB.out | apply below_alloc | apply pw_below_drewN | apply below_drew1) | exact HB.out))) : w.heap.size ≤ gb269)); have n3_ := Aside0.mk ((by rw [hg]; exact (below_size (by repeat (first | (with_reducible first | exact HB.out | apply below_alloc | apply pw_below_drewN | apply below_drew1) | exact HB.out))) : w.heap.size ≤ gb269)); clear HB; have HB := n0_; have BK269 := n1_; have GW269 := n2_; have GE269 := n3_; clear n0_ n1_ n2_ n3_; clear hb hbox hg; have hcz10_0 : w9.cell? ⟨gb269, 0, none⟩ = some (.int .i64 0) := (blk_cell BK269.out 0).trans rfl; have hcz10_1 : w9.cell? ⟨gb269, 1, none⟩ = some (.int .i64 0) := (blk_cell BK269.out 1).trans rfl; have hcz10_2 : w9.cell? ⟨gb269, 2, none⟩ = some (.int .i64 0) := (blk_cell BK269.out 2).trans rfl; have hcz10_3 : w9.cell? ⟨gb269, 3, none⟩ = some (.int .i64 0) := (blk_cell BK269.out 3).trans rfl; have hcz10_4 : w9.cell? ⟨gb269, 4, none⟩ = some (.int .i64 0) := (blk_cell BK269.out 4).trans rfl; have hcz10_5 : w9.cell? ⟨gb269, 5, none⟩ = some (.int .i64 0) := (blk_cell BK269.out 5).trans rfl; have hfz10_0 := blk_frozen BK269.out 0; have hfz10_1 := blk_frozen BK269.out 1; have hfz10_2 := blk_frozen BK269.out 2; have hfz10_3 := blk_frozen BK269.out 3; have hfz10_4 := blk_frozen BK269.out 4; have hfz10_5 := blk_frozen BK269.out 5) | ((with_reducible refine gate_callee (f := 6) rfl ?_); refine goesL_ (some 42) rfl rfl Try.func6 (by kernel_rfl) rfl #[.agg #[.int .i64 t263, .int .i64 t264, .int .i64 t265, .int .i64 t266, .int .i64 t267, .int .i64 t268]] rfl (by (try simp only [List.map_toArray, List.map_cons, List.map_nil]); first | done | rfl | (simp only [List.length_drop, List.length_take]; rfl)) ?_; (with_reducible refine (impl_SecondsOf.calls k t263 t264 t265 t266 t267 t268 t270 t271 _ A5.out).mono ?_); rintro e w11 ⟨rfl, hb⟩; refine ⟨_, rfl, ?_⟩; have n0_ := Aside0.mk (blk_below (g := gb269) (o := .cells #[.int .i64 t263, .int .i64 t264, .int .i64 t265, .int .i64 t266, .int .i64 t267, .int .i64 t268] 24 (0, 0)) (by (with_reducible repeat (first | refine blk_drewN ?_ _ | refine blk_drew ?_ | refine blk_alloc ?_ _)); refine blk_put (cs := #[.int .i64 t263, .int .i64 t264, .int .i64 t265, .int .i64 t266, .int .i64 t267, .int .i64 0]) ?_ 5 _ rfl; (with_reducible repeat (first | refine blk_drewN ?_ _ | refine blk_drew ?_ | refine blk_alloc ?_ _)); refine blk_put (cs := #[.int .i64 t263, .int .i64 t264, .int .i64 t265, .int .i64 t266, .int .i64 0, .int .i64 0]) ?_ 4 _ rfl; (with_reducible repeat (first | refine blk_drewN ?_ _ | refine blk_drew ?_ | refine blk_alloc ?_ _)); refine blk_put (cs := #[.int .i64 t263, .int .i64 t264, .int .i64 t265, .int .i64 0, .int .i64 0, .int .i64 0]) ?_ 3 _ rfl; (with_reducible repeat (first | refine blk_drewN ?_ _ | refine blk_drew ?_ | refine blk_alloc ?_ _)); refine blk_put (cs := #[.int .i64 t263, .int .i64 t264, .int .i64 0, .int .i64 0, .int .i64 0, .int .i64 0]) ?_ 2 _ rfl; (with_reducible repeat (first | refine blk_drewN ?_ _ | refine blk_drew ?_ | refine blk_alloc ?_ _)); refine blk_put (cs := #[.int .i64 t263, .int .i64 0, .int .i64 0, .int .i64 0, .int .i64 0, .int .i64 0]) ?_ 1 _ rfl; (with_reducible repeat (first | refine blk_drewN ?_ _ | refine blk_drew ?_ | refine blk_alloc ?_ _)); refine blk_put (cs := #[.int .i64 0, .int .i64 0, .int .i64 0, .int .i64 0, .int .i64 0, .int .i64 0]) ?_ 0 _ rfl; (with_reducible repeat (first | refine blk_drewN ?_ _ | refine blk_drew ?_ | refine blk_alloc ?_ _)); exact BK269.out) hb); have n1_ := Aside0.mk (below_step (by repeat (first | (with_reducible first | exact HB.out | apply below_alloc | apply pw_below_drewN | apply below_drew1 | refine below_set ?_ GE269.out) | exact HB.out)) hb); clear BK269; clear HB; have BK269 := n0_; have HB := n1_; clear n0_ n1_; (try clear hb); (try clear hb2); (try clear hk); (try clear hi); have hcz12_0 : w11.cell? ⟨gb269, 0, none⟩ = some (.int .i64 t263) := (blk_cell BK269.out 0).trans rfl; have hcz12_1 : w11.cell? ⟨gb269, 1, none⟩ = some (.int .i64 t264) := (blk_cell BK269.out 1).trans rfl; have hcz12_2 : w11.cell? ⟨gb269, 2, none⟩ = some (.int .i64 t265) := (blk_cell BK269.out 2).trans rfl; have hcz12_3 : w11.cell? ⟨gb269, 3, none⟩ = some (.int .i64 t266) := (blk_cell BK269.out 3).trans rfl; have hcz12_4 : w11.cell? ⟨gb269, 4, none⟩ = some (.int .i64 t267) := (blk_cell BK269.out 4).trans rfl; have hcz12_5 : w11.cell? ⟨gb269, 5, none⟩ = some (.int .i64 t268) := (blk_cell BK269.out 5).trans rfl; have hfz12_0 := blk_frozen BK269.out 0; have hfz12_1 := blk_frozen BK269.out 1; have hfz12_2 := blk_frozen BK269.out 2; have hfz12_3 := blk_frozen BK269.out 3; have hfz12_4 := blk_frozen BK269.out 4; have hfz12_5 := blk_frozen BK269.out 5) | ((with_reducible refine gate_callee (f := 7) rfl ?_); refine goesL_ (some 47) rfl rfl Try.func7 (by kernel_rfl) rfl #[.agg #[.int .i64 t263, .int .i64 t264, .int .i64 t265, .int .i64 t266, .int .i64 t267, .int .i64 t268]] rfl (by (try simp only [List.map_toArray, List.map_cons, List.map_nil]); first | done | rfl | (simp only [List.length_drop, List.length_take]; rfl)) ?_; (with_reducible refine (spec_SecondsOf.calls k t263 t264 t265 t266 t267 t268 t272 t273 _ A6.out).mono ?_); rintro e w13 ⟨rfl, hb⟩; refine ⟨_, rfl, ?_⟩; have n0_ := Aside0.mk (blk_below (g := gb269) (o := .cells #[.int .i64 t263, .int .i64 t264, .int .i64 t265, .int .i64 t266, .int .i64 t267, .int .i64 t268] 24 (0, 0)) (by (with_reducible repeat (first | refine blk_drewN ?_ _ | refine blk_drew ?_ | refine blk_alloc ?_ _)); exact BK269.out) hb); have n1_ := Aside0.mk (below_step (by repeat (first | (with_reducible first | exact HB.out | apply below_alloc | apply pw_below_drewN | apply below_drew1 | refine below_set ?_ GE269.out) | exact HB.out)) hb); clear BK269; clear HB; have BK269 := n0_; have HB := n1_; clear n0_ n1_; (try clear hb); (try clear hb2); (try clear hk); (try clear hi)))
    (try simp only [Act.put, List.setIfInBounds_toArray, List.set_cons_zero, List.set_cons_succ])
    go_cut [63] (fun v63 wc => ∃ (kq : Nat) (x63_6 : Bool), v63 = .bool x63_6 ∧ Aside0 (laws_FnDays.j0 kq l1 t270 t271 x63_6 t263 t264 t265 t266 t267 t268 = some r) ∧ Aside0 (kq ≤ k) ∧ Aside0 (wc.heap[gb269]? = some (.cells #[.int .i64 t263, .int .i64 t264, .int .i64 t265, .int .i64 t266, .int .i64 t267, .int .i64 t268] 24 (0, 0))) ∧ Aside0 (Below w.heap.size w wc))
    case first =>
      have H := HC7.out
      clear HC7
      by_cases c14 : (t271 != t273) = true
      · rw [if_pos c14] at H
        have c14b0 : (t271 != t273) = true := c14
        (try (have c14b1 : decide (t271 = t273) = false := by simpa using c14))
        (try (have c14b2 : (t271 == t273) = false := by simpa using c14))
        (try (have c14b3 : ¬ (t271 = t273) := by simpa using c14))
        clear c14
        (first | rw [c14b0] | (simp only [i64_w, i32_w]; rw [c14b0]) | skip)
        have H' := Aside0.mk H
        clear H
        go_wp2
        go_meet
        case rel => exact ⟨_, (true), (by first | rfl | (simp; done) | (simp [*]; done)), H', ⟨by first | omega | exact Nat.le_refl _⟩, ⟨by (with_reducible repeat (first | refine blk_drewN ?_ _ | refine blk_drew ?_ | refine blk_alloc ?_ _)); exact BK269.out⟩, ⟨by repeat (first | (with_reducible first | exact HB.out | apply below_alloc | apply pw_below_drewN | apply below_drew1 | refine below_set ?_ GE269.out) | exact HB.out)⟩⟩
      · rw [if_neg c14] at H
        have c14b0 : (t271 != t273) = false := by simpa using c14
        (try (have c14b1 : decide (t271 = t273) = true := by simpa using c14))
        (try (have c14b2 : (t271 == t273) = true := by simpa using c14))
        clear c14
        (first | rw [c14b0] | (simp only [i64_w, i32_w]; rw [c14b0]) | skip)
        by_cases c15 : t270 = t272
        · rw [if_pos c15] at H
          have c15b0 : (t270 == t272) = true := beq_iff_eq.mpr c15
          have c15b1 : (t270 != t272) = false := bne_eq_false_iff_eq.mpr c15
          clear c15
          replace H := Option.bind_eq_some_iff.mp H
          obtain ⟨t274, A160, H⟩ := H
          replace H : (laws_FnDays.j0 k l1 t270 t271 (t274 != t273) t263 t264 t265 t266 t267 t268) = some r := H
          have A16 := Aside0.mk A160
          clear A160
          have H' := Aside0.mk H
          clear H
          have hcz17_0 : w13.cell? ⟨gb269, 0, none⟩ = some (.int .i64 t263) := (blk_cell BK269.out 0).trans rfl
          have hcz17_1 : w13.cell? ⟨gb269, 1, none⟩ = some (.int .i64 t264) := (blk_cell BK269.out 1).trans rfl
          have hcz17_2 : w13.cell? ⟨gb269, 2, none⟩ = some (.int .i64 t265) := (blk_cell BK269.out 2).trans rfl
          have hcz17_3 : w13.cell? ⟨gb269, 3, none⟩ = some (.int .i64 t266) := (blk_cell BK269.out 3).trans rfl
          have hcz17_4 : w13.cell? ⟨gb269, 4, none⟩ = some (.int .i64 t267) := (blk_cell BK269.out 4).trans rfl
          have hcz17_5 : w13.cell? ⟨gb269, 5, none⟩ = some (.int .i64 t268) := (blk_cell BK269.out 5).trans rfl
          have hfz17_0 := blk_frozen BK269.out 0
          have hfz17_1 := blk_frozen BK269.out 1
          have hfz17_2 := blk_frozen BK269.out 2
          have hfz17_3 := blk_frozen BK269.out 3
          have hfz17_4 := blk_frozen BK269.out 4
          have hfz17_5 := blk_frozen BK269.out 5
          go_wp2_with (first | (go_at_call 8; (with_reducible refine (impl_GoodDate.calls t263 t264 t265 t266 t267 t268 t274 _ A16.out).mono ?_); rintro e w18 ⟨rfl, hb⟩; have n0_ := Aside0.mk (blk_below (g := gb269) (o := .cells #[.int .i64 t263, .int .i64 t264, .int .i64 t265, .int .i64 t266, .int .i64 t267, .int .i64 t268] 24 (0, 0)) (by (with_reducible repeat (first | refine blk_drewN ?_ _ | refine blk_drew ?_ | refine blk_alloc ?_ _)); exact BK269.out) hb); have n1_ := Aside0.mk (below_step (by repeat (first | (with_reducible first | exact HB.out | apply below_alloc | apply pw_below_drewN | apply below_drew1 | refine below_set ?_ GE269.out) | exact HB.out)) hb); clear BK269; clear HB; have BK269 := n0_; have HB := n1_; clear n0_ n1_; (try clear hb); (try clear hb2); (try clear hk); (try clear hi)))
          go_meet
          case rel => exact ⟨_, ((t274 != t273)), (by first | rfl | (simp; done) | (simp [*]; done)), H', ⟨by first | omega | exact Nat.le_refl _⟩, ⟨by (with_reducible repeat (first | refine blk_drewN ?_ _ | refine blk_drew ?_ | refine blk_alloc ?_ _)); exact BK269.out⟩, ⟨by repeat (first | (with_reducible first | exact HB.out | apply below_alloc | apply pw_below_drewN | apply below_drew1 | refine below_set ?_ GE269.out) | exact HB.out)⟩⟩
        · rw [if_neg c15] at H
          have c15b0 : (t270 == t272) = false := beq_eq_false_iff_ne.mpr c15
          have c15b1 : (t270 != t272) = true := bne_iff_ne.mpr c15
          have H' := Aside0.mk H
          clear H
          go_wp2
          go_meet
          case rel => exact ⟨_, (true), (by first | rfl | (simp; done) | (simp [*]; done)), H', ⟨by first | omega | exact Nat.le_refl _⟩, ⟨by (with_reducible repeat (first | refine blk_drewN ?_ _ | refine blk_drew ?_ | refine blk_alloc ?_ _)); exact BK269.out⟩, ⟨by repeat (first | (with_reducible first | exact HB.out | apply below_alloc | apply pw_below_drewN | apply below_drew1 | refine below_set ?_ GE269.out) | exact HB.out)⟩⟩
    case rest =>
      clear HC7
      try clear c1
      try clear p2
      try clear c3
      try clear c3b0
      try clear c5
      try clear c6
      try clear p6
      try clear c7
      try clear c14
      try clear c14b0
      try clear c14b1
      try clear c14b2
      try clear c15
      try clear c15b0
      try clear c15b1
      try clear hcz10_0
      try clear hcz10_1
      try clear hcz10_2
      try clear hcz10_3
      try clear hcz10_4
      try clear hcz10_5
      try clear hcz12_0
      try clear hcz12_1
      try clear hcz12_2
      try clear hcz12_3
      try clear hcz12_4
      try clear hcz12_5
      try clear hcz17_0
      try clear hcz17_1
      try clear hcz17_2
      try clear hcz17_3
      try clear hcz17_4
      try clear hcz17_5
      try clear hfz10_0
      try clear hfz10_1
      try clear hfz10_2
      try clear hfz10_3
      try clear hfz10_4
      try clear hfz10_5
      try clear hfz12_0
      try clear hfz12_1
      try clear hfz12_2
      try clear hfz12_3
      try clear hfz12_4
      try clear hfz12_5
      try clear hfz17_0
      try clear hfz17_1
      try clear hfz17_2
      try clear hfz17_3
      try clear hfz17_4
      try clear hfz17_5
      obtain ⟨kq, x63_6, rfl, HA, HJ6, BK269, HB⟩ := hcut
      cases kq with
      | zero => exact absurd HA.out (by simp [laws_FnDays.j0])
      | succ kj6 =>
        have H := HA.out
        clear HA
        simp only [laws_FnDays.j0] at H
        by_cases c19 : x63_6 = true
        · subst c19
          have H1 : (some false) = some r := by rw [if_pos rfl] at H; exact H
          clear H
          have H := H1
          clear H1
          obtain rfl := Option.some.inj H
          go_wp2
          go_ret
          exact ⟨by first | rfl | (simp [errW_none, errW_some] <;> rfl) | (simp [*, errW_none, errW_some] <;> rfl), by repeat (first | (with_reducible first | exact HB.out | apply below_alloc | apply pw_below_drewN | apply below_drew1 | refine below_set ?_ GE269.out) | exact HB.out)⟩
        · replace c19 := Bool.eq_false_iff.mpr c19
          subst c19
          have H1 : (if t271 = true then ((impl_DateAt.f kj6 t270).bind fun bt275 => ((impl_DaysOf.f kj6 t263 t264 t265).bind fun bt283 => (if bt275.2.2.2.2.2.2 = true then (if bt283.2 = true then (if (!(bt275.1 == t263) || (!(bt275.2.1 == t264) || (!(bt275.2.2.1 == t265) || (!(bt275.2.2.2.1 == t266) || (!(bt275.2.2.2.2.1 == t267) || (!(bt275.2.2.2.2.2.1 == t268))))))) = true then (laws_FnDays.j1 kj6 l1 bt283.1 true t263 t264 t265 t266 t267 t268) else (laws_FnDays.j1 kj6 l1 bt283.1 (bt283.1 != (wrap64 (Int.tdiv t270 86400))) t263 t264 t265 t266 t267 t268)) else (laws_FnDays.j1 kj6 l1 bt283.1 true t263 t264 t265 t266 t267 t268)) else (laws_FnDays.j1 kj6 l1 bt283.1 true t263 t264 t265 t266 t267 t268)))) else (laws_FnDays.j3 kj6 l1)) = some r := by rw [if_neg (show ¬ (false = true) by decide)] at H; exact H
          clear H
          have H := H1
          clear H1
          have HC20 := Aside0.mk H
          clear H
          go_upto_if 64 with (fail)
          go_cut [] (fun wc => ∃ (kq : Nat), Aside0 (laws_FnDays.j3 kq l1 = some r) ∧ Aside0 (kq ≤ kj6) ∧ Aside0 (wc.heap[gb269]? = some (.cells #[.int .i64 t263, .int .i64 t264, .int .i64 t265, .int .i64 t266, .int .i64 t267, .int .i64 t268] 24 (0, 0))) ∧ Aside0 (Below w.heap.size w wc))
          case first =>
            have H := HC20.out
            clear HC20
            by_cases c21 : t271 = true
            · subst c21
              have H1 : ((impl_DateAt.f kj6 t270).bind fun bt275 => ((impl_DaysOf.f kj6 t263 t264 t265).bind fun bt283 => (if bt275.2.2.2.2.2.2 = true then (if bt283.2 = true then (if (!(bt275.1 == t263) || (!(bt275.2.1 == t264) || (!(bt275.2.2.1 == t265) || (!(bt275.2.2.2.1 == t266) || (!(bt275.2.2.2.2.1 == t267) || (!(bt275.2.2.2.2.2.1 == t268))))))) = true then (laws_FnDays.j1 kj6 l1 bt283.1 true t263 t264 t265 t266 t267 t268) else (laws_FnDays.j1 kj6 l1 bt283.1 (bt283.1 != (wrap64 (Int.tdiv t270 86400))) t263 t264 t265 t266 t267 t268)) else (laws_FnDays.j1 kj6 l1 bt283.1 true t263 t264 t265 t266 t267 t268)) else (laws_FnDays.j1 kj6 l1 bt283.1 true t263 t264 t265 t266 t267 t268)))) = some r := by rw [if_pos rfl] at H; exact H
              clear H
              have H := H1
              clear H1
              replace H := Option.bind_eq_some_iff.mp H
              obtain ⟨⟨t275, t276, t277, t278, t279, t280, t281⟩, A220, H⟩ := H
              replace H : ((impl_DaysOf.f kj6 t263 t264 t265).bind fun bt283 => (if t281 = true then (if bt283.2 = true then (if (!(t275 == t263) || (!(t276 == t264) || (!(t277 == t265) || (!(t278 == t266) || (!(t279 == t267) || (!(t280 == t268))))))) = true then (laws_FnDays.j1 kj6 l1 bt283.1 true t263 t264 t265 t266 t267 t268) else (laws_FnDays.j1 kj6 l1 bt283.1 (bt283.1 != (wrap64 (Int.tdiv t270 86400))) t263 t264 t265 t266 t267 t268)) else (laws_FnDays.j1 kj6 l1 bt283.1 true t263 t264 t265 t266 t267 t268)) else (laws_FnDays.j1 kj6 l1 bt283.1 true t263 t264 t265 t266 t267 t268))) = some r := H
              have A22 := Aside0.mk A220
              clear A220
              replace H := Option.bind_eq_some_iff.mp H
              obtain ⟨⟨t283, t284⟩, A230, H⟩ := H
              replace H : (if t281 = true then (if t284 = true then (if (!(t275 == t263) || (!(t276 == t264) || (!(t277 == t265) || (!(t278 == t266) || (!(t279 == t267) || (!(t280 == t268))))))) = true then (laws_FnDays.j1 kj6 l1 t283 true t263 t264 t265 t266 t267 t268) else (laws_FnDays.j1 kj6 l1 t283 (t283 != (wrap64 (Int.tdiv t270 86400))) t263 t264 t265 t266 t267 t268)) else (laws_FnDays.j1 kj6 l1 t283 true t263 t264 t265 t266 t267 t268)) else (laws_FnDays.j1 kj6 l1 t283 true t263 t264 t265 t266 t267 t268)) = some r := H
              have A23 := Aside0.mk A230
              clear A230
              have HC24 := Aside0.mk H
              clear H
              go_upto_region 11 with (first | ((with_reducible refine gate_callee (f := 9) rfl ?_); refine goesL_ (some 67) rfl rfl Try.func9 (by kernel_rfl) rfl #[.int .i64 t270] rfl (by (try simp only [List.map_toArray, List.map_cons, List.map_nil]); first | done | rfl | (simp only [List.length_drop, List.length_take]; rfl)) ?_; (with_reducible refine (impl_DateAt.calls kj6 t270 t275 t276 t277 t278 t279 t280 t281 _ A22.out).mono ?_); rintro e w25 ⟨rfl, hb⟩; refine ⟨_, rfl, ?_⟩; have n0_ := Aside0.mk (blk_below (g := gb269) (o := .cells #[.int .i64 t263, .int .i64 t264, .int .i64 t265, .int .i64 t266, .int .i64 t267, .int .i64 t268] 24 (0, 0)) (by (with_reducible repeat (first | refine blk_drewN ?_ _ | refine blk_drew ?_ | refine blk_alloc ?_ _)); exact BK269.out) hb); have n1_ := Aside0.mk (below_step (by repeat (first | (with_reducible first | exact HB.out | apply below_alloc | apply pw_below_drewN | apply below_drew1 | refine below_set ?_ GE269.out) | exact HB.out)) hb); clear BK269; clear HB; have BK269 := n0_; have HB := n1_; clear n0_ n1_; (try clear hb); (try clear hb2); (try clear hk); (try clear hi)) | ((with_reducible refine gate_dst (N := 10) rfl ?_); refine box_event ?hg (N := 10) ?hd (cs := #[.int .i64 0, .int .i64 0, .int .i64 0, .int .i64 0, .int .i64 0, .int .i64 0]) (t := 24) ?hr ?_; (case hd => rfl); (case hg => rfl); (case hr => first | (go_simp; done) | (go_simp; rfl)); intro gb282 hg w26 hbox hb; have n0_ := Aside0.mk (blk_below (g := gb269) (o := .cells #[.int .i64 t263, .int .i64 t264, .int .i64 t265, .int .i64 t266, .int .i64 t267, .int .i64 t268] 24 (0, 0)) (by (with_reducible repeat (first | refine blk_drewN ?_ _ | refine blk_drew ?_ | refine blk_alloc ?_ _)); exact BK269.out) hb); have n1_ := Aside0.mk (below_step (by repeat (first | (with_reducible first | exact HB.out | apply below_alloc | apply pw_below_drewN | apply below_drew1 | refine below_set ?_ GE269.out) | exact HB.out)) hb); have n2_ := Aside0.mk (hbox); have n3_ := Aside0.mk ((by rw [hg]; exact (below_size (by repeat (first | (with_reducible first | exact HB.out | apply below_alloc | apply pw_below_drewN | apply below_drew1 | refine below_set ?_ GE269.out) | exact HB.out))) : w.heap.size ≤ gb282)); have n4_ := Aside0.mk ((by rw [hg]; exact (below_size (by repeat (first | (with_reducible first | exact HB.out | apply below_alloc | apply pw_below_drewN | apply below_drew1 | refine below_set ?_ GE269.out) | exact HB.out))) : w.heap.size ≤ gb282)); have n5_ := Aside0.mk ((by rw [hg]; exact Nat.ne_of_lt (blk_lt (g := gb269) (o := .cells #[.int .i64 t263, .int .i64 t264, .int .i64 t265, .int .i64 t266, .int .i64 t267, .int .i64 t268] 24 (0, 0)) (by (with_reducible repeat (first | refine blk_drewN ?_ _ | refine blk_drew ?_ | refine blk_alloc ?_ _)); exact BK269.out)) : gb269 ≠ gb282)); have n6_ := Aside0.mk ((by rw [hg]; exact Nat.ne_of_gt (blk_lt (g := gb269) (o := .cells #[.int .i64 t263, .int .i64 t264, .int .i64 t265, .int .i64 t266, .int .i64 t267, .int .i64 t268] 24 (0, 0)) (by (with_reducible repeat (first | refine blk_drewN ?_ _ | refine blk_drew ?_ | refine blk_alloc ?_ _)); exact BK269.out)) : gb282 ≠ gb269)); clear BK269; clear HB; have BK269 := n0_; have HB := n1_; have BK282 := n2_; have GW282 := n3_; have GE282 := n4_; have NB269_282 := n5_; have NB282_269 := n6_; clear n0_ n1_ n2_ n3_ n4_ n5_ n6_; clear hb hbox hg; have hnb27 := NB282_269.out; have hnc27 := NB269_282.out; have hcz28_0 : w26.cell? ⟨gb282, 0, none⟩ = some (.int .i64 0) := (blk_cell BK282.out 0).trans rfl; have hcz28_1 : w26.cell? ⟨gb282, 1, none⟩ = some (.int .i64 0) := (blk_cell BK282.out 1).trans rfl; have hcz28_2 : w26.cell? ⟨gb282, 2, none⟩ = some (.int .i64 0) := (blk_cell BK282.out 2).trans rfl; have hcz28_3 : w26.cell? ⟨gb282, 3, none⟩ = some (.int .i64 0) := (blk_cell BK282.out 3).trans rfl; have hcz28_4 : w26.cell? ⟨gb282, 4, none⟩ = some (.int .i64 0) := (blk_cell BK282.out 4).trans rfl; have hcz28_5 : w26.cell? ⟨gb282, 5, none⟩ = some (.int .i64 0) := (blk_cell BK282.out 5).trans rfl; have hfz28_0 := blk_frozen BK282.out 0; have hfz28_1 := blk_frozen BK282.out 1; have hfz28_2 := blk_frozen BK282.out 2; have hfz28_3 := blk_frozen BK282.out 3; have hfz28_4 := blk_frozen BK282.out 4; have hfz28_5 := blk_frozen BK282.out 5; have hcz29_0 : w26.cell? ⟨gb269, 0, none⟩ = some (.int .i64 t263) := (blk_cell BK269.out 0).trans rfl; have hcz29_1 : w26.cell? ⟨gb269, 1, none⟩ = some (.int .i64 t264) := (blk_cell BK269.out 1).trans rfl; have hcz29_2 : w26.cell? ⟨gb269, 2, none⟩ = some (.int .i64 t265) := (blk_cell BK269.out 2).trans rfl; have hcz29_3 : w26.cell? ⟨gb269, 3, none⟩ = some (.int .i64 t266) := (blk_cell BK269.out 3).trans rfl; have hcz29_4 : w26.cell? ⟨gb269, 4, none⟩ = some (.int .i64 t267) := (blk_cell BK269.out 4).trans rfl; have hcz29_5 : w26.cell? ⟨gb269, 5, none⟩ = some (.int .i64 t268) := (blk_cell BK269.out 5).trans rfl; have hfz29_0 := blk_frozen BK269.out 0; have hfz29_1 := blk_frozen BK269.out 1; have hfz29_2 := blk_frozen BK269.out 2; have hfz29_3 := blk_frozen BK269.out 3; have hfz29_4 := blk_frozen BK269.out 4; have hfz29_5 := blk_frozen BK269.out 5) | ((with_reducible refine gate_callee (f := 10) rfl ?_); refine goesL_ (some 77) rfl rfl Try.func10 (by kernel_rfl) rfl #[.int .i64 t263, .int .i64 t264, .int .i64 t265] rfl (by (try simp only [List.map_toArray, List.map_cons, List.map_nil]); first | done | rfl | (simp only [List.length_drop, List.length_take]; rfl)) ?_; (with_reducible refine (impl_DaysOf.calls kj6 t263 t264 t265 t283 t284 _ A23.out).mono ?_); rintro e w30 ⟨rfl, hb⟩; refine ⟨_, rfl, ?_⟩; have n0_ := Aside0.mk (blk_below (g := gb269) (o := .cells #[.int .i64 t263, .int .i64 t264, .int .i64 t265, .int .i64 t266, .int .i64 t267, .int .i64 t268] 24 (0, 0)) (by (with_reducible repeat (first | refine blk_drewN ?_ _ | refine blk_drew ?_ | refine blk_alloc ?_ _)); refine blk_far ?_ NB269_282.out _; (with_reducible repeat (first | refine blk_drewN ?_ _ | refine blk_drew ?_ | refine blk_alloc ?_ _)); refine blk_far ?_ NB269_282.out _; (with_reducible repeat (first | refine blk_drewN ?_ _ | refine blk_drew ?_ | refine blk_alloc ?_ _)); refine blk_far ?_ NB269_282.out _; (with_reducible repeat (first | refine blk_drewN ?_ _ | refine blk_drew ?_ | refine blk_alloc ?_ _)); refine blk_far ?_ NB269_282.out _; (with_reducible repeat (first | refine blk_drewN ?_ _ | refine blk_drew ?_ | refine blk_alloc ?_ _)); refine blk_far ?_ NB269_282.out _; (with_reducible repeat (first | refine blk_drewN ?_ _ | refine blk_drew ?_ | refine blk_alloc ?_ _)); refine blk_far ?_ NB269_282.out _; (with_reducible repeat (first | refine blk_drewN ?_ _ | refine blk_drew ?_ | refine blk_alloc ?_ _)); exact BK269.out) hb); have n1_ := Aside0.mk (blk_below (g := gb282) (o := .cells #[.int .i64 t275, .int .i64 t276, .int .i64 t277, .int .i64 t278, .int .i64 t279, .int .i64 t280] 24 (0, 0)) (by (with_reducible repeat (first | refine blk_drewN ?_ _ | refine blk_drew ?_ | refine blk_alloc ?_ _)); refine blk_put (cs := #[.int .i64 t275, .int .i64 t276, .int .i64 t277, .int .i64 t278, .int .i64 t279, .int .i64 0]) ?_ 5 _ rfl; (with_reducible repeat (first | refine blk_drewN ?_ _ | refine blk_drew ?_ | refine blk_alloc ?_ _)); refine blk_put (cs := #[.int .i64 t275, .int .i64 t276, .int .i64 t277, .int .i64 t278, .int .i64 0, .int .i64 0]) ?_ 4 _ rfl; (with_reducible repeat (first | refine blk_drewN ?_ _ | refine blk_drew ?_ | refine blk_alloc ?_ _)); refine blk_put (cs := #[.int .i64 t275, .int .i64 t276, .int .i64 t277, .int .i64 0, .int .i64 0, .int .i64 0]) ?_ 3 _ rfl; (with_reducible repeat (first | refine blk_drewN ?_ _ | refine blk_drew ?_ | refine blk_alloc ?_ _)); refine blk_put (cs := #[.int .i64 t275, .int .i64 t276, .int .i64 0, .int .i64 0, .int .i64 0, .int .i64 0]) ?_ 2 _ rfl; (with_reducible repeat (first | refine blk_drewN ?_ _ | refine blk_drew ?_ | refine blk_alloc ?_ _)); refine blk_put (cs := #[.int .i64 t275, .int .i64 0, .int .i64 0, .int .i64 0, .int .i64 0, .int .i64 0]) ?_ 1 _ rfl; (with_reducible repeat (first | refine blk_drewN ?_ _ | refine blk_drew ?_ | refine blk_alloc ?_ _)); refine blk_put (cs := #[.int .i64 0, .int .i64 0, .int .i64 0, .int .i64 0, .int .i64 0, .int .i64 0]) ?_ 0 _ rfl; (with_reducible repeat (first | refine blk_drewN ?_ _ | refine blk_drew ?_ | refine blk_alloc ?_ _)); exact BK282.out) hb); have n2_ := Aside0.mk (below_step (by repeat (first | (with_reducible first | exact HB.out | apply below_alloc | apply pw_below_drewN | apply below_drew1 | refine below_set ?_ GE269.out | refine below_set ?_ GE282.out) | exact HB.out)) hb); clear BK269; clear BK282; clear HB; have BK269 := n0_; have BK282 := n1_; have HB := n2_; clear n0_ n1_ n2_; (try clear hb); (try clear hb2); (try clear hk); (try clear hi)))
              (try simp only [Act.put, List.setIfInBounds_toArray, List.set_cons_zero, List.set_cons_succ])
              go_cut [96] (fun v96 wc => ∃ (kq : Nat) (x96_23 : Bool), v96 = .bool x96_23 ∧ Aside0 (laws_FnDays.j1 kq l1 t283 x96_23 t263 t264 t265 t266 t267 t268 = some r) ∧ Aside0 (kq ≤ kj6) ∧ Aside0 (wc.heap[gb269]? = some (.cells #[.int .i64 t263, .int .i64 t264, .int .i64 t265, .int .i64 t266, .int .i64 t267, .int .i64 t268] 24 (0, 0))) ∧ Aside0 (wc.heap[gb282]? = some (.cells #[.int .i64 t275, .int .i64 t276, .int .i64 t277, .int .i64 t278, .int .i64 t279, .int .i64 t280] 24 (0, 0))) ∧ Aside0 (Below w.heap.size w wc))
              case first =>
                have H := HC24.out
                clear HC24
                by_cases c31 : t281 = true
                · subst c31
                  have H1 : (if t284 = true then (if (!(t275 == t263) || (!(t276 == t264) || (!(t277 == t265) || (!(t278 == t266) || (!(t279 == t267) || (!(t280 == t268))))))) = true then (laws_FnDays.j1 kj6 l1 t283 true t263 t264 t265 t266 t267 t268) else (laws_FnDays.j1 kj6 l1 t283 (t283 != (wrap64 (Int.tdiv t270 86400))) t263 t264 t265 t266 t267 t268)) else (laws_FnDays.j1 kj6 l1 t283 true t263 t264 t265 t266 t267 t268)) = some r := by rw [if_pos rfl] at H; exact H
                  clear H
                  have H := H1
                  clear H1
                  by_cases c32 : t284 = true
                  · subst c32
                    have H1 : (if (!(t275 == t263) || (!(t276 == t264) || (!(t277 == t265) || (!(t278 == t266) || (!(t279 == t267) || (!(t280 == t268))))))) = true then (laws_FnDays.j1 kj6 l1 t283 true t263 t264 t265 t266 t267 t268) else (laws_FnDays.j1 kj6 l1 t283 (t283 != (wrap64 (Int.tdiv t270 86400))) t263 t264 t265 t266 t267 t268)) = some r := by rw [if_pos rfl] at H; exact H
                    clear H
                    have H := H1
                    clear H1
                    by_cases c33 : (!(t275 == t263) || (!(t276 == t264) || (!(t277 == t265) || (!(t278 == t266) || (!(t279 == t267) || (!(t280 == t268))))))) = true
                    · rw [if_pos c33] at H
                      have c33b0 : (!(t275 == t263) || (!(t276 == t264) || (!(t277 == t265) || (!(t278 == t266) || (!(t279 == t267) || (!(t280 == t268))))))) = true := c33
                      clear c33
                      (first | rw [c33b0] | (simp only [i64_w, i32_w]; rw [c33b0]) | skip)
                      have H' := Aside0.mk H
                      clear H
                      have hnb34 := NB282_269.out
                      have hnc34 := NB269_282.out
                      have hcz35_0 : w30.cell? ⟨gb282, 0, none⟩ = some (.int .i64 t275) := (blk_cell BK282.out 0).trans rfl
                      have hcz35_1 : w30.cell? ⟨gb282, 1, none⟩ = some (.int .i64 t276) := (blk_cell BK282.out 1).trans rfl
                      have hcz35_2 : w30.cell? ⟨gb282, 2, none⟩ = some (.int .i64 t277) := (blk_cell BK282.out 2).trans rfl
                      have hcz35_3 : w30.cell? ⟨gb282, 3, none⟩ = some (.int .i64 t278) := (blk_cell BK282.out 3).trans rfl
                      have hcz35_4 : w30.cell? ⟨gb282, 4, none⟩ = some (.int .i64 t279) := (blk_cell BK282.out 4).trans rfl
                      have hcz35_5 : w30.cell? ⟨gb282, 5, none⟩ = some (.int .i64 t280) := (blk_cell BK282.out 5).trans rfl
                      have hfz35_0 := blk_frozen BK282.out 0
                      have hfz35_1 := blk_frozen BK282.out 1
                      have hfz35_2 := blk_frozen BK282.out 2
                      have hfz35_3 := blk_frozen BK282.out 3
                      have hfz35_4 := blk_frozen BK282.out 4
                      have hfz35_5 := blk_frozen BK282.out 5
                      have hcz36_0 : w30.cell? ⟨gb269, 0, none⟩ = some (.int .i64 t263) := (blk_cell BK269.out 0).trans rfl
                      have hcz36_1 : w30.cell? ⟨gb269, 1, none⟩ = some (.int .i64 t264) := (blk_cell BK269.out 1).trans rfl
                      have hcz36_2 : w30.cell? ⟨gb269, 2, none⟩ = some (.int .i64 t265) := (blk_cell BK269.out 2).trans rfl
                      have hcz36_3 : w30.cell? ⟨gb269, 3, none⟩ = some (.int .i64 t266) := (blk_cell BK269.out 3).trans rfl
                      have hcz36_4 : w30.cell? ⟨gb269, 4, none⟩ = some (.int .i64 t267) := (blk_cell BK269.out 4).trans rfl
                      have hcz36_5 : w30.cell? ⟨gb269, 5, none⟩ = some (.int .i64 t268) := (blk_cell BK269.out 5).trans rfl
                      have hfz36_0 := blk_frozen BK269.out 0
                      have hfz36_1 := blk_frozen BK269.out 1
                      have hfz36_2 := blk_frozen BK269.out 2
                      have hfz36_3 := blk_frozen BK269.out 3
                      have hfz36_4 := blk_frozen BK269.out 4
                      have hfz36_5 := blk_frozen BK269.out 5
                      go_wp2
                      go_meet
                      case rel => exact ⟨_, (true), (by first | rfl | (simp; done) | (simp [*]; done)), H', ⟨by have := HJ6.out; first | omega | exact Nat.le_refl _⟩, ⟨by (with_reducible repeat (first | refine blk_drewN ?_ _ | refine blk_drew ?_ | refine blk_alloc ?_ _)); exact BK269.out⟩, ⟨by (with_reducible repeat (first | refine blk_drewN ?_ _ | refine blk_drew ?_ | refine blk_alloc ?_ _)); exact BK282.out⟩, ⟨by repeat (first | (with_reducible first | exact HB.out | apply below_alloc | apply pw_below_drewN | apply below_drew1 | refine below_set ?_ GE269.out | refine below_set ?_ GE282.out) | exact HB.out)⟩⟩
                    · rw [if_neg c33] at H
                      have c33b0 : (!(t275 == t263) || (!(t276 == t264) || (!(t277 == t265) || (!(t278 == t266) || (!(t279 == t267) || (!(t280 == t268))))))) = false := by simpa using c33
                      clear c33
                      (first | rw [c33b0] | (simp only [i64_w, i32_w]; rw [c33b0]) | skip)
                      have H' := Aside0.mk H
                      clear H
                      have hnb37 := NB282_269.out
                      have hnc37 := NB269_282.out
                      have hcz38_0 : w30.cell? ⟨gb282, 0, none⟩ = some (.int .i64 t275) := (blk_cell BK282.out 0).trans rfl
                      have hcz38_1 : w30.cell? ⟨gb282, 1, none⟩ = some (.int .i64 t276) := (blk_cell BK282.out 1).trans rfl
                      have hcz38_2 : w30.cell? ⟨gb282, 2, none⟩ = some (.int .i64 t277) := (blk_cell BK282.out 2).trans rfl
                      have hcz38_3 : w30.cell? ⟨gb282, 3, none⟩ = some (.int .i64 t278) := (blk_cell BK282.out 3).trans rfl
                      have hcz38_4 : w30.cell? ⟨gb282, 4, none⟩ = some (.int .i64 t279) := (blk_cell BK282.out 4).trans rfl
                      have hcz38_5 : w30.cell? ⟨gb282, 5, none⟩ = some (.int .i64 t280) := (blk_cell BK282.out 5).trans rfl
                      have hfz38_0 := blk_frozen BK282.out 0
                      have hfz38_1 := blk_frozen BK282.out 1
                      have hfz38_2 := blk_frozen BK282.out 2
                      have hfz38_3 := blk_frozen BK282.out 3
                      have hfz38_4 := blk_frozen BK282.out 4
                      have hfz38_5 := blk_frozen BK282.out 5
                      have hcz39_0 : w30.cell? ⟨gb269, 0, none⟩ = some (.int .i64 t263) := (blk_cell BK269.out 0).trans rfl
                      have hcz39_1 : w30.cell? ⟨gb269, 1, none⟩ = some (.int .i64 t264) := (blk_cell BK269.out 1).trans rfl
                      have hcz39_2 : w30.cell? ⟨gb269, 2, none⟩ = some (.int .i64 t265) := (blk_cell BK269.out 2).trans rfl
                      have hcz39_3 : w30.cell? ⟨gb269, 3, none⟩ = some (.int .i64 t266) := (blk_cell BK269.out 3).trans rfl
                      have hcz39_4 : w30.cell? ⟨gb269, 4, none⟩ = some (.int .i64 t267) := (blk_cell BK269.out 4).trans rfl
                      have hcz39_5 : w30.cell? ⟨gb269, 5, none⟩ = some (.int .i64 t268) := (blk_cell BK269.out 5).trans rfl
                      have hfz39_0 := blk_frozen BK269.out 0
                      have hfz39_1 := blk_frozen BK269.out 1
                      have hfz39_2 := blk_frozen BK269.out 2
                      have hfz39_3 := blk_frozen BK269.out 3
                      have hfz39_4 := blk_frozen BK269.out 4
                      have hfz39_5 := blk_frozen BK269.out 5
                      go_wp2
                      go_meet
                      case rel => exact ⟨_, ((t283 != (wrap64 (Int.tdiv t270 86400)))), (by first | rfl | (simp; done) | (simp [*]; done)), H', ⟨by have := HJ6.out; first | omega | exact Nat.le_refl _⟩, ⟨by (with_reducible repeat (first | refine blk_drewN ?_ _ | refine blk_drew ?_ | refine blk_alloc ?_ _)); exact BK269.out⟩, ⟨by (with_reducible repeat (first | refine blk_drewN ?_ _ | refine blk_drew ?_ | refine blk_alloc ?_ _)); exact BK282.out⟩, ⟨by repeat (first | (with_reducible first | exact HB.out | apply below_alloc | apply pw_below_drewN | apply below_drew1 | refine below_set ?_ GE269.out | refine below_set ?_ GE282.out) | exact HB.out)⟩⟩
                  · replace c32 := Bool.eq_false_iff.mpr c32
                    subst c32
                    have H1 : (laws_FnDays.j1 kj6 l1 t283 true t263 t264 t265 t266 t267 t268) = some r := by rw [if_neg (show ¬ (false = true) by decide)] at H; exact H
                    clear H
                    have H := H1
                    clear H1
                    have H' := Aside0.mk H
                    clear H
                    go_wp2
                    go_meet
                    case rel => exact ⟨_, (true), (by first | rfl | (simp; done) | (simp [*]; done)), H', ⟨by have := HJ6.out; first | omega | exact Nat.le_refl _⟩, ⟨by (with_reducible repeat (first | refine blk_drewN ?_ _ | refine blk_drew ?_ | refine blk_alloc ?_ _)); exact BK269.out⟩, ⟨by (with_reducible repeat (first | refine blk_drewN ?_ _ | refine blk_drew ?_ | refine blk_alloc ?_ _)); exact BK282.out⟩, ⟨by repeat (first | (with_reducible first | exact HB.out | apply below_alloc | apply pw_below_drewN | apply below_drew1 | refine below_set ?_ GE269.out | refine below_set ?_ GE282.out) | exact HB.out)⟩⟩
                · replace c31 := Bool.eq_false_iff.mpr c31
                  subst c31
                  have H1 : (laws_FnDays.j1 kj6 l1 t283 true t263 t264 t265 t266 t267 t268) = some r := by rw [if_neg (show ¬ (false = true) by decide)] at H; exact H
                  clear H
                  have H := H1
                  clear H1
                  have H' := Aside0.mk H
                  clear H
                  go_wp2
                  go_meet
                  case rel => exact ⟨_, (true), (by first | rfl | (simp; done) | (simp [*]; done)), H', ⟨by have := HJ6.out; first | omega | exact Nat.le_refl _⟩, ⟨by (with_reducible repeat (first | refine blk_drewN ?_ _ | refine blk_drew ?_ | refine blk_alloc ?_ _)); exact BK269.out⟩, ⟨by (with_reducible repeat (first | refine blk_drewN ?_ _ | refine blk_drew ?_ | refine blk_alloc ?_ _)); exact BK282.out⟩, ⟨by repeat (first | (with_reducible first | exact HB.out | apply below_alloc | apply pw_below_drewN | apply below_drew1 | refine below_set ?_ GE269.out | refine below_set ?_ GE282.out) | exact HB.out)⟩⟩
              case rest =>
                clear HC24
                try clear c1
                try clear c2
                try clear p2
                try clear c3
                try clear c3b0
                try clear c5
                try clear c6
                try clear p6
                try clear c7
                try clear c9
                try clear c10
                try clear c14
                try clear c14b0
                try clear c14b1
                try clear c14b2
                try clear c15
                try clear c15b0
                try clear c15b1
                try clear c19
                try clear c21
                try clear c27
                try clear c31
                try clear c32
                try clear c33
                try clear c33b0
                try clear c34
                try clear c37
                try clear hcz10_0
                try clear hcz10_1
                try clear hcz10_2
                try clear hcz10_3
                try clear hcz10_4
                try clear hcz10_5
                try clear hcz12_0
                try clear hcz12_1
                try clear hcz12_2
                try clear hcz12_3
                try clear hcz12_4
                try clear hcz12_5
                try clear hcz17_0
                try clear hcz17_1
                try clear hcz17_2
                try clear hcz17_3
                try clear hcz17_4
                try clear hcz17_5
                try clear hcz28_0
                try clear hcz28_1
                try clear hcz28_2
                try clear hcz28_3
                try clear hcz28_4
                try clear hcz28_5
                try clear hcz29_0
                try clear hcz29_1
                try clear hcz29_2
                try clear hcz29_3
                try clear hcz29_4
                try clear hcz29_5
                try clear hcz35_0
                try clear hcz35_1
                try clear hcz35_2
                try clear hcz35_3
                try clear hcz35_4
                try clear hcz35_5
                try clear hcz36_0
                try clear hcz36_1
                try clear hcz36_2
                try clear hcz36_3
                try clear hcz36_4
                try clear hcz36_5
                try clear hcz38_0
                try clear hcz38_1
                try clear hcz38_2
                try clear hcz38_3
                try clear hcz38_4
                try clear hcz38_5
                try clear hcz39_0
                try clear hcz39_1
                try clear hcz39_2
                try clear hcz39_3
                try clear hcz39_4
                try clear hcz39_5
                try clear hfz10_0
                try clear hfz10_1
                try clear hfz10_2
                try clear hfz10_3
                try clear hfz10_4
                try clear hfz10_5
                try clear hfz12_0
                try clear hfz12_1
                try clear hfz12_2
                try clear hfz12_3
                try clear hfz12_4
                try clear hfz12_5
                try clear hfz17_0
                try clear hfz17_1
                try clear hfz17_2
                try clear hfz17_3
                try clear hfz17_4
                try clear hfz17_5
                try clear hfz28_0
                try clear hfz28_1
                try clear hfz28_2
                try clear hfz28_3
                try clear hfz28_4
                try clear hfz28_5
                try clear hfz29_0
                try clear hfz29_1
                try clear hfz29_2
                try clear hfz29_3
                try clear hfz29_4
                try clear hfz29_5
                try clear hfz35_0
                try clear hfz35_1
                try clear hfz35_2
                try clear hfz35_3
                try clear hfz35_4
                try clear hfz35_5
                try clear hfz36_0
                try clear hfz36_1
                try clear hfz36_2
                try clear hfz36_3
                try clear hfz36_4
                try clear hfz36_5
                try clear hfz38_0
                try clear hfz38_1
                try clear hfz38_2
                try clear hfz38_3
                try clear hfz38_4
                try clear hfz38_5
                try clear hfz39_0
                try clear hfz39_1
                try clear hfz39_2
                try clear hfz39_3
                try clear hfz39_4
                try clear hfz39_5
                try clear p2
                try clear p6
                obtain ⟨kq, x96_23, rfl, HA, HJ23, BK269, BK282, HB⟩ := hcut
                rename_i zz0_0 zz0_1 zz0_2 zz0_3 zz0_4 zz0_5 zz0_6 zz0_7 zz0_8 zz0_9 zz0_10 zz0_11 zz0_12 zz0_13 zz0_14 zz0_15 zz0_16 zz0_17 zz0_18 zz0_19 zz0_20 zz0_21 zz0_22 zz0_23 zz0_24 zz0_25 zz0_26 zz0_27 zz0_28 zz0_29 zz0_30 zz0_31 zz0_32 zz0_33 zz0_34 zz0_35 zz0_36 zz0_37 zz0_38 zz0_39 zz0_40 zz0_41 zz0_42 zz0_43 zz0_44 zz0_45 zz0_46 zz0_47 zz0_48 zz0_49 zz0_50 zz0_51 zz0_52 zz0_53 zz0_54 zz0_55 zz0_56 zz0_57 zz0_58 zz0_59 zz0_60 zz0_61 zz0_62 zz0_63 zz0_64 zz0_65 zz0_66 zz0_67 zz0_68 zz0_69 zz0_70 zz0_71 zz0_72 zz0_73 zz0_74 zz0_75 zz0_76 zz0_77 zz0_78 zz0_79 zz0_80 zz0_81 zz0_82 zz0_83 zz0_84 zz0_85 zz0_86 zz0_87 zz0_88 zz0_89 zz0_90 zz0_91 zz0_92 zz0_93 zz0_94 zz0_95 zz0_96 zz0_97 zz0_98 zz0_99 zz0_100 zz0_101 zz0_102 zz0_103 zz0_104 zz0_105 zz0_106 zz0_107 zz0_108 zz0_109 zz0_110 zz0_111 zz0_112 zz0_113 zz0_114 zz0_115 zz0_116 zz0_117 zz0_118 zz0_119 zz0_120 zz0_121 zz0_122 zz0_123 zz0_124 zz0_125 zz0_126 zz0_127 zz0_128 zz0_129 zz0_130 zz0_131 zz0_132 zz0_133 zz0_134 zz0_135 zz0_136 zz0_137 zz0_138 zz0_139 zz0_140 zz0_141 zz0_142 zz0_143 zz0_144 zz0_145 zz0_146 zz0_147 zz0_148 zz0_149 zz0_150 zz0_151 zz0_152 zz0_153 zz0_154 zz0_155 zz0_156 zz0_157 zz0_158 zz0_159 zz0_160 zz0_161 zz0_162 zz0_163 zz0_164 zz0_165 zz0_166 zz0_167 zz0_168 zz0_169 zz0_170 zz0_171 zz0_172 zz0_173 zz0_174 zz0_175 zz0_176 zz0_177 zz0_178 zz0_179 zz0_180 zz0_181 zz0_182 zz0_183 zz0_184
                revert hu24 HR0 HC0 HR1 HC1 t263 t264 t265 t266 t267 t268 A4 t270 t272 t273 A6 zz0_0 w8 gb269 w9 GW269 GE269 w11 w13 zz0_1 zz0_2 zz0_3 zz0_4 zz0_5 zz0_6 zz0_7 zz0_8 zz0_9 zz0_10 zz0_11 zz0_12 zz0_13 zz0_14 zz0_15 zz0_16 zz0_17 zz0_18 zz0_19 zz0_20 zz0_21 zz0_22 zz0_23 zz0_24 zz0_25 zz0_26 zz0_27 zz0_28 zz0_29 zz0_30 zz0_31 zz0_32 zz0_33 zz0_34 zz0_35 zz0_36 zz0_37 zz0_38 zz0_39 zz0_40 zz0_41 zz0_42 zz0_43 zz0_44 zz0_45 zz0_46 zz0_47 zz0_48 zz0_49 zz0_50 zz0_51 zz0_52 zz0_53 zz0_54 zz0_55 zz0_56 zz0_57 zz0_58 zz0_59 zz0_60 zz0_61 zz0_62 zz0_63 zz0_64 zz0_65 zz0_66 u96 zz0_67 zz0_68 zz0_69 zz0_70 zz0_71 zz0_72 zz0_73 zz0_74 zz0_75 zz0_76 zz0_77 zz0_78 zz0_79 zz0_80 zz0_81 zz0_82 zz0_83 zz0_84 zz0_85 zz0_86 zz0_87 zz0_88 zz0_89 zz0_90 zz0_91 zz0_92 zz0_93 zz0_94 zz0_95 zz0_96 zz0_97 zz0_98 zz0_99 zz0_100 zz0_101 zz0_102 zz0_103 zz0_104 zz0_105 zz0_106 zz0_107 zz0_108 zz0_109 zz0_110 zz0_111 zz0_112 zz0_113 zz0_114 zz0_115 zz0_116 zz0_117 zz0_118 zz0_119 zz0_120 zz0_121 zz0_122 zz0_123 zz0_124 zz0_125 zz0_126 zz0_127 zz0_128 zz0_129 zz0_130 zz0_131 zz0_132 zz0_133 zz0_134 zz0_135 zz0_136 zz0_137 zz0_138 zz0_139 zz0_140 zz0_141 zz0_142 zz0_143 zz0_144 zz0_145 zz0_146 zz0_147 zz0_148 zz0_149 zz0_150 zz0_151 zz0_152 zz0_153 zz0_154 zz0_155 zz0_156 zz0_157 zz0_158 zz0_159 zz0_160 zz0_161 zz0_162 zz0_163 zz0_164 zz0_165 zz0_166 zz0_167 zz0_168 zz0_169 zz0_170 zz0_171 kj6 HJ6 zz0_172 zz0_173 zz0_174 zz0_175 zz0_176 A5 zz0_177 t275 t276 t277 t278 t279 t280 t281 A22 t283 t284 A23 w25 gb282 w26 GW282 GE282 NB269_282 NB282_269 hnb27 hnc27 w30 zz0_178 zz0_179 zz0_180 zz0_181 zz0_182 zz0_183 zz0_184 wc u32 u33 u34 u35 u36 u37 u38 u39 u40 u41 u42 u43 u44 u45 u46 u47 u48 u49 u50 u51 u52 u53 u54 u55 u56 u57 u58 u59 u60 u61 u62 u63 u64 u65 u66 u67 u68 u69 u70 u71 u72 u73 u74 u75 u76 u77 u78 u79 u80 u81 u82 u83 u84 u85 u86 u87 u88 u89 u90 u91 u92 u93 u94 u95 u97 u98 u99 u100 u101 u102 u103 u104 u105 u106 u107 u108 u109 u110 u111 u112 u113 u114 u115 u116 u117 u118 u119 u120 u121 u122 u123 u124 u125 u126 u127 u128 u129 u130 u131 u132 u133 u134 u135 u136 u137 u138 u139 u140 u141 u142 u143 u144 u145 u146 u147 u148 u149 u150 u151 u152 u153 u154 u155 u156 u157 u158 u159 u160 u161 u162 u163 u164 u165 u166 u167 u168 u169 u170 u171 u172 u173 u174 u175 u176 u177 u178 u179 u180 u181 u182 u183 u184 u185 u186 u187 u188 u189 u190 u191 u192 u193 u194 u195 u196 u197 u198 u199 u200 u201 kq x96_23 HA HJ23 BK269 BK282 HB
                exact hT0.out
            · replace c21 := Bool.eq_false_iff.mpr c21
              subst c21
              have H1 : (laws_FnDays.j3 kj6 l1) = some r := by rw [if_neg (show ¬ (false = true) by decide)] at H; exact H
              clear H
              have H := H1
              clear H1
              have H' := Aside0.mk H
              clear H
              go_wp2
              go_meet
              case rel => exact ⟨_, H', ⟨by have := HJ6.out; first | omega | exact Nat.le_refl _⟩, ⟨by (with_reducible repeat (first | refine blk_drewN ?_ _ | refine blk_drew ?_ | refine blk_alloc ?_ _)); exact BK269.out⟩, ⟨by repeat (first | (with_reducible first | exact HB.out | apply below_alloc | apply pw_below_drewN | apply below_drew1 | refine below_set ?_ GE269.out) | exact HB.out)⟩⟩
          case rest =>
            clear HC20
            try clear c1
            try clear c2
            try clear p2
            try clear c3
            try clear c3b0
            try clear c4
            try clear c5
            try clear c6
            try clear p6
            try clear c7
            try clear c8
            try clear c9
            try clear c10
            try clear c11
            try clear c12
            try clear c14
            try clear c14b0
            try clear c14b1
            try clear c14b2
            try clear c15
            try clear c15b0
            try clear c15b1
            try clear c19
            try clear c21
            try clear c27
            try clear c31
            try clear c32
            try clear c33
            try clear c33b0
            try clear c34
            try clear c37
            try clear c40
            try clear c44
            try clear c45
            try clear c46
            try clear c50
            try clear c51
            try clear c52
            try clear c53
            try clear c53b0
            try clear c53b1
            try clear c53b2
            try clear c54
            try clear c59
            try clear c60
            try clear p64
            try clear c65
            try clear c65b0
            try clear c65b1
            try clear c66
            try clear c71
            try clear c76
            try clear c81
            try clear c86
            try clear hcz10_0
            try clear hcz10_1
            try clear hcz10_2
            try clear hcz10_3
            try clear hcz10_4
            try clear hcz10_5
            try clear hcz12_0
            try clear hcz12_1
            try clear hcz12_2
            try clear hcz12_3
            try clear hcz12_4
            try clear hcz12_5
            try clear hcz17_0
            try clear hcz17_1
            try clear hcz17_2
            try clear hcz17_3
            try clear hcz17_4
            try clear hcz17_5
            try clear hcz28_0
            try clear hcz28_1
            try clear hcz28_2
            try clear hcz28_3
            try clear hcz28_4
            try clear hcz28_5
            try clear hcz29_0
            try clear hcz29_1
            try clear hcz29_2
            try clear hcz29_3
            try clear hcz29_4
            try clear hcz29_5
            try clear hcz35_0
            try clear hcz35_1
            try clear hcz35_2
            try clear hcz35_3
            try clear hcz35_4
            try clear hcz35_5
            try clear hcz36_0
            try clear hcz36_1
            try clear hcz36_2
            try clear hcz36_3
            try clear hcz36_4
            try clear hcz36_5
            try clear hcz38_0
            try clear hcz38_1
            try clear hcz38_2
            try clear hcz38_3
            try clear hcz38_4
            try clear hcz38_5
            try clear hcz39_0
            try clear hcz39_1
            try clear hcz39_2
            try clear hcz39_3
            try clear hcz39_4
            try clear hcz39_5
            try clear hcz55_0
            try clear hcz55_1
            try clear hcz55_2
            try clear hcz55_3
            try clear hcz55_4
            try clear hcz55_5
            try clear hcz57_0
            try clear hcz57_1
            try clear hcz57_2
            try clear hcz57_3
            try clear hcz57_4
            try clear hcz57_5
            try clear hcz61_0
            try clear hcz61_1
            try clear hcz61_2
            try clear hcz61_3
            try clear hcz61_4
            try clear hcz61_5
            try clear hcz63_0
            try clear hcz63_1
            try clear hcz63_2
            try clear hcz63_3
            try clear hcz63_4
            try clear hcz63_5
            try clear hcz67_0
            try clear hcz67_1
            try clear hcz67_2
            try clear hcz67_3
            try clear hcz67_4
            try clear hcz67_5
            try clear hcz69_0
            try clear hcz69_1
            try clear hcz69_2
            try clear hcz69_3
            try clear hcz69_4
            try clear hcz69_5
            try clear hcz72_0
            try clear hcz72_1
            try clear hcz72_2
            try clear hcz72_3
            try clear hcz72_4
            try clear hcz72_5
            try clear hcz74_0
            try clear hcz74_1
            try clear hcz74_2
            try clear hcz74_3
            try clear hcz74_4
            try clear hcz74_5
            try clear hcz77_0
            try clear hcz77_1
            try clear hcz77_2
            try clear hcz77_3
            try clear hcz77_4
            try clear hcz77_5
            try clear hcz79_0
            try clear hcz79_1
            try clear hcz79_2
            try clear hcz79_3
            try clear hcz79_4
            try clear hcz79_5
            try clear hcz82_0
            try clear hcz82_1
            try clear hcz82_2
            try clear hcz82_3
            try clear hcz82_4
            try clear hcz82_5
            try clear hcz84_0
            try clear hcz84_1
            try clear hcz84_2
            try clear hcz84_3
            try clear hcz84_4
            try clear hcz84_5
            try clear hcz87_0
            try clear hcz87_1
            try clear hcz87_2
            try clear hcz87_3
            try clear hcz87_4
            try clear hcz87_5
            try clear hcz89_0
            try clear hcz89_1
            try clear hcz89_2
            try clear hcz89_3
            try clear hcz89_4
            try clear hcz89_5
            try clear hfz10_0
            try clear hfz10_1
            try clear hfz10_2
            try clear hfz10_3
            try clear hfz10_4
            try clear hfz10_5
            try clear hfz12_0
            try clear hfz12_1
            try clear hfz12_2
            try clear hfz12_3
            try clear hfz12_4
            try clear hfz12_5
            try clear hfz17_0
            try clear hfz17_1
            try clear hfz17_2
            try clear hfz17_3
            try clear hfz17_4
            try clear hfz17_5
            try clear hfz28_0
            try clear hfz28_1
            try clear hfz28_2
            try clear hfz28_3
            try clear hfz28_4
            try clear hfz28_5
            try clear hfz29_0
            try clear hfz29_1
            try clear hfz29_2
            try clear hfz29_3
            try clear hfz29_4
            try clear hfz29_5
            try clear hfz35_0
            try clear hfz35_1
            try clear hfz35_2
            try clear hfz35_3
            try clear hfz35_4
            try clear hfz35_5
            try clear hfz36_0
            try clear hfz36_1
            try clear hfz36_2
            try clear hfz36_3
            try clear hfz36_4
            try clear hfz36_5
            try clear hfz38_0
            try clear hfz38_1
            try clear hfz38_2
            try clear hfz38_3
            try clear hfz38_4
            try clear hfz38_5
            try clear hfz39_0
            try clear hfz39_1
            try clear hfz39_2
            try clear hfz39_3
            try clear hfz39_4
            try clear hfz39_5
            try clear hfz55_0
            try clear hfz55_1
            try clear hfz55_2
            try clear hfz55_3
            try clear hfz55_4
            try clear hfz55_5
            try clear hfz57_0
            try clear hfz57_1
            try clear hfz57_2
            try clear hfz57_3
            try clear hfz57_4
            try clear hfz57_5
            try clear hfz61_0
            try clear hfz61_1
            try clear hfz61_2
            try clear hfz61_3
            try clear hfz61_4
            try clear hfz61_5
            try clear hfz63_0
            try clear hfz63_1
            try clear hfz63_2
            try clear hfz63_3
            try clear hfz63_4
            try clear hfz63_5
            try clear hfz67_0
            try clear hfz67_1
            try clear hfz67_2
            try clear hfz67_3
            try clear hfz67_4
            try clear hfz67_5
            try clear hfz69_0
            try clear hfz69_1
            try clear hfz69_2
            try clear hfz69_3
            try clear hfz69_4
            try clear hfz69_5
            try clear hfz72_0
            try clear hfz72_1
            try clear hfz72_2
            try clear hfz72_3
            try clear hfz72_4
            try clear hfz72_5
            try clear hfz74_0
            try clear hfz74_1
            try clear hfz74_2
            try clear hfz74_3
            try clear hfz74_4
            try clear hfz74_5
            try clear hfz77_0
            try clear hfz77_1
            try clear hfz77_2
            try clear hfz77_3
            try clear hfz77_4
            try clear hfz77_5
            try clear hfz79_0
            try clear hfz79_1
            try clear hfz79_2
            try clear hfz79_3
            try clear hfz79_4
            try clear hfz79_5
            try clear hfz82_0
            try clear hfz82_1
            try clear hfz82_2
            try clear hfz82_3
            try clear hfz82_4
            try clear hfz82_5
            try clear hfz84_0
            try clear hfz84_1
            try clear hfz84_2
            try clear hfz84_3
            try clear hfz84_4
            try clear hfz84_5
            try clear hfz87_0
            try clear hfz87_1
            try clear hfz87_2
            try clear hfz87_3
            try clear hfz87_4
            try clear hfz87_5
            try clear hfz89_0
            try clear hfz89_1
            try clear hfz89_2
            try clear hfz89_3
            try clear hfz89_4
            try clear hfz89_5
            try clear p2
            try clear p6
            obtain ⟨kq, HA, HJ19, BK269, HB⟩ := hcut
            rename_i zz1_0 zz1_1 zz1_2 zz1_3 zz1_4 zz1_5 zz1_6 zz1_7 zz1_8 zz1_9 zz1_10 zz1_11 zz1_12 zz1_13 zz1_14 zz1_15 zz1_16 zz1_17 zz1_18 zz1_19 zz1_20 zz1_21 zz1_22 zz1_23 zz1_24 zz1_25 zz1_26 zz1_27 zz1_28 zz1_29 zz1_30 zz1_31 zz1_32 zz1_33 zz1_34 zz1_35 zz1_36 zz1_37 zz1_38 zz1_39 zz1_40 zz1_41 zz1_42 zz1_43 zz1_44 zz1_45 zz1_46 zz1_47 zz1_48 zz1_49 zz1_50 zz1_51 zz1_52 zz1_53 zz1_54 zz1_55 zz1_56 zz1_57 zz1_58 zz1_59 zz1_60 zz1_61 zz1_62 zz1_63 zz1_64 zz1_65 zz1_66 zz1_67 zz1_68 zz1_69 zz1_70 zz1_71 zz1_72 zz1_73 zz1_74 zz1_75 zz1_76 zz1_77 zz1_78 zz1_79 zz1_80 zz1_81 zz1_82 zz1_83 zz1_84 zz1_85 zz1_86 zz1_87 zz1_88 zz1_89 zz1_90 zz1_91 zz1_92 zz1_93 zz1_94 zz1_95 zz1_96 zz1_97 zz1_98 zz1_99 zz1_100 zz1_101 zz1_102 zz1_103 zz1_104 zz1_105 zz1_106 zz1_107 zz1_108 zz1_109 zz1_110 zz1_111 zz1_112 zz1_113 zz1_114 zz1_115 zz1_116 zz1_117 zz1_118 zz1_119 zz1_120 zz1_121 zz1_122 zz1_123 zz1_124 zz1_125 zz1_126 zz1_127 zz1_128 zz1_129 zz1_130 zz1_131 zz1_132 zz1_133 zz1_134 zz1_135 zz1_136 zz1_137 zz1_138 zz1_139 zz1_140 zz1_141 zz1_142 zz1_143 zz1_144 zz1_145 zz1_146 zz1_147 zz1_148 zz1_149 zz1_150 zz1_151 zz1_152 zz1_153 zz1_154 zz1_155 zz1_156 zz1_157 zz1_158 zz1_159 zz1_160 zz1_161 zz1_162 zz1_163 zz1_164 zz1_165 zz1_166 zz1_167 zz1_168 zz1_169 zz1_170 zz1_171 zz1_172 zz1_173 zz1_174 zz1_175 zz1_176
            revert hu24 HR0 HC0 HR1 HC1 t263 t264 t265 t266 t267 t268 A4 t270 t271 A5 t272 t273 A6 zz1_0 w8 gb269 w9 GW269 GE269 w11 w13 zz1_1 zz1_2 zz1_3 zz1_4 zz1_5 zz1_6 zz1_7 zz1_8 zz1_9 zz1_10 zz1_11 zz1_12 zz1_13 zz1_14 zz1_15 zz1_16 zz1_17 zz1_18 zz1_19 zz1_20 zz1_21 zz1_22 zz1_23 zz1_24 zz1_25 zz1_26 zz1_27 zz1_28 zz1_29 zz1_30 zz1_31 zz1_32 zz1_33 zz1_34 zz1_35 zz1_36 zz1_37 zz1_38 zz1_39 zz1_40 zz1_41 zz1_42 zz1_43 zz1_44 zz1_45 zz1_46 zz1_47 zz1_48 zz1_49 zz1_50 zz1_51 zz1_52 zz1_53 zz1_54 zz1_55 zz1_56 zz1_57 zz1_58 zz1_59 zz1_60 zz1_61 zz1_62 zz1_63 zz1_64 zz1_65 zz1_66 zz1_67 zz1_68 zz1_69 zz1_70 zz1_71 zz1_72 zz1_73 zz1_74 zz1_75 zz1_76 zz1_77 zz1_78 zz1_79 zz1_80 zz1_81 zz1_82 zz1_83 zz1_84 zz1_85 zz1_86 zz1_87 zz1_88 zz1_89 zz1_90 zz1_91 zz1_92 zz1_93 zz1_94 zz1_95 zz1_96 zz1_97 zz1_98 zz1_99 zz1_100 zz1_101 zz1_102 zz1_103 zz1_104 zz1_105 zz1_106 zz1_107 zz1_108 zz1_109 zz1_110 zz1_111 zz1_112 zz1_113 zz1_114 zz1_115 zz1_116 zz1_117 zz1_118 zz1_119 zz1_120 zz1_121 zz1_122 zz1_123 zz1_124 zz1_125 zz1_126 zz1_127 zz1_128 zz1_129 zz1_130 zz1_131 zz1_132 zz1_133 zz1_134 zz1_135 zz1_136 zz1_137 zz1_138 zz1_139 zz1_140 zz1_141 zz1_142 zz1_143 zz1_144 zz1_145 zz1_146 zz1_147 zz1_148 zz1_149 zz1_150 zz1_151 zz1_152 zz1_153 zz1_154 zz1_155 zz1_156 zz1_157 zz1_158 zz1_159 zz1_160 zz1_161 zz1_162 zz1_163 zz1_164 zz1_165 zz1_166 zz1_167 zz1_168 zz1_169 zz1_170 zz1_171 zz1_172 zz1_173 zz1_174 kj6 HJ6 zz1_175 zz1_176 wc u4 u10 u11 u12 u13 u14 u15 u16 u17 u18 u19 u20 u21 u22 u23 u24 u32 u33 u34 u35 u36 u37 u38 u39 u40 u41 u42 u43 u44 u45 u46 u47 u48 u49 u50 u51 u52 u53 u54 u55 u56 u57 u58 u59 u60 u61 u62 u63 u64 u65 u66 u67 u68 u69 u70 u71 u72 u73 u74 u75 u76 u77 u78 u79 u80 u81 u82 u83 u84 u85 u86 u87 u88 u89 u90 u91 u92 u93 u94 u95 u96 u97 u98 u99 u100 u101 u102 u103 u104 u105 u106 u107 u108 u109 u110 u111 u112 u113 u114 u115 u116 u117 u118 u119 u120 u121 u122 u123 u124 u125 u126 u127 u128 u129 u130 u131 u132 u133 u134 u135 u136 u137 u138 u139 u140 u141 u142 u143 u144 u145 u146 u147 u148 u149 u150 u151 u152 u153 u154 u155 u156 u157 u158 u159 u160 u161 u162 u163 u164 u165 u166 u167 u168 u169 u170 u171 u172 u173 u174 u175 u176 u177 u178 u179 u180 u181 u182 u183 u184 u185 u186 u187 u188 u189 u190 u191 u192 u193 u194 u195 u196 u197 u198 u199 u200 u201 kq HA HJ19 BK269 HB
            exact hT1.out
end Go.Proofs.Ytplcocljgoipkaa.PFnDays
