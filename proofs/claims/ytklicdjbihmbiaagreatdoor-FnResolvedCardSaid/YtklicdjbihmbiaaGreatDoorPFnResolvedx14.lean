-- Written by a program of this project (xprint.py) out of the translation; Lean checks it.
import Derived.Test.YtklicdjbihmbiaaGreatDoorPFnResolvedx0
import Derived.Test.YtklicdjbihmbiaaGreatDoorPFnResolvedx11
import Derived.Test.YtklicdjbihmbiaaGreatDoorPFnResolvedx12
import Derived.Test.YtklicdjbihmbiaaGreatDoorPFnResolvedx13
namespace Go.Proofs.YtklicdjbihmbiaaGreatDoor.PFnResolved
open Go.RowKit Go.Proofs.YtklicdjbihmbiaaGreatDoorW.PrintWords Go.Proofs.YtklicdjbihmbiaaGreatDoorW.PrintLast Go.Proofs.YtklicdjbihmbiaaGreatDoorW.PrintMore
attribute [local go_sem] max2_int min2_int max_two min_two max_three min_three max_four min_four   -- for this text's walks alone
set_option linter.unusedVariables false
set_option linter.unusedSimpArgs false

/-! ### spec_ResolveUrl: function 6 -/
mutual
def spec_ResolveUrl.j0 : Nat → ByteArray → Bool → ByteArray → ByteArray → Int → ByteArray → ByteArray → Bool → Option (ByteArray × ByteArray × Int × ByteArray × ByteArray × Bool × Bool)
 | 0, _, _, _, _, _, _, _, _ => none
 | k + 1, x1, x19, x385000, x385001, x385002, x385003, x385004, x385005 => if x19 = true then (some ((⟨#[]⟩ : ByteArray), (⟨#[]⟩ : ByteArray), 0, (⟨#[]⟩ : ByteArray), (⟨#[]⟩ : ByteArray), false, false)) else (if x1.toList = ([] : List UInt8) then (some (x385000, x385001, x385002, x385003, x385004, x385005, true)) else ((spec_l1Read.f k x1).bind fun bt387 => (if bt387.2.2.2.2.2.2 = true then (spec_ResolveUrl.j4 k bt387.2.2.2.2.2.2 bt387.1 bt387.2.1 bt387.2.2.1 bt387.2.2.2.1 bt387.2.2.2.2.1 bt387.2.2.2.2.2.1) else (if (x1.size : Int) > 1 then (if 0 ≤ 2 then (if 2 ≤ (x1.size : Int) then (spec_ResolveUrl.j1 k x1 ((x1.extract 0 2).toList == ([47, 47] : List UInt8)) x385000 x385001 x385002 x385003 x385004 x385005) else (none)) else (none)) else (spec_ResolveUrl.j1 k x1 false x385000 x385001 x385002 x385003 x385004 x385005)))))
def spec_ResolveUrl.j4 : Nat → Bool → ByteArray → ByteArray → Int → ByteArray → ByteArray → Bool → Option (ByteArray × ByteArray × Int × ByteArray × ByteArray × Bool × Bool)
 | 0, _, _, _, _, _, _, _ => none
 | k + 1, x7, x395000, x395001, x395002, x395003, x395004, x395005 => if x7 = true then ((spec_l1Dots.f k x395003).bind fun t405 => ((spec_GoodUrl.f k x395000 x395001 x395002 t405 x395004 x395005).bind fun t406 => (if t406 = true then (some (x395000, x395001, x395002, t405, x395004, x395005, true)) else (some ((⟨#[]⟩ : ByteArray), (⟨#[]⟩ : ByteArray), 0, (⟨#[]⟩ : ByteArray), (⟨#[]⟩ : ByteArray), false, false))))) else (some ((⟨#[]⟩ : ByteArray), (⟨#[]⟩ : ByteArray), 0, (⟨#[]⟩ : ByteArray), (⟨#[]⟩ : ByteArray), false, false))
def spec_ResolveUrl.j1 : Nat → ByteArray → Bool → ByteArray → ByteArray → Int → ByteArray → ByteArray → Bool → Option (ByteArray × ByteArray × Int × ByteArray × ByteArray × Bool × Bool)
 | 0, _, _, _, _, _, _, _, _ => none
 | k + 1, x1, x71, x385000, x385001, x385002, x385003, x385004, x385005 => if x71 = true then (if 2 ≤ (x1.size : Int) then ((spec_l1Authority.f k x385000 (x1.extract 2 x1.size)).bind fun bt395 => (spec_ResolveUrl.j4 k bt395.2.2.2.2.2.2 bt395.1 bt395.2.1 bt395.2.2.1 bt395.2.2.2.1 bt395.2.2.2.2.1 bt395.2.2.2.2.2.1)) else (none)) else ((spec_l1Cut.f k x1 63).bind fun bt402 => (if bt402.1.toList = ([] : List UInt8) then (spec_ResolveUrl.j2 k bt402.1 false x385000 x385001 x385002 x385003 x385004 x385005 x385000 x385001 x385002 x385003 bt402.2.1 bt402.2.2) else (if 0 < (bt402.1.size : Int) then (spec_ResolveUrl.j2 k bt402.1 ((bt bt402.1 0) == 47) x385000 x385001 x385002 x385003 x385004 x385005 x385000 x385001 x385002 x385003 bt402.2.1 bt402.2.2) else (none))))
def spec_ResolveUrl.j2 : Nat → ByteArray → Bool → ByteArray → ByteArray → Int → ByteArray → ByteArray → Bool → ByteArray → ByteArray → Int → ByteArray → ByteArray → Bool → Option (ByteArray × ByteArray × Int × ByteArray × ByteArray × Bool × Bool)
 | 0, _, _, _, _, _, _, _, _, _, _, _, _, _, _ => none
 | k + 1, x8, x46, x385000, x385001, x385002, x385003, x385004, x385005, x395000, x395001, x395002, x395003, x395004, x395005 => if x46 = true then (spec_ResolveUrl.j4 k true x395000 x395001 x395002 x8 x395004 x395005) else (if x8.toList = ([] : List UInt8) then (spec_ResolveUrl.j4 k true x395000 x395001 x395002 x395003 x395004 x395005) else (spec_ResolveUrl.l0 k x8 (x385003.size : Int) x385000 x385001 x385002 x385003 x385004 x385005 x395000 x395001 x395002 x395003 x395004 x395005))
def spec_ResolveUrl.l0 : Nat → ByteArray → Int → ByteArray → ByteArray → Int → ByteArray → ByteArray → Bool → ByteArray → ByteArray → Int → ByteArray → ByteArray → Bool → Option (ByteArray × ByteArray × Int × ByteArray × ByteArray × Bool × Bool)
 | 0, _, _, _, _, _, _, _, _, _, _, _, _, _, _ => none
 | k + 1, x8, x11, x385000, x385001, x385002, x385003, x385004, x385005, x395000, x395001, x395002, x395003, x395004, x395005 => if 0 ≤ (wrap64 (x11 - 1)) then (if (wrap64 (x11 - 1)) < (x385003.size : Int) then (if (bt x385003 (wrap64 (x11 - 1))) = 47 then (if 0 ≤ x11 then (if x11 ≤ (x385003.size : Int) then (if (x385003.extract 0 (x11 : Int).toNat).size + x8.size ≤ 9223372036854775807 then (spec_ResolveUrl.j4 k true x395000 x395001 x395002 ((x385003.extract 0 (x11 : Int).toNat) ++ x8) x395004 x395005) else (none)) else (none)) else (none)) else (spec_ResolveUrl.l0 k x8 (wrap64 (x11 - 1)) x385000 x385001 x385002 x385003 x385004 x385005 x395000 x395001 x395002 x395003 x395004 x395005)) else (none)) else (none)
end
def spec_ResolveUrl.f (k : Nat) (a0_0 : ByteArray) (a0_1 : ByteArray) (a0_2 : Int) (a0_3 : ByteArray) (a0_4 : ByteArray) (a0_5 : Bool) (a1 : ByteArray) : Option (ByteArray × ByteArray × Int × ByteArray × ByteArray × Bool × Bool) := (spec_GoodUrl.f k a0_0 a0_1 a0_2 a0_3 a0_4 a0_5).bind fun t386 => (if t386 = true then (spec_ResolveUrl.j0 k a1 (decide ((a1.size : Int) > 200)) a0_0 a0_1 a0_2 a0_3 a0_4 a0_5) else (spec_ResolveUrl.j0 k a1 true a0_0 a0_1 a0_2 a0_3 a0_4 a0_5))
theorem spec_ResolveUrl.mono_l : ∀ k, (∀ y0 y1 y2 y3 y4 y5 y6 y7, LeO (spec_ResolveUrl.j0 k y0 y1 y2 y3 y4 y5 y6 y7) (spec_ResolveUrl.j0 (k + 1) y0 y1 y2 y3 y4 y5 y6 y7)) ∧ (∀ y0 y1 y2 y3 y4 y5 y6, LeO (spec_ResolveUrl.j4 k y0 y1 y2 y3 y4 y5 y6) (spec_ResolveUrl.j4 (k + 1) y0 y1 y2 y3 y4 y5 y6)) ∧ (∀ y0 y1 y2 y3 y4 y5 y6 y7, LeO (spec_ResolveUrl.j1 k y0 y1 y2 y3 y4 y5 y6 y7) (spec_ResolveUrl.j1 (k + 1) y0 y1 y2 y3 y4 y5 y6 y7)) ∧ (∀ y0 y1 y2 y3 y4 y5 y6 y7 y8 y9 y10 y11 y12 y13, LeO (spec_ResolveUrl.j2 k y0 y1 y2 y3 y4 y5 y6 y7 y8 y9 y10 y11 y12 y13) (spec_ResolveUrl.j2 (k + 1) y0 y1 y2 y3 y4 y5 y6 y7 y8 y9 y10 y11 y12 y13)) ∧ (∀ y0 y1 y2 y3 y4 y5 y6 y7 y8 y9 y10 y11 y12 y13, LeO (spec_ResolveUrl.l0 k y0 y1 y2 y3 y4 y5 y6 y7 y8 y9 y10 y11 y12 y13) (spec_ResolveUrl.l0 (k + 1) y0 y1 y2 y3 y4 y5 y6 y7 y8 y9 y10 y11 y12 y13))
 | 0 => ⟨fun _ _ _ _ _ _ _ _ r h => by simp [spec_ResolveUrl.j0] at h, fun _ _ _ _ _ _ _ r h => by simp [spec_ResolveUrl.j4] at h, fun _ _ _ _ _ _ _ _ r h => by simp [spec_ResolveUrl.j1] at h, fun _ _ _ _ _ _ _ _ _ _ _ _ _ _ r h => by simp [spec_ResolveUrl.j2] at h, fun _ _ _ _ _ _ _ _ _ _ _ _ _ _ r h => by simp [spec_ResolveUrl.l0] at h⟩
 | k + 1 => by
  obtain ⟨ih0, ih1, ih2, ih3, ih4⟩ := spec_ResolveUrl.mono_l k
  refine ⟨?_, ?_, ?_, ?_, ?_⟩
  ·intro y0 y1 y2 y3 y4 y5 y6 y7
   unfold spec_ResolveUrl.j0
   repeat' first
   | (with_reducible exact ih0 _ _ _ _ _ _ _ _)
   | (with_reducible exact ih1 _ _ _ _ _ _ _)
   | (with_reducible exact ih2 _ _ _ _ _ _ _ _)
   | (with_reducible exact ih3 _ _ _ _ _ _ _ _ _ _ _ _ _ _)
   | (with_reducible exact ih4 _ _ _ _ _ _ _ _ _ _ _ _ _ _)
   | (with_reducible exact spec_GoodUrl.mono _ _ _ _ _ _ _)
   | (with_reducible exact spec_l1Authority.mono _ _ _)
   | (with_reducible exact spec_l1Cut.mono _ _ _)
   | (with_reducible exact spec_l1Dots.mono _ _)
   | (with_reducible exact spec_l1Read.mono _ _)
   | (with_reducible exact LeO.refl _)
   | (with_reducible exact LeO.none _)
   | (with_reducible refine LeO.ite ?_ ?_)
   | (with_reducible refine LeO.bind ?_ (fun _ => ?_))
   | exact ih0 _ _ _ _ _ _ _ _
   | exact ih1 _ _ _ _ _ _ _
   | exact ih2 _ _ _ _ _ _ _ _
   | exact ih3 _ _ _ _ _ _ _ _ _ _ _ _ _ _
   | exact ih4 _ _ _ _ _ _ _ _ _ _ _ _ _ _
   | exact spec_GoodUrl.mono _ _ _ _ _ _ _
   | exact spec_l1Authority.mono _ _ _
   | exact spec_l1Cut.mono _ _ _
   | exact spec_l1Dots.mono _ _
   | exact spec_l1Read.mono _ _
   | exact LeO.none _
   | refine LeO.ite ?_ ?_
   | refine LeO.bind ?_ (fun _ => ?_)
  ·intro y0 y1 y2 y3 y4 y5 y6
   unfold spec_ResolveUrl.j4
   repeat' first
   | (with_reducible exact ih0 _ _ _ _ _ _ _ _)
   | (with_reducible exact ih1 _ _ _ _ _ _ _)
   | (with_reducible exact ih2 _ _ _ _ _ _ _ _)
   | (with_reducible exact ih3 _ _ _ _ _ _ _ _ _ _ _ _ _ _)
   | (with_reducible exact ih4 _ _ _ _ _ _ _ _ _ _ _ _ _ _)
   | (with_reducible exact spec_GoodUrl.mono _ _ _ _ _ _ _)
   | (with_reducible exact spec_l1Authority.mono _ _ _)
   | (with_reducible exact spec_l1Cut.mono _ _ _)
   | (with_reducible exact spec_l1Dots.mono _ _)
   | (with_reducible exact spec_l1Read.mono _ _)
   | (with_reducible exact LeO.refl _)
   | (with_reducible exact LeO.none _)
   | (with_reducible refine LeO.ite ?_ ?_)
   | (with_reducible refine LeO.bind ?_ (fun _ => ?_))
   | exact ih0 _ _ _ _ _ _ _ _
   | exact ih1 _ _ _ _ _ _ _
   | exact ih2 _ _ _ _ _ _ _ _
   | exact ih3 _ _ _ _ _ _ _ _ _ _ _ _ _ _
   | exact ih4 _ _ _ _ _ _ _ _ _ _ _ _ _ _
   | exact spec_GoodUrl.mono _ _ _ _ _ _ _
   | exact spec_l1Authority.mono _ _ _
   | exact spec_l1Cut.mono _ _ _
   | exact spec_l1Dots.mono _ _
   | exact spec_l1Read.mono _ _
   | exact LeO.none _
   | refine LeO.ite ?_ ?_
   | refine LeO.bind ?_ (fun _ => ?_)
  ·intro y0 y1 y2 y3 y4 y5 y6 y7
   unfold spec_ResolveUrl.j1
   repeat' first
   | (with_reducible exact ih0 _ _ _ _ _ _ _ _)
   | (with_reducible exact ih1 _ _ _ _ _ _ _)
   | (with_reducible exact ih2 _ _ _ _ _ _ _ _)
   | (with_reducible exact ih3 _ _ _ _ _ _ _ _ _ _ _ _ _ _)
   | (with_reducible exact ih4 _ _ _ _ _ _ _ _ _ _ _ _ _ _)
   | (with_reducible exact spec_GoodUrl.mono _ _ _ _ _ _ _)
   | (with_reducible exact spec_l1Authority.mono _ _ _)
   | (with_reducible exact spec_l1Cut.mono _ _ _)
   | (with_reducible exact spec_l1Dots.mono _ _)
   | (with_reducible exact spec_l1Read.mono _ _)
   | (with_reducible exact LeO.refl _)
   | (with_reducible exact LeO.none _)
   | (with_reducible refine LeO.ite ?_ ?_)
   | (with_reducible refine LeO.bind ?_ (fun _ => ?_))
   | exact ih0 _ _ _ _ _ _ _ _
   | exact ih1 _ _ _ _ _ _ _
   | exact ih2 _ _ _ _ _ _ _ _
   | exact ih3 _ _ _ _ _ _ _ _ _ _ _ _ _ _
   | exact ih4 _ _ _ _ _ _ _ _ _ _ _ _ _ _
   | exact spec_GoodUrl.mono _ _ _ _ _ _ _
   | exact spec_l1Authority.mono _ _ _
   | exact spec_l1Cut.mono _ _ _
   | exact spec_l1Dots.mono _ _
   | exact spec_l1Read.mono _ _
   | exact LeO.none _
   | refine LeO.ite ?_ ?_
   | refine LeO.bind ?_ (fun _ => ?_)
  ·intro y0 y1 y2 y3 y4 y5 y6 y7 y8 y9 y10 y11 y12 y13
   unfold spec_ResolveUrl.j2
   repeat' first
   | (with_reducible exact ih0 _ _ _ _ _ _ _ _)
   | (with_reducible exact ih1 _ _ _ _ _ _ _)
   | (with_reducible exact ih2 _ _ _ _ _ _ _ _)
   | (with_reducible exact ih3 _ _ _ _ _ _ _ _ _ _ _ _ _ _)
   | (with_reducible exact ih4 _ _ _ _ _ _ _ _ _ _ _ _ _ _)
   | (with_reducible exact spec_GoodUrl.mono _ _ _ _ _ _ _)
   | (with_reducible exact spec_l1Authority.mono _ _ _)
   | (with_reducible exact spec_l1Cut.mono _ _ _)
   | (with_reducible exact spec_l1Dots.mono _ _)
   | (with_reducible exact spec_l1Read.mono _ _)
   | (with_reducible exact LeO.refl _)
   | (with_reducible exact LeO.none _)
   | (with_reducible refine LeO.ite ?_ ?_)
   | (with_reducible refine LeO.bind ?_ (fun _ => ?_))
   | exact ih0 _ _ _ _ _ _ _ _
   | exact ih1 _ _ _ _ _ _ _
   | exact ih2 _ _ _ _ _ _ _ _
   | exact ih3 _ _ _ _ _ _ _ _ _ _ _ _ _ _
   | exact ih4 _ _ _ _ _ _ _ _ _ _ _ _ _ _
   | exact spec_GoodUrl.mono _ _ _ _ _ _ _
   | exact spec_l1Authority.mono _ _ _
   | exact spec_l1Cut.mono _ _ _
   | exact spec_l1Dots.mono _ _
   | exact spec_l1Read.mono _ _
   | exact LeO.none _
   | refine LeO.ite ?_ ?_
   | refine LeO.bind ?_ (fun _ => ?_)
  ·intro y0 y1 y2 y3 y4 y5 y6 y7 y8 y9 y10 y11 y12 y13
   unfold spec_ResolveUrl.l0
   repeat' first
   | (with_reducible exact ih0 _ _ _ _ _ _ _ _)
   | (with_reducible exact ih1 _ _ _ _ _ _ _)
   | (with_reducible exact ih2 _ _ _ _ _ _ _ _)
   | (with_reducible exact ih3 _ _ _ _ _ _ _ _ _ _ _ _ _ _)
   | (with_reducible exact ih4 _ _ _ _ _ _ _ _ _ _ _ _ _ _)
   | (with_reducible exact spec_GoodUrl.mono _ _ _ _ _ _ _)
   | (with_reducible exact spec_l1Authority.mono _ _ _)
   | (with_reducible exact spec_l1Cut.mono _ _ _)
   | (with_reducible exact spec_l1Dots.mono _ _)
   | (with_reducible exact spec_l1Read.mono _ _)
   | (with_reducible exact LeO.refl _)
   | (with_reducible exact LeO.none _)
   | (with_reducible refine LeO.ite ?_ ?_)
   | (with_reducible refine LeO.bind ?_ (fun _ => ?_))
   | exact ih0 _ _ _ _ _ _ _ _
   | exact ih1 _ _ _ _ _ _ _
   | exact ih2 _ _ _ _ _ _ _ _
   | exact ih3 _ _ _ _ _ _ _ _ _ _ _ _ _ _
   | exact ih4 _ _ _ _ _ _ _ _ _ _ _ _ _ _
   | exact spec_GoodUrl.mono _ _ _ _ _ _ _
   | exact spec_l1Authority.mono _ _ _
   | exact spec_l1Cut.mono _ _ _
   | exact spec_l1Dots.mono _ _
   | exact spec_l1Read.mono _ _
   | exact LeO.none _
   | refine LeO.ite ?_ ?_
   | refine LeO.bind ?_ (fun _ => ?_)
theorem spec_ResolveUrl.mono : ∀ a0 a1 a2 a3 a4 a5 a6 k, LeO (spec_ResolveUrl.f k a0 a1 a2 a3 a4 a5 a6) (spec_ResolveUrl.f (k + 1) a0 a1 a2 a3 a4 a5 a6) := by
 intro a0 a1 a2 a3 a4 a5 a6 k
 obtain ⟨ih0, ih1, ih2, ih3, ih4⟩ := spec_ResolveUrl.mono_l k
 unfold spec_ResolveUrl.f
 repeat' first
   | (with_reducible exact ih0 _ _ _ _ _ _ _ _)
   | (with_reducible exact ih1 _ _ _ _ _ _ _)
   | (with_reducible exact ih2 _ _ _ _ _ _ _ _)
   | (with_reducible exact ih3 _ _ _ _ _ _ _ _ _ _ _ _ _ _)
   | (with_reducible exact ih4 _ _ _ _ _ _ _ _ _ _ _ _ _ _)
   | (with_reducible exact spec_GoodUrl.mono _ _ _ _ _ _ _)
   | (with_reducible exact spec_l1Authority.mono _ _ _)
   | (with_reducible exact spec_l1Cut.mono _ _ _)
   | (with_reducible exact spec_l1Dots.mono _ _)
   | (with_reducible exact spec_l1Read.mono _ _)
   | (with_reducible exact LeO.refl _)
   | (with_reducible exact LeO.none _)
   | (with_reducible refine LeO.ite ?_ ?_)
   | (with_reducible refine LeO.bind ?_ (fun _ => ?_))
   | exact ih0 _ _ _ _ _ _ _ _
   | exact ih1 _ _ _ _ _ _ _
   | exact ih2 _ _ _ _ _ _ _ _
   | exact ih3 _ _ _ _ _ _ _ _ _ _ _ _ _ _
   | exact ih4 _ _ _ _ _ _ _ _ _ _ _ _ _ _
   | exact spec_GoodUrl.mono _ _ _ _ _ _ _
   | exact spec_l1Authority.mono _ _ _
   | exact spec_l1Cut.mono _ _ _
   | exact spec_l1Dots.mono _ _
   | exact spec_l1Read.mono _ _
   | exact LeO.none _
   | refine LeO.ite ?_ ?_
   | refine LeO.bind ?_ (fun _ => ?_)
def spec_ResolveUrl.T20 : Bool × List (List Nat × List Nat) := (true, [([], []), ([0], [0]), ([], []), ([2], [2]), ([1, 3], [1, 3]), ([4], [4]), ([5], [5]), ([5], [5]), ([6, 4, 0, 1, 2, 3, 4, 5, 6], [6]), ([7, 8, 0, 1, 2, 3, 4, 5, 6, 7, 8], [7])])
def spec_ResolveUrl.B20 : List Nat := [0, 1, 0, 4, 15, 31, 63, 63, 127, 511]
theorem spec_ResolveUrl.tab20 : rtab .any (opsOf Tryz.f6 20) = spec_ResolveUrl.T20 := by kernel_rfl
theorem spec_ResolveUrl.bits20 : waitsOk spec_ResolveUrl.T20.2 spec_ResolveUrl.B20 = true := by kernel_rfl
set_option maxHeartbeats 8000000 in
set_option maxRecDepth 100000 in
theorem spec_ResolveUrl.calls (k : Nat) (a0_0 : ByteArray) (a0_1 : ByteArray) (a0_2 : Int) (a0_3 : ByteArray) (a0_4 : ByteArray) (a0_5 : Bool) (a1 : ByteArray) (r1 : ByteArray) (r2 : ByteArray) (r3 : Int) (r4 : ByteArray) (r5 : ByteArray) (r6 : Bool) (r7 : Bool) (w : World) (h : spec_ResolveUrl.f k a0_0 a0_1 a0_2 a0_3 a0_4 a0_5 a1 = some (r1, r2, r3, r4, r5, r6, r7)) :
  Calls Tryz.prog 6 #[.agg #[.string a0_0, .string a0_1, .int .i64 a0_2, .string a0_3, .string a0_4, .bool a0_5], .string a1] w fun e w' => e = .returned (.tuple #[.agg #[.string r1, .string r2, .int .i64 r3, .string r4, .string r5, .bool r6], .bool r7]) ∧ Below w.heap.size w w' := by
 have hu24 := Tryz.underlying24
 have HB := Aside0.mk (Below.refl w.heap.size w)
 have H : ((spec_GoodUrl.f k a0_0 a0_1 a0_2 a0_3 a0_4 a0_5).bind fun t386 => (if t386 = true then (spec_ResolveUrl.j0 k a1 (decide ((a1.size : Int) > 200)) a0_0 a0_1 a0_2 a0_3 a0_4 a0_5) else (spec_ResolveUrl.j0 k a1 true a0_0 a0_1 a0_2 a0_3 a0_4 a0_5))) = some (r1, r2, r3, r4, r5, r6, r7) := h
 clear h
 have HC3 := Aside0.mk H
 clear H
 go_enter Tryz.func6, Tryz.ntmps6
 go_upto_region 1 with (first | ((with_reducible refine gate_dst (N := 2) rfl ?_); (try (refine gate_guard (by rfl) ?_; dsimp only)); refine xbe_ (N := 2) (cs := #[.string a0_0, .string a0_1, .int .i64 a0_2, .string a0_3, .string a0_4, .bool a0_5]) (t := 24) ?_; intro gb384 hg w4 hbox hb; have BK384 := Aside0.mk (hbox); have GW384 := xge_ HB hg; have GE384 := xge_ HB hg; replace HB := xws_ HB hb; clear hb hbox hg) | ((with_reducible refine gate_dst (N := 4) rfl ?_); (try (refine gate_guard (by rfl) ?_; dsimp only)); refine xbe_ (N := 4) (cs := #[.string (⟨#[]⟩ : ByteArray), .string (⟨#[]⟩ : ByteArray), .int .i64 0, .string (⟨#[]⟩ : ByteArray), .string (⟨#[]⟩ : ByteArray), .bool false]) (t := 24) ?_; intro gb385 hg w5 hbox hb; have BK385 := Aside0.mk (hbox); have GW385 := xge_ HB hg; have GE385 := xge_ HB hg; replace HB := xws_ HB hb; have NB384_385 := xlt_ BK384 hg; have NB385_384 := xgt_ BK384 hg; replace BK384 := xbb_ BK384 hb; clear hb hbox hg))
 (try simp only [Act.put, List.setIfInBounds_toArray, List.set_cons_zero, List.set_cons_succ])
 go_cut [19] (fun v19 wc => ∃ (kq : Nat) (x19_2 : Bool), v19 = .bool x19_2 ∧ Aside0 (spec_ResolveUrl.j0 kq a1 x19_2 a0_0 a0_1 a0_2 a0_3 a0_4 a0_5 = some (r1, r2, r3, r4, r5, r6, r7)) ∧ Aside0 (kq ≤ k) ∧ Aside0 (wc.heap[gb384]? = some (.cells #[.string a0_0, .string a0_1, .int .i64 a0_2, .string a0_3, .string a0_4, .bool a0_5] 24 (0, 0))) ∧ Aside0 (wc.heap[gb385]? = some (.cells #[.string (⟨#[]⟩ : ByteArray), .string (⟨#[]⟩ : ByteArray), .int .i64 0, .string (⟨#[]⟩ : ByteArray), .string (⟨#[]⟩ : ByteArray), .bool false] 24 (0, 0))) ∧ Aside0 (Below w.heap.size w wc))
 case first =>
  have H := HC3.out
  clear HC3
  replace H := Option.bind_eq_some_iff.mp H
  obtain ⟨t386, A60, H⟩ := H
  replace H : (if t386 = true then (spec_ResolveUrl.j0 k a1 (decide ((a1.size : Int) > 200)) a0_0 a0_1 a0_2 a0_3 a0_4 a0_5) else (spec_ResolveUrl.j0 k a1 true a0_0 a0_1 a0_2 a0_3 a0_4 a0_5)) = some (r1, r2, r3, r4, r5, r6, r7) := H
  have A6 := Aside0.mk A60
  clear A60
  by_cases c7 : t386 = true
  ·subst c7
   have H1 : (spec_ResolveUrl.j0 k a1 (decide ((a1.size : Int) > 200)) a0_0 a0_1 a0_2 a0_3 a0_4 a0_5) = some (r1, r2, r3, r4, r5, r6, r7) := by rw [if_pos rfl] at H; exact H
   clear H
   have H := H1
   clear H1
   have H' := Aside0.mk H
   clear H
   have hnb8 := NB384_385.out
   have hnc8 := NB385_384.out
   have ⟨_, _, _, _, _, _, _, _, _, _, _, _⟩ := c6_ BK384
   go_wp2_with (first | ((with_reducible refine gate_callee (f := 16) rfl ?_); refine xgl_ (some 13) Tryz.func16 #[.agg #[.string a0_0, .string a0_1, .int .i64 a0_2, .string a0_3, .string a0_4, .bool a0_5]] ?_; (with_reducible refine (spec_GoodUrl.calls k a0_0 a0_1 a0_2 a0_3 a0_4 a0_5 true _ A6.out).mono ?_); rintro e w10 ⟨rfl, hb⟩; refine ⟨_, rfl, ?_⟩; replace BK384 := xbb_ BK384 hb; replace BK385 := xbb_ BK385 hb; replace HB := xws_ HB hb; (try clear hb); (try clear hb2); (try clear hk); (try clear hi)))
   go_meet
   case rel => exact ⟨_, (decide ((a1.size : Int) > 200)), (by first | rfl | (simp; done) | (simp [*]; done)), H', ⟨by first | omega | exact Nat.le_refl _⟩, ⟨xb_ BK384⟩, ⟨xb_ BK385⟩, ⟨xw_ HB⟩⟩
  ·replace c7 := Bool.eq_false_iff.mpr c7
   subst c7
   have H1 : (spec_ResolveUrl.j0 k a1 true a0_0 a0_1 a0_2 a0_3 a0_4 a0_5) = some (r1, r2, r3, r4, r5, r6, r7) := by rw [if_neg (show ¬ (false = true) by decide)] at H; exact H
   clear H
   have H := H1
   clear H1
   have H' := Aside0.mk H
   clear H
   have hnb11 := NB384_385.out
   have hnc11 := NB385_384.out
   have ⟨_, _, _, _, _, _, _, _, _, _, _, _⟩ := c6_ BK384
   go_wp2_with (first | ((with_reducible refine gate_callee (f := 16) rfl ?_); refine xgl_ (some 13) Tryz.func16 #[.agg #[.string a0_0, .string a0_1, .int .i64 a0_2, .string a0_3, .string a0_4, .bool a0_5]] ?_; (with_reducible refine (spec_GoodUrl.calls k a0_0 a0_1 a0_2 a0_3 a0_4 a0_5 false _ A6.out).mono ?_); rintro e w13 ⟨rfl, hb⟩; refine ⟨_, rfl, ?_⟩; replace BK384 := xbb_ BK384 hb; replace BK385 := xbb_ BK385 hb; replace HB := xws_ HB hb; (try clear hb); (try clear hb2); (try clear hk); (try clear hi)))
   go_meet
   case rel => exact ⟨_, (true), (by first | rfl | (simp; done) | (simp [*]; done)), H', ⟨by first | omega | exact Nat.le_refl _⟩, ⟨xb_ BK384⟩, ⟨xb_ BK385⟩, ⟨xw_ HB⟩⟩
 case rest =>
  clear HC3
  try clear c1
  try clear p2
  try clear c6
  try clear c7
  try clear c8
  try clear c11
  obtain ⟨kq, x19_2, rfl, HA, HJ2, BK384, BK385, HB⟩ := hcut
  cases kq with
  | zero => exact absurd HA.out (by simp [spec_ResolveUrl.j0])
  | succ kj2 =>
   have H := HA.out
   clear HA
   simp only [spec_ResolveUrl.j0] at H
   by_cases c14 : x19_2 = true
   ·subst c14
    have H1 : (some ((⟨#[]⟩ : ByteArray), (⟨#[]⟩ : ByteArray), 0, (⟨#[]⟩ : ByteArray), (⟨#[]⟩ : ByteArray), false, false)) = some (r1, r2, r3, r4, r5, r6, r7) := by rw [if_pos rfl] at H; exact H
    clear H
    have H := H1
    clear H1
    simp only [Option.some.injEq, Prod.mk.injEq] at H
    obtain ⟨rfl, rfl, rfl, rfl, rfl, rfl, rfl⟩ := H
    have hnb15 := NB385_384.out
    have hnc15 := NB384_385.out
    have ⟨_, _, _, _, _, _, _, _, _, _, _, _⟩ := c6_ BK385
    go_wp2
    refine bodyPost_ret (results_ct rfl _ _ gb385 24 #[.string (⟨#[]⟩ : ByteArray), .string (⟨#[]⟩ : ByteArray), .int .i64 0, .string (⟨#[]⟩ : ByteArray), .string (⟨#[]⟩ : ByteArray), .bool false] (0, 0) _ rfl (by (with_reducible repeat first | apply bN_ | apply bD_ | apply bA_); refine blk_put (cs := #[.string (⟨#[]⟩ : ByteArray), .string (⟨#[]⟩ : ByteArray), .int .i64 0, .string (⟨#[]⟩ : ByteArray), .string (⟨#[]⟩ : ByteArray), .bool false]) ?_ 5 _ rfl; (with_reducible repeat first | apply bN_ | apply bD_ | apply bA_); refine blk_put (cs := #[.string (⟨#[]⟩ : ByteArray), .string (⟨#[]⟩ : ByteArray), .int .i64 0, .string (⟨#[]⟩ : ByteArray), .string (⟨#[]⟩ : ByteArray), .bool false]) ?_ 4 _ rfl; (with_reducible repeat first | apply bN_ | apply bD_ | apply bA_); refine blk_put (cs := #[.string (⟨#[]⟩ : ByteArray), .string (⟨#[]⟩ : ByteArray), .int .i64 0, .string (⟨#[]⟩ : ByteArray), .string (⟨#[]⟩ : ByteArray), .bool false]) ?_ 3 _ rfl; (with_reducible repeat first | apply bN_ | apply bD_ | apply bA_); refine blk_put (cs := #[.string (⟨#[]⟩ : ByteArray), .string (⟨#[]⟩ : ByteArray), .int .i64 0, .string (⟨#[]⟩ : ByteArray), .string (⟨#[]⟩ : ByteArray), .bool false]) ?_ 2 _ rfl; (with_reducible repeat first | apply bN_ | apply bD_ | apply bA_); refine blk_put (cs := #[.string (⟨#[]⟩ : ByteArray), .string (⟨#[]⟩ : ByteArray), .int .i64 0, .string (⟨#[]⟩ : ByteArray), .string (⟨#[]⟩ : ByteArray), .bool false]) ?_ 1 _ rfl; (with_reducible repeat first | apply bN_ | apply bD_ | apply bA_); refine blk_put (cs := #[.string (⟨#[]⟩ : ByteArray), .string (⟨#[]⟩ : ByteArray), .int .i64 0, .string (⟨#[]⟩ : ByteArray), .string (⟨#[]⟩ : ByteArray), .bool false]) ?_ 0 _ rfl; (with_reducible repeat first | apply bN_ | apply bD_ | apply bA_); exact BK385.out) Tryz.underlying24 rfl (by kernel_rfl)) rfl ?_
    exact ⟨by first | rfl | (simp [errW_none, errW_some] <;> rfl) | (simp [*, errW_none, errW_some] <;> rfl), xw_ HB⟩
   ·replace c14 := Bool.eq_false_iff.mpr c14
    subst c14
    have H1 : (if a1.toList = ([] : List UInt8) then (some (a0_0, a0_1, a0_2, a0_3, a0_4, a0_5, true)) else ((spec_l1Read.f kj2 a1).bind fun bt387 => (if bt387.2.2.2.2.2.2 = true then (spec_ResolveUrl.j4 kj2 bt387.2.2.2.2.2.2 bt387.1 bt387.2.1 bt387.2.2.1 bt387.2.2.2.1 bt387.2.2.2.2.1 bt387.2.2.2.2.2.1) else (if (a1.size : Int) > 1 then (if 0 ≤ 2 then (if 2 ≤ (a1.size : Int) then (spec_ResolveUrl.j1 kj2 a1 ((a1.extract 0 2).toList == ([47, 47] : List UInt8)) a0_0 a0_1 a0_2 a0_3 a0_4 a0_5) else (none)) else (none)) else (spec_ResolveUrl.j1 kj2 a1 false a0_0 a0_1 a0_2 a0_3 a0_4 a0_5))))) = some (r1, r2, r3, r4, r5, r6, r7) := by rw [if_neg (show ¬ (false = true) by decide)] at H; exact H
    clear H
    have H := H1
    clear H1
    by_cases c17 : a1.toList = ([] : List UInt8)
    ·rw [if_pos c17] at H
     have c17b0 : (a1.toList == ([] : List UInt8)) = true := beq_iff_eq.mpr c17
     have c17b1 : (a1.toList != ([] : List UInt8)) = false := bne_eq_false_iff_eq.mpr c17
     clear c17
     simp only [Option.some.injEq, Prod.mk.injEq] at H
     obtain ⟨rfl, rfl, rfl, rfl, rfl, rfl, rfl⟩ := H
     have hnb18 := NB384_385.out
     have hnc18 := NB385_384.out
     have ⟨_, _, _, _, _, _, _, _, _, _, _, _⟩ := c6_ BK384
     have ⟨_, _, _, _, _, _, _, _, _, _, _, _⟩ := c6_ BK385
     go_wp2
     refine bodyPost_ret (results_ct rfl _ _ gb385 24 #[.string a0_0, .string a0_1, .int .i64 a0_2, .string a0_3, .string a0_4, .bool a0_5] (0, 0) _ rfl (by (with_reducible repeat first | apply bN_ | apply bD_ | apply bA_); refine blk_put (cs := #[.string a0_0, .string a0_1, .int .i64 a0_2, .string a0_3, .string a0_4, .bool false]) ?_ 5 _ rfl; (with_reducible repeat first | apply bN_ | apply bD_ | apply bA_); refine blk_put (cs := #[.string a0_0, .string a0_1, .int .i64 a0_2, .string a0_3, .string (⟨#[]⟩ : ByteArray), .bool false]) ?_ 4 _ rfl; (with_reducible repeat first | apply bN_ | apply bD_ | apply bA_); refine blk_put (cs := #[.string a0_0, .string a0_1, .int .i64 a0_2, .string (⟨#[]⟩ : ByteArray), .string (⟨#[]⟩ : ByteArray), .bool false]) ?_ 3 _ rfl; (with_reducible repeat first | apply bN_ | apply bD_ | apply bA_); refine blk_put (cs := #[.string a0_0, .string a0_1, .int .i64 0, .string (⟨#[]⟩ : ByteArray), .string (⟨#[]⟩ : ByteArray), .bool false]) ?_ 2 _ rfl; (with_reducible repeat first | apply bN_ | apply bD_ | apply bA_); refine blk_put (cs := #[.string a0_0, .string (⟨#[]⟩ : ByteArray), .int .i64 0, .string (⟨#[]⟩ : ByteArray), .string (⟨#[]⟩ : ByteArray), .bool false]) ?_ 1 _ rfl; (with_reducible repeat first | apply bN_ | apply bD_ | apply bA_); refine blk_put (cs := #[.string (⟨#[]⟩ : ByteArray), .string (⟨#[]⟩ : ByteArray), .int .i64 0, .string (⟨#[]⟩ : ByteArray), .string (⟨#[]⟩ : ByteArray), .bool false]) ?_ 0 _ rfl; (with_reducible repeat first | apply bN_ | apply bD_ | apply bA_); exact BK385.out) Tryz.underlying24 rfl (by kernel_rfl)) rfl ?_
     exact ⟨by first | rfl | (simp [errW_none, errW_some] <;> rfl) | (simp [*, errW_none, errW_some] <;> rfl), xw_ HB⟩
    ·rw [if_neg c17] at H
     have c17b0 : (a1.toList == ([] : List UInt8)) = false := beq_eq_false_iff_ne.mpr c17
     have c17b1 : (a1.toList != ([] : List UInt8)) = true := bne_iff_ne.mpr c17
     replace H := Option.bind_eq_some_iff.mp H
     obtain ⟨⟨t387, t388, t389, t390, t391, t392, t393⟩, A210, H⟩ := H
     replace H : (if t393 = true then (spec_ResolveUrl.j4 kj2 t393 t387 t388 t389 t390 t391 t392) else (if (a1.size : Int) > 1 then (if 0 ≤ 2 then (if 2 ≤ (a1.size : Int) then (spec_ResolveUrl.j1 kj2 a1 ((a1.extract 0 2).toList == ([47, 47] : List UInt8)) a0_0 a0_1 a0_2 a0_3 a0_4 a0_5) else (none)) else (none)) else (spec_ResolveUrl.j1 kj2 a1 false a0_0 a0_1 a0_2 a0_3 a0_4 a0_5))) = some (r1, r2, r3, r4, r5, r6, r7) := H
     have A21 := Aside0.mk A210
     clear A210
     have HC22 := Aside0.mk H
     clear H
     go_upto_block 0 with (first | ((with_reducible refine gate_callee (f := 17) rfl ?_); refine xgl_ (some 26) Tryz.func17 #[.string a1] ?_; (with_reducible refine (spec_l1Read.calls kj2 a1 t387 t388 t389 t390 t391 t392 t393 _ A21.out).mono ?_); rintro e w23 ⟨rfl, hb⟩; refine ⟨_, rfl, ?_⟩; replace BK384 := xbb_ BK384 hb; replace BK385 := xbb_ BK385 hb; replace HB := xws_ HB hb; (try clear hb); (try clear hb2); (try clear hk); (try clear hi)) | ((with_reducible refine gate_dst (N := 6) rfl ?_); (try (refine gate_guard (by rfl) ?_; dsimp only)); refine xbe_ (N := 6) (cs := #[.string (⟨#[]⟩ : ByteArray), .string (⟨#[]⟩ : ByteArray), .int .i64 0, .string (⟨#[]⟩ : ByteArray), .string (⟨#[]⟩ : ByteArray), .bool false]) (t := 24) ?_; intro gb394 hg w24 hbox hb; have BK394 := Aside0.mk (hbox); have GW394 := xge_ HB hg; have GE394 := xge_ HB hg; replace HB := xws_ HB hb; have NB384_394 := xlt_ BK384 hg; have NB394_384 := xgt_ BK384 hg; replace BK384 := xbb_ BK384 hb; have NB385_394 := xlt_ BK385 hg; have NB394_385 := xgt_ BK385 hg; replace BK385 := xbb_ BK385 hb; clear hb hbox hg; have hnb25 := NB394_384.out; have hnc25 := NB384_394.out; have hnb26 := NB394_385.out; have hnc26 := NB385_394.out; have ⟨_, _, _, _, _, _, _, _, _, _, _, _⟩ := c6_ BK394))
     (try simp only [Act.put, List.setIfInBounds_toArray, List.set_cons_zero, List.set_cons_succ])
     go_cut [7] (fun v7 wc => ∃ (kq : Nat) (x7_21 : Bool) (x395000_21 : ByteArray) (x395001_21 : ByteArray) (x395002_21 : Int) (x395003_21 : ByteArray) (x395004_21 : ByteArray) (x395005_21 : Bool), v7 = .bool x7_21 ∧ Aside0 (spec_ResolveUrl.j4 kq x7_21 x395000_21 x395001_21 x395002_21 x395003_21 x395004_21 x395005_21 = some (r1, r2, r3, r4, r5, r6, r7)) ∧ Aside0 (kq ≤ kj2) ∧ Aside0 (wc.heap[gb384]? = some (.cells #[.string a0_0, .string a0_1, .int .i64 a0_2, .string a0_3, .string a0_4, .bool a0_5] 24 (0, 0))) ∧ Aside0 (wc.heap[gb385]? = some (.cells #[.string (⟨#[]⟩ : ByteArray), .string (⟨#[]⟩ : ByteArray), .int .i64 0, .string (⟨#[]⟩ : ByteArray), .string (⟨#[]⟩ : ByteArray), .bool false] 24 (0, 0))) ∧ Aside0 (wc.heap[gb394]? = some (.cells #[.string x395000_21, .string x395001_21, .int .i64 x395002_21, .string x395003_21, .string x395004_21, .bool x395005_21] 24 (0, 0))) ∧ Aside0 (Below w.heap.size w wc))
     case first =>
      have H := HC22.out
      clear HC22
      by_cases c28 : t393 = true
      ·subst c28
       have H1 : (spec_ResolveUrl.j4 kj2 true t387 t388 t389 t390 t391 t392) = some (r1, r2, r3, r4, r5, r6, r7) := by rw [if_pos rfl] at H; exact H
       clear H
       have H := H1
       clear H1
       have H' := Aside0.mk H
       clear H
       go_wp2
       go_meet
       case rel => exact ⟨_, (true), (t387), (t388), (t389), (t390), (t391), (t392), (by first | rfl | (simp; done) | (simp [*]; done)), H', ⟨by have := HJ2.out; first | omega | exact Nat.le_refl _⟩, ⟨by (with_reducible repeat first | apply bN_ | apply bD_ | apply bA_ | refine blk_far ?_ NB384_394.out _); exact BK384.out⟩, ⟨by (with_reducible repeat first | apply bN_ | apply bD_ | apply bA_ | refine blk_far ?_ NB385_394.out _); exact BK385.out⟩, ⟨by (with_reducible repeat first | apply bN_ | apply bD_ | apply bA_); refine blk_put (cs := #[.string t387, .string t388, .int .i64 t389, .string t390, .string t391, .bool false]) ?_ 5 _ rfl; (with_reducible repeat first | apply bN_ | apply bD_ | apply bA_); refine blk_put (cs := #[.string t387, .string t388, .int .i64 t389, .string t390, .string (⟨#[]⟩ : ByteArray), .bool false]) ?_ 4 _ rfl; (with_reducible repeat first | apply bN_ | apply bD_ | apply bA_); refine blk_put (cs := #[.string t387, .string t388, .int .i64 t389, .string (⟨#[]⟩ : ByteArray), .string (⟨#[]⟩ : ByteArray), .bool false]) ?_ 3 _ rfl; (with_reducible repeat first | apply bN_ | apply bD_ | apply bA_); refine blk_put (cs := #[.string t387, .string t388, .int .i64 0, .string (⟨#[]⟩ : ByteArray), .string (⟨#[]⟩ : ByteArray), .bool false]) ?_ 2 _ rfl; (with_reducible repeat first | apply bN_ | apply bD_ | apply bA_); refine blk_put (cs := #[.string t387, .string (⟨#[]⟩ : ByteArray), .int .i64 0, .string (⟨#[]⟩ : ByteArray), .string (⟨#[]⟩ : ByteArray), .bool false]) ?_ 1 _ rfl; (with_reducible repeat first | apply bN_ | apply bD_ | apply bA_); refine blk_put (cs := #[.string (⟨#[]⟩ : ByteArray), .string (⟨#[]⟩ : ByteArray), .int .i64 0, .string (⟨#[]⟩ : ByteArray), .string (⟨#[]⟩ : ByteArray), .bool false]) ?_ 0 _ rfl; (with_reducible repeat first | apply bN_ | apply bD_ | apply bA_); exact BK394.out⟩, ⟨xw_ HB⟩⟩
      ·replace c28 := Bool.eq_false_iff.mpr c28
       subst c28
       have H1 : (if (a1.size : Int) > 1 then (if 0 ≤ 2 then (if 2 ≤ (a1.size : Int) then (spec_ResolveUrl.j1 kj2 a1 ((a1.extract 0 2).toList == ([47, 47] : List UInt8)) a0_0 a0_1 a0_2 a0_3 a0_4 a0_5) else (none)) else (none)) else (spec_ResolveUrl.j1 kj2 a1 false a0_0 a0_1 a0_2 a0_3 a0_4 a0_5)) = some (r1, r2, r3, r4, r5, r6, r7) := by rw [if_neg (show ¬ (false = true) by decide)] at H; exact H
       clear H
       have H := H1
       clear H1
       have HC29 := Aside0.mk H
       clear H
       go_upto_region 19 with (fail)
       go_cut [71] (fun v71 wc => ∃ (kq : Nat) (x71_28 : Bool), v71 = .bool x71_28 ∧ Aside0 (spec_ResolveUrl.j1 kq a1 x71_28 a0_0 a0_1 a0_2 a0_3 a0_4 a0_5 = some (r1, r2, r3, r4, r5, r6, r7)) ∧ Aside0 (kq ≤ kj2) ∧ Aside0 (wc.heap[gb384]? = some (.cells #[.string a0_0, .string a0_1, .int .i64 a0_2, .string a0_3, .string a0_4, .bool a0_5] 24 (0, 0))) ∧ Aside0 (wc.heap[gb385]? = some (.cells #[.string (⟨#[]⟩ : ByteArray), .string (⟨#[]⟩ : ByteArray), .int .i64 0, .string (⟨#[]⟩ : ByteArray), .string (⟨#[]⟩ : ByteArray), .bool false] 24 (0, 0))) ∧ Aside0 (wc.heap[gb394]? = some (.cells #[.string t387, .string t388, .int .i64 t389, .string t390, .string t391, .bool t392] 24 (0, 0))) ∧ Aside0 (Below w.heap.size w wc))
       case first =>
        have H := HC29.out
        clear HC29
        by_cases c30 : (a1.size : Int) > 1
        ·rw [if_pos c30] at H
         have c30b0 : decide (1 < (a1.size : Int)) = true := decide_eq_true c30
         have c30b1 : decide (1 < a1.size) = true := decide_eq_true (by omega)
         clear c30
         (first | rw [c30b0] | (simp only [i64_w, i32_w]; rw [c30b0]) | skip)
         by_cases c31 : 0 ≤ 2
         ·rw [if_pos c31] at H
          have c31b0 := eq_true c31
          have c31b1 : decide (0 ≤ 2) = true := decide_eq_true c31
          clear c31
          by_cases c32 : 2 ≤ (a1.size : Int)
          ·rw [if_pos c32] at H
           have c32b0 := eq_true c32
           have c32b1 : decide (2 ≤ (a1.size : Int)) = true := decide_eq_true c32
           clear c32
           have H' := Aside0.mk H
           clear H
           go_wp2
           go_meet
           case rel => exact ⟨_, (((a1.extract 0 2).toList == ([47, 47] : List UInt8))), (by first | rfl | (simp; done) | (simp [*]; done)), H', ⟨by have := HJ2.out; first | omega | exact Nat.le_refl _⟩, ⟨by (with_reducible repeat first | apply bN_ | apply bD_ | apply bA_ | refine blk_far ?_ NB384_394.out _); exact BK384.out⟩, ⟨by (with_reducible repeat first | apply bN_ | apply bD_ | apply bA_ | refine blk_far ?_ NB385_394.out _); exact BK385.out⟩, ⟨by (with_reducible repeat first | apply bN_ | apply bD_ | apply bA_); refine blk_put (cs := #[.string t387, .string t388, .int .i64 t389, .string t390, .string t391, .bool false]) ?_ 5 _ rfl; (with_reducible repeat first | apply bN_ | apply bD_ | apply bA_); refine blk_put (cs := #[.string t387, .string t388, .int .i64 t389, .string t390, .string (⟨#[]⟩ : ByteArray), .bool false]) ?_ 4 _ rfl; (with_reducible repeat first | apply bN_ | apply bD_ | apply bA_); refine blk_put (cs := #[.string t387, .string t388, .int .i64 t389, .string (⟨#[]⟩ : ByteArray), .string (⟨#[]⟩ : ByteArray), .bool false]) ?_ 3 _ rfl; (with_reducible repeat first | apply bN_ | apply bD_ | apply bA_); refine blk_put (cs := #[.string t387, .string t388, .int .i64 0, .string (⟨#[]⟩ : ByteArray), .string (⟨#[]⟩ : ByteArray), .bool false]) ?_ 2 _ rfl; (with_reducible repeat first | apply bN_ | apply bD_ | apply bA_); refine blk_put (cs := #[.string t387, .string (⟨#[]⟩ : ByteArray), .int .i64 0, .string (⟨#[]⟩ : ByteArray), .string (⟨#[]⟩ : ByteArray), .bool false]) ?_ 1 _ rfl; (with_reducible repeat first | apply bN_ | apply bD_ | apply bA_); refine blk_put (cs := #[.string (⟨#[]⟩ : ByteArray), .string (⟨#[]⟩ : ByteArray), .int .i64 0, .string (⟨#[]⟩ : ByteArray), .string (⟨#[]⟩ : ByteArray), .bool false]) ?_ 0 _ rfl; (with_reducible repeat first | apply bN_ | apply bD_ | apply bA_); exact BK394.out⟩, ⟨xw_ HB⟩⟩
          ·rw [if_neg c32] at H
           exact absurd H (by simp)
         ·rw [if_neg c31] at H
          exact absurd H (by simp)
        ·rw [if_neg c30] at H
         have c30b0 : decide (1 < (a1.size : Int)) = false := decide_eq_false c30
         have c30b1 : decide (1 < a1.size) = false := decide_eq_false (by omega)
         clear c30
         (first | rw [c30b0] | (simp only [i64_w, i32_w]; rw [c30b0]) | skip)
         have H' := Aside0.mk H
         clear H
         go_wp2
         go_meet
         case rel => exact ⟨_, (false), (by first | rfl | (simp; done) | (simp [*]; done)), H', ⟨by have := HJ2.out; first | omega | exact Nat.le_refl _⟩, ⟨by (with_reducible repeat first | apply bN_ | apply bD_ | apply bA_ | refine blk_far ?_ NB384_394.out _); exact BK384.out⟩, ⟨by (with_reducible repeat first | apply bN_ | apply bD_ | apply bA_ | refine blk_far ?_ NB385_394.out _); exact BK385.out⟩, ⟨by (with_reducible repeat first | apply bN_ | apply bD_ | apply bA_); refine blk_put (cs := #[.string t387, .string t388, .int .i64 t389, .string t390, .string t391, .bool false]) ?_ 5 _ rfl; (with_reducible repeat first | apply bN_ | apply bD_ | apply bA_); refine blk_put (cs := #[.string t387, .string t388, .int .i64 t389, .string t390, .string (⟨#[]⟩ : ByteArray), .bool false]) ?_ 4 _ rfl; (with_reducible repeat first | apply bN_ | apply bD_ | apply bA_); refine blk_put (cs := #[.string t387, .string t388, .int .i64 t389, .string (⟨#[]⟩ : ByteArray), .string (⟨#[]⟩ : ByteArray), .bool false]) ?_ 3 _ rfl; (with_reducible repeat first | apply bN_ | apply bD_ | apply bA_); refine blk_put (cs := #[.string t387, .string t388, .int .i64 0, .string (⟨#[]⟩ : ByteArray), .string (⟨#[]⟩ : ByteArray), .bool false]) ?_ 2 _ rfl; (with_reducible repeat first | apply bN_ | apply bD_ | apply bA_); refine blk_put (cs := #[.string t387, .string (⟨#[]⟩ : ByteArray), .int .i64 0, .string (⟨#[]⟩ : ByteArray), .string (⟨#[]⟩ : ByteArray), .bool false]) ?_ 1 _ rfl; (with_reducible repeat first | apply bN_ | apply bD_ | apply bA_); refine blk_put (cs := #[.string (⟨#[]⟩ : ByteArray), .string (⟨#[]⟩ : ByteArray), .int .i64 0, .string (⟨#[]⟩ : ByteArray), .string (⟨#[]⟩ : ByteArray), .bool false]) ?_ 0 _ rfl; (with_reducible repeat first | apply bN_ | apply bD_ | apply bA_); exact BK394.out⟩, ⟨xw_ HB⟩⟩
       case rest =>
        clear HC29
        try clear c1
        try clear c2
        try clear p2
        try clear c3
        try clear c6
        try clear c7
        try clear c8
        try clear c11
        try clear c14
        try clear c15
        try clear c16
        try clear c17
        try clear c17b0
        try clear c17b1
        try clear c18
        try clear c25
        try clear c26
        try clear c28
        try clear c30
        try clear c30b0
        try clear c30b1
        try clear c31
        try clear c31b0
        try clear c31b1
        try clear c32
        try clear c32b0
        try clear c32b1
        try clear p2
        obtain ⟨kq, x71_28, rfl, HA, HJ28, BK384, BK385, BK394, HB⟩ := hcut
        cases kq with
        | zero => exact absurd HA.out (by simp [spec_ResolveUrl.j1])
        | succ kj28 =>
         have H := HA.out
         clear HA
         simp only [spec_ResolveUrl.j1] at H
         by_cases c33 : x71_28 = true
         ·subst c33
          have H1 : (if 2 ≤ (a1.size : Int) then ((spec_l1Authority.f kj28 a0_0 (a1.extract 2 a1.size)).bind fun bt395 => (spec_ResolveUrl.j4 kj28 bt395.2.2.2.2.2.2 bt395.1 bt395.2.1 bt395.2.2.1 bt395.2.2.2.1 bt395.2.2.2.2.1 bt395.2.2.2.2.2.1)) else (none)) = some (r1, r2, r3, r4, r5, r6, r7) := by rw [if_pos rfl] at H; exact H
          clear H
          have H := H1
          clear H1
          by_cases c34 : 2 ≤ (a1.size : Int)
          ·rw [if_pos c34] at H
           have c34b0 := eq_true c34
           have c34b1 : decide (2 ≤ (a1.size : Int)) = true := decide_eq_true c34
           clear c34
           replace H := Option.bind_eq_some_iff.mp H
           obtain ⟨⟨t395, t396, t397, t398, t399, t400, t401⟩, A350, H⟩ := H
           replace H : (spec_ResolveUrl.j4 kj28 t401 t395 t396 t397 t398 t399 t400) = some (r1, r2, r3, r4, r5, r6, r7) := H
           have A35 := Aside0.mk A350
           clear A350
           have H' := Aside0.mk H
           clear H
           try go_wp2
           replace BK384 := Aside0.mk (blk_drew BK384.out)
           replace BK385 := Aside0.mk (blk_drew BK385.out)
           replace BK394 := Aside0.mk (blk_drew BK394.out)
           replace HB := Aside0.mk (below_drew1 HB.out)
           refine start_ (n := 10) (S := fun w' => w'.cell? ⟨gb384, 0, none⟩ = some (.string a0_0) ∧ w'.cell? ⟨gb384, 1, none⟩ = some (.string a0_1) ∧ w'.cell? ⟨gb384, 2, none⟩ = some (.int .i64 a0_2) ∧ w'.cell? ⟨gb384, 3, none⟩ = some (.string a0_3) ∧ w'.cell? ⟨gb384, 4, none⟩ = some (.string a0_4) ∧ w'.cell? ⟨gb384, 5, none⟩ = some (.bool a0_5)) (ds := []) #[false, false, false, false, false, false, false, false, false, false] (by kernel_rfl) rfl rfl ⟨xk_ BK384 0, xk_ BK384 1, xk_ BK384 2, xk_ BK384 3, xk_ BK384 4, xk_ BK384 5⟩ (fun hHeld => ?_); refine with_tabW spec_ResolveUrl.tab20 spec_ResolveUrl.bits20 (fun HT_ HW_ => ?_)
           generalize wc.drew = w36 at BK384 BK385 BK394 HB hHeld ⊢
           refine pure_ (i := 0) (N := some 81) (v := ?_) (a' := ?_) #[true, false, false, false, false, false, false, false, false, false] rfl rfl (any_of HT_.out (by kernel_rfl)) (fun _ _ _ h => h) (Or.inl ⟨by rfl, ?_⟩) ?_ ?_
           rotate_left
           ·intro w'
            go_simp
            with_reducible rfl
           rotate_left
           ·simp only [Act.put, List.setIfInBounds_toArray, List.set_cons_zero, List.set_cons_succ, i64_w, i32_w]
            rfl
           refine pure_ (i := 2) (N := some 83) (v := ?_) (a' := ?_) #[true, false, true, false, false, false, false, false, false, false] rfl rfl (any_of HT_.out (by kernel_rfl)) (fun _ _ _ h => h) (Or.inl ⟨by rfl, ?_⟩) ?_ ?_
           rotate_left
           ·intro w'
            go_simp
            with_reducible rfl
           rotate_left
           ·simp only [Act.put, List.setIfInBounds_toArray, List.set_cons_zero, List.set_cons_succ, i64_w, i32_w]
            rfl
           refine pure_ (i := 3) (N := some 84) (v := ?_) (a' := ?_) #[true, false, true, true, false, false, false, false, false, false] rfl rfl (any_of HT_.out (by kernel_rfl)) (fun _ _ _ h => h) (Or.inl ⟨by rfl, ?_⟩) ?_ ?_
           rotate_left
           ·intro w'
            go_simp
            with_reducible rfl
           rotate_left
           ·simp only [Act.put, List.setIfInBounds_toArray, List.set_cons_zero, List.set_cons_succ, i64_w, i32_w]
            rfl
           refine take_ (i := 1) (N := some 82) (v := ?_) (a' := ?_) #[true, true, true, true, false, false, false, false, false, false] rfl rfl (take_ofW HT_.out HW_.out (by kernel_rfl)) (fun _ _ _ h => h) (Or.inl ⟨by rfl, ?_⟩) hHeld ?_ ?_
           rotate_left
           ·rintro w' ⟨s0, s1, s2, s3, s4, s5⟩
            go_simp
            with_reducible rfl
           rotate_left
           ·simp only [Act.put, List.setIfInBounds_toArray, List.set_cons_zero, List.set_cons_succ, i64_w, i32_w]
            rfl
           refine one_ (i := 4) (N := some 85) #[true, true, true, true, true, false, false, false, false, false] rfl rfl (one_of HT_.out (by kernel_rfl)) (by decide) (fun K hK => ?_)
           refine xgo_ Tryz.func18 #[.string a0_0, .string (a1.extract 2 a1.size)] ?_
           with_reducible refine (spec_l1Authority.calls kj28 a0_0 (a1.extract 2 a1.size) t395 t396 t397 t398 t399 t400 t401 _ A35.out).mono ?_
           rintro e w37 ⟨rfl, hb⟩
           refine ⟨_, rfl, ?_⟩
           replace BK384 := xbb_ BK384 hb
           replace BK385 := xbb_ BK385 hb
           replace BK394 := xbb_ BK394 hb
           replace HB := xws_ HB hb
           (try clear hb)
           (try clear hb2)
           (try clear hk)
           (try clear hi)
           refine hK.out _ _ ⟨xk_ BK384 0, xk_ BK384 1, xk_ BK384 2, xk_ BK384 3, xk_ BK384 4, xk_ BK384 5⟩ (fun hHeld => ?_)
           clear hK K
           refine norm_ (a' := ?_) ?_ ?_
           rotate_left
           ·show Act.put _ (some 85) _ = _
            simp only [Act.put, List.setIfInBounds_toArray, List.set_cons_zero, List.set_cons_succ, i64_w, i32_w]
            rfl
           refine pure_ (i := 5) (N := some 80) (v := ?_) (a' := ?_) #[true, true, true, true, true, true, false, false, false, false] rfl rfl (any_of HT_.out (by kernel_rfl)) (fun _ _ _ h => h) (Or.inl ⟨by rfl, ?_⟩) ?_ ?_
           rotate_left
           ·intro w'
            go_simp
            with_reducible rfl
           rotate_left
           ·simp only [Act.put, List.setIfInBounds_toArray, List.set_cons_zero, List.set_cons_succ, i64_w, i32_w]
            rfl
           refine pure_ (i := 6) (N := some 86) (v := ?_) (a' := ?_) #[true, true, true, true, true, true, true, false, false, false] rfl rfl (any_of HT_.out (by kernel_rfl)) (fun _ _ _ h => h) (Or.inl ⟨by rfl, ?_⟩) ?_ ?_
           rotate_left
           ·intro w'
            go_simp
            with_reducible rfl
           rotate_left
           ·simp only [Act.put, List.setIfInBounds_toArray, List.set_cons_zero, List.set_cons_succ, i64_w, i32_w]
            rfl
           refine pure_ (i := 7) (N := some 87) (v := ?_) (a' := ?_) #[true, true, true, true, true, true, true, true, false, false] rfl rfl (any_of HT_.out (by kernel_rfl)) (fun _ _ _ h => h) (Or.inl ⟨by rfl, ?_⟩) ?_ ?_
           rotate_left
           ·intro w'
            go_simp
            with_reducible rfl
           rotate_left
           ·simp only [Act.put, List.setIfInBounds_toArray, List.set_cons_zero, List.set_cons_succ, i64_w, i32_w]
            rfl
           refine one_ (i := 8) (N := none) #[true, true, true, true, true, true, true, true, true, false] rfl rfl (one_of HT_.out (by kernel_rfl)) (by decide) (fun K hK => ?_)
           have hs38 : w37.cell? ⟨gb394, 0, none⟩ = some (.string t387) := xk_ BK394 0
           have hfs38 := blk_frozen BK394.out 0
           have hns38_0 := NB384_394.out
           have hns38_1 := NB385_394.out
           have hms38_0 := NB394_384.out
           have hms38_1 := NB394_385.out
           have hs39 : w37.cell? ⟨gb394, 1, none⟩ = some (.string t388) := xk_ BK394 1
           have hfs39 := blk_frozen BK394.out 1
           have hns39_0 := NB384_394.out
           have hns39_1 := NB385_394.out
           have hms39_0 := NB394_384.out
           have hms39_1 := NB394_385.out
           have hs40 : w37.cell? ⟨gb394, 2, none⟩ = some (.int .i64 t389) := xk_ BK394 2
           have hfs40 := blk_frozen BK394.out 2
           have hns40_0 := NB384_394.out
           have hns40_1 := NB385_394.out
           have hms40_0 := NB394_384.out
           have hms40_1 := NB394_385.out
           have hs41 : w37.cell? ⟨gb394, 3, none⟩ = some (.string t390) := xk_ BK394 3
           have hfs41 := blk_frozen BK394.out 3
           have hns41_0 := NB384_394.out
           have hns41_1 := NB385_394.out
           have hms41_0 := NB394_384.out
           have hms41_1 := NB394_385.out
           have hs42 : w37.cell? ⟨gb394, 4, none⟩ = some (.string t391) := xk_ BK394 4
           have hfs42 := blk_frozen BK394.out 4
           have hns42_0 := NB384_394.out
           have hns42_1 := NB385_394.out
           have hms42_0 := NB394_384.out
           have hms42_1 := NB394_385.out
           have hs43 : w37.cell? ⟨gb394, 5, none⟩ = some (.bool t392) := xk_ BK394 5
           have hfs43 := blk_frozen BK394.out 5
           have hns43_0 := NB384_394.out
           have hns43_1 := NB385_394.out
           have hms43_0 := NB394_384.out
           have hms43_1 := NB394_385.out
           refine skip_ (w1 := ?_) (by rfl) rfl ?_ ?_
           rotate_left
           ·go_simp
            rfl
           refine hK.out _ _ ⟨((cell_far (p := ⟨gb394, _, none⟩) NB384_394.out _).trans (((cell_far (p := ⟨gb394, _, none⟩) NB384_394.out _).trans (((cell_far (p := ⟨gb394, _, none⟩) NB384_394.out _).trans (((cell_far (p := ⟨gb394, _, none⟩) NB384_394.out _).trans (((cell_far (p := ⟨gb394, _, none⟩) NB384_394.out _).trans (((cell_far (p := ⟨gb394, _, none⟩) NB384_394.out _).trans (hHeld.1)))))))))))), ((cell_far (p := ⟨gb394, _, none⟩) NB384_394.out _).trans (((cell_far (p := ⟨gb394, _, none⟩) NB384_394.out _).trans (((cell_far (p := ⟨gb394, _, none⟩) NB384_394.out _).trans (((cell_far (p := ⟨gb394, _, none⟩) NB384_394.out _).trans (((cell_far (p := ⟨gb394, _, none⟩) NB384_394.out _).trans (((cell_far (p := ⟨gb394, _, none⟩) NB384_394.out _).trans (hHeld.2.1)))))))))))), ((cell_far (p := ⟨gb394, _, none⟩) NB384_394.out _).trans (((cell_far (p := ⟨gb394, _, none⟩) NB384_394.out _).trans (((cell_far (p := ⟨gb394, _, none⟩) NB384_394.out _).trans (((cell_far (p := ⟨gb394, _, none⟩) NB384_394.out _).trans (((cell_far (p := ⟨gb394, _, none⟩) NB384_394.out _).trans (((cell_far (p := ⟨gb394, _, none⟩) NB384_394.out _).trans (hHeld.2.2.1)))))))))))), ((cell_far (p := ⟨gb394, _, none⟩) NB384_394.out _).trans (((cell_far (p := ⟨gb394, _, none⟩) NB384_394.out _).trans (((cell_far (p := ⟨gb394, _, none⟩) NB384_394.out _).trans (((cell_far (p := ⟨gb394, _, none⟩) NB384_394.out _).trans (((cell_far (p := ⟨gb394, _, none⟩) NB384_394.out _).trans (((cell_far (p := ⟨gb394, _, none⟩) NB384_394.out _).trans (hHeld.2.2.2.1)))))))))))), ((cell_far (p := ⟨gb394, _, none⟩) NB384_394.out _).trans (((cell_far (p := ⟨gb394, _, none⟩) NB384_394.out _).trans (((cell_far (p := ⟨gb394, _, none⟩) NB384_394.out _).trans (((cell_far (p := ⟨gb394, _, none⟩) NB384_394.out _).trans (((cell_far (p := ⟨gb394, _, none⟩) NB384_394.out _).trans (((cell_far (p := ⟨gb394, _, none⟩) NB384_394.out _).trans (hHeld.2.2.2.2.1)))))))))))), ((cell_far (p := ⟨gb394, _, none⟩) NB384_394.out _).trans (((cell_far (p := ⟨gb394, _, none⟩) NB384_394.out _).trans (((cell_far (p := ⟨gb394, _, none⟩) NB384_394.out _).trans (((cell_far (p := ⟨gb394, _, none⟩) NB384_394.out _).trans (((cell_far (p := ⟨gb394, _, none⟩) NB384_394.out _).trans (((cell_far (p := ⟨gb394, _, none⟩) NB384_394.out _).trans (hHeld.2.2.2.2.2))))))))))))⟩ (fun hHeld => ?_)
           clear hK K
           refine pure_ (i := 9) (N := some 7) (v := ?_) (a' := ?_) #[true, true, true, true, true, true, true, true, true, true] rfl rfl (any_of HT_.out (by kernel_rfl)) (fun _ _ _ h => h) (Or.inl ⟨by rfl, ?_⟩) ?_ ?_
           rotate_left
           ·intro w'
            go_simp
            with_reducible rfl
           rotate_left
           ·simp only [Act.put, List.setIfInBounds_toArray, List.set_cons_zero, List.set_cons_succ, i64_w, i32_w]
            rfl
           refine done_ (done_of HT_.out (by kernel_rfl)) ?_
           try go_wp2
           go_meet
           case rel => exact ⟨_, (t401), (t395), (t396), (t397), (t398), (t399), (t400), (by first | rfl | (simp; done) | (simp [*]; done)), H', ⟨by have := HJ2.out; have := HJ28.out; first | omega | exact Nat.le_refl _⟩, ⟨by (with_reducible repeat first | apply bN_ | apply bD_ | apply bA_ | refine blk_far ?_ NB384_394.out _); exact BK384.out⟩, ⟨by (with_reducible repeat first | apply bN_ | apply bD_ | apply bA_ | refine blk_far ?_ NB385_394.out _); exact BK385.out⟩, ⟨by (with_reducible repeat first | apply bN_ | apply bD_ | apply bA_); refine blk_put (cs := #[.string t395, .string t396, .int .i64 t397, .string t398, .string t399, .bool t392]) ?_ 5 _ rfl; (with_reducible repeat first | apply bN_ | apply bD_ | apply bA_); refine blk_put (cs := #[.string t395, .string t396, .int .i64 t397, .string t398, .string t391, .bool t392]) ?_ 4 _ rfl; (with_reducible repeat first | apply bN_ | apply bD_ | apply bA_); refine blk_put (cs := #[.string t395, .string t396, .int .i64 t397, .string t390, .string t391, .bool t392]) ?_ 3 _ rfl; (with_reducible repeat first | apply bN_ | apply bD_ | apply bA_); refine blk_put (cs := #[.string t395, .string t396, .int .i64 t389, .string t390, .string t391, .bool t392]) ?_ 2 _ rfl; (with_reducible repeat first | apply bN_ | apply bD_ | apply bA_); refine blk_put (cs := #[.string t395, .string t388, .int .i64 t389, .string t390, .string t391, .bool t392]) ?_ 1 _ rfl; (with_reducible repeat first | apply bN_ | apply bD_ | apply bA_); refine blk_put (cs := #[.string t387, .string t388, .int .i64 t389, .string t390, .string t391, .bool t392]) ?_ 0 _ rfl; (with_reducible repeat first | apply bN_ | apply bD_ | apply bA_); exact BK394.out⟩, ⟨xw_ HB⟩⟩
          ·rw [if_neg c34] at H
           exact absurd H (by simp)
         ·replace c33 := Bool.eq_false_iff.mpr c33
          subst c33
          have H1 : ((spec_l1Cut.f kj28 a1 63).bind fun bt402 => (if bt402.1.toList = ([] : List UInt8) then (spec_ResolveUrl.j2 kj28 bt402.1 false a0_0 a0_1 a0_2 a0_3 a0_4 a0_5 a0_0 a0_1 a0_2 a0_3 bt402.2.1 bt402.2.2) else (if 0 < (bt402.1.size : Int) then (spec_ResolveUrl.j2 kj28 bt402.1 ((bt bt402.1 0) == 47) a0_0 a0_1 a0_2 a0_3 a0_4 a0_5 a0_0 a0_1 a0_2 a0_3 bt402.2.1 bt402.2.2) else (none)))) = some (r1, r2, r3, r4, r5, r6, r7) := by rw [if_neg (show ¬ (false = true) by decide)] at H; exact H
          clear H
          have H := H1
          clear H1
          replace H := Option.bind_eq_some_iff.mp H
          obtain ⟨⟨t402, t403, t404⟩, A440, H⟩ := H
          replace H : (if t402.toList = ([] : List UInt8) then (spec_ResolveUrl.j2 kj28 t402 false a0_0 a0_1 a0_2 a0_3 a0_4 a0_5 a0_0 a0_1 a0_2 a0_3 t403 t404) else (if 0 < (t402.size : Int) then (spec_ResolveUrl.j2 kj28 t402 ((bt t402 0) == 47) a0_0 a0_1 a0_2 a0_3 a0_4 a0_5 a0_0 a0_1 a0_2 a0_3 t403 t404) else (none))) = some (r1, r2, r3, r4, r5, r6, r7) := H
          have A44 := Aside0.mk A440
          clear A440
          have HC45 := Aside0.mk H
          clear H
          have hnb46 := NB384_385.out
          have hnc46 := NB385_384.out
          have hnb47 := NB384_394.out
          have hnc47 := NB394_384.out
          have ⟨_, _, _, _, _, _, _, _, _, _, _, _⟩ := c6_ BK384
          have hnb49 := NB394_385.out
          have hnc49 := NB385_394.out
          have ⟨_, _, _, _, _, _, _, _, _, _, _, _⟩ := c6_ BK394
          go_upto_region 10 with (first | ((with_reducible refine gate_callee (f := 19) rfl ?_); refine xgl_ (some 32) Tryz.func19 #[.string a1, .int .u8 63] ?_; (with_reducible refine (spec_l1Cut.calls kj28 a1 63 t402 t403 t404 _ A44.out).mono ?_); rintro e w' ⟨rfl, ⟨nd, rfl⟩⟩; refine ⟨_, rfl, ?_⟩))
          (try simp only [Act.put, List.setIfInBounds_toArray, List.set_cons_zero, List.set_cons_succ])
          go_cut [46] (fun v46 wc => ∃ (kq : Nat) (x46_44 : Bool), v46 = .bool x46_44 ∧ Aside0 (spec_ResolveUrl.j2 kq t402 x46_44 a0_0 a0_1 a0_2 a0_3 a0_4 a0_5 a0_0 a0_1 a0_2 a0_3 t403 t404 = some (r1, r2, r3, r4, r5, r6, r7)) ∧ Aside0 (kq ≤ kj28) ∧ Aside0 (wc.heap[gb384]? = some (.cells #[.string a0_0, .string a0_1, .int .i64 a0_2, .string a0_3, .string a0_4, .bool a0_5] 24 (0, 0))) ∧ Aside0 (wc.heap[gb385]? = some (.cells #[.string (⟨#[]⟩ : ByteArray), .string (⟨#[]⟩ : ByteArray), .int .i64 0, .string (⟨#[]⟩ : ByteArray), .string (⟨#[]⟩ : ByteArray), .bool false] 24 (0, 0))) ∧ Aside0 (wc.heap[gb394]? = some (.cells #[.string a0_0, .string a0_1, .int .i64 a0_2, .string a0_3, .string t403, .bool t404] 24 (0, 0))) ∧ Aside0 (Below w.heap.size w wc))
          case first =>
           have H := HC45.out
           clear HC45
           by_cases c51 : t402.toList = ([] : List UInt8)
           ·rw [if_pos c51] at H
            have c51b0 : (t402.toList == ([] : List UInt8)) = true := beq_iff_eq.mpr c51
            have c51b1 : (t402.toList != ([] : List UInt8)) = false := bne_eq_false_iff_eq.mpr c51
            clear c51
            (first | rw [c51b0] | (simp only [i64_w, i32_w]; rw [c51b0]) | skip)
            have H' := Aside0.mk H
            clear H
            go_wp2
            go_meet
            case rel => exact ⟨_, (false), (by first | rfl | (simp; done) | (simp [*]; done)), H', ⟨by have := HJ2.out; have := HJ28.out; first | omega | exact Nat.le_refl _⟩, ⟨by (with_reducible repeat first | apply bN_ | apply bD_ | apply bA_ | refine blk_far ?_ NB384_394.out _); exact BK384.out⟩, ⟨by (with_reducible repeat first | apply bN_ | apply bD_ | apply bA_ | refine blk_far ?_ NB385_394.out _); exact BK385.out⟩, ⟨by (with_reducible repeat first | apply bN_ | apply bD_ | apply bA_); refine blk_put (cs := #[.string a0_0, .string a0_1, .int .i64 a0_2, .string a0_3, .string t403, .bool a0_5]) ?_ 5 _ rfl; (with_reducible repeat first | apply bN_ | apply bD_ | apply bA_); refine blk_put (cs := #[.string a0_0, .string a0_1, .int .i64 a0_2, .string a0_3, .string a0_4, .bool a0_5]) ?_ 4 _ rfl; (with_reducible repeat first | apply bN_ | apply bD_ | apply bA_); refine blk_put (cs := #[.string a0_0, .string a0_1, .int .i64 a0_2, .string a0_3, .string a0_4, .bool t392]) ?_ 5 _ rfl; (with_reducible repeat first | apply bN_ | apply bD_ | apply bA_); refine blk_put (cs := #[.string a0_0, .string a0_1, .int .i64 a0_2, .string a0_3, .string t391, .bool t392]) ?_ 4 _ rfl; (with_reducible repeat first | apply bN_ | apply bD_ | apply bA_); refine blk_put (cs := #[.string a0_0, .string a0_1, .int .i64 a0_2, .string t390, .string t391, .bool t392]) ?_ 3 _ rfl; (with_reducible repeat first | apply bN_ | apply bD_ | apply bA_); refine blk_put (cs := #[.string a0_0, .string a0_1, .int .i64 t389, .string t390, .string t391, .bool t392]) ?_ 2 _ rfl; (with_reducible repeat first | apply bN_ | apply bD_ | apply bA_); refine blk_put (cs := #[.string a0_0, .string t388, .int .i64 t389, .string t390, .string t391, .bool t392]) ?_ 1 _ rfl; (with_reducible repeat first | apply bN_ | apply bD_ | apply bA_); refine blk_put (cs := #[.string t387, .string t388, .int .i64 t389, .string t390, .string t391, .bool t392]) ?_ 0 _ rfl; (with_reducible repeat first | apply bN_ | apply bD_ | apply bA_); exact BK394.out⟩, ⟨xw_ HB⟩⟩
           ·rw [if_neg c51] at H
            have c51b0 : (t402.toList == ([] : List UInt8)) = false := beq_eq_false_iff_ne.mpr c51
            have c51b1 : (t402.toList != ([] : List UInt8)) = true := bne_iff_ne.mpr c51
            (first | rw [c51b0] | (simp only [i64_w, i32_w]; rw [c51b0]) | skip)
            by_cases c52 : 0 < (t402.size : Int)
            ·rw [if_pos c52] at H
             have c52b0 : decide (0 < (t402.size : Int)) = true := decide_eq_true c52
             have c52b1 : decide (0 < t402.size) = true := decide_eq_true (by omega)
             clear c52
             have H' := Aside0.mk H
             clear H
             have p53 : 0 ≤ (0 : Int) := (by omega)
             have q53 : 0 < t402.size := (by have : (0 : Int) < (t402.size : Int) := of_decide_eq_true (by first | (with_reducible assumption) | assumption); omega)
             have hx53 : ∀ h : 0 < t402.size, ((t402[0]'h).toNat : Int) = bt t402 0 := bt_at t402 0
             clear p53
             have qi53 : (0 < (t402.size : Int)) = True := eq_true (of_decide_eq_true (by first | (with_reducible assumption) | assumption))
             replace q53 := eq_true q53
             go_wp2
             go_meet
             case rel => exact ⟨_, (((bt t402 0) == 47)), (by first | rfl | (simp; done) | (simp [*]; done)), H', ⟨by have := HJ2.out; have := HJ28.out; first | omega | exact Nat.le_refl _⟩, ⟨by (with_reducible repeat first | apply bN_ | apply bD_ | apply bA_ | refine blk_far ?_ NB384_394.out _); exact BK384.out⟩, ⟨by (with_reducible repeat first | apply bN_ | apply bD_ | apply bA_ | refine blk_far ?_ NB385_394.out _); exact BK385.out⟩, ⟨by (with_reducible repeat first | apply bN_ | apply bD_ | apply bA_); refine blk_put (cs := #[.string a0_0, .string a0_1, .int .i64 a0_2, .string a0_3, .string t403, .bool a0_5]) ?_ 5 _ rfl; (with_reducible repeat first | apply bN_ | apply bD_ | apply bA_); refine blk_put (cs := #[.string a0_0, .string a0_1, .int .i64 a0_2, .string a0_3, .string a0_4, .bool a0_5]) ?_ 4 _ rfl; (with_reducible repeat first | apply bN_ | apply bD_ | apply bA_); refine blk_put (cs := #[.string a0_0, .string a0_1, .int .i64 a0_2, .string a0_3, .string a0_4, .bool t392]) ?_ 5 _ rfl; (with_reducible repeat first | apply bN_ | apply bD_ | apply bA_); refine blk_put (cs := #[.string a0_0, .string a0_1, .int .i64 a0_2, .string a0_3, .string t391, .bool t392]) ?_ 4 _ rfl; (with_reducible repeat first | apply bN_ | apply bD_ | apply bA_); refine blk_put (cs := #[.string a0_0, .string a0_1, .int .i64 a0_2, .string t390, .string t391, .bool t392]) ?_ 3 _ rfl; (with_reducible repeat first | apply bN_ | apply bD_ | apply bA_); refine blk_put (cs := #[.string a0_0, .string a0_1, .int .i64 t389, .string t390, .string t391, .bool t392]) ?_ 2 _ rfl; (with_reducible repeat first | apply bN_ | apply bD_ | apply bA_); refine blk_put (cs := #[.string a0_0, .string t388, .int .i64 t389, .string t390, .string t391, .bool t392]) ?_ 1 _ rfl; (with_reducible repeat first | apply bN_ | apply bD_ | apply bA_); refine blk_put (cs := #[.string t387, .string t388, .int .i64 t389, .string t390, .string t391, .bool t392]) ?_ 0 _ rfl; (with_reducible repeat first | apply bN_ | apply bD_ | apply bA_); exact BK394.out⟩, ⟨xw_ HB⟩⟩
            ·rw [if_neg c52] at H
             exact absurd H (by simp)
          case rest =>
           clear HC45
           try clear c1
           try clear c2
           try clear p2
           try clear c3
           try clear c4
           try clear c5
           try clear p5
           try clear q5
           try clear hx5
           try clear qi5
           try clear c6
           try clear c7
           try clear c8
           try clear c11
           try clear c14
           try clear c15
           try clear c16
           try clear c17
           try clear c17b0
           try clear c17b1
           try clear c18
           try clear c19
           try clear c25
           try clear c26
           try clear c28
           try clear c30
           try clear c30b0
           try clear c30b1
           try clear c31
           try clear c31b0
           try clear c31b1
           try clear c32
           try clear c32b0
           try clear c32b1
           try clear c33
           try clear c34
           try clear c34b0
           try clear c34b1
           try clear c46
           try clear c47
           try clear c49
           try clear c51
           try clear c51b0
           try clear c51b1
           try clear c52
           try clear c52b0
           try clear c52b1
           try clear p53
           try clear q53
           try clear hx53
           try clear qi53
           try clear p2
           try clear p53
           try clear q53
           obtain ⟨kq, x46_44, rfl, HA, HJ44, BK384, BK385, BK394, HB⟩ := hcut
           cases kq with
           | zero => exact absurd HA.out (by simp [spec_ResolveUrl.j2])
           | succ kj44 =>
            have H := HA.out
            clear HA
            simp only [spec_ResolveUrl.j2] at H
            by_cases c54 : x46_44 = true
            ·subst c54
             have H1 : (spec_ResolveUrl.j4 kj44 true a0_0 a0_1 a0_2 t402 t403 t404) = some (r1, r2, r3, r4, r5, r6, r7) := by rw [if_pos rfl] at H; exact H
             clear H
             have H := H1
             clear H1
             have H' := Aside0.mk H
             clear H
             have hnb55 := NB394_384.out
             have hnc55 := NB384_394.out
             have hnb56 := NB394_385.out
             have hnc56 := NB385_394.out
             have ⟨_, _, _, _, _, _, _, _, _, _, _, _⟩ := c6_ BK394
             go_wp2
             go_meet
             case rel => exact ⟨_, (true), (a0_0), (a0_1), (a0_2), (t402), (t403), (t404), (by first | rfl | (simp; done) | (simp [*]; done)), H', ⟨by have := HJ2.out; have := HJ28.out; have := HJ44.out; first | omega | exact Nat.le_refl _⟩, ⟨by (with_reducible repeat first | apply bN_ | apply bD_ | apply bA_ | refine blk_far ?_ NB384_394.out _); exact BK384.out⟩, ⟨by (with_reducible repeat first | apply bN_ | apply bD_ | apply bA_ | refine blk_far ?_ NB385_394.out _); exact BK385.out⟩, ⟨by (with_reducible repeat first | apply bN_ | apply bD_ | apply bA_); refine blk_put (cs := #[.string a0_0, .string a0_1, .int .i64 a0_2, .string a0_3, .string t403, .bool t404]) ?_ 3 _ rfl; (with_reducible repeat first | apply bN_ | apply bD_ | apply bA_); exact BK394.out⟩, ⟨xw_ HB⟩⟩
            ·replace c54 := Bool.eq_false_iff.mpr c54
             subst c54
             have H1 : (if t402.toList = ([] : List UInt8) then (spec_ResolveUrl.j4 kj44 true a0_0 a0_1 a0_2 a0_3 t403 t404) else (spec_ResolveUrl.l0 kj44 t402 (a0_3.size : Int) a0_0 a0_1 a0_2 a0_3 a0_4 a0_5 a0_0 a0_1 a0_2 a0_3 t403 t404)) = some (r1, r2, r3, r4, r5, r6, r7) := by rw [if_neg (show ¬ (false = true) by decide)] at H; exact H
             clear H
             have H := H1
             clear H1
             by_cases c58 : t402.toList = ([] : List UInt8)
             ·rw [if_pos c58] at H
              have c58b0 : (t402.toList == ([] : List UInt8)) = true := beq_iff_eq.mpr c58
              have c58b1 : (t402.toList != ([] : List UInt8)) = false := bne_eq_false_iff_eq.mpr c58
              clear c58
              have H' := Aside0.mk H
              clear H
              go_wp2
              go_meet
              case rel => exact ⟨_, (true), (a0_0), (a0_1), (a0_2), (a0_3), (t403), (t404), (by first | rfl | (simp; done) | (simp [*]; done)), H', ⟨by have := HJ2.out; have := HJ28.out; have := HJ44.out; first | omega | exact Nat.le_refl _⟩, ⟨xb_ BK384⟩, ⟨xb_ BK385⟩, ⟨xb_ BK394⟩, ⟨xw_ HB⟩⟩
             ·rw [if_neg c58] at H
              have c58b0 : (t402.toList == ([] : List UInt8)) = false := beq_eq_false_iff_ne.mpr c58
              have c58b1 : (t402.toList != ([] : List UInt8)) = true := bne_iff_ne.mpr c58
              have H' := Aside0.mk H
              clear H
              have hnb59 := NB384_385.out
              have hnc59 := NB385_384.out
              have hnb60 := NB384_394.out
              have hnc60 := NB394_384.out
              have ⟨_, _, _, _, _, _, _, _, _, _, _, _⟩ := c6_ BK384
              go_wp2
              go_loopg [11] kj44 (fun kq v11 w' => ∃ (x11_4 : Int), v11 = .int .i64 x11_4 ∧ Aside0 (spec_ResolveUrl.l0 kq t402 x11_4 a0_0 a0_1 a0_2 a0_3 a0_4 a0_5 a0_0 a0_1 a0_2 a0_3 t403 t404 = some (r1, r2, r3, r4, r5, r6, r7)) ∧ Aside0 (kq ≤ kj44) ∧ Aside0 (w'.heap[gb384]? = some (.cells #[.string a0_0, .string a0_1, .int .i64 a0_2, .string a0_3, .string a0_4, .bool a0_5] 24 (0, 0))) ∧ Aside0 (w'.heap[gb385]? = some (.cells #[.string (⟨#[]⟩ : ByteArray), .string (⟨#[]⟩ : ByteArray), .int .i64 0, .string (⟨#[]⟩ : ByteArray), .string (⟨#[]⟩ : ByteArray), .bool false] 24 (0, 0))) ∧ Aside0 (w'.heap[gb394]? = some (.cells #[.string a0_0, .string a0_1, .int .i64 a0_2, .string a0_3, .string t403, .bool t404] 24 (0, 0))) ∧ Aside0 (Below w.heap.size w w'))
              case atStart => exact ⟨((a0_3.size : Int)), (by first | rfl | (simp; done) | (simp [*]; done)), H', ⟨Nat.le_refl _⟩, ⟨xb_ BK384⟩, ⟨xb_ BK385⟩, ⟨xb_ BK394⟩, ⟨xw_ HB⟩⟩
              case round =>
               clear H'
               try clear c1
               try clear c2
               try clear p2
               try clear c3
               try clear c4
               try clear c5
               try clear p5
               try clear q5
               try clear hx5
               try clear qi5
               try clear c6
               try clear c7
               try clear c8
               try clear c11
               try clear c14
               try clear c15
               try clear c16
               try clear c17
               try clear c17b0
               try clear c17b1
               try clear c18
               try clear c19
               try clear c25
               try clear c26
               try clear c28
               try clear c30
               try clear c30b0
               try clear c30b1
               try clear c31
               try clear c31b0
               try clear c31b1
               try clear c32
               try clear c32b0
               try clear c32b1
               try clear c33
               try clear c34
               try clear c34b0
               try clear c34b1
               try clear c46
               try clear c47
               try clear c49
               try clear c51
               try clear c51b0
               try clear c51b1
               try clear c52
               try clear c52b0
               try clear c52b1
               try clear p53
               try clear q53
               try clear hx53
               try clear qi53
               try clear c54
               try clear c55
               try clear c56
               try clear c58
               try clear c58b0
               try clear c58b1
               try clear c59
               try clear c60
               try clear p2
               try clear p5
               try clear p53
               try clear q5
               try clear q53
               obtain ⟨x11_4, rfl, HA, HK4, BK384, BK385, BK394, HB⟩ := hrel
               cases gk with
               | zero => exact absurd HA.out (by simp [spec_ResolveUrl.l0])
               | succ k4 =>
                have H := HA.out
                clear HA
                simp only [spec_ResolveUrl.l0] at H
                obtain ⟨ji62, hji62⟩ : ∃ j_ : Int, (wrap64 (x11_4 - 1)) = j_ := ⟨_, rfl⟩
                replace H : (if 0 ≤ (ji62) then (if (ji62) < (a0_3.size : Int) then (if (bt a0_3 (ji62)) = 47 then (if 0 ≤ x11_4 then (if x11_4 ≤ (a0_3.size : Int) then (if (a0_3.extract 0 (x11_4 : Int).toNat).size + t402.size ≤ 9223372036854775807 then (spec_ResolveUrl.j4 k4 true a0_0 a0_1 a0_2 ((a0_3.extract 0 (x11_4 : Int).toNat) ++ t402) t403 t404) else (none)) else (none)) else (none)) else (spec_ResolveUrl.l0 k4 t402 ji62 a0_0 a0_1 a0_2 a0_3 a0_4 a0_5 a0_0 a0_1 a0_2 a0_3 t403 t404)) else (none)) else (none)) = some (r1, r2, r3, r4, r5, r6, r7) := by first | (rw [hji62] at H; exact H) | (simp only [hji62] at H ⊢; exact H)
                have hji62w : (IntKind.i64.wrap (x11_4 - 1)) = ji62 := (i64_w _).trans hji62
                by_cases c63 : 0 ≤ (ji62)
                ·rw [if_pos c63] at H
                 have c63b0 : decide (0 ≤ (ji62)) = true := decide_eq_true c63
                 clear c63
                 by_cases c64 : (ji62) < (a0_3.size : Int)
                 ·rw [if_pos c64] at H
                  have c64b0 : decide ((ji62) < (a0_3.size : Int)) = true := decide_eq_true c64
                  clear c64
                  by_cases c66 : (bt a0_3 (ji62)) = 47
                  ·rw [if_pos c66] at H
                   have c66b0 : ((bt a0_3 (ji62)) == 47) = true := beq_iff_eq.mpr c66
                   have c66b1 : ((bt a0_3 (ji62)) != 47) = false := bne_eq_false_iff_eq.mpr c66
                   clear c66
                   by_cases c67 : 0 ≤ x11_4
                   ·rw [if_pos c67] at H
                    have c67b0 := eq_true c67
                    have c67b1 : decide (0 ≤ x11_4) = true := decide_eq_true c67
                    clear c67
                    by_cases c68 : x11_4 ≤ (a0_3.size : Int)
                    ·rw [if_pos c68] at H
                     have c68b0 := eq_true c68
                     have c68b1 : decide (x11_4 ≤ (a0_3.size : Int)) = true := decide_eq_true c68
                     clear c68
                     by_cases c69 : (a0_3.extract 0 (x11_4 : Int).toNat).size + t402.size ≤ 9223372036854775807
                     ·rw [if_pos c69] at H
                      have c69b0 := eq_true c69
                      have c69b1 : decide ((a0_3.extract 0 (x11_4 : Int).toNat).size + t402.size ≤ 9223372036854775807) = true := decide_eq_true c69
                      try have c69b2 : (9223372036854775807 < (a0_3.extract 0 (x11_4 : Int).toNat).size + t402.size) = False := eq_false (Nat.not_lt.2 c69)
                      have H' := Aside0.mk H
                      clear H
                      have hnb70 := NB384_385.out
                      have hnc70 := NB385_384.out
                      have hnb71 := NB384_394.out
                      have hnc71 := NB394_384.out
                      have ⟨_, _, _, _, _, _, _, _, _, _, _, _⟩ := c6_ BK384
                      have p65 : 0 ≤ ((ji62) : Int) := of_decide_eq_true (by first | (with_reducible assumption) | assumption)
                      have q65 : (ji62) < (a0_3.size : Int) := of_decide_eq_true (by first | (with_reducible assumption) | assumption)
                      have hx65 := bt_at a0_3 (ji62)
                      replace p65 := eq_true p65
                      replace q65 := eq_true q65
                      have hnb73 := NB394_385.out
                      have hnc73 := NB385_394.out
                      have ⟨_, _, _, _, _, _, _, _, _, _, _, _⟩ := c6_ BK394
                      go_wp2
                      go_meet
                      case rel => exact ⟨_, (true), (a0_0), (a0_1), (a0_2), ((a0_3.extract 0 (x11_4 : Int).toNat) ++ t402), (t403), (t404), (by first | rfl | (simp; done) | (simp [*]; done)), H', ⟨by have := HJ2.out; have := HJ28.out; have := HJ44.out; have := HK4.out; first | omega | exact Nat.le_refl _⟩, ⟨by (with_reducible repeat first | apply bN_ | apply bD_ | apply bA_ | refine blk_far ?_ NB384_394.out _); exact BK384.out⟩, ⟨by (with_reducible repeat first | apply bN_ | apply bD_ | apply bA_ | refine blk_far ?_ NB385_394.out _); exact BK385.out⟩, ⟨by (with_reducible repeat first | apply bN_ | apply bD_ | apply bA_); refine blk_put (cs := #[.string a0_0, .string a0_1, .int .i64 a0_2, .string a0_3, .string t403, .bool t404]) ?_ 3 _ rfl; (with_reducible repeat first | apply bN_ | apply bD_ | apply bA_); exact BK394.out⟩, ⟨xw_ HB⟩⟩
                     ·rw [if_neg c69] at H
                      exact absurd H (by simp)
                    ·rw [if_neg c68] at H
                     exact absurd H (by simp)
                   ·rw [if_neg c67] at H
                    exact absurd H (by simp)
                  ·rw [if_neg c66] at H
                   have c66b0 : ((bt a0_3 (ji62)) == 47) = false := beq_eq_false_iff_ne.mpr c66
                   have c66b1 : ((bt a0_3 (ji62)) != 47) = true := bne_iff_ne.mpr c66
                   have H' := Aside0.mk H
                   clear H
                   have hnb75 := NB384_385.out
                   have hnc75 := NB385_384.out
                   have hnb76 := NB384_394.out
                   have hnc76 := NB394_384.out
                   have ⟨_, _, _, _, _, _, _, _, _, _, _, _⟩ := c6_ BK384
                   have p65 : 0 ≤ ((ji62) : Int) := of_decide_eq_true (by first | (with_reducible assumption) | assumption)
                   have q65 : (ji62) < (a0_3.size : Int) := of_decide_eq_true (by first | (with_reducible assumption) | assumption)
                   have hx65 := bt_at a0_3 (ji62)
                   replace p65 := eq_true p65
                   replace q65 := eq_true q65
                   go_wp2
                   go_roundg k4
                   case measure => have := HJ2.out; have := HJ28.out; have := HJ44.out; have := HK4.out; omega
                   case rel => exact ⟨(ji62), (by first | rfl | (simp; done) | (simp only [← hji62] <;> (first | rfl | simp)) | (simp [*]; done)), H', ⟨by have := HJ2.out; have := HJ28.out; have := HJ44.out; have := HK4.out; omega⟩, ⟨xb_ BK384⟩, ⟨xb_ BK385⟩, ⟨xb_ BK394⟩, ⟨xw_ HB⟩⟩
                 ·rw [if_neg c64] at H
                  exact absurd H (by simp)
                ·rw [if_neg c63] at H
                 exact absurd H (by simp)
     case rest =>
      clear HC22
      try clear c1
      try clear c2
      try clear p2
      try clear c3
      try clear c4
      try clear c5
      try clear p5
      try clear q5
      try clear hx5
      try clear qi5
      try clear c6
      try clear p6
      try clear q6
      try clear hx6
      try clear c7
      try clear c8
      try clear c11
      try clear c14
      try clear c15
      try clear c16
      try clear c17
      try clear c17b0
      try clear c17b1
      try clear c18
      try clear c19
      try clear c25
      try clear c26
      try clear c28
      try clear c30
      try clear c30b0
      try clear c30b1
      try clear c31
      try clear c31b0
      try clear c31b1
      try clear c32
      try clear c32b0
      try clear c32b1
      try clear c33
      try clear c34
      try clear c34b0
      try clear c34b1
      try clear c46
      try clear c47
      try clear c49
      try clear c51
      try clear c51b0
      try clear c51b1
      try clear c52
      try clear c52b0
      try clear c52b1
      try clear p53
      try clear q53
      try clear hx53
      try clear qi53
      try clear c54
      try clear c55
      try clear c56
      try clear c58
      try clear c58b0
      try clear c58b1
      try clear c59
      try clear c60
      try clear c63
      try clear c63b0
      try clear c64
      try clear c64b0
      try clear p64
      try clear p65
      try clear q65
      try clear hx65
      try clear c66
      try clear c66b0
      try clear c66b1
      try clear c67
      try clear c67b0
      try clear c67b1
      try clear c68
      try clear c68b0
      try clear c68b1
      try clear c69
      try clear c69b0
      try clear c69b1
      try clear c69b2
      try clear c70
      try clear c71
      try clear c73
      try clear c75
      try clear c76
      try clear p2
      try clear p5
      try clear p53
      try clear p65
      try clear q5
      try clear q53
      try clear q65
      obtain ⟨kq, x7_21, x395000_21, x395001_21, x395002_21, x395003_21, x395004_21, x395005_21, rfl, HA, HJ21, BK384, BK385, BK394, HB⟩ := hcut
      cases kq with
      | zero => exact absurd HA.out (by simp [spec_ResolveUrl.j4])
      | succ kj21 =>
       have H := HA.out
       clear HA
       simp only [spec_ResolveUrl.j4] at H
       by_cases c78 : x7_21 = true
       ·subst c78
        have H1 : ((spec_l1Dots.f kj21 x395003_21).bind fun t405 => ((spec_GoodUrl.f kj21 x395000_21 x395001_21 x395002_21 t405 x395004_21 x395005_21).bind fun t406 => (if t406 = true then (some (x395000_21, x395001_21, x395002_21, t405, x395004_21, x395005_21, true)) else (some ((⟨#[]⟩ : ByteArray), (⟨#[]⟩ : ByteArray), 0, (⟨#[]⟩ : ByteArray), (⟨#[]⟩ : ByteArray), false, false))))) = some (r1, r2, r3, r4, r5, r6, r7) := by rw [if_pos rfl] at H; exact H
        clear H
        have H := H1
        clear H1
        replace H := Option.bind_eq_some_iff.mp H
        obtain ⟨t405, A790, H⟩ := H
        replace H : ((spec_GoodUrl.f kj21 x395000_21 x395001_21 x395002_21 t405 x395004_21 x395005_21).bind fun t406 => (if t406 = true then (some (x395000_21, x395001_21, x395002_21, t405, x395004_21, x395005_21, true)) else (some ((⟨#[]⟩ : ByteArray), (⟨#[]⟩ : ByteArray), 0, (⟨#[]⟩ : ByteArray), (⟨#[]⟩ : ByteArray), false, false)))) = some (r1, r2, r3, r4, r5, r6, r7) := H
        have A79 := Aside0.mk A790
        clear A790
        replace H := Option.bind_eq_some_iff.mp H
        obtain ⟨t406, A800, H⟩ := H
        replace H : (if t406 = true then (some (x395000_21, x395001_21, x395002_21, t405, x395004_21, x395005_21, true)) else (some ((⟨#[]⟩ : ByteArray), (⟨#[]⟩ : ByteArray), 0, (⟨#[]⟩ : ByteArray), (⟨#[]⟩ : ByteArray), false, false))) = some (r1, r2, r3, r4, r5, r6, r7) := H
        have A80 := Aside0.mk A800
        clear A800
        by_cases c81 : t406 = true
        ·subst c81
         have H1 : (some (x395000_21, x395001_21, x395002_21, t405, x395004_21, x395005_21, true)) = some (r1, r2, r3, r4, r5, r6, r7) := by rw [if_pos rfl] at H; exact H
         clear H
         have H := H1
         clear H1
         simp only [Option.some.injEq, Prod.mk.injEq] at H
         obtain ⟨rfl, rfl, rfl, rfl, rfl, rfl, rfl⟩ := H
         have hnb82 := NB394_384.out
         have hnc82 := NB384_394.out
         have hnb83 := NB394_385.out
         have hnc83 := NB385_394.out
         have ⟨_, _, _, _, _, _, _, _, _, _, _, _⟩ := c6_ BK394
         go_wp2_with (first | ((with_reducible refine gate_callee (f := 20) rfl ?_); refine xgl_ (some 93) Tryz.func20 #[.string x395003_21] ?_; (with_reducible refine (spec_l1Dots.calls kj21 x395003_21 t405 _ A79.out).mono ?_); rintro e w85 ⟨rfl, hb⟩; refine ⟨_, rfl, ?_⟩; replace BK384 := xbb_ BK384 hb; replace BK385 := xbb_ BK385 hb; replace BK394 := xbb_ BK394 hb; replace HB := xws_ HB hb; (try clear hb); (try clear hb2); (try clear hk); (try clear hi); have ⟨_, _, _, _, _, _, _, _, _, _, _, _⟩ := c6_ BK394) | ((with_reducible refine gate_callee (f := 16) rfl ?_); refine xgl_ (some 96) Tryz.func16 #[.agg #[.string x395000_21, .string x395001_21, .int .i64 x395002_21, .string t405, .string x395004_21, .bool x395005_21]] ?_; (with_reducible refine (spec_GoodUrl.calls kj21 x395000_21 x395001_21 x395002_21 t405 x395004_21 x395005_21 true _ A80.out).mono ?_); rintro e w87 ⟨rfl, hb⟩; refine ⟨_, rfl, ?_⟩; replace BK384 := Aside0.mk (blk_below (g := gb384) (o := .cells #[.string a0_0, .string a0_1, .int .i64 a0_2, .string a0_3, .string a0_4, .bool a0_5] 24 (0, 0)) (by (with_reducible repeat first | apply bN_ | apply bD_ | apply bA_ | refine blk_far ?_ NB384_394.out _); exact BK384.out) hb); replace BK385 := Aside0.mk (blk_below (g := gb385) (o := .cells #[.string (⟨#[]⟩ : ByteArray), .string (⟨#[]⟩ : ByteArray), .int .i64 0, .string (⟨#[]⟩ : ByteArray), .string (⟨#[]⟩ : ByteArray), .bool false] 24 (0, 0)) (by (with_reducible repeat first | apply bN_ | apply bD_ | apply bA_ | refine blk_far ?_ NB385_394.out _); exact BK385.out) hb); replace BK394 := Aside0.mk (blk_below (g := gb394) (o := .cells #[.string x395000_21, .string x395001_21, .int .i64 x395002_21, .string t405, .string x395004_21, .bool x395005_21] 24 (0, 0)) (by (with_reducible repeat first | apply bN_ | apply bD_ | apply bA_); refine blk_put (cs := #[.string x395000_21, .string x395001_21, .int .i64 x395002_21, .string x395003_21, .string x395004_21, .bool x395005_21]) ?_ 3 _ rfl; (with_reducible repeat first | apply bN_ | apply bD_ | apply bA_); exact BK394.out) hb); replace HB := xws_ HB hb; (try clear hb); (try clear hb2); (try clear hk); (try clear hi); have ⟨_, _, _, _, _, _, _, _, _, _, _, _⟩ := c6_ BK394; have hnb89 := NB385_384.out; have hnc89 := NB384_385.out; have ⟨_, _, _, _, _, _, _, _, _, _, _, _⟩ := c6_ BK385))
         refine bodyPost_ret (results_ct rfl _ _ gb385 24 #[.string x395000_21, .string x395001_21, .int .i64 x395002_21, .string t405, .string x395004_21, .bool x395005_21] (0, 0) _ rfl (by (with_reducible repeat first | apply bN_ | apply bD_ | apply bA_); refine blk_put (cs := #[.string x395000_21, .string x395001_21, .int .i64 x395002_21, .string t405, .string x395004_21, .bool false]) ?_ 5 _ rfl; (with_reducible repeat first | apply bN_ | apply bD_ | apply bA_); refine blk_put (cs := #[.string x395000_21, .string x395001_21, .int .i64 x395002_21, .string t405, .string (⟨#[]⟩ : ByteArray), .bool false]) ?_ 4 _ rfl; (with_reducible repeat first | apply bN_ | apply bD_ | apply bA_); refine blk_put (cs := #[.string x395000_21, .string x395001_21, .int .i64 x395002_21, .string (⟨#[]⟩ : ByteArray), .string (⟨#[]⟩ : ByteArray), .bool false]) ?_ 3 _ rfl; (with_reducible repeat first | apply bN_ | apply bD_ | apply bA_); refine blk_put (cs := #[.string x395000_21, .string x395001_21, .int .i64 0, .string (⟨#[]⟩ : ByteArray), .string (⟨#[]⟩ : ByteArray), .bool false]) ?_ 2 _ rfl; (with_reducible repeat first | apply bN_ | apply bD_ | apply bA_); refine blk_put (cs := #[.string x395000_21, .string (⟨#[]⟩ : ByteArray), .int .i64 0, .string (⟨#[]⟩ : ByteArray), .string (⟨#[]⟩ : ByteArray), .bool false]) ?_ 1 _ rfl; (with_reducible repeat first | apply bN_ | apply bD_ | apply bA_); refine blk_put (cs := #[.string (⟨#[]⟩ : ByteArray), .string (⟨#[]⟩ : ByteArray), .int .i64 0, .string (⟨#[]⟩ : ByteArray), .string (⟨#[]⟩ : ByteArray), .bool false]) ?_ 0 _ rfl; (with_reducible repeat first | apply bN_ | apply bD_ | apply bA_); exact BK385.out) Tryz.underlying24 rfl (by kernel_rfl)) rfl ?_
         exact ⟨by first | rfl | (simp [errW_none, errW_some] <;> rfl) | (simp [*, errW_none, errW_some] <;> rfl), xw_ HB⟩
        ·replace c81 := Bool.eq_false_iff.mpr c81
         subst c81
         have H1 : (some ((⟨#[]⟩ : ByteArray), (⟨#[]⟩ : ByteArray), 0, (⟨#[]⟩ : ByteArray), (⟨#[]⟩ : ByteArray), false, false)) = some (r1, r2, r3, r4, r5, r6, r7) := by rw [if_neg (show ¬ (false = true) by decide)] at H; exact H
         clear H
         have H := H1
         clear H1
         simp only [Option.some.injEq, Prod.mk.injEq] at H
         obtain ⟨rfl, rfl, rfl, rfl, rfl, rfl, rfl⟩ := H
         have hnb91 := NB394_384.out
         have hnc91 := NB384_394.out
         have hnb92 := NB394_385.out
         have hnc92 := NB385_394.out
         have ⟨_, _, _, _, _, _, _, _, _, _, _, _⟩ := c6_ BK394
         go_wp2_with (first | ((with_reducible refine gate_callee (f := 20) rfl ?_); refine xgl_ (some 93) Tryz.func20 #[.string x395003_21] ?_; (with_reducible refine (spec_l1Dots.calls kj21 x395003_21 t405 _ A79.out).mono ?_); rintro e w94 ⟨rfl, hb⟩; refine ⟨_, rfl, ?_⟩; replace BK384 := xbb_ BK384 hb; replace BK385 := xbb_ BK385 hb; replace BK394 := xbb_ BK394 hb; replace HB := xws_ HB hb; (try clear hb); (try clear hb2); (try clear hk); (try clear hi); have ⟨_, _, _, _, _, _, _, _, _, _, _, _⟩ := c6_ BK394) | ((with_reducible refine gate_callee (f := 16) rfl ?_); refine xgl_ (some 96) Tryz.func16 #[.agg #[.string x395000_21, .string x395001_21, .int .i64 x395002_21, .string t405, .string x395004_21, .bool x395005_21]] ?_; (with_reducible refine (spec_GoodUrl.calls kj21 x395000_21 x395001_21 x395002_21 t405 x395004_21 x395005_21 false _ A80.out).mono ?_); rintro e w96 ⟨rfl, hb⟩; refine ⟨_, rfl, ?_⟩; replace BK384 := Aside0.mk (blk_below (g := gb384) (o := .cells #[.string a0_0, .string a0_1, .int .i64 a0_2, .string a0_3, .string a0_4, .bool a0_5] 24 (0, 0)) (by (with_reducible repeat first | apply bN_ | apply bD_ | apply bA_ | refine blk_far ?_ NB384_394.out _); exact BK384.out) hb); replace BK385 := Aside0.mk (blk_below (g := gb385) (o := .cells #[.string (⟨#[]⟩ : ByteArray), .string (⟨#[]⟩ : ByteArray), .int .i64 0, .string (⟨#[]⟩ : ByteArray), .string (⟨#[]⟩ : ByteArray), .bool false] 24 (0, 0)) (by (with_reducible repeat first | apply bN_ | apply bD_ | apply bA_ | refine blk_far ?_ NB385_394.out _); exact BK385.out) hb); replace BK394 := Aside0.mk (blk_below (g := gb394) (o := .cells #[.string x395000_21, .string x395001_21, .int .i64 x395002_21, .string t405, .string x395004_21, .bool x395005_21] 24 (0, 0)) (by (with_reducible repeat first | apply bN_ | apply bD_ | apply bA_); refine blk_put (cs := #[.string x395000_21, .string x395001_21, .int .i64 x395002_21, .string x395003_21, .string x395004_21, .bool x395005_21]) ?_ 3 _ rfl; (with_reducible repeat first | apply bN_ | apply bD_ | apply bA_); exact BK394.out) hb); replace HB := xws_ HB hb; (try clear hb); (try clear hb2); (try clear hk); (try clear hi); have hnb97 := NB385_384.out; have hnc97 := NB384_385.out; have ⟨_, _, _, _, _, _, _, _, _, _, _, _⟩ := c6_ BK385))
         refine bodyPost_ret (results_ct rfl _ _ gb385 24 #[.string (⟨#[]⟩ : ByteArray), .string (⟨#[]⟩ : ByteArray), .int .i64 0, .string (⟨#[]⟩ : ByteArray), .string (⟨#[]⟩ : ByteArray), .bool false] (0, 0) _ rfl (by (with_reducible repeat first | apply bN_ | apply bD_ | apply bA_); refine blk_put (cs := #[.string (⟨#[]⟩ : ByteArray), .string (⟨#[]⟩ : ByteArray), .int .i64 0, .string (⟨#[]⟩ : ByteArray), .string (⟨#[]⟩ : ByteArray), .bool false]) ?_ 5 _ rfl; (with_reducible repeat first | apply bN_ | apply bD_ | apply bA_); refine blk_put (cs := #[.string (⟨#[]⟩ : ByteArray), .string (⟨#[]⟩ : ByteArray), .int .i64 0, .string (⟨#[]⟩ : ByteArray), .string (⟨#[]⟩ : ByteArray), .bool false]) ?_ 4 _ rfl; (with_reducible repeat first | apply bN_ | apply bD_ | apply bA_); refine blk_put (cs := #[.string (⟨#[]⟩ : ByteArray), .string (⟨#[]⟩ : ByteArray), .int .i64 0, .string (⟨#[]⟩ : ByteArray), .string (⟨#[]⟩ : ByteArray), .bool false]) ?_ 3 _ rfl; (with_reducible repeat first | apply bN_ | apply bD_ | apply bA_); refine blk_put (cs := #[.string (⟨#[]⟩ : ByteArray), .string (⟨#[]⟩ : ByteArray), .int .i64 0, .string (⟨#[]⟩ : ByteArray), .string (⟨#[]⟩ : ByteArray), .bool false]) ?_ 2 _ rfl; (with_reducible repeat first | apply bN_ | apply bD_ | apply bA_); refine blk_put (cs := #[.string (⟨#[]⟩ : ByteArray), .string (⟨#[]⟩ : ByteArray), .int .i64 0, .string (⟨#[]⟩ : ByteArray), .string (⟨#[]⟩ : ByteArray), .bool false]) ?_ 1 _ rfl; (with_reducible repeat first | apply bN_ | apply bD_ | apply bA_); refine blk_put (cs := #[.string (⟨#[]⟩ : ByteArray), .string (⟨#[]⟩ : ByteArray), .int .i64 0, .string (⟨#[]⟩ : ByteArray), .string (⟨#[]⟩ : ByteArray), .bool false]) ?_ 0 _ rfl; (with_reducible repeat first | apply bN_ | apply bD_ | apply bA_); exact BK385.out) Tryz.underlying24 rfl (by kernel_rfl)) rfl ?_
         exact ⟨by first | rfl | (simp [errW_none, errW_some] <;> rfl) | (simp [*, errW_none, errW_some] <;> rfl), xw_ HB⟩
       ·replace c78 := Bool.eq_false_iff.mpr c78
        subst c78
        have H1 : (some ((⟨#[]⟩ : ByteArray), (⟨#[]⟩ : ByteArray), 0, (⟨#[]⟩ : ByteArray), (⟨#[]⟩ : ByteArray), false, false)) = some (r1, r2, r3, r4, r5, r6, r7) := by rw [if_neg (show ¬ (false = true) by decide)] at H; exact H
        clear H
        have H := H1
        clear H1
        simp only [Option.some.injEq, Prod.mk.injEq] at H
        obtain ⟨rfl, rfl, rfl, rfl, rfl, rfl, rfl⟩ := H
        have hnb99 := NB385_384.out
        have hnc99 := NB384_385.out
        have hnb100 := NB385_394.out
        have hnc100 := NB394_385.out
        have ⟨_, _, _, _, _, _, _, _, _, _, _, _⟩ := c6_ BK385
        go_wp2
        refine bodyPost_ret (results_ct rfl _ _ gb385 24 #[.string (⟨#[]⟩ : ByteArray), .string (⟨#[]⟩ : ByteArray), .int .i64 0, .string (⟨#[]⟩ : ByteArray), .string (⟨#[]⟩ : ByteArray), .bool false] (0, 0) _ rfl (by (with_reducible repeat first | apply bN_ | apply bD_ | apply bA_); refine blk_put (cs := #[.string (⟨#[]⟩ : ByteArray), .string (⟨#[]⟩ : ByteArray), .int .i64 0, .string (⟨#[]⟩ : ByteArray), .string (⟨#[]⟩ : ByteArray), .bool false]) ?_ 5 _ rfl; (with_reducible repeat first | apply bN_ | apply bD_ | apply bA_); refine blk_put (cs := #[.string (⟨#[]⟩ : ByteArray), .string (⟨#[]⟩ : ByteArray), .int .i64 0, .string (⟨#[]⟩ : ByteArray), .string (⟨#[]⟩ : ByteArray), .bool false]) ?_ 4 _ rfl; (with_reducible repeat first | apply bN_ | apply bD_ | apply bA_); refine blk_put (cs := #[.string (⟨#[]⟩ : ByteArray), .string (⟨#[]⟩ : ByteArray), .int .i64 0, .string (⟨#[]⟩ : ByteArray), .string (⟨#[]⟩ : ByteArray), .bool false]) ?_ 3 _ rfl; (with_reducible repeat first | apply bN_ | apply bD_ | apply bA_); refine blk_put (cs := #[.string (⟨#[]⟩ : ByteArray), .string (⟨#[]⟩ : ByteArray), .int .i64 0, .string (⟨#[]⟩ : ByteArray), .string (⟨#[]⟩ : ByteArray), .bool false]) ?_ 2 _ rfl; (with_reducible repeat first | apply bN_ | apply bD_ | apply bA_); refine blk_put (cs := #[.string (⟨#[]⟩ : ByteArray), .string (⟨#[]⟩ : ByteArray), .int .i64 0, .string (⟨#[]⟩ : ByteArray), .string (⟨#[]⟩ : ByteArray), .bool false]) ?_ 1 _ rfl; (with_reducible repeat first | apply bN_ | apply bD_ | apply bA_); refine blk_put (cs := #[.string (⟨#[]⟩ : ByteArray), .string (⟨#[]⟩ : ByteArray), .int .i64 0, .string (⟨#[]⟩ : ByteArray), .string (⟨#[]⟩ : ByteArray), .bool false]) ?_ 0 _ rfl; (with_reducible repeat first | apply bN_ | apply bD_ | apply bA_); exact BK385.out) Tryz.underlying24 rfl (by kernel_rfl)) rfl ?_
        exact ⟨by first | rfl | (simp [errW_none, errW_some] <;> rfl) | (simp [*, errW_none, errW_some] <;> rfl), xw_ HB⟩

end Go.Proofs.YtklicdjbihmbiaaGreatDoor.PFnResolved
