-- Written by a program of this project (xprint.py) out of the translation; Lean checks it.
import Derived.Test.YtklicdjbihmbiaaDoorPFnNormalx0
import Derived.Test.YtklicdjbihmbiaaDoorPFnNormalx1
import Derived.Test.YtklicdjbihmbiaaDoorPFnNormalx3
import Derived.Test.YtklicdjbihmbiaaDoorPFnNormalx4
import Derived.Test.YtklicdjbihmbiaaDoorPFnNormalx5
import Derived.Test.YtklicdjbihmbiaaDoorPFnNormalx8
import Derived.Test.YtklicdjbihmbiaaDoorPFnNormalx13
import Derived.Test.YtklicdjbihmbiaaDoorPFnNormalx14
namespace Go.Proofs.YtklicdjbihmbiaaDoor.PFnNormal
open Go.RowKit Go.Proofs.YtklicdjbihmbiaaDoorW.PrintWords Go.Proofs.YtklicdjbihmbiaaDoorW.PrintLast Go.Proofs.YtklicdjbihmbiaaDoorW.PrintMore
attribute [local go_sem] max2_int min2_int max_two min_two max_three min_three max_four min_four   -- for this text's walks alone
set_option linter.unusedVariables false
set_option linter.unusedSimpArgs false

attribute [local go_sem high] eqA24
/-! ### laws_FnNormal: function 3 -/
mutual
def laws_FnNormal.j0 : Nat → List Int → Bool → Bool → ByteArray → ByteArray → Int → ByteArray → ByteArray → Bool → ByteArray → ByteArray → Int → ByteArray → ByteArray → Bool → Option (Bool)
 | 0, _, _, _, _, _, _, _, _, _, _, _, _, _, _, _ => none
 | k + 1, x1, x7, x48, x398000, x398001, x398002, x398003, x398004, x398005, x406000, x406001, x406002, x406003, x406004, x406005 => if x48 = true then (some false) else (if x7 = true then ((impl_NormalUrl.f k x406000 x406001 x406002 x406003 x406004 x406005).bind fun bt414 => ((impl_SameUrl.f k x398000 x398001 x398002 x398003 x398004 x398005 x406000 x406001 x406002 x406003 x406004 x406005).bind fun bt422 => ((impl_DropDots.f k x406003).bind fun bt424 => (if bt414.2.2.2.2.2.2 = true then (if bt422.2 = true then (if bt424.2 = true then (if (!(bt414.1.toList == x406000.toList) || (!(bt414.2.1.toList == x406001.toList) || (!(bt414.2.2.1 == x406002) || (!(bt414.2.2.2.1.toList == x406003.toList) || (!(bt414.2.2.2.2.1.toList == x406004.toList) || (!(bt414.2.2.2.2.2.1 == x406005))))))) = true then (some false) else (if bt422.1 = true then (if bt424.1.toList = x406003.toList then ((impl_GoodUrl.f k x406000 x406001 x406002 x406003 x406004 x406005).bind fun t426 => (if t426 = true then (laws_FnNormal.j1 k x1) else (some false))) else (some false)) else (some false))) else (some false)) else (some false)) else (some false))))) else (laws_FnNormal.j1 k x1))
def laws_FnNormal.j1 : Nat → List Int → Option (Bool)
 | 0, _ => none
 | k + 1, x1 => (spec_DrawDropDots.f k x1).bind fun t427 => ((impl_DropDots.f k t427).bind fun bt428 => ((spec_DropDots.f k t427).bind fun bt430 => (if (bt428.2 != bt430.2) = true then (laws_FnNormal.j2 k t427 bt428.1 bt428.2 true) else (laws_FnNormal.j2 k t427 bt428.1 bt428.2 (bt428.1.toList != bt430.1.toList)))))
def laws_FnNormal.j2 : Nat → ByteArray → ByteArray → Bool → Bool → Option (Bool)
 | 0, _, _, _, _ => none
 | k + 1, x16, x17, x18, x116 => if x116 = true then (some false) else (if x18 = true then ((impl_DropDots.f k x17).bind fun bt432 => (if bt432.2 = true then (if bt432.1.toList = x17.toList then (if (x17.size : Int) ≤ (x16.size : Int) then (if 0 < (x17.size : Int) then (some ((bt x17 0) == 47)) else (none)) else (some false)) else (some false)) else (some false))) else (some (x17.toList == ([] : List UInt8))))
end
def laws_FnNormal.f (k : Nat) (l0 : List Int) (l1 : List Int) : Option (Bool) := if (wrap64 ((l0.length : Int) + (l1.length : Int))) > 1048576 then (some true) else ((spec_DrawNormalUrl.f k l0).bind fun bt391 => ((impl_NormalUrl.f k bt391.1 bt391.2.1 bt391.2.2.1 bt391.2.2.2.1 bt391.2.2.2.2.1 bt391.2.2.2.2.2).bind fun bt398 => ((spec_NormalUrl.f k bt391.1 bt391.2.1 bt391.2.2.1 bt391.2.2.2.1 bt391.2.2.2.2.1 bt391.2.2.2.2.2).bind fun bt406 => (if (bt398.2.2.2.2.2.2 != bt406.2.2.2.2.2.2) = true then (laws_FnNormal.j0 k l1 bt398.2.2.2.2.2.2 true bt391.1 bt391.2.1 bt391.2.2.1 bt391.2.2.2.1 bt391.2.2.2.2.1 bt391.2.2.2.2.2 bt398.1 bt398.2.1 bt398.2.2.1 bt398.2.2.2.1 bt398.2.2.2.2.1 bt398.2.2.2.2.2.1) else (laws_FnNormal.j0 k l1 bt398.2.2.2.2.2.2 (!(bt398.1.toList == bt406.1.toList) || (!(bt398.2.1.toList == bt406.2.1.toList) || (!(bt398.2.2.1 == bt406.2.2.1) || (!(bt398.2.2.2.1.toList == bt406.2.2.2.1.toList) || (!(bt398.2.2.2.2.1.toList == bt406.2.2.2.2.1.toList) || (!(bt398.2.2.2.2.2.1 == bt406.2.2.2.2.2.1))))))) bt391.1 bt391.2.1 bt391.2.2.1 bt391.2.2.2.1 bt391.2.2.2.2.1 bt391.2.2.2.2.2 bt398.1 bt398.2.1 bt398.2.2.1 bt398.2.2.2.1 bt398.2.2.2.2.1 bt398.2.2.2.2.2.1)))))
theorem laws_FnNormal.mono_l : ∀ k, (∀ y0 y1 y2 y3 y4 y5 y6 y7 y8 y9 y10 y11 y12 y13 y14, LeO (laws_FnNormal.j0 k y0 y1 y2 y3 y4 y5 y6 y7 y8 y9 y10 y11 y12 y13 y14) (laws_FnNormal.j0 (k + 1) y0 y1 y2 y3 y4 y5 y6 y7 y8 y9 y10 y11 y12 y13 y14)) ∧ (∀ y0, LeO (laws_FnNormal.j1 k y0) (laws_FnNormal.j1 (k + 1) y0)) ∧ (∀ y0 y1 y2 y3, LeO (laws_FnNormal.j2 k y0 y1 y2 y3) (laws_FnNormal.j2 (k + 1) y0 y1 y2 y3))
 | 0 => ⟨fun _ _ _ _ _ _ _ _ _ _ _ _ _ _ _ r h => by simp [laws_FnNormal.j0] at h, fun _ r h => by simp [laws_FnNormal.j1] at h, fun _ _ _ _ r h => by simp [laws_FnNormal.j2] at h⟩
 | k + 1 => by
  obtain ⟨ih0, ih1, ih2⟩ := laws_FnNormal.mono_l k
  refine ⟨?_, ?_, ?_⟩
  ·intro y0 y1 y2 y3 y4 y5 y6 y7 y8 y9 y10 y11 y12 y13 y14
   unfold laws_FnNormal.j0
   repeat' first
   | (with_reducible exact ih0 _ _ _ _ _ _ _ _ _ _ _ _ _ _ _)
   | (with_reducible exact ih1 _)
   | (with_reducible exact ih2 _ _ _ _)
   | (with_reducible exact impl_DropDots.mono _ _)
   | (with_reducible exact impl_GoodUrl.mono _ _ _ _ _ _ _)
   | (with_reducible exact impl_NormalUrl.mono _ _ _ _ _ _ _)
   | (with_reducible exact impl_SameUrl.mono _ _ _ _ _ _ _ _ _ _ _ _ _)
   | (with_reducible exact spec_DrawDropDots.mono _ _)
   | (with_reducible exact spec_DrawNormalUrl.mono _ _)
   | (with_reducible exact spec_DropDots.mono _ _)
   | (with_reducible exact spec_NormalUrl.mono _ _ _ _ _ _ _)
   | (with_reducible exact LeO.refl _)
   | (with_reducible exact LeO.none _)
   | (with_reducible refine LeO.ite ?_ ?_)
   | (with_reducible refine LeO.bind ?_ (fun _ => ?_))
   | exact ih0 _ _ _ _ _ _ _ _ _ _ _ _ _ _ _
   | exact ih1 _
   | exact ih2 _ _ _ _
   | exact impl_DropDots.mono _ _
   | exact impl_GoodUrl.mono _ _ _ _ _ _ _
   | exact impl_NormalUrl.mono _ _ _ _ _ _ _
   | exact impl_SameUrl.mono _ _ _ _ _ _ _ _ _ _ _ _ _
   | exact spec_DrawDropDots.mono _ _
   | exact spec_DrawNormalUrl.mono _ _
   | exact spec_DropDots.mono _ _
   | exact spec_NormalUrl.mono _ _ _ _ _ _ _
   | exact LeO.none _
   | refine LeO.ite ?_ ?_
   | refine LeO.bind ?_ (fun _ => ?_)
  ·intro y0
   unfold laws_FnNormal.j1
   repeat' first
   | (with_reducible exact ih0 _ _ _ _ _ _ _ _ _ _ _ _ _ _ _)
   | (with_reducible exact ih1 _)
   | (with_reducible exact ih2 _ _ _ _)
   | (with_reducible exact impl_DropDots.mono _ _)
   | (with_reducible exact impl_GoodUrl.mono _ _ _ _ _ _ _)
   | (with_reducible exact impl_NormalUrl.mono _ _ _ _ _ _ _)
   | (with_reducible exact impl_SameUrl.mono _ _ _ _ _ _ _ _ _ _ _ _ _)
   | (with_reducible exact spec_DrawDropDots.mono _ _)
   | (with_reducible exact spec_DrawNormalUrl.mono _ _)
   | (with_reducible exact spec_DropDots.mono _ _)
   | (with_reducible exact spec_NormalUrl.mono _ _ _ _ _ _ _)
   | (with_reducible exact LeO.refl _)
   | (with_reducible exact LeO.none _)
   | (with_reducible refine LeO.ite ?_ ?_)
   | (with_reducible refine LeO.bind ?_ (fun _ => ?_))
   | exact ih0 _ _ _ _ _ _ _ _ _ _ _ _ _ _ _
   | exact ih1 _
   | exact ih2 _ _ _ _
   | exact impl_DropDots.mono _ _
   | exact impl_GoodUrl.mono _ _ _ _ _ _ _
   | exact impl_NormalUrl.mono _ _ _ _ _ _ _
   | exact impl_SameUrl.mono _ _ _ _ _ _ _ _ _ _ _ _ _
   | exact spec_DrawDropDots.mono _ _
   | exact spec_DrawNormalUrl.mono _ _
   | exact spec_DropDots.mono _ _
   | exact spec_NormalUrl.mono _ _ _ _ _ _ _
   | exact LeO.none _
   | refine LeO.ite ?_ ?_
   | refine LeO.bind ?_ (fun _ => ?_)
  ·intro y0 y1 y2 y3
   unfold laws_FnNormal.j2
   repeat' first
   | (with_reducible exact ih0 _ _ _ _ _ _ _ _ _ _ _ _ _ _ _)
   | (with_reducible exact ih1 _)
   | (with_reducible exact ih2 _ _ _ _)
   | (with_reducible exact impl_DropDots.mono _ _)
   | (with_reducible exact impl_GoodUrl.mono _ _ _ _ _ _ _)
   | (with_reducible exact impl_NormalUrl.mono _ _ _ _ _ _ _)
   | (with_reducible exact impl_SameUrl.mono _ _ _ _ _ _ _ _ _ _ _ _ _)
   | (with_reducible exact spec_DrawDropDots.mono _ _)
   | (with_reducible exact spec_DrawNormalUrl.mono _ _)
   | (with_reducible exact spec_DropDots.mono _ _)
   | (with_reducible exact spec_NormalUrl.mono _ _ _ _ _ _ _)
   | (with_reducible exact LeO.refl _)
   | (with_reducible exact LeO.none _)
   | (with_reducible refine LeO.ite ?_ ?_)
   | (with_reducible refine LeO.bind ?_ (fun _ => ?_))
   | exact ih0 _ _ _ _ _ _ _ _ _ _ _ _ _ _ _
   | exact ih1 _
   | exact ih2 _ _ _ _
   | exact impl_DropDots.mono _ _
   | exact impl_GoodUrl.mono _ _ _ _ _ _ _
   | exact impl_NormalUrl.mono _ _ _ _ _ _ _
   | exact impl_SameUrl.mono _ _ _ _ _ _ _ _ _ _ _ _ _
   | exact spec_DrawDropDots.mono _ _
   | exact spec_DrawNormalUrl.mono _ _
   | exact spec_DropDots.mono _ _
   | exact spec_NormalUrl.mono _ _ _ _ _ _ _
   | exact LeO.none _
   | refine LeO.ite ?_ ?_
   | refine LeO.bind ?_ (fun _ => ?_)
theorem laws_FnNormal.mono : ∀ a0 a1 k, LeO (laws_FnNormal.f k a0 a1) (laws_FnNormal.f (k + 1) a0 a1) := by
 intro a0 a1 k
 obtain ⟨ih0, ih1, ih2⟩ := laws_FnNormal.mono_l k
 unfold laws_FnNormal.f
 repeat' first
   | (with_reducible exact ih0 _ _ _ _ _ _ _ _ _ _ _ _ _ _ _)
   | (with_reducible exact ih1 _)
   | (with_reducible exact ih2 _ _ _ _)
   | (with_reducible exact impl_DropDots.mono _ _)
   | (with_reducible exact impl_GoodUrl.mono _ _ _ _ _ _ _)
   | (with_reducible exact impl_NormalUrl.mono _ _ _ _ _ _ _)
   | (with_reducible exact impl_SameUrl.mono _ _ _ _ _ _ _ _ _ _ _ _ _)
   | (with_reducible exact spec_DrawDropDots.mono _ _)
   | (with_reducible exact spec_DrawNormalUrl.mono _ _)
   | (with_reducible exact spec_DropDots.mono _ _)
   | (with_reducible exact spec_NormalUrl.mono _ _ _ _ _ _ _)
   | (with_reducible exact LeO.refl _)
   | (with_reducible exact LeO.none _)
   | (with_reducible refine LeO.ite ?_ ?_)
   | (with_reducible refine LeO.bind ?_ (fun _ => ?_))
   | exact ih0 _ _ _ _ _ _ _ _ _ _ _ _ _ _ _
   | exact ih1 _
   | exact ih2 _ _ _ _
   | exact impl_DropDots.mono _ _
   | exact impl_GoodUrl.mono _ _ _ _ _ _ _
   | exact impl_NormalUrl.mono _ _ _ _ _ _ _
   | exact impl_SameUrl.mono _ _ _ _ _ _ _ _ _ _ _ _ _
   | exact spec_DrawDropDots.mono _ _
   | exact spec_DrawNormalUrl.mono _ _
   | exact spec_DropDots.mono _ _
   | exact spec_NormalUrl.mono _ _ _ _ _ _ _
   | exact LeO.none _
   | refine LeO.ite ?_ ?_
   | refine LeO.bind ?_ (fun _ => ?_)
set_option maxHeartbeats 8000000 in
set_option maxRecDepth 100000 in
theorem laws_FnNormal.calls (k : Nat) (A0 : Option Addr) (c0 : Nat) (l0 : List Int) (A1 : Option Addr) (c1 : Nat) (l1 : List Int) (r : Bool) (w : World) (htrue : r = true) (hr0 : Kd.C (Kd.int .u8) w A0 l0.length l0) (hc0 : l0.length ≤ c0) (hr1 : Kd.C (Kd.int .u8) w A1 l1.length l1) (hc1 : l1.length ≤ c1) (h : laws_FnNormal.f k l0 l1 = some r) (hT_ : TabOk w) :
  Calls Tryd.prog 3 #[.slice A0 l0.length c0, .slice A1 l1.length c1] w fun e w' => e = .returned (.bool r) ∧ Below w.heap.size w w' := by
 have HT := Aside0.mk htrue
 clear htrue
 have HTB_ := Aside0.mk hT_
 clear hT_
 have hu24 := Tryd.underlying24
 have HR0 := Aside0.mk hr0
 have HC0 := Aside0.mk hc0
 clear hr0 hc0
 have HR1 := Aside0.mk hr1
 have HC1 := Aside0.mk hc1
 clear hr1 hc1
 have HB := Aside0.mk (Below.refl w.heap.size w)
 have H : (if (wrap64 ((l0.length : Int) + (l1.length : Int))) > 1048576 then (some true) else ((spec_DrawNormalUrl.f k l0).bind fun bt391 => ((impl_NormalUrl.f k bt391.1 bt391.2.1 bt391.2.2.1 bt391.2.2.2.1 bt391.2.2.2.2.1 bt391.2.2.2.2.2).bind fun bt398 => ((spec_NormalUrl.f k bt391.1 bt391.2.1 bt391.2.2.1 bt391.2.2.2.1 bt391.2.2.2.2.1 bt391.2.2.2.2.2).bind fun bt406 => (if (bt398.2.2.2.2.2.2 != bt406.2.2.2.2.2.2) = true then (laws_FnNormal.j0 k l1 bt398.2.2.2.2.2.2 true bt391.1 bt391.2.1 bt391.2.2.1 bt391.2.2.2.1 bt391.2.2.2.2.1 bt391.2.2.2.2.2 bt398.1 bt398.2.1 bt398.2.2.1 bt398.2.2.2.1 bt398.2.2.2.2.1 bt398.2.2.2.2.2.1) else (laws_FnNormal.j0 k l1 bt398.2.2.2.2.2.2 (!(bt398.1.toList == bt406.1.toList) || (!(bt398.2.1.toList == bt406.2.1.toList) || (!(bt398.2.2.1 == bt406.2.2.1) || (!(bt398.2.2.2.1.toList == bt406.2.2.2.1.toList) || (!(bt398.2.2.2.2.1.toList == bt406.2.2.2.2.1.toList) || (!(bt398.2.2.2.2.2.1 == bt406.2.2.2.2.2.1))))))) bt391.1 bt391.2.1 bt391.2.2.1 bt391.2.2.2.1 bt391.2.2.2.2.1 bt391.2.2.2.2.2 bt398.1 bt398.2.1 bt398.2.2.1 bt398.2.2.2.1 bt398.2.2.2.2.1 bt398.2.2.2.2.2.1)))))) = some r := h
 clear h
 by_cases c3 : (wrap64 ((l0.length : Int) + (l1.length : Int))) > 1048576
 ·rw [if_pos c3] at H
  have c3b0 : decide (1048576 < (wrap64 ((l0.length : Int) + (l1.length : Int)))) = true := decide_eq_true c3
  clear c3
  obtain rfl := Option.some.inj H
  go_enter Tryd.func3, Tryd.ntmps3
  go_wp2
  go_ret
  exact ⟨by first | rfl | (simp [errW_none, errW_some] <;> rfl) | (simp [*, errW_none, errW_some] <;> rfl), xw_ HB⟩
 ·rw [if_neg c3] at H
  have c3b0 : decide (1048576 < (wrap64 ((l0.length : Int) + (l1.length : Int)))) = false := decide_eq_false c3
  clear c3
  replace H := Option.bind_eq_some_iff.mp H
  obtain ⟨⟨t391, t392, t393, t394, t395, t396⟩, A40, H⟩ := H
  replace H : ((impl_NormalUrl.f k t391 t392 t393 t394 t395 t396).bind fun bt398 => ((spec_NormalUrl.f k t391 t392 t393 t394 t395 t396).bind fun bt406 => (if (bt398.2.2.2.2.2.2 != bt406.2.2.2.2.2.2) = true then (laws_FnNormal.j0 k l1 bt398.2.2.2.2.2.2 true t391 t392 t393 t394 t395 t396 bt398.1 bt398.2.1 bt398.2.2.1 bt398.2.2.2.1 bt398.2.2.2.2.1 bt398.2.2.2.2.2.1) else (laws_FnNormal.j0 k l1 bt398.2.2.2.2.2.2 (!(bt398.1.toList == bt406.1.toList) || (!(bt398.2.1.toList == bt406.2.1.toList) || (!(bt398.2.2.1 == bt406.2.2.1) || (!(bt398.2.2.2.1.toList == bt406.2.2.2.1.toList) || (!(bt398.2.2.2.2.1.toList == bt406.2.2.2.2.1.toList) || (!(bt398.2.2.2.2.2.1 == bt406.2.2.2.2.2.1))))))) t391 t392 t393 t394 t395 t396 bt398.1 bt398.2.1 bt398.2.2.1 bt398.2.2.2.1 bt398.2.2.2.2.1 bt398.2.2.2.2.2.1)))) = some r := H
  have A4 := Aside0.mk A40
  clear A40
  replace H := Option.bind_eq_some_iff.mp H
  obtain ⟨⟨t398, t399, t400, t401, t402, t403, t404⟩, A50, H⟩ := H
  replace H : ((spec_NormalUrl.f k t391 t392 t393 t394 t395 t396).bind fun bt406 => (if (t404 != bt406.2.2.2.2.2.2) = true then (laws_FnNormal.j0 k l1 t404 true t391 t392 t393 t394 t395 t396 t398 t399 t400 t401 t402 t403) else (laws_FnNormal.j0 k l1 t404 (!(t398.toList == bt406.1.toList) || (!(t399.toList == bt406.2.1.toList) || (!(t400 == bt406.2.2.1) || (!(t401.toList == bt406.2.2.2.1.toList) || (!(t402.toList == bt406.2.2.2.2.1.toList) || (!(t403 == bt406.2.2.2.2.2.1))))))) t391 t392 t393 t394 t395 t396 t398 t399 t400 t401 t402 t403))) = some r := H
  have A5 := Aside0.mk A50
  clear A50
  replace H := Option.bind_eq_some_iff.mp H
  obtain ⟨⟨t406, t407, t408, t409, t410, t411, t412⟩, A60, H⟩ := H
  replace H : (if (t404 != t412) = true then (laws_FnNormal.j0 k l1 t404 true t391 t392 t393 t394 t395 t396 t398 t399 t400 t401 t402 t403) else (laws_FnNormal.j0 k l1 t404 (!(t398.toList == t406.toList) || (!(t399.toList == t407.toList) || (!(t400 == t408) || (!(t401.toList == t409.toList) || (!(t402.toList == t410.toList) || (!(t403 == t411))))))) t391 t392 t393 t394 t395 t396 t398 t399 t400 t401 t402 t403)) = some r := H
  have A6 := Aside0.mk A60
  clear A60
  have HC7 := Aside0.mk H
  clear H
  go_enter Tryd.func3, Tryd.ntmps3
  go_upto_region 6 with (first | ((with_reducible refine gate_callee (f := 5) rfl ?_); refine xgl_ (some 30) Tryd.func5 #[.slice A0 l0.length c0] ?_; (with_reducible refine (spec_DrawNormalUrl.calls k _ _ l0 t391 t392 t393 t394 t395 t396 _ ?side1 ?side2 A4.out).mono ?_); (case side1 => repeat (first | exact HR0.out | (with_reducible refine Kd.C_alloc ?_ _) | (with_reducible refine Kd.C_drewN ?_ _) | (with_reducible refine Kd.C_drew ?_))); (case side2 => exact HC0.out); rintro e w8 ⟨rfl, hb⟩; refine ⟨_, rfl, ?_⟩; replace HB := xws_ HB hb; (try clear hb); (try clear hb2); (try clear hk); (try clear hi)) | ((with_reducible refine gate_dst (N := 5) rfl ?_); (try (refine gate_guard (by rfl) ?_; dsimp only)); refine xbe_ (N := 5) (cs := #[.string (⟨#[]⟩ : ByteArray), .string (⟨#[]⟩ : ByteArray), .int .i64 0, .string (⟨#[]⟩ : ByteArray), .string (⟨#[]⟩ : ByteArray), .bool false]) (t := 24) ?_; intro gb397 hg w9 hbox hb; have BK397 := Aside0.mk (hbox); have GW397 := xge_ HB hg; have GE397 := xge_ HB hg; replace HB := xws_ HB hb; clear hb hbox hg; have hcz10_0 : w9.cell? ⟨gb397, 0, none⟩ = some (.string (⟨#[]⟩ : ByteArray)) := xk_ BK397 0; have hcz10_1 : w9.cell? ⟨gb397, 1, none⟩ = some (.string (⟨#[]⟩ : ByteArray)) := xk_ BK397 1; have hcz10_2 : w9.cell? ⟨gb397, 2, none⟩ = some (.int .i64 0) := xk_ BK397 2; have hcz10_3 : w9.cell? ⟨gb397, 3, none⟩ = some (.string (⟨#[]⟩ : ByteArray)) := xk_ BK397 3; have hcz10_4 : w9.cell? ⟨gb397, 4, none⟩ = some (.string (⟨#[]⟩ : ByteArray)) := xk_ BK397 4; have hcz10_5 : w9.cell? ⟨gb397, 5, none⟩ = some (.bool false) := xk_ BK397 5; have hfz10_0 := blk_frozen BK397.out 0; have hfz10_1 := blk_frozen BK397.out 1; have hfz10_2 := blk_frozen BK397.out 2; have hfz10_3 := blk_frozen BK397.out 3; have hfz10_4 := blk_frozen BK397.out 4; have hfz10_5 := blk_frozen BK397.out 5) | ((with_reducible refine gate_callee (f := 6) rfl ?_); refine xgl_ (some 33) Tryd.func6 #[.agg #[.string t391, .string t392, .int .i64 t393, .string t394, .string t395, .bool t396]] ?_; (with_reducible refine (impl_NormalUrl.calls k t391 t392 t393 t394 t395 t396 t398 t399 t400 t401 t402 t403 t404 _ A5.out (HTB_.out.below (by first | exact Below.refl _ _ | (repeat (first | (with_reducible first | exact HB.out | apply below_alloc | apply pw_below_drewN | apply below_drew1 | refine below_set ?_ GE397.out | refine below_set ?_ GE405.out | refine below_set ?_ GE413.out | refine below_set ?_ GE421.out) | exact HB.out)) | (repeat (first | exact Below.refl _ _ | apply below_alloc | apply pw_below_drewN | apply below_drew1 | refine below_set ?_ GE397.out | refine below_set ?_ GE405.out | refine below_set ?_ GE413.out | refine below_set ?_ GE421.out))))).mono ?_); rintro e w11 ⟨rfl, hb⟩; refine ⟨_, rfl, ?_⟩; replace BK397 := Aside0.mk (blk_below (g := gb397) (o := .cells #[.string t391, .string t392, .int .i64 t393, .string t394, .string t395, .bool t396] 24 (0, 0)) (by (with_reducible repeat (first | refine blk_drewN ?_ _ | refine blk_drew ?_ | refine blk_alloc ?_ _)); refine blk_put (cs := #[.string t391, .string t392, .int .i64 t393, .string t394, .string t395, .bool false]) ?_ 5 _ rfl; (with_reducible repeat (first | refine blk_drewN ?_ _ | refine blk_drew ?_ | refine blk_alloc ?_ _)); refine blk_put (cs := #[.string t391, .string t392, .int .i64 t393, .string t394, .string (⟨#[]⟩ : ByteArray), .bool false]) ?_ 4 _ rfl; (with_reducible repeat (first | refine blk_drewN ?_ _ | refine blk_drew ?_ | refine blk_alloc ?_ _)); refine blk_put (cs := #[.string t391, .string t392, .int .i64 t393, .string (⟨#[]⟩ : ByteArray), .string (⟨#[]⟩ : ByteArray), .bool false]) ?_ 3 _ rfl; (with_reducible repeat (first | refine blk_drewN ?_ _ | refine blk_drew ?_ | refine blk_alloc ?_ _)); refine blk_put (cs := #[.string t391, .string t392, .int .i64 0, .string (⟨#[]⟩ : ByteArray), .string (⟨#[]⟩ : ByteArray), .bool false]) ?_ 2 _ rfl; (with_reducible repeat (first | refine blk_drewN ?_ _ | refine blk_drew ?_ | refine blk_alloc ?_ _)); refine blk_put (cs := #[.string t391, .string (⟨#[]⟩ : ByteArray), .int .i64 0, .string (⟨#[]⟩ : ByteArray), .string (⟨#[]⟩ : ByteArray), .bool false]) ?_ 1 _ rfl; (with_reducible repeat (first | refine blk_drewN ?_ _ | refine blk_drew ?_ | refine blk_alloc ?_ _)); refine blk_put (cs := #[.string (⟨#[]⟩ : ByteArray), .string (⟨#[]⟩ : ByteArray), .int .i64 0, .string (⟨#[]⟩ : ByteArray), .string (⟨#[]⟩ : ByteArray), .bool false]) ?_ 0 _ rfl; (with_reducible repeat (first | refine blk_drewN ?_ _ | refine blk_drew ?_ | refine blk_alloc ?_ _)); exact BK397.out) hb); replace HB := xws_ HB hb; (try clear hb); (try clear hb2); (try clear hk); (try clear hi)) | ((with_reducible refine gate_dst (N := 6) rfl ?_); (try (refine gate_guard (by rfl) ?_; dsimp only)); refine xbe_ (N := 6) (cs := #[.string (⟨#[]⟩ : ByteArray), .string (⟨#[]⟩ : ByteArray), .int .i64 0, .string (⟨#[]⟩ : ByteArray), .string (⟨#[]⟩ : ByteArray), .bool false]) (t := 24) ?_; intro gb405 hg w12 hbox hb; have BK405 := Aside0.mk (hbox); have GW405 := xge_ HB hg; have GE405 := xge_ HB hg; replace HB := xws_ HB hb; have NB397_405 := xlt_ BK397 hg; have NB405_397 := xgt_ BK397 hg; replace BK397 := xbb_ BK397 hb; clear hb hbox hg; have hnb13 := NB405_397.out; have hnc13 := NB397_405.out; have hcz14_0 : w12.cell? ⟨gb405, 0, none⟩ = some (.string (⟨#[]⟩ : ByteArray)) := xk_ BK405 0; have hcz14_1 : w12.cell? ⟨gb405, 1, none⟩ = some (.string (⟨#[]⟩ : ByteArray)) := xk_ BK405 1; have hcz14_2 : w12.cell? ⟨gb405, 2, none⟩ = some (.int .i64 0) := xk_ BK405 2; have hcz14_3 : w12.cell? ⟨gb405, 3, none⟩ = some (.string (⟨#[]⟩ : ByteArray)) := xk_ BK405 3; have hcz14_4 : w12.cell? ⟨gb405, 4, none⟩ = some (.string (⟨#[]⟩ : ByteArray)) := xk_ BK405 4; have hcz14_5 : w12.cell? ⟨gb405, 5, none⟩ = some (.bool false) := xk_ BK405 5; have hfz14_0 := blk_frozen BK405.out 0; have hfz14_1 := blk_frozen BK405.out 1; have hfz14_2 := blk_frozen BK405.out 2; have hfz14_3 := blk_frozen BK405.out 3; have hfz14_4 := blk_frozen BK405.out 4; have hfz14_5 := blk_frozen BK405.out 5; have hcz15_0 : w12.cell? ⟨gb397, 0, none⟩ = some (.string t391) := xk_ BK397 0; have hcz15_1 : w12.cell? ⟨gb397, 1, none⟩ = some (.string t392) := xk_ BK397 1; have hcz15_2 : w12.cell? ⟨gb397, 2, none⟩ = some (.int .i64 t393) := xk_ BK397 2; have hcz15_3 : w12.cell? ⟨gb397, 3, none⟩ = some (.string t394) := xk_ BK397 3; have hcz15_4 : w12.cell? ⟨gb397, 4, none⟩ = some (.string t395) := xk_ BK397 4; have hcz15_5 : w12.cell? ⟨gb397, 5, none⟩ = some (.bool t396) := xk_ BK397 5; have hfz15_0 := blk_frozen BK397.out 0; have hfz15_1 := blk_frozen BK397.out 1; have hfz15_2 := blk_frozen BK397.out 2; have hfz15_3 := blk_frozen BK397.out 3; have hfz15_4 := blk_frozen BK397.out 4; have hfz15_5 := blk_frozen BK397.out 5) | ((with_reducible refine gate_callee (f := 7) rfl ?_); refine xgl_ (some 38) Tryd.func7 #[.agg #[.string t391, .string t392, .int .i64 t393, .string t394, .string t395, .bool t396]] ?_; (with_reducible refine (spec_NormalUrl.calls k t391 t392 t393 t394 t395 t396 t406 t407 t408 t409 t410 t411 t412 _ A6.out).mono ?_); rintro e w16 ⟨rfl, hb⟩; refine ⟨_, rfl, ?_⟩; replace BK397 := Aside0.mk (blk_below (g := gb397) (o := .cells #[.string t391, .string t392, .int .i64 t393, .string t394, .string t395, .bool t396] 24 (0, 0)) (by (with_reducible repeat (first | refine blk_drewN ?_ _ | refine blk_drew ?_ | refine blk_alloc ?_ _)); refine blk_far ?_ NB397_405.out _; (with_reducible repeat (first | refine blk_drewN ?_ _ | refine blk_drew ?_ | refine blk_alloc ?_ _)); refine blk_far ?_ NB397_405.out _; (with_reducible repeat (first | refine blk_drewN ?_ _ | refine blk_drew ?_ | refine blk_alloc ?_ _)); refine blk_far ?_ NB397_405.out _; (with_reducible repeat (first | refine blk_drewN ?_ _ | refine blk_drew ?_ | refine blk_alloc ?_ _)); refine blk_far ?_ NB397_405.out _; (with_reducible repeat (first | refine blk_drewN ?_ _ | refine blk_drew ?_ | refine blk_alloc ?_ _)); refine blk_far ?_ NB397_405.out _; (with_reducible repeat (first | refine blk_drewN ?_ _ | refine blk_drew ?_ | refine blk_alloc ?_ _)); refine blk_far ?_ NB397_405.out _; (with_reducible repeat (first | refine blk_drewN ?_ _ | refine blk_drew ?_ | refine blk_alloc ?_ _)); exact BK397.out) hb); replace BK405 := Aside0.mk (blk_below (g := gb405) (o := .cells #[.string t398, .string t399, .int .i64 t400, .string t401, .string t402, .bool t403] 24 (0, 0)) (by (with_reducible repeat (first | refine blk_drewN ?_ _ | refine blk_drew ?_ | refine blk_alloc ?_ _)); refine blk_put (cs := #[.string t398, .string t399, .int .i64 t400, .string t401, .string t402, .bool false]) ?_ 5 _ rfl; (with_reducible repeat (first | refine blk_drewN ?_ _ | refine blk_drew ?_ | refine blk_alloc ?_ _)); refine blk_put (cs := #[.string t398, .string t399, .int .i64 t400, .string t401, .string (⟨#[]⟩ : ByteArray), .bool false]) ?_ 4 _ rfl; (with_reducible repeat (first | refine blk_drewN ?_ _ | refine blk_drew ?_ | refine blk_alloc ?_ _)); refine blk_put (cs := #[.string t398, .string t399, .int .i64 t400, .string (⟨#[]⟩ : ByteArray), .string (⟨#[]⟩ : ByteArray), .bool false]) ?_ 3 _ rfl; (with_reducible repeat (first | refine blk_drewN ?_ _ | refine blk_drew ?_ | refine blk_alloc ?_ _)); refine blk_put (cs := #[.string t398, .string t399, .int .i64 0, .string (⟨#[]⟩ : ByteArray), .string (⟨#[]⟩ : ByteArray), .bool false]) ?_ 2 _ rfl; (with_reducible repeat (first | refine blk_drewN ?_ _ | refine blk_drew ?_ | refine blk_alloc ?_ _)); refine blk_put (cs := #[.string t398, .string (⟨#[]⟩ : ByteArray), .int .i64 0, .string (⟨#[]⟩ : ByteArray), .string (⟨#[]⟩ : ByteArray), .bool false]) ?_ 1 _ rfl; (with_reducible repeat (first | refine blk_drewN ?_ _ | refine blk_drew ?_ | refine blk_alloc ?_ _)); refine blk_put (cs := #[.string (⟨#[]⟩ : ByteArray), .string (⟨#[]⟩ : ByteArray), .int .i64 0, .string (⟨#[]⟩ : ByteArray), .string (⟨#[]⟩ : ByteArray), .bool false]) ?_ 0 _ rfl; (with_reducible repeat (first | refine blk_drewN ?_ _ | refine blk_drew ?_ | refine blk_alloc ?_ _)); exact BK405.out) hb); replace HB := xws_ HB hb; (try clear hb); (try clear hb2); (try clear hk); (try clear hi)) | ((with_reducible refine gate_dst (N := 8) rfl ?_); (try (refine gate_guard (by rfl) ?_; dsimp only)); refine xbe_ (N := 8) (cs := #[.string (⟨#[]⟩ : ByteArray), .string (⟨#[]⟩ : ByteArray), .int .i64 0, .string (⟨#[]⟩ : ByteArray), .string (⟨#[]⟩ : ByteArray), .bool false]) (t := 24) ?_; intro gb413 hg w17 hbox hb; have BK413 := Aside0.mk (hbox); have GW413 := xge_ HB hg; have GE413 := xge_ HB hg; replace HB := xws_ HB hb; have NB397_413 := xlt_ BK397 hg; have NB413_397 := xgt_ BK397 hg; replace BK397 := xbb_ BK397 hb; have NB405_413 := xlt_ BK405 hg; have NB413_405 := xgt_ BK405 hg; replace BK405 := xbb_ BK405 hb; clear hb hbox hg; have hnb18 := NB413_397.out; have hnc18 := NB397_413.out; have hnb19 := NB413_405.out; have hnc19 := NB405_413.out; have hcz20_0 : w17.cell? ⟨gb413, 0, none⟩ = some (.string (⟨#[]⟩ : ByteArray)) := xk_ BK413 0; have hcz20_1 : w17.cell? ⟨gb413, 1, none⟩ = some (.string (⟨#[]⟩ : ByteArray)) := xk_ BK413 1; have hcz20_2 : w17.cell? ⟨gb413, 2, none⟩ = some (.int .i64 0) := xk_ BK413 2; have hcz20_3 : w17.cell? ⟨gb413, 3, none⟩ = some (.string (⟨#[]⟩ : ByteArray)) := xk_ BK413 3; have hcz20_4 : w17.cell? ⟨gb413, 4, none⟩ = some (.string (⟨#[]⟩ : ByteArray)) := xk_ BK413 4; have hcz20_5 : w17.cell? ⟨gb413, 5, none⟩ = some (.bool false) := xk_ BK413 5; have hfz20_0 := blk_frozen BK413.out 0; have hfz20_1 := blk_frozen BK413.out 1; have hfz20_2 := blk_frozen BK413.out 2; have hfz20_3 := blk_frozen BK413.out 3; have hfz20_4 := blk_frozen BK413.out 4; have hfz20_5 := blk_frozen BK413.out 5))
  (try simp only [Act.put, List.setIfInBounds_toArray, List.set_cons_zero, List.set_cons_succ])
  go_cut [48] (fun v48 wc => ∃ (kq : Nat) (x48_6 : Bool), v48 = .bool x48_6 ∧ Aside0 (laws_FnNormal.j0 kq l1 t404 x48_6 t391 t392 t393 t394 t395 t396 t398 t399 t400 t401 t402 t403 = some r) ∧ Aside0 (kq ≤ k) ∧ Aside0 (wc.heap[gb397]? = some (.cells #[.string t391, .string t392, .int .i64 t393, .string t394, .string t395, .bool t396] 24 (0, 0))) ∧ Aside0 (wc.heap[gb405]? = some (.cells #[.string t398, .string t399, .int .i64 t400, .string t401, .string t402, .bool t403] 24 (0, 0))) ∧ Aside0 (wc.heap[gb413]? = some (.cells #[.string t406, .string t407, .int .i64 t408, .string t409, .string t410, .bool t411] 24 (0, 0))) ∧ Aside0 (Below w.heap.size w wc))
  case first =>
   have H := HC7.out
   clear HC7
   by_cases c21 : (t404 != t412) = true
   ·rw [if_pos c21] at H
    have c21b0 : (t404 != t412) = true := c21
    (try (have c21b1 : decide (t404 = t412) = false := by simpa using c21))
    (try (have c21b2 : (t404 == t412) = false := by simpa using c21))
    (try (have c21b3 : ¬ (t404 = t412) := by simpa using c21))
    clear c21
    (first | rw [c21b0] | (simp only [i64_w, i32_w]; rw [c21b0]) | skip)
    have H' := Aside0.mk H
    clear H
    go_wp2
    go_meet
    case rel => exact ⟨_, (true), (by first | rfl | (simp; done) | (simp [*]; done)), H', ⟨by first | omega | exact Nat.le_refl _⟩, ⟨by (with_reducible repeat (first | refine blk_drewN ?_ _ | refine blk_drew ?_ | refine blk_alloc ?_ _)); refine blk_far ?_ NB397_413.out _; (with_reducible repeat (first | refine blk_drewN ?_ _ | refine blk_drew ?_ | refine blk_alloc ?_ _)); refine blk_far ?_ NB397_413.out _; (with_reducible repeat (first | refine blk_drewN ?_ _ | refine blk_drew ?_ | refine blk_alloc ?_ _)); refine blk_far ?_ NB397_413.out _; (with_reducible repeat (first | refine blk_drewN ?_ _ | refine blk_drew ?_ | refine blk_alloc ?_ _)); refine blk_far ?_ NB397_413.out _; (with_reducible repeat (first | refine blk_drewN ?_ _ | refine blk_drew ?_ | refine blk_alloc ?_ _)); refine blk_far ?_ NB397_413.out _; (with_reducible repeat (first | refine blk_drewN ?_ _ | refine blk_drew ?_ | refine blk_alloc ?_ _)); refine blk_far ?_ NB397_413.out _; (with_reducible repeat (first | refine blk_drewN ?_ _ | refine blk_drew ?_ | refine blk_alloc ?_ _)); exact BK397.out⟩, ⟨by (with_reducible repeat (first | refine blk_drewN ?_ _ | refine blk_drew ?_ | refine blk_alloc ?_ _)); refine blk_far ?_ NB405_413.out _; (with_reducible repeat (first | refine blk_drewN ?_ _ | refine blk_drew ?_ | refine blk_alloc ?_ _)); refine blk_far ?_ NB405_413.out _; (with_reducible repeat (first | refine blk_drewN ?_ _ | refine blk_drew ?_ | refine blk_alloc ?_ _)); refine blk_far ?_ NB405_413.out _; (with_reducible repeat (first | refine blk_drewN ?_ _ | refine blk_drew ?_ | refine blk_alloc ?_ _)); refine blk_far ?_ NB405_413.out _; (with_reducible repeat (first | refine blk_drewN ?_ _ | refine blk_drew ?_ | refine blk_alloc ?_ _)); refine blk_far ?_ NB405_413.out _; (with_reducible repeat (first | refine blk_drewN ?_ _ | refine blk_drew ?_ | refine blk_alloc ?_ _)); refine blk_far ?_ NB405_413.out _; (with_reducible repeat (first | refine blk_drewN ?_ _ | refine blk_drew ?_ | refine blk_alloc ?_ _)); exact BK405.out⟩, ⟨by (with_reducible repeat (first | refine blk_drewN ?_ _ | refine blk_drew ?_ | refine blk_alloc ?_ _)); refine blk_put (cs := #[.string t406, .string t407, .int .i64 t408, .string t409, .string t410, .bool false]) ?_ 5 _ rfl; (with_reducible repeat (first | refine blk_drewN ?_ _ | refine blk_drew ?_ | refine blk_alloc ?_ _)); refine blk_put (cs := #[.string t406, .string t407, .int .i64 t408, .string t409, .string (⟨#[]⟩ : ByteArray), .bool false]) ?_ 4 _ rfl; (with_reducible repeat (first | refine blk_drewN ?_ _ | refine blk_drew ?_ | refine blk_alloc ?_ _)); refine blk_put (cs := #[.string t406, .string t407, .int .i64 t408, .string (⟨#[]⟩ : ByteArray), .string (⟨#[]⟩ : ByteArray), .bool false]) ?_ 3 _ rfl; (with_reducible repeat (first | refine blk_drewN ?_ _ | refine blk_drew ?_ | refine blk_alloc ?_ _)); refine blk_put (cs := #[.string t406, .string t407, .int .i64 0, .string (⟨#[]⟩ : ByteArray), .string (⟨#[]⟩ : ByteArray), .bool false]) ?_ 2 _ rfl; (with_reducible repeat (first | refine blk_drewN ?_ _ | refine blk_drew ?_ | refine blk_alloc ?_ _)); refine blk_put (cs := #[.string t406, .string (⟨#[]⟩ : ByteArray), .int .i64 0, .string (⟨#[]⟩ : ByteArray), .string (⟨#[]⟩ : ByteArray), .bool false]) ?_ 1 _ rfl; (with_reducible repeat (first | refine blk_drewN ?_ _ | refine blk_drew ?_ | refine blk_alloc ?_ _)); refine blk_put (cs := #[.string (⟨#[]⟩ : ByteArray), .string (⟨#[]⟩ : ByteArray), .int .i64 0, .string (⟨#[]⟩ : ByteArray), .string (⟨#[]⟩ : ByteArray), .bool false]) ?_ 0 _ rfl; (with_reducible repeat (first | refine blk_drewN ?_ _ | refine blk_drew ?_ | refine blk_alloc ?_ _)); exact BK413.out⟩, ⟨xw_ HB⟩⟩
   ·rw [if_neg c21] at H
    have c21b0 : (t404 != t412) = false := by simpa using c21
    (try (have c21b1 : decide (t404 = t412) = true := by simpa using c21))
    (try (have c21b2 : (t404 == t412) = true := by simpa using c21))
    clear c21
    (first | rw [c21b0] | (simp only [i64_w, i32_w]; rw [c21b0]) | skip)
    have H' := Aside0.mk H
    clear H
    have hnb22 := NB405_397.out
    have hnc22 := NB397_405.out
    have hnb23 := NB405_413.out
    have hnc23 := NB413_405.out
    have hcz24_0 : w17.cell? ⟨gb405, 0, none⟩ = some (.string t398) := xk_ BK405 0
    have hcz24_1 : w17.cell? ⟨gb405, 1, none⟩ = some (.string t399) := xk_ BK405 1
    have hcz24_2 : w17.cell? ⟨gb405, 2, none⟩ = some (.int .i64 t400) := xk_ BK405 2
    have hcz24_3 : w17.cell? ⟨gb405, 3, none⟩ = some (.string t401) := xk_ BK405 3
    have hcz24_4 : w17.cell? ⟨gb405, 4, none⟩ = some (.string t402) := xk_ BK405 4
    have hcz24_5 : w17.cell? ⟨gb405, 5, none⟩ = some (.bool t403) := xk_ BK405 5
    have hfz24_0 := blk_frozen BK405.out 0
    have hfz24_1 := blk_frozen BK405.out 1
    have hfz24_2 := blk_frozen BK405.out 2
    have hfz24_3 := blk_frozen BK405.out 3
    have hfz24_4 := blk_frozen BK405.out 4
    have hfz24_5 := blk_frozen BK405.out 5
    have hnb25 := NB413_397.out
    have hnc25 := NB397_413.out
    have hcz26_0 : w17.cell? ⟨gb413, 0, none⟩ = some (.string (⟨#[]⟩ : ByteArray)) := xk_ BK413 0
    have hcz26_1 : w17.cell? ⟨gb413, 1, none⟩ = some (.string (⟨#[]⟩ : ByteArray)) := xk_ BK413 1
    have hcz26_2 : w17.cell? ⟨gb413, 2, none⟩ = some (.int .i64 0) := xk_ BK413 2
    have hcz26_3 : w17.cell? ⟨gb413, 3, none⟩ = some (.string (⟨#[]⟩ : ByteArray)) := xk_ BK413 3
    have hcz26_4 : w17.cell? ⟨gb413, 4, none⟩ = some (.string (⟨#[]⟩ : ByteArray)) := xk_ BK413 4
    have hcz26_5 : w17.cell? ⟨gb413, 5, none⟩ = some (.bool false) := xk_ BK413 5
    have hfz26_0 := blk_frozen BK413.out 0
    have hfz26_1 := blk_frozen BK413.out 1
    have hfz26_2 := blk_frozen BK413.out 2
    have hfz26_3 := blk_frozen BK413.out 3
    have hfz26_4 := blk_frozen BK413.out 4
    have hfz26_5 := blk_frozen BK413.out 5
    go_wp2
    go_meet
    case rel => exact ⟨_, ((!(t398.toList == t406.toList) || (!(t399.toList == t407.toList) || (!(t400 == t408) || (!(t401.toList == t409.toList) || (!(t402.toList == t410.toList) || (!(t403 == t411)))))))), (by first | rfl | (simp; done) | (simp [*]; done)), H', ⟨by first | omega | exact Nat.le_refl _⟩, ⟨by (with_reducible repeat (first | refine blk_drewN ?_ _ | refine blk_drew ?_ | refine blk_alloc ?_ _)); refine blk_far ?_ NB397_413.out _; (with_reducible repeat (first | refine blk_drewN ?_ _ | refine blk_drew ?_ | refine blk_alloc ?_ _)); refine blk_far ?_ NB397_413.out _; (with_reducible repeat (first | refine blk_drewN ?_ _ | refine blk_drew ?_ | refine blk_alloc ?_ _)); refine blk_far ?_ NB397_413.out _; (with_reducible repeat (first | refine blk_drewN ?_ _ | refine blk_drew ?_ | refine blk_alloc ?_ _)); refine blk_far ?_ NB397_413.out _; (with_reducible repeat (first | refine blk_drewN ?_ _ | refine blk_drew ?_ | refine blk_alloc ?_ _)); refine blk_far ?_ NB397_413.out _; (with_reducible repeat (first | refine blk_drewN ?_ _ | refine blk_drew ?_ | refine blk_alloc ?_ _)); refine blk_far ?_ NB397_413.out _; (with_reducible repeat (first | refine blk_drewN ?_ _ | refine blk_drew ?_ | refine blk_alloc ?_ _)); exact BK397.out⟩, ⟨by (with_reducible repeat (first | refine blk_drewN ?_ _ | refine blk_drew ?_ | refine blk_alloc ?_ _)); refine blk_far ?_ NB405_413.out _; (with_reducible repeat (first | refine blk_drewN ?_ _ | refine blk_drew ?_ | refine blk_alloc ?_ _)); refine blk_far ?_ NB405_413.out _; (with_reducible repeat (first | refine blk_drewN ?_ _ | refine blk_drew ?_ | refine blk_alloc ?_ _)); refine blk_far ?_ NB405_413.out _; (with_reducible repeat (first | refine blk_drewN ?_ _ | refine blk_drew ?_ | refine blk_alloc ?_ _)); refine blk_far ?_ NB405_413.out _; (with_reducible repeat (first | refine blk_drewN ?_ _ | refine blk_drew ?_ | refine blk_alloc ?_ _)); refine blk_far ?_ NB405_413.out _; (with_reducible repeat (first | refine blk_drewN ?_ _ | refine blk_drew ?_ | refine blk_alloc ?_ _)); refine blk_far ?_ NB405_413.out _; (with_reducible repeat (first | refine blk_drewN ?_ _ | refine blk_drew ?_ | refine blk_alloc ?_ _)); exact BK405.out⟩, ⟨by (with_reducible repeat (first | refine blk_drewN ?_ _ | refine blk_drew ?_ | refine blk_alloc ?_ _)); refine blk_put (cs := #[.string t406, .string t407, .int .i64 t408, .string t409, .string t410, .bool false]) ?_ 5 _ rfl; (with_reducible repeat (first | refine blk_drewN ?_ _ | refine blk_drew ?_ | refine blk_alloc ?_ _)); refine blk_put (cs := #[.string t406, .string t407, .int .i64 t408, .string t409, .string (⟨#[]⟩ : ByteArray), .bool false]) ?_ 4 _ rfl; (with_reducible repeat (first | refine blk_drewN ?_ _ | refine blk_drew ?_ | refine blk_alloc ?_ _)); refine blk_put (cs := #[.string t406, .string t407, .int .i64 t408, .string (⟨#[]⟩ : ByteArray), .string (⟨#[]⟩ : ByteArray), .bool false]) ?_ 3 _ rfl; (with_reducible repeat (first | refine blk_drewN ?_ _ | refine blk_drew ?_ | refine blk_alloc ?_ _)); refine blk_put (cs := #[.string t406, .string t407, .int .i64 0, .string (⟨#[]⟩ : ByteArray), .string (⟨#[]⟩ : ByteArray), .bool false]) ?_ 2 _ rfl; (with_reducible repeat (first | refine blk_drewN ?_ _ | refine blk_drew ?_ | refine blk_alloc ?_ _)); refine blk_put (cs := #[.string t406, .string (⟨#[]⟩ : ByteArray), .int .i64 0, .string (⟨#[]⟩ : ByteArray), .string (⟨#[]⟩ : ByteArray), .bool false]) ?_ 1 _ rfl; (with_reducible repeat (first | refine blk_drewN ?_ _ | refine blk_drew ?_ | refine blk_alloc ?_ _)); refine blk_put (cs := #[.string (⟨#[]⟩ : ByteArray), .string (⟨#[]⟩ : ByteArray), .int .i64 0, .string (⟨#[]⟩ : ByteArray), .string (⟨#[]⟩ : ByteArray), .bool false]) ?_ 0 _ rfl; (with_reducible repeat (first | refine blk_drewN ?_ _ | refine blk_drew ?_ | refine blk_alloc ?_ _)); exact BK413.out⟩, ⟨xw_ HB⟩⟩
  case rest =>
   clear HC7
   try clear c1
   try clear c2
   try clear p2
   try clear c3
   try clear c3b0
   try clear c5
   try clear c6
   try clear p6
   try clear c7
   try clear c13
   try clear c18
   try clear c19
   try clear c21
   try clear c21b0
   try clear c21b1
   try clear c21b2
   try clear c22
   try clear c23
   try clear c25
   try clear hcz10_0
   try clear hcz10_1
   try clear hcz10_2
   try clear hcz10_3
   try clear hcz10_4
   try clear hcz10_5
   try clear hcz14_0
   try clear hcz14_1
   try clear hcz14_2
   try clear hcz14_3
   try clear hcz14_4
   try clear hcz14_5
   try clear hcz15_0
   try clear hcz15_1
   try clear hcz15_2
   try clear hcz15_3
   try clear hcz15_4
   try clear hcz15_5
   try clear hcz20_0
   try clear hcz20_1
   try clear hcz20_2
   try clear hcz20_3
   try clear hcz20_4
   try clear hcz20_5
   try clear hcz24_0
   try clear hcz24_1
   try clear hcz24_2
   try clear hcz24_3
   try clear hcz24_4
   try clear hcz24_5
   try clear hcz26_0
   try clear hcz26_1
   try clear hcz26_2
   try clear hcz26_3
   try clear hcz26_4
   try clear hcz26_5
   try clear hfz10_0
   try clear hfz10_1
   try clear hfz10_2
   try clear hfz10_3
   try clear hfz10_4
   try clear hfz10_5
   try clear hfz14_0
   try clear hfz14_1
   try clear hfz14_2
   try clear hfz14_3
   try clear hfz14_4
   try clear hfz14_5
   try clear hfz15_0
   try clear hfz15_1
   try clear hfz15_2
   try clear hfz15_3
   try clear hfz15_4
   try clear hfz15_5
   try clear hfz20_0
   try clear hfz20_1
   try clear hfz20_2
   try clear hfz20_3
   try clear hfz20_4
   try clear hfz20_5
   try clear hfz24_0
   try clear hfz24_1
   try clear hfz24_2
   try clear hfz24_3
   try clear hfz24_4
   try clear hfz24_5
   try clear hfz26_0
   try clear hfz26_1
   try clear hfz26_2
   try clear hfz26_3
   try clear hfz26_4
   try clear hfz26_5
   obtain ⟨kq, x48_6, rfl, HA, HJ6, BK397, BK405, BK413, HB⟩ := hcut
   cases kq with
   | zero => exact absurd HA.out (by simp [laws_FnNormal.j0])
   | succ kj6 =>
    have H := HA.out
    clear HA
    simp only [laws_FnNormal.j0] at H
    by_cases c27 : x48_6 = true
    ·subst c27
     have H1 : (some false) = some r := by rw [if_pos rfl] at H; exact H
     clear H
     have H := H1
     clear H1
     exact absurd ((Option.some.inj H).trans HT.out) Bool.false_ne_true
    ·replace c27 := Bool.eq_false_iff.mpr c27
     subst c27
     have H1 : (if t404 = true then ((impl_NormalUrl.f kj6 t398 t399 t400 t401 t402 t403).bind fun bt414 => ((impl_SameUrl.f kj6 t391 t392 t393 t394 t395 t396 t398 t399 t400 t401 t402 t403).bind fun bt422 => ((impl_DropDots.f kj6 t401).bind fun bt424 => (if bt414.2.2.2.2.2.2 = true then (if bt422.2 = true then (if bt424.2 = true then (if (!(bt414.1.toList == t398.toList) || (!(bt414.2.1.toList == t399.toList) || (!(bt414.2.2.1 == t400) || (!(bt414.2.2.2.1.toList == t401.toList) || (!(bt414.2.2.2.2.1.toList == t402.toList) || (!(bt414.2.2.2.2.2.1 == t403))))))) = true then (some false) else (if bt422.1 = true then (if bt424.1.toList = t401.toList then ((impl_GoodUrl.f kj6 t398 t399 t400 t401 t402 t403).bind fun t426 => (if t426 = true then (laws_FnNormal.j1 kj6 l1) else (some false))) else (some false)) else (some false))) else (some false)) else (some false)) else (some false))))) else (laws_FnNormal.j1 kj6 l1)) = some r := by rw [if_neg (show ¬ (false = true) by decide)] at H; exact H
     clear H
     have H := H1
     clear H1
     have HC28 := Aside0.mk H
     clear H
     go_upto_if 49 with (fail)
     go_cut [] (fun wc => ∃ (kq : Nat), Aside0 (laws_FnNormal.j1 kq l1 = some r) ∧ Aside0 (kq ≤ kj6) ∧ Aside0 (wc.heap[gb397]? = some (.cells #[.string t391, .string t392, .int .i64 t393, .string t394, .string t395, .bool t396] 24 (0, 0))) ∧ Aside0 (wc.heap[gb405]? = some (.cells #[.string t398, .string t399, .int .i64 t400, .string t401, .string t402, .bool t403] 24 (0, 0))) ∧ Aside0 (wc.heap[gb413]? = some (.cells #[.string t406, .string t407, .int .i64 t408, .string t409, .string t410, .bool t411] 24 (0, 0))) ∧ Aside0 (Below w.heap.size w wc))
     case first =>
      have H := HC28.out
      clear HC28
      by_cases c29 : t404 = true
      ·subst c29
       have H1 : ((impl_NormalUrl.f kj6 t398 t399 t400 t401 t402 t403).bind fun bt414 => ((impl_SameUrl.f kj6 t391 t392 t393 t394 t395 t396 t398 t399 t400 t401 t402 t403).bind fun bt422 => ((impl_DropDots.f kj6 t401).bind fun bt424 => (if bt414.2.2.2.2.2.2 = true then (if bt422.2 = true then (if bt424.2 = true then (if (!(bt414.1.toList == t398.toList) || (!(bt414.2.1.toList == t399.toList) || (!(bt414.2.2.1 == t400) || (!(bt414.2.2.2.1.toList == t401.toList) || (!(bt414.2.2.2.2.1.toList == t402.toList) || (!(bt414.2.2.2.2.2.1 == t403))))))) = true then (some false) else (if bt422.1 = true then (if bt424.1.toList = t401.toList then ((impl_GoodUrl.f kj6 t398 t399 t400 t401 t402 t403).bind fun t426 => (if t426 = true then (laws_FnNormal.j1 kj6 l1) else (some false))) else (some false)) else (some false))) else (some false)) else (some false)) else (some false))))) = some r := by rw [if_pos rfl] at H; exact H
       clear H
       have H := H1
       clear H1
       replace H := Option.bind_eq_some_iff.mp H
       obtain ⟨⟨t414, t415, t416, t417, t418, t419, t420⟩, A300, H⟩ := H
       replace H : ((impl_SameUrl.f kj6 t391 t392 t393 t394 t395 t396 t398 t399 t400 t401 t402 t403).bind fun bt422 => ((impl_DropDots.f kj6 t401).bind fun bt424 => (if t420 = true then (if bt422.2 = true then (if bt424.2 = true then (if (!(t414.toList == t398.toList) || (!(t415.toList == t399.toList) || (!(t416 == t400) || (!(t417.toList == t401.toList) || (!(t418.toList == t402.toList) || (!(t419 == t403))))))) = true then (some false) else (if bt422.1 = true then (if bt424.1.toList = t401.toList then ((impl_GoodUrl.f kj6 t398 t399 t400 t401 t402 t403).bind fun t426 => (if t426 = true then (laws_FnNormal.j1 kj6 l1) else (some false))) else (some false)) else (some false))) else (some false)) else (some false)) else (some false)))) = some r := H
       have A30 := Aside0.mk A300
       clear A300
       replace H := Option.bind_eq_some_iff.mp H
       obtain ⟨⟨t422, t423⟩, A310, H⟩ := H
       replace H : ((impl_DropDots.f kj6 t401).bind fun bt424 => (if t420 = true then (if t423 = true then (if bt424.2 = true then (if (!(t414.toList == t398.toList) || (!(t415.toList == t399.toList) || (!(t416 == t400) || (!(t417.toList == t401.toList) || (!(t418.toList == t402.toList) || (!(t419 == t403))))))) = true then (some false) else (if t422 = true then (if bt424.1.toList = t401.toList then ((impl_GoodUrl.f kj6 t398 t399 t400 t401 t402 t403).bind fun t426 => (if t426 = true then (laws_FnNormal.j1 kj6 l1) else (some false))) else (some false)) else (some false))) else (some false)) else (some false)) else (some false))) = some r := H
       have A31 := Aside0.mk A310
       clear A310
       replace H := Option.bind_eq_some_iff.mp H
       obtain ⟨⟨t424, t425⟩, A320, H⟩ := H
       replace H : (if t420 = true then (if t423 = true then (if t425 = true then (if (!(t414.toList == t398.toList) || (!(t415.toList == t399.toList) || (!(t416 == t400) || (!(t417.toList == t401.toList) || (!(t418.toList == t402.toList) || (!(t419 == t403))))))) = true then (some false) else (if t422 = true then (if t424.toList = t401.toList then ((impl_GoodUrl.f kj6 t398 t399 t400 t401 t402 t403).bind fun t426 => (if t426 = true then (laws_FnNormal.j1 kj6 l1) else (some false))) else (some false)) else (some false))) else (some false)) else (some false)) else (some false)) = some r := H
       have A32 := Aside0.mk A320
       clear A320
       by_cases c33 : t420 = true
       ·subst c33
        have H1 : (if t423 = true then (if t425 = true then (if (!(t414.toList == t398.toList) || (!(t415.toList == t399.toList) || (!(t416 == t400) || (!(t417.toList == t401.toList) || (!(t418.toList == t402.toList) || (!(t419 == t403))))))) = true then (some false) else (if t422 = true then (if t424.toList = t401.toList then ((impl_GoodUrl.f kj6 t398 t399 t400 t401 t402 t403).bind fun t426 => (if t426 = true then (laws_FnNormal.j1 kj6 l1) else (some false))) else (some false)) else (some false))) else (some false)) else (some false)) = some r := by rw [if_pos rfl] at H; exact H
        clear H
        have H := H1
        clear H1
        by_cases c34 : t423 = true
        ·subst c34
         have H1 : (if t425 = true then (if (!(t414.toList == t398.toList) || (!(t415.toList == t399.toList) || (!(t416 == t400) || (!(t417.toList == t401.toList) || (!(t418.toList == t402.toList) || (!(t419 == t403))))))) = true then (some false) else (if t422 = true then (if t424.toList = t401.toList then ((impl_GoodUrl.f kj6 t398 t399 t400 t401 t402 t403).bind fun t426 => (if t426 = true then (laws_FnNormal.j1 kj6 l1) else (some false))) else (some false)) else (some false))) else (some false)) = some r := by rw [if_pos rfl] at H; exact H
         clear H
         have H := H1
         clear H1
         by_cases c35 : t425 = true
         ·subst c35
          have H1 : (if (!(t414.toList == t398.toList) || (!(t415.toList == t399.toList) || (!(t416 == t400) || (!(t417.toList == t401.toList) || (!(t418.toList == t402.toList) || (!(t419 == t403))))))) = true then (some false) else (if t422 = true then (if t424.toList = t401.toList then ((impl_GoodUrl.f kj6 t398 t399 t400 t401 t402 t403).bind fun t426 => (if t426 = true then (laws_FnNormal.j1 kj6 l1) else (some false))) else (some false)) else (some false))) = some r := by rw [if_pos rfl] at H; exact H
          clear H
          have H := H1
          clear H1
          by_cases c36 : (!(t414.toList == t398.toList) || (!(t415.toList == t399.toList) || (!(t416 == t400) || (!(t417.toList == t401.toList) || (!(t418.toList == t402.toList) || (!(t419 == t403))))))) = true
          ·rw [if_pos c36] at H
           have c36b0 : (!(t414.toList == t398.toList) || (!(t415.toList == t399.toList) || (!(t416 == t400) || (!(t417.toList == t401.toList) || (!(t418.toList == t402.toList) || (!(t419 == t403))))))) = true := c36
           clear c36
           (first | rw [c36b0] | (simp only [i64_w, i32_w]; rw [c36b0]) | skip)
           exact absurd ((Option.some.inj H).trans HT.out) Bool.false_ne_true
          ·rw [if_neg c36] at H
           have c36b0 : (!(t414.toList == t398.toList) || (!(t415.toList == t399.toList) || (!(t416 == t400) || (!(t417.toList == t401.toList) || (!(t418.toList == t402.toList) || (!(t419 == t403))))))) = false := by simpa using c36
           clear c36
           (first | rw [c36b0] | (simp only [i64_w, i32_w]; rw [c36b0]) | skip)
           by_cases c54 : t422 = true
           ·subst c54
            have H1 : (if t424.toList = t401.toList then ((impl_GoodUrl.f kj6 t398 t399 t400 t401 t402 t403).bind fun t426 => (if t426 = true then (laws_FnNormal.j1 kj6 l1) else (some false))) else (some false)) = some r := by rw [if_pos rfl] at H; exact H
            clear H
            have H := H1
            clear H1
            by_cases c55 : t424.toList = t401.toList
            ·rw [if_pos c55] at H
             have c55b0 : (t424.toList == t401.toList) = true := beq_iff_eq.mpr c55
             have c55b1 : (t424.toList != t401.toList) = false := bne_eq_false_iff_eq.mpr c55
             clear c55
             replace H := Option.bind_eq_some_iff.mp H
             obtain ⟨t426, A560, H⟩ := H
             replace H : (if t426 = true then (laws_FnNormal.j1 kj6 l1) else (some false)) = some r := H
             have A56 := Aside0.mk A560
             clear A560
             by_cases c57 : t426 = true
             ·subst c57
              have H1 : (laws_FnNormal.j1 kj6 l1) = some r := by rw [if_pos rfl] at H; exact H
              clear H
              have H := H1
              clear H1
              have H' := Aside0.mk H
              clear H
              have hnb58 := NB405_397.out
              have hnc58 := NB397_405.out
              have hnb59 := NB405_413.out
              have hnc59 := NB413_405.out
              have hcz60_0 : wc.cell? ⟨gb405, 0, none⟩ = some (.string t398) := xk_ BK405 0
              have hcz60_1 : wc.cell? ⟨gb405, 1, none⟩ = some (.string t399) := xk_ BK405 1
              have hcz60_2 : wc.cell? ⟨gb405, 2, none⟩ = some (.int .i64 t400) := xk_ BK405 2
              have hcz60_3 : wc.cell? ⟨gb405, 3, none⟩ = some (.string t401) := xk_ BK405 3
              have hcz60_4 : wc.cell? ⟨gb405, 4, none⟩ = some (.string t402) := xk_ BK405 4
              have hcz60_5 : wc.cell? ⟨gb405, 5, none⟩ = some (.bool t403) := xk_ BK405 5
              have hfz60_0 := blk_frozen BK405.out 0
              have hfz60_1 := blk_frozen BK405.out 1
              have hfz60_2 := blk_frozen BK405.out 2
              have hfz60_3 := blk_frozen BK405.out 3
              have hfz60_4 := blk_frozen BK405.out 4
              have hfz60_5 := blk_frozen BK405.out 5
              go_wp2_with (first | ((with_reducible refine gate_callee (f := 6) rfl ?_); refine xgl_ (some 52) Tryd.func6 #[.agg #[.string t398, .string t399, .int .i64 t400, .string t401, .string t402, .bool t403]] ?_; (with_reducible refine (impl_NormalUrl.calls kj6 t398 t399 t400 t401 t402 t403 t414 t415 t416 t417 t418 t419 true _ A30.out (HTB_.out.below (by first | exact Below.refl _ _ | (repeat (first | (with_reducible first | exact HB.out | apply below_alloc | apply pw_below_drewN | apply below_drew1 | refine below_set ?_ GE397.out | refine below_set ?_ GE405.out | refine below_set ?_ GE413.out | refine below_set ?_ GE421.out) | exact HB.out)) | (repeat (first | exact Below.refl _ _ | apply below_alloc | apply pw_below_drewN | apply below_drew1 | refine below_set ?_ GE397.out | refine below_set ?_ GE405.out | refine below_set ?_ GE413.out | refine below_set ?_ GE421.out))))).mono ?_); rintro e w61 ⟨rfl, hb⟩; refine ⟨_, rfl, ?_⟩; replace BK397 := xbb_ BK397 hb; replace BK405 := xbb_ BK405 hb; replace BK413 := xbb_ BK413 hb; replace HB := xws_ HB hb; (try clear hb); (try clear hb2); (try clear hk); (try clear hi)) | ((with_reducible refine gate_dst (N := 10) rfl ?_); (try (refine gate_guard (by rfl) ?_; dsimp only)); refine xbe_ (N := 10) (cs := #[.string (⟨#[]⟩ : ByteArray), .string (⟨#[]⟩ : ByteArray), .int .i64 0, .string (⟨#[]⟩ : ByteArray), .string (⟨#[]⟩ : ByteArray), .bool false]) (t := 24) ?_; intro gb421 hg w62 hbox hb; have BK421 := Aside0.mk (hbox); have GW421 := xge_ HB hg; have GE421 := xge_ HB hg; replace HB := xws_ HB hb; have NB397_421 := xlt_ BK397 hg; have NB421_397 := xgt_ BK397 hg; replace BK397 := xbb_ BK397 hb; have NB405_421 := xlt_ BK405 hg; have NB421_405 := xgt_ BK405 hg; replace BK405 := xbb_ BK405 hb; have NB413_421 := xlt_ BK413 hg; have NB421_413 := xgt_ BK413 hg; replace BK413 := xbb_ BK413 hb; clear hb hbox hg; have hnb63 := NB421_397.out; have hnc63 := NB397_421.out; have hnb64 := NB421_405.out; have hnc64 := NB405_421.out; have hnb65 := NB421_413.out; have hnc65 := NB413_421.out; have hcz66_0 : w62.cell? ⟨gb421, 0, none⟩ = some (.string (⟨#[]⟩ : ByteArray)) := xk_ BK421 0; have hcz66_1 : w62.cell? ⟨gb421, 1, none⟩ = some (.string (⟨#[]⟩ : ByteArray)) := xk_ BK421 1; have hcz66_2 : w62.cell? ⟨gb421, 2, none⟩ = some (.int .i64 0) := xk_ BK421 2; have hcz66_3 : w62.cell? ⟨gb421, 3, none⟩ = some (.string (⟨#[]⟩ : ByteArray)) := xk_ BK421 3; have hcz66_4 : w62.cell? ⟨gb421, 4, none⟩ = some (.string (⟨#[]⟩ : ByteArray)) := xk_ BK421 4; have hcz66_5 : w62.cell? ⟨gb421, 5, none⟩ = some (.bool false) := xk_ BK421 5; have hfz66_0 := blk_frozen BK421.out 0; have hfz66_1 := blk_frozen BK421.out 1; have hfz66_2 := blk_frozen BK421.out 2; have hfz66_3 := blk_frozen BK421.out 3; have hfz66_4 := blk_frozen BK421.out 4; have hfz66_5 := blk_frozen BK421.out 5; have hnb67 := NB397_413.out; have hnc67 := NB413_397.out; have hcz68_0 : w62.cell? ⟨gb397, 0, none⟩ = some (.string t391) := xk_ BK397 0; have hcz68_1 : w62.cell? ⟨gb397, 1, none⟩ = some (.string t392) := xk_ BK397 1; have hcz68_2 : w62.cell? ⟨gb397, 2, none⟩ = some (.int .i64 t393) := xk_ BK397 2; have hcz68_3 : w62.cell? ⟨gb397, 3, none⟩ = some (.string t394) := xk_ BK397 3; have hcz68_4 : w62.cell? ⟨gb397, 4, none⟩ = some (.string t395) := xk_ BK397 4; have hcz68_5 : w62.cell? ⟨gb397, 5, none⟩ = some (.bool t396) := xk_ BK397 5; have hfz68_0 := blk_frozen BK397.out 0; have hfz68_1 := blk_frozen BK397.out 1; have hfz68_2 := blk_frozen BK397.out 2; have hfz68_3 := blk_frozen BK397.out 3; have hfz68_4 := blk_frozen BK397.out 4; have hfz68_5 := blk_frozen BK397.out 5; have hcz69_0 : w62.cell? ⟨gb405, 0, none⟩ = some (.string t398) := xk_ BK405 0; have hcz69_1 : w62.cell? ⟨gb405, 1, none⟩ = some (.string t399) := xk_ BK405 1; have hcz69_2 : w62.cell? ⟨gb405, 2, none⟩ = some (.int .i64 t400) := xk_ BK405 2; have hcz69_3 : w62.cell? ⟨gb405, 3, none⟩ = some (.string t401) := xk_ BK405 3; have hcz69_4 : w62.cell? ⟨gb405, 4, none⟩ = some (.string t402) := xk_ BK405 4; have hcz69_5 : w62.cell? ⟨gb405, 5, none⟩ = some (.bool t403) := xk_ BK405 5; have hfz69_0 := blk_frozen BK405.out 0; have hfz69_1 := blk_frozen BK405.out 1; have hfz69_2 := blk_frozen BK405.out 2; have hfz69_3 := blk_frozen BK405.out 3; have hfz69_4 := blk_frozen BK405.out 4; have hfz69_5 := blk_frozen BK405.out 5) | ((with_reducible refine gate_callee (f := 8) rfl ?_); refine xgl_ (some 58) Tryd.func8 #[.agg #[.string t391, .string t392, .int .i64 t393, .string t394, .string t395, .bool t396], .agg #[.string t398, .string t399, .int .i64 t400, .string t401, .string t402, .bool t403]] ?_; (with_reducible refine (impl_SameUrl.calls kj6 t391 t392 t393 t394 t395 t396 t398 t399 t400 t401 t402 t403 true true _ A31.out (HTB_.out.below (by first | exact Below.refl _ _ | (repeat (first | (with_reducible first | exact HB.out | apply below_alloc | apply pw_below_drewN | apply below_drew1 | refine below_set ?_ GE397.out | refine below_set ?_ GE405.out | refine below_set ?_ GE413.out | refine below_set ?_ GE421.out) | exact HB.out)) | (repeat (first | exact Below.refl _ _ | apply below_alloc | apply pw_below_drewN | apply below_drew1 | refine below_set ?_ GE397.out | refine below_set ?_ GE405.out | refine below_set ?_ GE413.out | refine below_set ?_ GE421.out))))).mono ?_); rintro e w70 ⟨rfl, hb⟩; refine ⟨_, rfl, ?_⟩; replace BK397 := Aside0.mk (blk_below (g := gb397) (o := .cells #[.string t391, .string t392, .int .i64 t393, .string t394, .string t395, .bool t396] 24 (0, 0)) (by (with_reducible repeat (first | refine blk_drewN ?_ _ | refine blk_drew ?_ | refine blk_alloc ?_ _)); refine blk_far ?_ NB397_421.out _; (with_reducible repeat (first | refine blk_drewN ?_ _ | refine blk_drew ?_ | refine blk_alloc ?_ _)); refine blk_far ?_ NB397_421.out _; (with_reducible repeat (first | refine blk_drewN ?_ _ | refine blk_drew ?_ | refine blk_alloc ?_ _)); refine blk_far ?_ NB397_421.out _; (with_reducible repeat (first | refine blk_drewN ?_ _ | refine blk_drew ?_ | refine blk_alloc ?_ _)); refine blk_far ?_ NB397_421.out _; (with_reducible repeat (first | refine blk_drewN ?_ _ | refine blk_drew ?_ | refine blk_alloc ?_ _)); refine blk_far ?_ NB397_421.out _; (with_reducible repeat (first | refine blk_drewN ?_ _ | refine blk_drew ?_ | refine blk_alloc ?_ _)); refine blk_far ?_ NB397_421.out _; (with_reducible repeat (first | refine blk_drewN ?_ _ | refine blk_drew ?_ | refine blk_alloc ?_ _)); exact BK397.out) hb); replace BK405 := Aside0.mk (blk_below (g := gb405) (o := .cells #[.string t398, .string t399, .int .i64 t400, .string t401, .string t402, .bool t403] 24 (0, 0)) (by (with_reducible repeat (first | refine blk_drewN ?_ _ | refine blk_drew ?_ | refine blk_alloc ?_ _)); refine blk_far ?_ NB405_421.out _; (with_reducible repeat (first | refine blk_drewN ?_ _ | refine blk_drew ?_ | refine blk_alloc ?_ _)); refine blk_far ?_ NB405_421.out _; (with_reducible repeat (first | refine blk_drewN ?_ _ | refine blk_drew ?_ | refine blk_alloc ?_ _)); refine blk_far ?_ NB405_421.out _; (with_reducible repeat (first | refine blk_drewN ?_ _ | refine blk_drew ?_ | refine blk_alloc ?_ _)); refine blk_far ?_ NB405_421.out _; (with_reducible repeat (first | refine blk_drewN ?_ _ | refine blk_drew ?_ | refine blk_alloc ?_ _)); refine blk_far ?_ NB405_421.out _; (with_reducible repeat (first | refine blk_drewN ?_ _ | refine blk_drew ?_ | refine blk_alloc ?_ _)); refine blk_far ?_ NB405_421.out _; (with_reducible repeat (first | refine blk_drewN ?_ _ | refine blk_drew ?_ | refine blk_alloc ?_ _)); exact BK405.out) hb); replace BK413 := Aside0.mk (blk_below (g := gb413) (o := .cells #[.string t406, .string t407, .int .i64 t408, .string t409, .string t410, .bool t411] 24 (0, 0)) (by (with_reducible repeat (first | refine blk_drewN ?_ _ | refine blk_drew ?_ | refine blk_alloc ?_ _)); refine blk_far ?_ NB413_421.out _; (with_reducible repeat (first | refine blk_drewN ?_ _ | refine blk_drew ?_ | refine blk_alloc ?_ _)); refine blk_far ?_ NB413_421.out _; (with_reducible repeat (first | refine blk_drewN ?_ _ | refine blk_drew ?_ | refine blk_alloc ?_ _)); refine blk_far ?_ NB413_421.out _; (with_reducible repeat (first | refine blk_drewN ?_ _ | refine blk_drew ?_ | refine blk_alloc ?_ _)); refine blk_far ?_ NB413_421.out _; (with_reducible repeat (first | refine blk_drewN ?_ _ | refine blk_drew ?_ | refine blk_alloc ?_ _)); refine blk_far ?_ NB413_421.out _; (with_reducible repeat (first | refine blk_drewN ?_ _ | refine blk_drew ?_ | refine blk_alloc ?_ _)); refine blk_far ?_ NB413_421.out _; (with_reducible repeat (first | refine blk_drewN ?_ _ | refine blk_drew ?_ | refine blk_alloc ?_ _)); exact BK413.out) hb); replace BK421 := Aside0.mk (blk_below (g := gb421) (o := .cells #[.string t414, .string t415, .int .i64 t416, .string t417, .string t418, .bool t419] 24 (0, 0)) (by (with_reducible repeat (first | refine blk_drewN ?_ _ | refine blk_drew ?_ | refine blk_alloc ?_ _)); refine blk_put (cs := #[.string t414, .string t415, .int .i64 t416, .string t417, .string t418, .bool false]) ?_ 5 _ rfl; (with_reducible repeat (first | refine blk_drewN ?_ _ | refine blk_drew ?_ | refine blk_alloc ?_ _)); refine blk_put (cs := #[.string t414, .string t415, .int .i64 t416, .string t417, .string (⟨#[]⟩ : ByteArray), .bool false]) ?_ 4 _ rfl; (with_reducible repeat (first | refine blk_drewN ?_ _ | refine blk_drew ?_ | refine blk_alloc ?_ _)); refine blk_put (cs := #[.string t414, .string t415, .int .i64 t416, .string (⟨#[]⟩ : ByteArray), .string (⟨#[]⟩ : ByteArray), .bool false]) ?_ 3 _ rfl; (with_reducible repeat (first | refine blk_drewN ?_ _ | refine blk_drew ?_ | refine blk_alloc ?_ _)); refine blk_put (cs := #[.string t414, .string t415, .int .i64 0, .string (⟨#[]⟩ : ByteArray), .string (⟨#[]⟩ : ByteArray), .bool false]) ?_ 2 _ rfl; (with_reducible repeat (first | refine blk_drewN ?_ _ | refine blk_drew ?_ | refine blk_alloc ?_ _)); refine blk_put (cs := #[.string t414, .string (⟨#[]⟩ : ByteArray), .int .i64 0, .string (⟨#[]⟩ : ByteArray), .string (⟨#[]⟩ : ByteArray), .bool false]) ?_ 1 _ rfl; (with_reducible repeat (first | refine blk_drewN ?_ _ | refine blk_drew ?_ | refine blk_alloc ?_ _)); refine blk_put (cs := #[.string (⟨#[]⟩ : ByteArray), .string (⟨#[]⟩ : ByteArray), .int .i64 0, .string (⟨#[]⟩ : ByteArray), .string (⟨#[]⟩ : ByteArray), .bool false]) ?_ 0 _ rfl; (with_reducible repeat (first | refine blk_drewN ?_ _ | refine blk_drew ?_ | refine blk_alloc ?_ _)); exact BK421.out) hb); replace HB := xws_ HB hb; (try clear hb); (try clear hb2); (try clear hk); (try clear hi); have hcz71_0 : w70.cell? ⟨gb405, 0, none⟩ = some (.string t398) := xk_ BK405 0; have hcz71_1 : w70.cell? ⟨gb405, 1, none⟩ = some (.string t399) := xk_ BK405 1; have hcz71_2 : w70.cell? ⟨gb405, 2, none⟩ = some (.int .i64 t400) := xk_ BK405 2; have hcz71_3 : w70.cell? ⟨gb405, 3, none⟩ = some (.string t401) := xk_ BK405 3; have hcz71_4 : w70.cell? ⟨gb405, 4, none⟩ = some (.string t402) := xk_ BK405 4; have hcz71_5 : w70.cell? ⟨gb405, 5, none⟩ = some (.bool t403) := xk_ BK405 5; have hfz71_0 := blk_frozen BK405.out 0; have hfz71_1 := blk_frozen BK405.out 1; have hfz71_2 := blk_frozen BK405.out 2; have hfz71_3 := blk_frozen BK405.out 3; have hfz71_4 := blk_frozen BK405.out 4; have hfz71_5 := blk_frozen BK405.out 5) | ((with_reducible refine gate_callee (f := 9) rfl ?_); refine xgl_ (some 64) Tryd.func9 #[.string t401] ?_; (with_reducible refine (impl_DropDots.calls kj6 t401 t424 true _ A32.out (HTB_.out.below (by first | exact Below.refl _ _ | (repeat (first | (with_reducible first | exact HB.out | apply below_alloc | apply pw_below_drewN | apply below_drew1 | refine below_set ?_ GE397.out | refine below_set ?_ GE405.out | refine below_set ?_ GE413.out | refine below_set ?_ GE421.out) | exact HB.out)) | (repeat (first | exact Below.refl _ _ | apply below_alloc | apply pw_below_drewN | apply below_drew1 | refine below_set ?_ GE397.out | refine below_set ?_ GE405.out | refine below_set ?_ GE413.out | refine below_set ?_ GE421.out))))).mono ?_); rintro e w72 ⟨rfl, hb⟩; refine ⟨_, rfl, ?_⟩; replace BK397 := xbb_ BK397 hb; replace BK405 := xbb_ BK405 hb; replace BK413 := xbb_ BK413 hb; replace BK421 := xbb_ BK421 hb; replace HB := xws_ HB hb; (try clear hb); (try clear hb2); (try clear hk); (try clear hi); have hcz73_0 : w72.cell? ⟨gb421, 0, none⟩ = some (.string t414) := xk_ BK421 0; have hcz73_1 : w72.cell? ⟨gb421, 1, none⟩ = some (.string t415) := xk_ BK421 1; have hcz73_2 : w72.cell? ⟨gb421, 2, none⟩ = some (.int .i64 t416) := xk_ BK421 2; have hcz73_3 : w72.cell? ⟨gb421, 3, none⟩ = some (.string t417) := xk_ BK421 3; have hcz73_4 : w72.cell? ⟨gb421, 4, none⟩ = some (.string t418) := xk_ BK421 4; have hcz73_5 : w72.cell? ⟨gb421, 5, none⟩ = some (.bool t419) := xk_ BK421 5; have hfz73_0 := blk_frozen BK421.out 0; have hfz73_1 := blk_frozen BK421.out 1; have hfz73_2 := blk_frozen BK421.out 2; have hfz73_3 := blk_frozen BK421.out 3; have hfz73_4 := blk_frozen BK421.out 4; have hfz73_5 := blk_frozen BK421.out 5; have hcz74_0 : w72.cell? ⟨gb405, 0, none⟩ = some (.string t398) := xk_ BK405 0; have hcz74_1 : w72.cell? ⟨gb405, 1, none⟩ = some (.string t399) := xk_ BK405 1; have hcz74_2 : w72.cell? ⟨gb405, 2, none⟩ = some (.int .i64 t400) := xk_ BK405 2; have hcz74_3 : w72.cell? ⟨gb405, 3, none⟩ = some (.string t401) := xk_ BK405 3; have hcz74_4 : w72.cell? ⟨gb405, 4, none⟩ = some (.string t402) := xk_ BK405 4; have hcz74_5 : w72.cell? ⟨gb405, 5, none⟩ = some (.bool t403) := xk_ BK405 5; have hfz74_0 := blk_frozen BK405.out 0; have hfz74_1 := blk_frozen BK405.out 1; have hfz74_2 := blk_frozen BK405.out 2; have hfz74_3 := blk_frozen BK405.out 3; have hfz74_4 := blk_frozen BK405.out 4; have hfz74_5 := blk_frozen BK405.out 5) | (go_at_call 10; (with_reducible refine (impl_GoodUrl.calls kj6 t398 t399 t400 t401 t402 t403 true _ A56.out (HTB_.out.below (by first | exact Below.refl _ _ | (repeat (first | (with_reducible first | exact HB.out | apply below_alloc | apply pw_below_drewN | apply below_drew1 | refine below_set ?_ GE397.out | refine below_set ?_ GE405.out | refine below_set ?_ GE413.out | refine below_set ?_ GE421.out) | exact HB.out)) | (repeat (first | exact Below.refl _ _ | apply below_alloc | apply pw_below_drewN | apply below_drew1 | refine below_set ?_ GE397.out | refine below_set ?_ GE405.out | refine below_set ?_ GE413.out | refine below_set ?_ GE421.out))))).mono ?_); rintro e w75 ⟨rfl, hb⟩; replace BK397 := xbb_ BK397 hb; replace BK405 := xbb_ BK405 hb; replace BK413 := xbb_ BK413 hb; replace BK421 := xbb_ BK421 hb; replace HB := xws_ HB hb; (try clear hb); (try clear hb2); (try clear hk); (try clear hi)))
              go_meet
              case rel => exact ⟨_, H', ⟨by have := HJ6.out; first | omega | exact Nat.le_refl _⟩, ⟨xb_ BK397⟩, ⟨xb_ BK405⟩, ⟨xb_ BK413⟩, ⟨xw_ HB⟩⟩
             ·replace c57 := Bool.eq_false_iff.mpr c57
              subst c57
              have H1 : (some false) = some r := by rw [if_neg (show ¬ (false = true) by decide)] at H; exact H
              clear H
              have H := H1
              clear H1
              exact absurd ((Option.some.inj H).trans HT.out) Bool.false_ne_true
            ·rw [if_neg c55] at H
             have c55b0 : (t424.toList == t401.toList) = false := beq_eq_false_iff_ne.mpr c55
             have c55b1 : (t424.toList != t401.toList) = true := bne_iff_ne.mpr c55
             exact absurd ((Option.some.inj H).trans HT.out) Bool.false_ne_true
           ·replace c54 := Bool.eq_false_iff.mpr c54
            subst c54
            have H1 : (some false) = some r := by rw [if_neg (show ¬ (false = true) by decide)] at H; exact H
            clear H
            have H := H1
            clear H1
            exact absurd ((Option.some.inj H).trans HT.out) Bool.false_ne_true
         ·replace c35 := Bool.eq_false_iff.mpr c35
          subst c35
          have H1 : (some false) = some r := by rw [if_neg (show ¬ (false = true) by decide)] at H; exact H
          clear H
          have H := H1
          clear H1
          exact absurd ((Option.some.inj H).trans HT.out) Bool.false_ne_true
        ·replace c34 := Bool.eq_false_iff.mpr c34
         subst c34
         have H1 : (some false) = some r := by rw [if_neg (show ¬ (false = true) by decide)] at H; exact H
         clear H
         have H := H1
         clear H1
         exact absurd ((Option.some.inj H).trans HT.out) Bool.false_ne_true
       ·replace c33 := Bool.eq_false_iff.mpr c33
        subst c33
        have H1 : (some false) = some r := by rw [if_neg (show ¬ (false = true) by decide)] at H; exact H
        clear H
        have H := H1
        clear H1
        exact absurd ((Option.some.inj H).trans HT.out) Bool.false_ne_true
      ·replace c29 := Bool.eq_false_iff.mpr c29
       subst c29
       have H1 : (laws_FnNormal.j1 kj6 l1) = some r := by rw [if_neg (show ¬ (false = true) by decide)] at H; exact H
       clear H
       have H := H1
       clear H1
       have H' := Aside0.mk H
       clear H
       go_wp2
       go_meet
       case rel => exact ⟨_, H', ⟨by have := HJ6.out; first | omega | exact Nat.le_refl _⟩, ⟨xb_ BK397⟩, ⟨xb_ BK405⟩, ⟨xb_ BK413⟩, ⟨xw_ HB⟩⟩
     case rest =>
      clear HC28
      try clear c1
      try clear c2
      try clear p2
      try clear c3
      try clear c3b0
      try clear c4
      try clear c5
      try clear c6
      try clear p6
      try clear c7
      try clear c8
      try clear c9
      try clear c10
      try clear c11
      try clear c12
      try clear c13
      try clear c14
      try clear c15
      try clear c16
      try clear c18
      try clear c19
      try clear c21
      try clear c21b0
      try clear c21b1
      try clear c21b2
      try clear c22
      try clear c23
      try clear c25
      try clear c27
      try clear c29
      try clear c33
      try clear c34
      try clear c35
      try clear c36
      try clear c36b0
      try clear c37
      try clear c38
      try clear c42
      try clear c43
      try clear c44
      try clear c46
      try clear c54
      try clear c55
      try clear c55b0
      try clear c55b1
      try clear c57
      try clear c58
      try clear c59
      try clear c63
      try clear c64
      try clear p64
      try clear c65
      try clear c67
      try clear c76
      try clear c77
      try clear c81
      try clear c82
      try clear c83
      try clear c85
      try clear c94
      try clear c95
      try clear c99
      try clear c100
      try clear c101
      try clear c103
      try clear c111
      try clear c112
      try clear c116
      try clear c117
      try clear c118
      try clear c120
      try clear c128
      try clear c129
      try clear c133
      try clear c134
      try clear c135
      try clear c137
      try clear c143
      try clear c144
      try clear c148
      try clear c149
      try clear c150
      try clear c152
      try clear c158
      try clear c159
      try clear c163
      try clear c164
      try clear c165
      try clear c167
      try clear hcz102_0
      try clear hcz102_1
      try clear hcz102_2
      try clear hcz102_3
      try clear hcz102_4
      try clear hcz102_5
      try clear hcz104_0
      try clear hcz104_1
      try clear hcz104_2
      try clear hcz104_3
      try clear hcz104_4
      try clear hcz104_5
      try clear hcz105_0
      try clear hcz105_1
      try clear hcz105_2
      try clear hcz105_3
      try clear hcz105_4
      try clear hcz105_5
      try clear hcz107_0
      try clear hcz107_1
      try clear hcz107_2
      try clear hcz107_3
      try clear hcz107_4
      try clear hcz107_5
      try clear hcz109_0
      try clear hcz109_1
      try clear hcz109_2
      try clear hcz109_3
      try clear hcz109_4
      try clear hcz109_5
      try clear hcz10_0
      try clear hcz10_1
      try clear hcz10_2
      try clear hcz10_3
      try clear hcz10_4
      try clear hcz10_5
      try clear hcz110_0
      try clear hcz110_1
      try clear hcz110_2
      try clear hcz110_3
      try clear hcz110_4
      try clear hcz110_5
      try clear hcz113_0
      try clear hcz113_1
      try clear hcz113_2
      try clear hcz113_3
      try clear hcz113_4
      try clear hcz113_5
      try clear hcz119_0
      try clear hcz119_1
      try clear hcz119_2
      try clear hcz119_3
      try clear hcz119_4
      try clear hcz119_5
      try clear hcz121_0
      try clear hcz121_1
      try clear hcz121_2
      try clear hcz121_3
      try clear hcz121_4
      try clear hcz121_5
      try clear hcz122_0
      try clear hcz122_1
      try clear hcz122_2
      try clear hcz122_3
      try clear hcz122_4
      try clear hcz122_5
      try clear hcz124_0
      try clear hcz124_1
      try clear hcz124_2
      try clear hcz124_3
      try clear hcz124_4
      try clear hcz124_5
      try clear hcz126_0
      try clear hcz126_1
      try clear hcz126_2
      try clear hcz126_3
      try clear hcz126_4
      try clear hcz126_5
      try clear hcz127_0
      try clear hcz127_1
      try clear hcz127_2
      try clear hcz127_3
      try clear hcz127_4
      try clear hcz127_5
      try clear hcz130_0
      try clear hcz130_1
      try clear hcz130_2
      try clear hcz130_3
      try clear hcz130_4
      try clear hcz130_5
      try clear hcz136_0
      try clear hcz136_1
      try clear hcz136_2
      try clear hcz136_3
      try clear hcz136_4
      try clear hcz136_5
      try clear hcz138_0
      try clear hcz138_1
      try clear hcz138_2
      try clear hcz138_3
      try clear hcz138_4
      try clear hcz138_5
      try clear hcz139_0
      try clear hcz139_1
      try clear hcz139_2
      try clear hcz139_3
      try clear hcz139_4
      try clear hcz139_5
      try clear hcz141_0
      try clear hcz141_1
      try clear hcz141_2
      try clear hcz141_3
      try clear hcz141_4
      try clear hcz141_5
      try clear hcz145_0
      try clear hcz145_1
      try clear hcz145_2
      try clear hcz145_3
      try clear hcz145_4
      try clear hcz145_5
      try clear hcz14_0
      try clear hcz14_1
      try clear hcz14_2
      try clear hcz14_3
      try clear hcz14_4
      try clear hcz14_5
      try clear hcz151_0
      try clear hcz151_1
      try clear hcz151_2
      try clear hcz151_3
      try clear hcz151_4
      try clear hcz151_5
      try clear hcz153_0
      try clear hcz153_1
      try clear hcz153_2
      try clear hcz153_3
      try clear hcz153_4
      try clear hcz153_5
      try clear hcz154_0
      try clear hcz154_1
      try clear hcz154_2
      try clear hcz154_3
      try clear hcz154_4
      try clear hcz154_5
      try clear hcz156_0
      try clear hcz156_1
      try clear hcz156_2
      try clear hcz156_3
      try clear hcz156_4
      try clear hcz156_5
      try clear hcz15_0
      try clear hcz15_1
      try clear hcz15_2
      try clear hcz15_3
      try clear hcz15_4
      try clear hcz15_5
      try clear hcz160_0
      try clear hcz160_1
      try clear hcz160_2
      try clear hcz160_3
      try clear hcz160_4
      try clear hcz160_5
      try clear hcz166_0
      try clear hcz166_1
      try clear hcz166_2
      try clear hcz166_3
      try clear hcz166_4
      try clear hcz166_5
      try clear hcz168_0
      try clear hcz168_1
      try clear hcz168_2
      try clear hcz168_3
      try clear hcz168_4
      try clear hcz168_5
      try clear hcz169_0
      try clear hcz169_1
      try clear hcz169_2
      try clear hcz169_3
      try clear hcz169_4
      try clear hcz169_5
      try clear hcz171_0
      try clear hcz171_1
      try clear hcz171_2
      try clear hcz171_3
      try clear hcz171_4
      try clear hcz171_5
      try clear hcz20_0
      try clear hcz20_1
      try clear hcz20_2
      try clear hcz20_3
      try clear hcz20_4
      try clear hcz20_5
      try clear hcz24_0
      try clear hcz24_1
      try clear hcz24_2
      try clear hcz24_3
      try clear hcz24_4
      try clear hcz24_5
      try clear hcz26_0
      try clear hcz26_1
      try clear hcz26_2
      try clear hcz26_3
      try clear hcz26_4
      try clear hcz26_5
      try clear hcz39_0
      try clear hcz39_1
      try clear hcz39_2
      try clear hcz39_3
      try clear hcz39_4
      try clear hcz39_5
      try clear hcz45_0
      try clear hcz45_1
      try clear hcz45_2
      try clear hcz45_3
      try clear hcz45_4
      try clear hcz45_5
      try clear hcz47_0
      try clear hcz47_1
      try clear hcz47_2
      try clear hcz47_3
      try clear hcz47_4
      try clear hcz47_5
      try clear hcz48_0
      try clear hcz48_1
      try clear hcz48_2
      try clear hcz48_3
      try clear hcz48_4
      try clear hcz48_5
      try clear hcz50_0
      try clear hcz50_1
      try clear hcz50_2
      try clear hcz50_3
      try clear hcz50_4
      try clear hcz50_5
      try clear hcz52_0
      try clear hcz52_1
      try clear hcz52_2
      try clear hcz52_3
      try clear hcz52_4
      try clear hcz52_5
      try clear hcz53_0
      try clear hcz53_1
      try clear hcz53_2
      try clear hcz53_3
      try clear hcz53_4
      try clear hcz53_5
      try clear hcz60_0
      try clear hcz60_1
      try clear hcz60_2
      try clear hcz60_3
      try clear hcz60_4
      try clear hcz60_5
      try clear hcz66_0
      try clear hcz66_1
      try clear hcz66_2
      try clear hcz66_3
      try clear hcz66_4
      try clear hcz66_5
      try clear hcz68_0
      try clear hcz68_1
      try clear hcz68_2
      try clear hcz68_3
      try clear hcz68_4
      try clear hcz68_5
      try clear hcz69_0
      try clear hcz69_1
      try clear hcz69_2
      try clear hcz69_3
      try clear hcz69_4
      try clear hcz69_5
      try clear hcz71_0
      try clear hcz71_1
      try clear hcz71_2
      try clear hcz71_3
      try clear hcz71_4
      try clear hcz71_5
      try clear hcz73_0
      try clear hcz73_1
      try clear hcz73_2
      try clear hcz73_3
      try clear hcz73_4
      try clear hcz73_5
      try clear hcz74_0
      try clear hcz74_1
      try clear hcz74_2
      try clear hcz74_3
      try clear hcz74_4
      try clear hcz74_5
      try clear hcz78_0
      try clear hcz78_1
      try clear hcz78_2
      try clear hcz78_3
      try clear hcz78_4
      try clear hcz78_5
      try clear hcz84_0
      try clear hcz84_1
      try clear hcz84_2
      try clear hcz84_3
      try clear hcz84_4
      try clear hcz84_5
      try clear hcz86_0
      try clear hcz86_1
      try clear hcz86_2
      try clear hcz86_3
      try clear hcz86_4
      try clear hcz86_5
      try clear hcz87_0
      try clear hcz87_1
      try clear hcz87_2
      try clear hcz87_3
      try clear hcz87_4
      try clear hcz87_5
      try clear hcz89_0
      try clear hcz89_1
      try clear hcz89_2
      try clear hcz89_3
      try clear hcz89_4
      try clear hcz89_5
      try clear hcz91_0
      try clear hcz91_1
      try clear hcz91_2
      try clear hcz91_3
      try clear hcz91_4
      try clear hcz91_5
      try clear hcz92_0
      try clear hcz92_1
      try clear hcz92_2
      try clear hcz92_3
      try clear hcz92_4
      try clear hcz92_5
      try clear hcz96_0
      try clear hcz96_1
      try clear hcz96_2
      try clear hcz96_3
      try clear hcz96_4
      try clear hcz96_5
      try clear hfz102_0
      try clear hfz102_1
      try clear hfz102_2
      try clear hfz102_3
      try clear hfz102_4
      try clear hfz102_5
      try clear hfz104_0
      try clear hfz104_1
      try clear hfz104_2
      try clear hfz104_3
      try clear hfz104_4
      try clear hfz104_5
      try clear hfz105_0
      try clear hfz105_1
      try clear hfz105_2
      try clear hfz105_3
      try clear hfz105_4
      try clear hfz105_5
      try clear hfz107_0
      try clear hfz107_1
      try clear hfz107_2
      try clear hfz107_3
      try clear hfz107_4
      try clear hfz107_5
      try clear hfz109_0
      try clear hfz109_1
      try clear hfz109_2
      try clear hfz109_3
      try clear hfz109_4
      try clear hfz109_5
      try clear hfz10_0
      try clear hfz10_1
      try clear hfz10_2
      try clear hfz10_3
      try clear hfz10_4
      try clear hfz10_5
      try clear hfz110_0
      try clear hfz110_1
      try clear hfz110_2
      try clear hfz110_3
      try clear hfz110_4
      try clear hfz110_5
      try clear hfz113_0
      try clear hfz113_1
      try clear hfz113_2
      try clear hfz113_3
      try clear hfz113_4
      try clear hfz113_5
      try clear hfz119_0
      try clear hfz119_1
      try clear hfz119_2
      try clear hfz119_3
      try clear hfz119_4
      try clear hfz119_5
      try clear hfz121_0
      try clear hfz121_1
      try clear hfz121_2
      try clear hfz121_3
      try clear hfz121_4
      try clear hfz121_5
      try clear hfz122_0
      try clear hfz122_1
      try clear hfz122_2
      try clear hfz122_3
      try clear hfz122_4
      try clear hfz122_5
      try clear hfz124_0
      try clear hfz124_1
      try clear hfz124_2
      try clear hfz124_3
      try clear hfz124_4
      try clear hfz124_5
      try clear hfz126_0
      try clear hfz126_1
      try clear hfz126_2
      try clear hfz126_3
      try clear hfz126_4
      try clear hfz126_5
      try clear hfz127_0
      try clear hfz127_1
      try clear hfz127_2
      try clear hfz127_3
      try clear hfz127_4
      try clear hfz127_5
      try clear hfz130_0
      try clear hfz130_1
      try clear hfz130_2
      try clear hfz130_3
      try clear hfz130_4
      try clear hfz130_5
      try clear hfz136_0
      try clear hfz136_1
      try clear hfz136_2
      try clear hfz136_3
      try clear hfz136_4
      try clear hfz136_5
      try clear hfz138_0
      try clear hfz138_1
      try clear hfz138_2
      try clear hfz138_3
      try clear hfz138_4
      try clear hfz138_5
      try clear hfz139_0
      try clear hfz139_1
      try clear hfz139_2
      try clear hfz139_3
      try clear hfz139_4
      try clear hfz139_5
      try clear hfz141_0
      try clear hfz141_1
      try clear hfz141_2
      try clear hfz141_3
      try clear hfz141_4
      try clear hfz141_5
      try clear hfz145_0
      try clear hfz145_1
      try clear hfz145_2
      try clear hfz145_3
      try clear hfz145_4
      try clear hfz145_5
      try clear hfz14_0
      try clear hfz14_1
      try clear hfz14_2
      try clear hfz14_3
      try clear hfz14_4
      try clear hfz14_5
      try clear hfz151_0
      try clear hfz151_1
      try clear hfz151_2
      try clear hfz151_3
      try clear hfz151_4
      try clear hfz151_5
      try clear hfz153_0
      try clear hfz153_1
      try clear hfz153_2
      try clear hfz153_3
      try clear hfz153_4
      try clear hfz153_5
      try clear hfz154_0
      try clear hfz154_1
      try clear hfz154_2
      try clear hfz154_3
      try clear hfz154_4
      try clear hfz154_5
      try clear hfz156_0
      try clear hfz156_1
      try clear hfz156_2
      try clear hfz156_3
      try clear hfz156_4
      try clear hfz156_5
      try clear hfz15_0
      try clear hfz15_1
      try clear hfz15_2
      try clear hfz15_3
      try clear hfz15_4
      try clear hfz15_5
      try clear hfz160_0
      try clear hfz160_1
      try clear hfz160_2
      try clear hfz160_3
      try clear hfz160_4
      try clear hfz160_5
      try clear hfz166_0
      try clear hfz166_1
      try clear hfz166_2
      try clear hfz166_3
      try clear hfz166_4
      try clear hfz166_5
      try clear hfz168_0
      try clear hfz168_1
      try clear hfz168_2
      try clear hfz168_3
      try clear hfz168_4
      try clear hfz168_5
      try clear hfz169_0
      try clear hfz169_1
      try clear hfz169_2
      try clear hfz169_3
      try clear hfz169_4
      try clear hfz169_5
      try clear hfz171_0
      try clear hfz171_1
      try clear hfz171_2
      try clear hfz171_3
      try clear hfz171_4
      try clear hfz171_5
      try clear hfz20_0
      try clear hfz20_1
      try clear hfz20_2
      try clear hfz20_3
      try clear hfz20_4
      try clear hfz20_5
      try clear hfz24_0
      try clear hfz24_1
      try clear hfz24_2
      try clear hfz24_3
      try clear hfz24_4
      try clear hfz24_5
      try clear hfz26_0
      try clear hfz26_1
      try clear hfz26_2
      try clear hfz26_3
      try clear hfz26_4
      try clear hfz26_5
      try clear hfz39_0
      try clear hfz39_1
      try clear hfz39_2
      try clear hfz39_3
      try clear hfz39_4
      try clear hfz39_5
      try clear hfz45_0
      try clear hfz45_1
      try clear hfz45_2
      try clear hfz45_3
      try clear hfz45_4
      try clear hfz45_5
      try clear hfz47_0
      try clear hfz47_1
      try clear hfz47_2
      try clear hfz47_3
      try clear hfz47_4
      try clear hfz47_5
      try clear hfz48_0
      try clear hfz48_1
      try clear hfz48_2
      try clear hfz48_3
      try clear hfz48_4
      try clear hfz48_5
      try clear hfz50_0
      try clear hfz50_1
      try clear hfz50_2
      try clear hfz50_3
      try clear hfz50_4
      try clear hfz50_5
      try clear hfz52_0
      try clear hfz52_1
      try clear hfz52_2
      try clear hfz52_3
      try clear hfz52_4
      try clear hfz52_5
      try clear hfz53_0
      try clear hfz53_1
      try clear hfz53_2
      try clear hfz53_3
      try clear hfz53_4
      try clear hfz53_5
      try clear hfz60_0
      try clear hfz60_1
      try clear hfz60_2
      try clear hfz60_3
      try clear hfz60_4
      try clear hfz60_5
      try clear hfz66_0
      try clear hfz66_1
      try clear hfz66_2
      try clear hfz66_3
      try clear hfz66_4
      try clear hfz66_5
      try clear hfz68_0
      try clear hfz68_1
      try clear hfz68_2
      try clear hfz68_3
      try clear hfz68_4
      try clear hfz68_5
      try clear hfz69_0
      try clear hfz69_1
      try clear hfz69_2
      try clear hfz69_3
      try clear hfz69_4
      try clear hfz69_5
      try clear hfz71_0
      try clear hfz71_1
      try clear hfz71_2
      try clear hfz71_3
      try clear hfz71_4
      try clear hfz71_5
      try clear hfz73_0
      try clear hfz73_1
      try clear hfz73_2
      try clear hfz73_3
      try clear hfz73_4
      try clear hfz73_5
      try clear hfz74_0
      try clear hfz74_1
      try clear hfz74_2
      try clear hfz74_3
      try clear hfz74_4
      try clear hfz74_5
      try clear hfz78_0
      try clear hfz78_1
      try clear hfz78_2
      try clear hfz78_3
      try clear hfz78_4
      try clear hfz78_5
      try clear hfz84_0
      try clear hfz84_1
      try clear hfz84_2
      try clear hfz84_3
      try clear hfz84_4
      try clear hfz84_5
      try clear hfz86_0
      try clear hfz86_1
      try clear hfz86_2
      try clear hfz86_3
      try clear hfz86_4
      try clear hfz86_5
      try clear hfz87_0
      try clear hfz87_1
      try clear hfz87_2
      try clear hfz87_3
      try clear hfz87_4
      try clear hfz87_5
      try clear hfz89_0
      try clear hfz89_1
      try clear hfz89_2
      try clear hfz89_3
      try clear hfz89_4
      try clear hfz89_5
      try clear hfz91_0
      try clear hfz91_1
      try clear hfz91_2
      try clear hfz91_3
      try clear hfz91_4
      try clear hfz91_5
      try clear hfz92_0
      try clear hfz92_1
      try clear hfz92_2
      try clear hfz92_3
      try clear hfz92_4
      try clear hfz92_5
      try clear hfz96_0
      try clear hfz96_1
      try clear hfz96_2
      try clear hfz96_3
      try clear hfz96_4
      try clear hfz96_5
      try clear p2
      try clear p6
      obtain ⟨kq, HA, HJ27, BK397, BK405, BK413, HB⟩ := hcut
      cases kq with
      | zero => exact absurd HA.out (by simp [laws_FnNormal.j1])
      | succ kj27 =>
       have H := HA.out
       clear HA
       simp only [laws_FnNormal.j1] at H
       replace H := Option.bind_eq_some_iff.mp H
       obtain ⟨t427, A1730, H⟩ := H
       replace H : ((impl_DropDots.f kj27 t427).bind fun bt428 => ((spec_DropDots.f kj27 t427).bind fun bt430 => (if (bt428.2 != bt430.2) = true then (laws_FnNormal.j2 kj27 t427 bt428.1 bt428.2 true) else (laws_FnNormal.j2 kj27 t427 bt428.1 bt428.2 (bt428.1.toList != bt430.1.toList))))) = some r := H
       have A173 := Aside0.mk A1730
       clear A1730
       replace H := Option.bind_eq_some_iff.mp H
       obtain ⟨⟨t428, t429⟩, A1740, H⟩ := H
       replace H : ((spec_DropDots.f kj27 t427).bind fun bt430 => (if (t429 != bt430.2) = true then (laws_FnNormal.j2 kj27 t427 t428 t429 true) else (laws_FnNormal.j2 kj27 t427 t428 t429 (t428.toList != bt430.1.toList)))) = some r := H
       have A174 := Aside0.mk A1740
       clear A1740
       replace H := Option.bind_eq_some_iff.mp H
       obtain ⟨⟨t430, t431⟩, A1750, H⟩ := H
       replace H : (if (t429 != t431) = true then (laws_FnNormal.j2 kj27 t427 t428 t429 true) else (laws_FnNormal.j2 kj27 t427 t428 t429 (t428.toList != t430.toList))) = some r := H
       have A175 := Aside0.mk A1750
       clear A1750
       have HC176 := Aside0.mk H
       clear H
       go_upto_region 17 with (first | ((with_reducible refine gate_callee (f := 11) rfl ?_); refine xgl_ (some 98) Tryd.func11 #[.slice A1 l1.length c1] ?_; (with_reducible refine (spec_DrawDropDots.calls kj27 _ _ l1 t427 _ ?side1 ?side2 A173.out).mono ?_); (case side1 => exact xc_ ((Kd.C_below HR1.out HB.out))); (case side2 => exact HC1.out); rintro e w177 ⟨rfl, hb⟩; refine ⟨_, rfl, ?_⟩; replace BK397 := xbb_ BK397 hb; replace BK405 := xbb_ BK405 hb; replace BK413 := xbb_ BK413 hb; replace HB := xws_ HB hb; (try clear hb); (try clear hb2); (try clear hk); (try clear hi)) | ((with_reducible refine gate_callee (f := 9) rfl ?_); refine xgl_ (some 101) Tryd.func9 #[.string t427] ?_; (with_reducible refine (impl_DropDots.calls kj27 t427 t428 t429 _ A174.out (HTB_.out.below (by first | exact Below.refl _ _ | (repeat (first | (with_reducible first | exact HB.out | apply below_alloc | apply pw_below_drewN | apply below_drew1 | refine below_set ?_ GE397.out | refine below_set ?_ GE405.out | refine below_set ?_ GE413.out | refine below_set ?_ GE421.out) | exact HB.out)) | (repeat (first | exact Below.refl _ _ | apply below_alloc | apply pw_below_drewN | apply below_drew1 | refine below_set ?_ GE397.out | refine below_set ?_ GE405.out | refine below_set ?_ GE413.out | refine below_set ?_ GE421.out))))).mono ?_); rintro e w178 ⟨rfl, hb⟩; refine ⟨_, rfl, ?_⟩; replace BK397 := xbb_ BK397 hb; replace BK405 := xbb_ BK405 hb; replace BK413 := xbb_ BK413 hb; replace HB := xws_ HB hb; (try clear hb); (try clear hb2); (try clear hk); (try clear hi)) | ((with_reducible refine gate_callee (f := 12) rfl ?_); refine xgl_ (some 106) Tryd.func12 #[.string t427] ?_; (with_reducible refine (spec_DropDots.calls kj27 t427 t430 t431 _ A175.out).mono ?_); rintro e w179 ⟨rfl, hb⟩; refine ⟨_, rfl, ?_⟩; replace BK397 := xbb_ BK397 hb; replace BK405 := xbb_ BK405 hb; replace BK413 := xbb_ BK413 hb; replace HB := xws_ HB hb; (try clear hb); (try clear hb2); (try clear hk); (try clear hi)))
       (try simp only [Act.put, List.setIfInBounds_toArray, List.set_cons_zero, List.set_cons_succ])
       go_cut [116] (fun v116 wc => ∃ (kq : Nat) (x116_175 : Bool), v116 = .bool x116_175 ∧ Aside0 (laws_FnNormal.j2 kq t427 t428 t429 x116_175 = some r) ∧ Aside0 (kq ≤ kj27) ∧ Aside0 (wc.heap[gb397]? = some (.cells #[.string t391, .string t392, .int .i64 t393, .string t394, .string t395, .bool t396] 24 (0, 0))) ∧ Aside0 (wc.heap[gb405]? = some (.cells #[.string t398, .string t399, .int .i64 t400, .string t401, .string t402, .bool t403] 24 (0, 0))) ∧ Aside0 (wc.heap[gb413]? = some (.cells #[.string t406, .string t407, .int .i64 t408, .string t409, .string t410, .bool t411] 24 (0, 0))) ∧ Aside0 (Below w.heap.size w wc))
       case first =>
        have H := HC176.out
        clear HC176
        by_cases c180 : (t429 != t431) = true
        ·rw [if_pos c180] at H
         have c180b0 : (t429 != t431) = true := c180
         (try (have c180b1 : decide (t429 = t431) = false := by simpa using c180))
         (try (have c180b2 : (t429 == t431) = false := by simpa using c180))
         (try (have c180b3 : ¬ (t429 = t431) := by simpa using c180))
         clear c180
         (first | rw [c180b0] | (simp only [i64_w, i32_w]; rw [c180b0]) | skip)
         have H' := Aside0.mk H
         clear H
         go_wp2
         go_meet
         case rel => exact ⟨_, (true), (by first | rfl | (simp; done) | (simp [*]; done)), H', ⟨by have := HJ6.out; have := HJ27.out; first | omega | exact Nat.le_refl _⟩, ⟨xb_ BK397⟩, ⟨xb_ BK405⟩, ⟨xb_ BK413⟩, ⟨xw_ HB⟩⟩
        ·rw [if_neg c180] at H
         have c180b0 : (t429 != t431) = false := by simpa using c180
         (try (have c180b1 : decide (t429 = t431) = true := by simpa using c180))
         (try (have c180b2 : (t429 == t431) = true := by simpa using c180))
         clear c180
         (first | rw [c180b0] | (simp only [i64_w, i32_w]; rw [c180b0]) | skip)
         have H' := Aside0.mk H
         clear H
         go_wp2
         go_meet
         case rel => exact ⟨_, ((t428.toList != t430.toList)), (by first | rfl | (simp; done) | (simp [*]; done)), H', ⟨by have := HJ6.out; have := HJ27.out; first | omega | exact Nat.le_refl _⟩, ⟨xb_ BK397⟩, ⟨xb_ BK405⟩, ⟨xb_ BK413⟩, ⟨xw_ HB⟩⟩
       case rest =>
        clear HC176
        try clear c1
        try clear p2
        try clear p6
        try clear c9
        try clear c11
        try clear c12
        try clear c18
        try clear c180
        try clear c180b0
        try clear c180b1
        try clear c180b2
        try clear hcz151_4
        try clear hcz151_5
        try clear hcz153_0
        try clear hcz153_1
        try clear hcz153_2
        try clear hcz153_3
        try clear hcz153_4
        try clear hcz153_5
        try clear hcz154_0
        try clear hcz154_1
        try clear hcz154_2
        try clear hcz154_3
        try clear hcz154_4
        try clear hcz154_5
        try clear hcz156_0
        try clear hcz156_1
        try clear hcz156_2
        try clear hcz156_3
        try clear hcz156_4
        try clear hcz156_5
        try clear hcz15_0
        try clear hcz15_1
        try clear hcz15_2
        try clear hcz15_3
        try clear hcz15_4
        try clear hcz15_5
        try clear hcz160_0
        try clear hcz160_1
        try clear hcz160_2
        try clear hcz160_3
        try clear hcz160_4
        try clear hcz160_5
        try clear hcz166_0
        try clear hcz166_1
        try clear hcz166_2
        try clear hcz166_3
        try clear hcz166_4
        try clear hcz166_5
        try clear hcz168_0
        try clear hcz168_1
        try clear hcz168_2
        try clear hcz168_3
        try clear hcz168_4
        try clear hcz168_5
        try clear hcz169_0
        try clear hcz169_1
        try clear hcz169_2
        try clear hcz169_3
        try clear hcz169_4
        try clear hcz169_5
        try clear hcz171_0
        try clear hcz171_1
        try clear hcz171_2
        try clear hcz171_3
        try clear hcz171_4
        try clear hcz171_5
        try clear hcz20_0
        try clear hcz20_1
        try clear hcz20_2
        try clear hcz20_3
        try clear hcz20_4
        try clear hcz20_5
        try clear hcz24_0
        try clear hcz24_1
        try clear hcz24_2
        try clear hcz24_3
        try clear hcz24_4
        try clear hcz24_5
        try clear hcz26_0
        try clear hcz26_1
        try clear hcz26_2
        try clear hcz26_3
        try clear hcz26_4
        try clear hcz26_5
        try clear hcz39_0
        try clear hcz39_1
        try clear hcz39_2
        try clear hcz39_3
        try clear hcz39_4
        try clear hcz39_5
        try clear hcz45_0
        try clear hcz45_1
        try clear hcz45_2
        try clear hcz45_3
        try clear hcz45_4
        try clear hcz45_5
        try clear hcz47_0
        try clear hcz47_1
        try clear hcz47_2
        try clear hcz47_3
        try clear hcz47_4
        try clear hcz47_5
        try clear hcz48_0
        try clear hcz48_1
        try clear hcz48_2
        try clear hcz48_3
        try clear hcz48_4
        try clear hcz48_5
        try clear hcz50_0
        try clear hcz50_1
        try clear hcz50_2
        try clear hcz50_3
        try clear hcz50_4
        try clear hcz50_5
        try clear hcz52_0
        try clear hcz52_1
        try clear hcz52_2
        try clear hcz52_3
        try clear hcz52_4
        try clear hcz52_5
        try clear hcz53_0
        try clear hcz53_1
        try clear hcz53_2
        try clear hcz53_3
        try clear hcz53_4
        try clear hcz53_5
        try clear hcz60_0
        try clear hcz60_1
        try clear hcz60_2
        try clear hcz60_3
        try clear hcz60_4
        try clear hcz60_5
        try clear hcz66_0
        try clear hcz66_1
        try clear hcz66_2
        try clear hcz66_3
        try clear hcz66_4
        try clear hcz66_5
        try clear hcz68_0
        try clear hcz68_1
        try clear hcz68_2
        try clear hcz68_3
        try clear hcz68_4
        try clear hcz68_5
        try clear hcz69_0
        try clear hcz69_1
        try clear hcz69_2
        try clear hcz69_3
        try clear hcz69_4
        try clear hcz69_5
        try clear hcz71_0
        try clear hcz71_1
        try clear hcz71_2
        try clear hcz71_3
        try clear hcz71_4
        try clear hcz71_5
        try clear hcz73_0
        try clear hcz73_1
        try clear hcz73_2
        try clear hcz73_3
        try clear hcz73_4
        try clear hcz73_5
        try clear hcz74_0
        try clear hcz74_1
        try clear hcz74_2
        try clear hcz74_3
        try clear hcz74_4
        try clear hcz74_5
        try clear hcz78_0
        try clear hcz78_1
        try clear hcz78_2
        try clear hcz78_3
        try clear hcz78_4
        try clear hcz78_5
        try clear hcz84_0
        try clear hcz84_1
        try clear hcz84_2
        try clear hcz84_3
        try clear hcz84_4
        try clear hcz84_5
        try clear hcz86_0
        try clear hcz86_1
        try clear hcz86_2
        try clear hcz86_3
        try clear hcz86_4
        try clear hcz86_5
        try clear hcz87_0
        try clear hcz87_1
        try clear hcz87_2
        try clear hcz87_3
        try clear hcz87_4
        try clear hcz87_5
        try clear hcz89_0
        try clear hcz89_1
        try clear hcz89_2
        try clear hcz89_3
        try clear hcz89_4
        try clear hcz89_5
        try clear hcz91_0
        try clear hcz91_1
        try clear hcz91_2
        try clear hcz91_3
        try clear hcz91_4
        try clear hcz91_5
        try clear hcz92_0
        try clear hcz92_1
        try clear hcz92_2
        try clear hcz92_3
        try clear hcz92_4
        try clear hcz92_5
        try clear hcz96_0
        try clear hcz96_1
        try clear hcz96_2
        try clear hcz96_3
        try clear hcz96_4
        try clear hcz96_5
        try clear hfz102_0
        try clear hfz102_1
        try clear hfz102_2
        try clear hfz102_3
        try clear hfz102_4
        try clear hfz102_5
        try clear hfz104_0
        try clear hfz104_1
        try clear hfz104_2
        try clear hfz104_3
        try clear hfz104_4
        try clear hfz104_5
        try clear hfz105_0
        try clear hfz105_1
        try clear hfz105_2
        try clear hfz105_3
        try clear hfz105_4
        try clear hfz105_5
        try clear hfz107_0
        try clear hfz107_1
        try clear hfz107_2
        try clear hfz107_3
        try clear hfz107_4
        try clear hfz107_5
        try clear hfz109_0
        try clear hfz109_1
        try clear hfz109_2
        try clear hfz109_3
        try clear hfz109_4
        try clear hfz109_5
        try clear hfz10_0
        try clear hfz10_1
        try clear hfz10_2
        try clear hfz10_3
        try clear hfz10_4
        try clear hfz10_5
        try clear hfz110_0
        try clear hfz110_1
        try clear hfz110_2
        try clear hfz110_3
        try clear hfz110_4
        try clear hfz110_5
        try clear hfz113_0
        try clear hfz113_1
        try clear hfz113_2
        try clear hfz113_3
        try clear hfz113_4
        try clear hfz113_5
        try clear hfz119_0
        try clear hfz119_1
        try clear hfz119_2
        try clear hfz119_3
        try clear hfz119_4
        try clear hfz119_5
        try clear hfz121_0
        try clear hfz121_1
        try clear hfz121_2
        try clear hfz121_3
        try clear hfz121_4
        try clear hfz121_5
        try clear hfz122_0
        try clear hfz122_1
        try clear hfz122_2
        try clear hfz122_3
        try clear hfz122_4
        try clear hfz122_5
        try clear hfz124_0
        try clear hfz124_1
        try clear hfz124_2
        try clear hfz124_3
        try clear hfz124_4
        try clear hfz124_5
        try clear hfz126_0
        try clear hfz126_1
        try clear hfz126_2
        try clear hfz126_3
        try clear hfz126_4
        try clear hfz126_5
        try clear hfz127_0
        try clear hfz127_1
        try clear hfz127_2
        try clear hfz127_3
        try clear hfz127_4
        try clear hfz127_5
        try clear hfz130_0
        try clear hfz130_1
        try clear hfz130_2
        try clear hfz130_3
        try clear hfz130_4
        try clear hfz130_5
        try clear hfz136_0
        try clear hfz136_1
        try clear hfz136_2
        try clear hfz136_3
        try clear hfz136_4
        try clear hfz136_5
        try clear hfz138_0
        try clear hfz138_1
        try clear hfz138_2
        try clear hfz138_3
        try clear hfz138_4
        try clear hfz138_5
        try clear hfz139_0
        try clear hfz139_1
        try clear hfz139_2
        try clear hfz139_3
        try clear hfz139_4
        try clear hfz139_5
        try clear hfz141_0
        try clear hfz141_1
        try clear hfz141_2
        try clear hfz141_3
        try clear hfz141_4
        try clear hfz141_5
        try clear hfz145_0
        try clear hfz145_1
        try clear hfz145_2
        try clear hfz145_3
        try clear hfz145_4
        try clear hfz145_5
        try clear hfz14_0
        try clear hfz14_1
        try clear hfz14_2
        try clear hfz14_3
        try clear hfz14_4
        try clear hfz14_5
        try clear hfz151_0
        try clear hfz151_1
        try clear hfz151_2
        try clear hfz151_3
        try clear hfz151_4
        try clear hfz151_5
        try clear hfz153_0
        try clear hfz153_1
        try clear hfz153_2
        try clear hfz153_3
        try clear hfz153_4
        try clear hfz153_5
        try clear hfz154_0
        try clear hfz154_1
        try clear hfz154_2
        try clear hfz154_3
        try clear hfz154_4
        try clear hfz154_5
        try clear hfz156_0
        try clear hfz156_1
        try clear hfz156_2
        try clear hfz156_3
        try clear hfz156_4
        try clear hfz156_5
        try clear hfz15_0
        try clear hfz15_1
        try clear hfz15_2
        try clear hfz15_3
        try clear hfz15_4
        try clear hfz15_5
        try clear hfz160_0
        try clear hfz160_1
        try clear hfz160_2
        try clear hfz160_3
        try clear hfz160_4
        try clear hfz160_5
        try clear hfz166_0
        try clear hfz166_1
        try clear hfz166_2
        try clear hfz166_3
        try clear hfz166_4
        try clear hfz166_5
        try clear hfz168_0
        try clear hfz168_1
        try clear hfz168_2
        try clear hfz168_3
        try clear hfz168_4
        try clear hfz168_5
        try clear hfz169_0
        try clear hfz169_1
        try clear hfz169_2
        try clear hfz169_3
        try clear hfz169_4
        try clear hfz169_5
        try clear hfz171_0
        try clear hfz171_1
        try clear hfz171_2
        try clear hfz171_3
        try clear hfz171_4
        try clear hfz171_5
        try clear hfz20_0
        try clear hfz20_1
        try clear hfz20_2
        try clear hfz20_3
        try clear hfz20_4
        try clear hfz20_5
        try clear hfz24_0
        try clear hfz24_1
        try clear hfz24_2
        try clear hfz24_3
        try clear hfz24_4
        try clear hfz24_5
        try clear hfz26_0
        try clear hfz26_1
        try clear hfz26_2
        try clear hfz26_3
        try clear hfz26_4
        try clear hfz26_5
        try clear hfz39_0
        try clear hfz39_1
        try clear hfz39_2
        try clear hfz39_3
        try clear hfz39_4
        try clear hfz39_5
        try clear hfz45_0
        try clear hfz45_1
        try clear hfz45_2
        try clear hfz45_3
        try clear hfz45_4
        try clear hfz45_5
        try clear hfz47_0
        try clear hfz47_1
        try clear hfz47_2
        try clear hfz47_3
        try clear hfz47_4
        try clear hfz47_5
        try clear hfz48_0
        try clear hfz48_1
        try clear hfz48_2
        try clear hfz48_3
        try clear hfz48_4
        try clear hfz48_5
        try clear hfz50_0
        try clear hfz50_1
        try clear hfz50_2
        try clear hfz50_3
        try clear hfz50_4
        try clear hfz50_5
        try clear hfz52_0
        try clear hfz52_1
        try clear hfz52_2
        try clear hfz52_3
        try clear hfz52_4
        try clear hfz52_5
        try clear hfz53_0
        try clear hfz53_1
        try clear hfz53_2
        try clear hfz53_3
        try clear hfz53_4
        try clear hfz53_5
        try clear hfz60_0
        try clear hfz60_1
        try clear hfz60_2
        try clear hfz60_3
        try clear hfz60_4
        try clear hfz60_5
        try clear hfz66_0
        try clear hfz66_1
        try clear hfz66_2
        try clear hfz66_3
        try clear hfz66_4
        try clear hfz66_5
        try clear hfz68_0
        try clear hfz68_1
        try clear hfz68_2
        try clear hfz68_3
        try clear hfz68_4
        try clear hfz68_5
        try clear hfz69_0
        try clear hfz69_1
        try clear hfz69_2
        try clear hfz69_3
        try clear hfz69_4
        try clear hfz69_5
        try clear hfz71_0
        try clear hfz71_1
        try clear hfz71_2
        try clear hfz71_3
        try clear hfz71_4
        try clear hfz71_5
        try clear hfz73_0
        try clear hfz73_1
        try clear hfz73_2
        try clear hfz73_3
        try clear hfz73_4
        try clear hfz73_5
        try clear hfz74_0
        try clear hfz74_1
        try clear hfz74_2
        try clear hfz74_3
        try clear hfz74_4
        try clear hfz74_5
        try clear hfz78_0
        try clear hfz78_1
        try clear hfz78_2
        try clear hfz78_3
        try clear hfz78_4
        try clear hfz78_5
        try clear hfz84_0
        try clear hfz84_1
        try clear hfz84_2
        try clear hfz84_3
        try clear hfz84_4
        try clear hfz84_5
        try clear hfz86_0
        try clear hfz86_1
        try clear hfz86_2
        try clear hfz86_3
        try clear hfz86_4
        try clear hfz86_5
        try clear hfz87_0
        try clear hfz87_1
        try clear hfz87_2
        try clear hfz87_3
        try clear hfz87_4
        try clear hfz87_5
        try clear hfz89_0
        try clear hfz89_1
        try clear hfz89_2
        try clear hfz89_3
        try clear hfz89_4
        try clear hfz89_5
        try clear hfz91_0
        try clear hfz91_1
        try clear hfz91_2
        try clear hfz91_3
        try clear hfz91_4
        try clear hfz91_5
        try clear hfz92_0
        try clear hfz92_1
        try clear hfz92_2
        try clear hfz92_3
        try clear hfz92_4
        try clear hfz92_5
        try clear hfz96_0
        try clear hfz96_1
        try clear hfz96_2
        try clear hfz96_3
        try clear hfz96_4
        try clear hfz96_5
        try clear p2
        try clear p6
        obtain ⟨kq, x116_175, rfl, HA, HJ175, BK397, BK405, BK413, HB⟩ := hcut
        cases kq with
        | zero => exact absurd HA.out (by simp [laws_FnNormal.j2])
        | succ kj175 =>
         have H := HA.out
         clear HA
         simp only [laws_FnNormal.j2] at H
         by_cases c181 : x116_175 = true
         ·subst c181
          have H1 : (some false) = some r := by rw [if_pos rfl] at H; exact H
          clear H
          have H := H1
          clear H1
          exact absurd ((Option.some.inj H).trans HT.out) Bool.false_ne_true
         ·replace c181 := Bool.eq_false_iff.mpr c181
          subst c181
          have H1 : (if t429 = true then ((impl_DropDots.f kj175 t428).bind fun bt432 => (if bt432.2 = true then (if bt432.1.toList = t428.toList then (if (t428.size : Int) ≤ (t427.size : Int) then (if 0 < (t428.size : Int) then (some ((bt t428 0) == 47)) else (none)) else (some false)) else (some false)) else (some false))) else (some (t428.toList == ([] : List UInt8)))) = some r := by rw [if_neg (show ¬ (false = true) by decide)] at H; exact H
          clear H
          have H := H1
          clear H1
          by_cases c182 : t429 = true
          ·subst c182
           have H1 : ((impl_DropDots.f kj175 t428).bind fun bt432 => (if bt432.2 = true then (if bt432.1.toList = t428.toList then (if (t428.size : Int) ≤ (t427.size : Int) then (if 0 < (t428.size : Int) then (some ((bt t428 0) == 47)) else (none)) else (some false)) else (some false)) else (some false))) = some r := by rw [if_pos rfl] at H; exact H
           clear H
           have H := H1
           clear H1
           replace H := Option.bind_eq_some_iff.mp H
           obtain ⟨⟨t432, t433⟩, A1830, H⟩ := H
           replace H : (if t433 = true then (if t432.toList = t428.toList then (if (t428.size : Int) ≤ (t427.size : Int) then (if 0 < (t428.size : Int) then (some ((bt t428 0) == 47)) else (none)) else (some false)) else (some false)) else (some false)) = some r := H
           have A183 := Aside0.mk A1830
           clear A1830
           by_cases c184 : t433 = true
           ·subst c184
            have H1 : (if t432.toList = t428.toList then (if (t428.size : Int) ≤ (t427.size : Int) then (if 0 < (t428.size : Int) then (some ((bt t428 0) == 47)) else (none)) else (some false)) else (some false)) = some r := by rw [if_pos rfl] at H; exact H
            clear H
            have H := H1
            clear H1
            by_cases c185 : t432.toList = t428.toList
            ·rw [if_pos c185] at H
             have c185b0 : (t432.toList == t428.toList) = true := beq_iff_eq.mpr c185
             have c185b1 : (t432.toList != t428.toList) = false := bne_eq_false_iff_eq.mpr c185
             clear c185
             by_cases c186 : (t428.size : Int) ≤ (t427.size : Int)
             ·rw [if_pos c186] at H
              have c186b0 : decide ((t428.size : Int) ≤ (t427.size : Int)) = true := decide_eq_true c186
              have c186b1 : decide (t428.size ≤ t427.size) = true := decide_eq_true (Int.ofNat_le.mp c186)
              clear c186
              by_cases c187 : 0 < (t428.size : Int)
              ·rw [if_pos c187] at H
               have c187b0 : decide (0 < (t428.size : Int)) = true := decide_eq_true c187
               have c187b1 : decide (0 < t428.size) = true := decide_eq_true (by omega)
               clear c187
               obtain rfl := Option.some.inj H
               go_wp2_with (first | ((with_reducible refine gate_callee (f := 9) rfl ?_); refine xgl_ (some 123) Tryd.func9 #[.string t428] ?_; (with_reducible refine (impl_DropDots.calls kj175 t428 t432 true _ A183.out (HTB_.out.below (by first | exact Below.refl _ _ | (repeat (first | (with_reducible first | exact HB.out | apply below_alloc | apply pw_below_drewN | apply below_drew1 | refine below_set ?_ GE397.out | refine below_set ?_ GE405.out | refine below_set ?_ GE413.out | refine below_set ?_ GE421.out) | exact HB.out)) | (repeat (first | exact Below.refl _ _ | apply below_alloc | apply pw_below_drewN | apply below_drew1 | refine below_set ?_ GE397.out | refine below_set ?_ GE405.out | refine below_set ?_ GE413.out | refine below_set ?_ GE421.out))))).mono ?_); rintro e w189 ⟨rfl, hb⟩; refine ⟨_, rfl, ?_⟩; replace BK397 := xbb_ BK397 hb; replace BK405 := xbb_ BK405 hb; replace BK413 := xbb_ BK413 hb; replace HB := xws_ HB hb; (try clear hb); (try clear hb2); (try clear hk); (try clear hi); have p188 : 0 ≤ (0 : Int) := (by omega); have q188 : 0 < t428.size := (by have : (0 : Int) < (t428.size : Int) := of_decide_eq_true (by first | (with_reducible assumption) | assumption); omega); have hx188 : ∀ h : 0 < t428.size, ((t428[0]'h).toNat : Int) = bt t428 0 := bt_at t428 0; clear p188; have qi188 : (0 < (t428.size : Int)) = True := eq_true (of_decide_eq_true (by first | (with_reducible assumption) | assumption)); replace q188 := eq_true q188))
               go_ret
               exact ⟨by first | rfl | (simp [errW_none, errW_some] <;> rfl) | (simp [*, errW_none, errW_some] <;> rfl), xw_ HB⟩
              ·rw [if_neg c187] at H
               exact absurd H (by simp)
             ·rw [if_neg c186] at H
              have c186b0 : decide ((t428.size : Int) ≤ (t427.size : Int)) = false := decide_eq_false c186
              have c186b1 : decide (t428.size ≤ t427.size) = false := decide_eq_false (fun h => c186 (Int.ofNat_le.mpr h))
              clear c186
              exact absurd ((Option.some.inj H).trans HT.out) Bool.false_ne_true
            ·rw [if_neg c185] at H
             have c185b0 : (t432.toList == t428.toList) = false := beq_eq_false_iff_ne.mpr c185
             have c185b1 : (t432.toList != t428.toList) = true := bne_iff_ne.mpr c185
             exact absurd ((Option.some.inj H).trans HT.out) Bool.false_ne_true
           ·replace c184 := Bool.eq_false_iff.mpr c184
            subst c184
            have H1 : (some false) = some r := by rw [if_neg (show ¬ (false = true) by decide)] at H; exact H
            clear H
            have H := H1
            clear H1
            exact absurd ((Option.some.inj H).trans HT.out) Bool.false_ne_true
          ·replace c182 := Bool.eq_false_iff.mpr c182
           subst c182
           have H1 : (some (t428.toList == ([] : List UInt8))) = some r := by rw [if_neg (show ¬ (false = true) by decide)] at H; exact H
           clear H
           have H := H1
           clear H1
           obtain rfl := Option.some.inj H
           go_wp2
           go_ret
           exact ⟨by first | rfl | (simp [errW_none, errW_some] <;> rfl) | (simp [*, errW_none, errW_some] <;> rfl), xw_ HB⟩

/-- THE ONE PURE STATEMENT of laws_FnNormal: yours. -/
def laws_FnNormal.Pure : Prop := ∀ (l0 : List Int) (l1 : List Int), l0.length ≤ maxLen → l0.length * 1 ≤ 140737488351232 → (∀ x ∈ l0, (Lit.int .u8 x).wf = true) → l1.length ≤ maxLen → l1.length * 1 ≤ 140737488351232 → (∀ x ∈ l1, (Lit.int .u8 x).wf = true) → ∃ k, laws_FnNormal.f k l0 l1 = some true
theorem laws_FnNormal.walk (P : laws_FnNormal.Pure) (a0 : Option Addr) (len0 cap0 : Nat) (z0 : List Int) (a1 : Option Addr) (len1 cap1 : Nat) (z1 : List Int) (w : World) (w0 : (a0 = none ∧ len0 = 0 ∧ cap0 = 0 ∧ z0 = []) ∨ ∃ x, a0 = some x ∧ len0 ≤ cap0 ∧ cap0 ≤ maxLen ∧ z0.length = cap0 ∧ (∀ i, i < z0.length → w.cell? (x.add i) = some (.int .u8 (z0.getD i 0))) ∧ ∀ n ∈ z0, (Lit.int .u8 n).wf = true) (y0 : len0 * 1 ≤ 140737488351232) (w1 : (a1 = none ∧ len1 = 0 ∧ cap1 = 0 ∧ z1 = []) ∨ ∃ x, a1 = some x ∧ len1 ≤ cap1 ∧ cap1 ≤ maxLen ∧ z1.length = cap1 ∧ (∀ i, i < z1.length → w.cell? (x.add i) = some (.int .u8 (z1.getD i 0))) ∧ ∀ n ∈ z1, (Lit.int .u8 n).wf = true) (y1 : len1 * 1 ≤ 140737488351232) (hT_ : TabOk w) :
  Calls Tryd.prog 3 #[.slice a0 len0 cap0, .slice a1 len1 cap1] w fun e w' => e = .returned (.bool true) ∧ Below w.heap.size w w' := by
 obtain ⟨l0, rfl, hr0, hm0, hw0, hc0⟩ := ReadsInt.ofRowC w0
 obtain ⟨l1, rfl, hr1, hm1, hw1, hc1⟩ := ReadsInt.ofRowC w1
 obtain ⟨k, h⟩ := P l0 l1 hm0 y0 hw0 hm1 y1 hw1
 refine (laws_FnNormal.calls k _ _ l0 _ _ l1 true w rfl (Kd.C_of_reads (d := (0 : Int)) (h1 := fun _ => rfl) hr0) hc0 (Kd.C_of_reads (d := (0 : Int)) (h1 := fun _ => rfl) hr1) hc1 h hT_).mono ?_
 rintro e w' ⟨rfl, hd⟩
 exact ⟨rfl, hd⟩

end Go.Proofs.YtklicdjbihmbiaaDoor.PFnNormal
