-- Written by a program of this project (xprint.py) out of the translation; Lean checks it.
import Derived.Test.YtklicdjbihmbiaaGreatDoorPFnResolvedx0
import Derived.Test.YtklicdjbihmbiaaGreatDoorPFnResolvedx1
import Derived.Test.YtklicdjbihmbiaaGreatDoorPFnResolvedx3
import Derived.Test.YtklicdjbihmbiaaGreatDoorPFnResolvedx5
import Derived.Test.YtklicdjbihmbiaaGreatDoorPFnResolvedx8
import Derived.Test.YtklicdjbihmbiaaGreatDoorPFnResolvedx14
namespace Go.Proofs.YtklicdjbihmbiaaGreatDoor.PFnResolved
open Go.RowKit Go.Proofs.YtklicdjbihmbiaaGreatDoorW.PrintWords Go.Proofs.YtklicdjbihmbiaaGreatDoorW.PrintLast Go.Proofs.YtklicdjbihmbiaaGreatDoorW.PrintMore
attribute [local go_sem] max2_int min2_int max_two min_two max_three min_three max_four min_four   -- for this text's walks alone
set_option linter.unusedVariables false
set_option linter.unusedSimpArgs false

attribute [local go_sem high] eqA24
/-! ### impl_UrlText: function 7 -/
def impl_UrlText.f (k : Nat) (a0_0 : ByteArray) (a0_1 : ByteArray) (a0_2 : Int) (a0_3 : ByteArray) (a0_4 : ByteArray) (a0_5 : Bool) : Option (ByteArray × Bool) := (impl_GoodUrl.f k a0_0 a0_1 a0_2 a0_3 a0_4 a0_5).bind fun t408 => (if t408 = true then ((impl_urlText.f a0_0 a0_1 a0_2 a0_3 a0_4 a0_5).bind fun t409 => (some (t409, true))) else (some ((⟨#[]⟩ : ByteArray), false)))
theorem impl_UrlText.mono : ∀ a0 a1 a2 a3 a4 a5 k, LeO (impl_UrlText.f k a0 a1 a2 a3 a4 a5) (impl_UrlText.f (k + 1) a0 a1 a2 a3 a4 a5) := by
 intro a0 a1 a2 a3 a4 a5 k
 unfold impl_UrlText.f
 repeat' first
   | (with_reducible exact impl_GoodUrl.mono _ _ _ _ _ _ _)
   | (with_reducible exact LeO.refl _)
   | (with_reducible exact LeO.none _)
   | (with_reducible refine LeO.ite ?_ ?_)
   | (with_reducible refine LeO.bind ?_ (fun _ => ?_))
   | exact impl_GoodUrl.mono _ _ _ _ _ _ _
   | exact LeO.none _
   | refine LeO.ite ?_ ?_
   | refine LeO.bind ?_ (fun _ => ?_)
set_option maxHeartbeats 8000000 in
set_option maxRecDepth 100000 in
theorem impl_UrlText.calls (k : Nat) (a0_0 : ByteArray) (a0_1 : ByteArray) (a0_2 : Int) (a0_3 : ByteArray) (a0_4 : ByteArray) (a0_5 : Bool) (r1 : ByteArray) (r2 : Bool) (w : World) (h : impl_UrlText.f k a0_0 a0_1 a0_2 a0_3 a0_4 a0_5 = some (r1, r2)) (hT_ : TabOk w) :
  Calls Tryz.prog 7 #[.agg #[.string a0_0, .string a0_1, .int .i64 a0_2, .string a0_3, .string a0_4, .bool a0_5]] w fun e w' => e = .returned (.tuple #[.string r1, .bool r2]) ∧ Below w.heap.size w w' := by
 have HTB_ := Aside0.mk hT_
 clear hT_
 have hu24 := Tryz.underlying24
 have HB := Aside0.mk (Below.refl w.heap.size w)
 have H : ((impl_GoodUrl.f k a0_0 a0_1 a0_2 a0_3 a0_4 a0_5).bind fun t408 => (if t408 = true then ((impl_urlText.f a0_0 a0_1 a0_2 a0_3 a0_4 a0_5).bind fun t409 => (some (t409, true))) else (some ((⟨#[]⟩ : ByteArray), false)))) = some (r1, r2) := h
 clear h
 replace H := Option.bind_eq_some_iff.mp H
 obtain ⟨t408, A20, H⟩ := H
 replace H : (if t408 = true then ((impl_urlText.f a0_0 a0_1 a0_2 a0_3 a0_4 a0_5).bind fun t409 => (some (t409, true))) else (some ((⟨#[]⟩ : ByteArray), false))) = some (r1, r2) := H
 have A2 := Aside0.mk A20
 clear A20
 by_cases c3 : t408 = true
 ·subst c3
  have H1 : ((impl_urlText.f a0_0 a0_1 a0_2 a0_3 a0_4 a0_5).bind fun t409 => (some (t409, true))) = some (r1, r2) := by rw [if_pos rfl] at H; exact H
  clear H
  have H := H1
  clear H1
  replace H := Option.bind_eq_some_iff.mp H
  obtain ⟨t409, A40, H⟩ := H
  replace H : (some (t409, true)) = some (r1, r2) := H
  have A4 := Aside0.mk A40
  clear A40
  simp only [Option.some.injEq, Prod.mk.injEq] at H
  obtain ⟨rfl, rfl⟩ := H
  go_enter Tryz.func7, Tryz.ntmps7
  go_wp2_with (first | ((with_reducible refine gate_dst (N := 1) rfl ?_); refine xbe_ (N := 1) (cs := #[.string a0_0, .string a0_1, .int .i64 a0_2, .string a0_3, .string a0_4, .bool a0_5]) (t := 24) ?_; intro gb407 hg w5 hbox hb; have BK407 := Aside0.mk (hbox); have GW407 := xge_ HB hg; have GE407 := xge_ HB hg; replace HB := xws_ HB hb; clear hb hbox hg; have ⟨_, _, _, _, _, _, _, _, _, _, _, _⟩ := c6_ BK407) | ((with_reducible refine gate_callee (f := 13) rfl ?_); refine xgl_ (some 5) Tryz.func13 #[.agg #[.string a0_0, .string a0_1, .int .i64 a0_2, .string a0_3, .string a0_4, .bool a0_5]] ?_; (with_reducible refine (impl_GoodUrl.calls k a0_0 a0_1 a0_2 a0_3 a0_4 a0_5 true _ A2.out (HTB_.out.below (by first | (with_reducible exact Below.refl _ _) | (repeat (first | (with_reducible first | exact HB.out | exact Below.refl _ _ | apply below_alloc | apply pw_below_drewN | apply below_drew1 | refine below_set ?_ GE407.out) | exact HB.out)) | (repeat (first | exact Below.refl _ _ | apply below_alloc | apply pw_below_drewN | apply below_drew1 | refine below_set ?_ GE407.out))))).mono ?_); rintro e w7 ⟨rfl, hb⟩; refine ⟨_, rfl, ?_⟩; replace BK407 := xbb_ BK407 hb; replace HB := xws_ HB hb; (try clear hb); (try clear hb2); (try clear hk); (try clear hi); have ⟨_, _, _, _, _, _, _, _, _, _, _, _⟩ := c6_ BK407) | ((with_reducible refine gate_callee (f := 21) rfl ?_); refine xgl_ (some 8) Tryz.func21 #[.agg #[.string a0_0, .string a0_1, .int .i64 a0_2, .string a0_3, .string a0_4, .bool a0_5]] ?_; (with_reducible refine (impl_urlText.calls a0_0 a0_1 a0_2 a0_3 a0_4 a0_5 t409 _ A4.out (HTB_.out.below (by first | (with_reducible exact Below.refl _ _) | (repeat (first | (with_reducible first | exact HB.out | exact Below.refl _ _ | apply below_alloc | apply pw_below_drewN | apply below_drew1 | refine below_set ?_ GE407.out) | exact HB.out)) | (repeat (first | exact Below.refl _ _ | apply below_alloc | apply pw_below_drewN | apply below_drew1 | refine below_set ?_ GE407.out))))).mono ?_); rintro e w9 ⟨rfl, hb⟩; refine ⟨_, rfl, ?_⟩; replace BK407 := xbb_ BK407 hb; replace HB := xws_ HB hb; (try clear hb); (try clear hb2); (try clear hk); (try clear hi)))
  go_ret2
  exact ⟨by first | rfl | (simp [errW_none, errW_some] <;> rfl) | (simp [*, errW_none, errW_some] <;> rfl), xw_ HB⟩
 ·replace c3 := Bool.eq_false_iff.mpr c3
  subst c3
  have H1 : (some ((⟨#[]⟩ : ByteArray), false)) = some (r1, r2) := by rw [if_neg (show ¬ (false = true) by decide)] at H; exact H
  clear H
  have H := H1
  clear H1
  simp only [Option.some.injEq, Prod.mk.injEq] at H
  obtain ⟨rfl, rfl⟩ := H
  go_enter Tryz.func7, Tryz.ntmps7
  go_wp2_with (first | ((with_reducible refine gate_dst (N := 1) rfl ?_); refine xbe_ (N := 1) (cs := #[.string a0_0, .string a0_1, .int .i64 a0_2, .string a0_3, .string a0_4, .bool a0_5]) (t := 24) ?_; intro gb407 hg w10 hbox hb; have BK407 := Aside0.mk (hbox); have GW407 := xge_ HB hg; have GE407 := xge_ HB hg; replace HB := xws_ HB hb; clear hb hbox hg; have ⟨_, _, _, _, _, _, _, _, _, _, _, _⟩ := c6_ BK407) | ((with_reducible refine gate_callee (f := 13) rfl ?_); refine xgl_ (some 5) Tryz.func13 #[.agg #[.string a0_0, .string a0_1, .int .i64 a0_2, .string a0_3, .string a0_4, .bool a0_5]] ?_; (with_reducible refine (impl_GoodUrl.calls k a0_0 a0_1 a0_2 a0_3 a0_4 a0_5 false _ A2.out (HTB_.out.below (by first | (with_reducible exact Below.refl _ _) | (repeat (first | (with_reducible first | exact HB.out | exact Below.refl _ _ | apply below_alloc | apply pw_below_drewN | apply below_drew1 | refine below_set ?_ GE407.out) | exact HB.out)) | (repeat (first | exact Below.refl _ _ | apply below_alloc | apply pw_below_drewN | apply below_drew1 | refine below_set ?_ GE407.out))))).mono ?_); rintro e w12 ⟨rfl, hb⟩; refine ⟨_, rfl, ?_⟩; replace BK407 := xbb_ BK407 hb; replace HB := xws_ HB hb; (try clear hb); (try clear hb2); (try clear hk); (try clear hi)))
  go_ret2
  exact ⟨by first | rfl | (simp [errW_none, errW_some] <;> rfl) | (simp [*, errW_none, errW_some] <;> rfl), xw_ HB⟩

/-! ### impl_DropDots: function 8 -/
def impl_DropDots.f (k : Nat) (a0 : ByteArray) : Option (ByteArray × Bool) := (strings_HasPrefix.f a0 (⟨#[47]⟩ : ByteArray)).bind fun t410 => (if t410 = true then (if (a0.size : Int) > 200 then (some ((⟨#[]⟩ : ByteArray), false)) else ((impl_dropDots.f k a0).bind fun t411 => (some (t411, true)))) else (some ((⟨#[]⟩ : ByteArray), false)))
theorem impl_DropDots.mono : ∀ a0 k, LeO (impl_DropDots.f k a0) (impl_DropDots.f (k + 1) a0) := by
 intro a0 k
 unfold impl_DropDots.f
 repeat' first
   | (with_reducible exact impl_dropDots.mono _ _)
   | (with_reducible exact LeO.refl _)
   | (with_reducible exact LeO.none _)
   | (with_reducible refine LeO.ite ?_ ?_)
   | (with_reducible refine LeO.bind ?_ (fun _ => ?_))
   | exact impl_dropDots.mono _ _
   | exact LeO.none _
   | refine LeO.ite ?_ ?_
   | refine LeO.bind ?_ (fun _ => ?_)
set_option maxHeartbeats 8000000 in
set_option maxRecDepth 100000 in
theorem impl_DropDots.calls (k : Nat) (a0 : ByteArray) (r1 : ByteArray) (r2 : Bool) (w : World) (h : impl_DropDots.f k a0 = some (r1, r2)) (hT_ : TabOk w) :
  Calls Tryz.prog 8 #[.string a0] w fun e w' => e = .returned (.tuple #[.string r1, .bool r2]) ∧ Below w.heap.size w w' := by
 have HTB_ := Aside0.mk hT_
 clear hT_
 have HB := Aside0.mk (Below.refl w.heap.size w)
 have H : ((strings_HasPrefix.f a0 (⟨#[47]⟩ : ByteArray)).bind fun t410 => (if t410 = true then (if (a0.size : Int) > 200 then (some ((⟨#[]⟩ : ByteArray), false)) else ((impl_dropDots.f k a0).bind fun t411 => (some (t411, true)))) else (some ((⟨#[]⟩ : ByteArray), false)))) = some (r1, r2) := h
 clear h
 replace H := Option.bind_eq_some_iff.mp H
 obtain ⟨t410, A20, H⟩ := H
 replace H : (if t410 = true then (if (a0.size : Int) > 200 then (some ((⟨#[]⟩ : ByteArray), false)) else ((impl_dropDots.f k a0).bind fun t411 => (some (t411, true)))) else (some ((⟨#[]⟩ : ByteArray), false))) = some (r1, r2) := H
 have A2 := Aside0.mk A20
 clear A20
 by_cases c3 : t410 = true
 ·subst c3
  have H1 : (if (a0.size : Int) > 200 then (some ((⟨#[]⟩ : ByteArray), false)) else ((impl_dropDots.f k a0).bind fun t411 => (some (t411, true)))) = some (r1, r2) := by rw [if_pos rfl] at H; exact H
  clear H
  have H := H1
  clear H1
  by_cases c4 : (a0.size : Int) > 200
  ·rw [if_pos c4] at H
   have c4b0 : decide (200 < (a0.size : Int)) = true := decide_eq_true c4
   have c4b1 : decide (200 < a0.size) = true := decide_eq_true (by omega)
   clear c4
   simp only [Option.some.injEq, Prod.mk.injEq] at H
   obtain ⟨rfl, rfl⟩ := H
   go_enter Tryz.func8, Tryz.ntmps8
   go_wp2_with (first | ((with_reducible refine gate_callee (f := 22) rfl ?_); refine xgl_ (some 5) Tryz.func22 #[.string a0, .string (⟨#[47]⟩ : ByteArray)] ?_; (with_reducible refine (strings_HasPrefix.calls a0 (⟨#[47]⟩ : ByteArray) true _ A2.out).mono ?_); rintro e w' ⟨rfl, ⟨nd, rfl⟩⟩; refine ⟨_, rfl, ?_⟩))
   go_ret2
   exact ⟨by first | rfl | (simp [errW_none, errW_some] <;> rfl) | (simp [*, errW_none, errW_some] <;> rfl), xw_ HB⟩
  ·rw [if_neg c4] at H
   have c4b0 : decide (200 < (a0.size : Int)) = false := decide_eq_false c4
   have c4b1 : decide (200 < a0.size) = false := decide_eq_false (by omega)
   clear c4
   replace H := Option.bind_eq_some_iff.mp H
   obtain ⟨t411, A50, H⟩ := H
   replace H : (some (t411, true)) = some (r1, r2) := H
   have A5 := Aside0.mk A50
   clear A50
   simp only [Option.some.injEq, Prod.mk.injEq] at H
   obtain ⟨rfl, rfl⟩ := H
   go_enter Tryz.func8, Tryz.ntmps8
   go_wp2_with (first | ((with_reducible refine gate_callee (f := 22) rfl ?_); refine xgl_ (some 5) Tryz.func22 #[.string a0, .string (⟨#[47]⟩ : ByteArray)] ?_; (with_reducible refine (strings_HasPrefix.calls a0 (⟨#[47]⟩ : ByteArray) true _ A2.out).mono ?_); rintro e w' ⟨rfl, ⟨nd, rfl⟩⟩; refine ⟨_, rfl, ?_⟩) | ((with_reducible refine gate_callee (f := 15) rfl ?_); refine xgl_ (some 13) Tryz.func15 #[.string a0] ?_; (with_reducible refine (impl_dropDots.calls k a0 t411 _ A5.out (HTB_.out.below (by first | (with_reducible exact Below.refl _ _) | (repeat (first | (with_reducible first | exact HB.out | exact Below.refl _ _ | apply below_alloc | apply pw_below_drewN | apply below_drew1) | exact HB.out)) | (repeat (first | exact Below.refl _ _ | apply below_alloc | apply pw_below_drewN | apply below_drew1))))).mono ?_); rintro e w6 ⟨rfl, hb⟩; refine ⟨_, rfl, ?_⟩; replace HB := xws_ HB hb; (try clear hb); (try clear hb2); (try clear hk); (try clear hi)))
   go_ret2
   exact ⟨by first | rfl | (simp [errW_none, errW_some] <;> rfl) | (simp [*, errW_none, errW_some] <;> rfl), xw_ HB⟩
 ·replace c3 := Bool.eq_false_iff.mpr c3
  subst c3
  have H1 : (some ((⟨#[]⟩ : ByteArray), false)) = some (r1, r2) := by rw [if_neg (show ¬ (false = true) by decide)] at H; exact H
  clear H
  have H := H1
  clear H1
  simp only [Option.some.injEq, Prod.mk.injEq] at H
  obtain ⟨rfl, rfl⟩ := H
  go_enter Tryz.func8, Tryz.ntmps8
  go_wp2_with (first | ((with_reducible refine gate_callee (f := 22) rfl ?_); refine xgl_ (some 5) Tryz.func22 #[.string a0, .string (⟨#[47]⟩ : ByteArray)] ?_; (with_reducible refine (strings_HasPrefix.calls a0 (⟨#[47]⟩ : ByteArray) false _ A2.out).mono ?_); rintro e w' ⟨rfl, ⟨nd, rfl⟩⟩; refine ⟨_, rfl, ?_⟩))
  go_ret2
  exact ⟨by first | rfl | (simp [errW_none, errW_some] <;> rfl) | (simp [*, errW_none, errW_some] <;> rfl), xw_ HB⟩

/-! ### laws_FnResolved: function 3 -/
def laws_FnResolved.j0 : Nat → ByteArray → Bool → Bool → ByteArray → ByteArray → Int → ByteArray → ByteArray → Bool → ByteArray → ByteArray → Int → ByteArray → ByteArray → Bool → Option (Bool)
 | 0, _, _, _, _, _, _, _, _, _, _, _, _, _, _, _ => none
 | k + 1, x4, x6, x44, x420000, x420001, x420002, x420003, x420004, x420005, x428000, x428001, x428002, x428003, x428004, x428005 => if x44 = true then (some false) else (if x6 = true then ((impl_UrlText.f k x428000 x428001 x428002 x428003 x428004 x428005).bind fun bt436 => ((impl_ResolveUrl.f k x420000 x420001 x420002 x420003 x420004 x420005 bt436.1).bind fun bt438 => ((impl_ResolveUrl.f k x428000 x428001 x428002 x428003 x428004 x428005 (⟨#[]⟩ : ByteArray)).bind fun bt446 => ((impl_DropDots.f k x428003).bind fun bt454 => (if bt436.2 = true then (if bt438.2.2.2.2.2.2 = true then (if bt446.2.2.2.2.2.2 = true then (if bt454.2 = true then (if (bt446.1.toList == x428000.toList && (bt446.2.1.toList == x428001.toList && (bt446.2.2.1 == x428002 && (bt446.2.2.2.1.toList == x428003.toList && (bt446.2.2.2.2.1.toList == x428004.toList && (bt446.2.2.2.2.2.1 == x428005)))))) = true then (if x4.toList = ([] : List UInt8) then (some true) else (if bt454.1.toList = x428003.toList then (some (bt438.1.toList == x428000.toList && (bt438.2.1.toList == x428001.toList && (bt438.2.2.1 == x428002 && (bt438.2.2.2.1.toList == x428003.toList && (bt438.2.2.2.2.1.toList == x428004.toList && (bt438.2.2.2.2.2.1 == x428005))))))) else (some false))) else (some false)) else (some false)) else (some false)) else (some false)) else (some false)))))) else (some (x428000.toList == ([] : List UInt8) && (x428001.toList == ([] : List UInt8) && (x428002 == 0 && (x428003.toList == ([] : List UInt8) && (x428004.toList == ([] : List UInt8) && (!x428005))))))))
def laws_FnResolved.f (k : Nat) (l0 : List Int) : Option (Bool) := if (l0.length : Int) > 1048576 then (some true) else ((spec_DrawResolveUrl.f k l0).bind fun bt412 => ((impl_ResolveUrl.f k bt412.1 bt412.2.1 bt412.2.2.1 bt412.2.2.2.1 bt412.2.2.2.2.1 bt412.2.2.2.2.2.1 bt412.2.2.2.2.2.2).bind fun bt420 => ((spec_ResolveUrl.f k bt412.1 bt412.2.1 bt412.2.2.1 bt412.2.2.2.1 bt412.2.2.2.2.1 bt412.2.2.2.2.2.1 bt412.2.2.2.2.2.2).bind fun bt428 => (if (bt420.2.2.2.2.2.2 != bt428.2.2.2.2.2.2) = true then (laws_FnResolved.j0 k bt412.2.2.2.2.2.2 bt420.2.2.2.2.2.2 true bt412.1 bt412.2.1 bt412.2.2.1 bt412.2.2.2.1 bt412.2.2.2.2.1 bt412.2.2.2.2.2.1 bt420.1 bt420.2.1 bt420.2.2.1 bt420.2.2.2.1 bt420.2.2.2.2.1 bt420.2.2.2.2.2.1) else (laws_FnResolved.j0 k bt412.2.2.2.2.2.2 bt420.2.2.2.2.2.2 (!(bt420.1.toList == bt428.1.toList) || (!(bt420.2.1.toList == bt428.2.1.toList) || (!(bt420.2.2.1 == bt428.2.2.1) || (!(bt420.2.2.2.1.toList == bt428.2.2.2.1.toList) || (!(bt420.2.2.2.2.1.toList == bt428.2.2.2.2.1.toList) || (!(bt420.2.2.2.2.2.1 == bt428.2.2.2.2.2.1))))))) bt412.1 bt412.2.1 bt412.2.2.1 bt412.2.2.2.1 bt412.2.2.2.2.1 bt412.2.2.2.2.2.1 bt420.1 bt420.2.1 bt420.2.2.1 bt420.2.2.2.1 bt420.2.2.2.2.1 bt420.2.2.2.2.2.1)))))
theorem laws_FnResolved.mono_l : ∀ k, (∀ y0 y1 y2 y3 y4 y5 y6 y7 y8 y9 y10 y11 y12 y13 y14, LeO (laws_FnResolved.j0 k y0 y1 y2 y3 y4 y5 y6 y7 y8 y9 y10 y11 y12 y13 y14) (laws_FnResolved.j0 (k + 1) y0 y1 y2 y3 y4 y5 y6 y7 y8 y9 y10 y11 y12 y13 y14))
 | 0 => fun _ _ _ _ _ _ _ _ _ _ _ _ _ _ _ r h => by simp [laws_FnResolved.j0] at h
 | k + 1 => by
  have ih0 := laws_FnResolved.mono_l k
  ·intro y0 y1 y2 y3 y4 y5 y6 y7 y8 y9 y10 y11 y12 y13 y14
   unfold laws_FnResolved.j0
   repeat' first
   | (with_reducible exact ih0 _ _ _ _ _ _ _ _ _ _ _ _ _ _ _)
   | (with_reducible exact impl_DropDots.mono _ _)
   | (with_reducible exact impl_ResolveUrl.mono _ _ _ _ _ _ _ _)
   | (with_reducible exact impl_UrlText.mono _ _ _ _ _ _ _)
   | (with_reducible exact spec_DrawResolveUrl.mono _ _)
   | (with_reducible exact spec_ResolveUrl.mono _ _ _ _ _ _ _ _)
   | (with_reducible exact LeO.refl _)
   | (with_reducible exact LeO.none _)
   | (with_reducible refine LeO.ite ?_ ?_)
   | (with_reducible refine LeO.bind ?_ (fun _ => ?_))
   | exact ih0 _ _ _ _ _ _ _ _ _ _ _ _ _ _ _
   | exact impl_DropDots.mono _ _
   | exact impl_ResolveUrl.mono _ _ _ _ _ _ _ _
   | exact impl_UrlText.mono _ _ _ _ _ _ _
   | exact spec_DrawResolveUrl.mono _ _
   | exact spec_ResolveUrl.mono _ _ _ _ _ _ _ _
   | exact LeO.none _
   | refine LeO.ite ?_ ?_
   | refine LeO.bind ?_ (fun _ => ?_)
theorem laws_FnResolved.mono : ∀ a0 k, LeO (laws_FnResolved.f k a0) (laws_FnResolved.f (k + 1) a0) := by
 intro a0 k
 have ih0 := laws_FnResolved.mono_l k
 unfold laws_FnResolved.f
 repeat' first
   | (with_reducible exact ih0 _ _ _ _ _ _ _ _ _ _ _ _ _ _ _)
   | (with_reducible exact impl_DropDots.mono _ _)
   | (with_reducible exact impl_ResolveUrl.mono _ _ _ _ _ _ _ _)
   | (with_reducible exact impl_UrlText.mono _ _ _ _ _ _ _)
   | (with_reducible exact spec_DrawResolveUrl.mono _ _)
   | (with_reducible exact spec_ResolveUrl.mono _ _ _ _ _ _ _ _)
   | (with_reducible exact LeO.refl _)
   | (with_reducible exact LeO.none _)
   | (with_reducible refine LeO.ite ?_ ?_)
   | (with_reducible refine LeO.bind ?_ (fun _ => ?_))
   | exact ih0 _ _ _ _ _ _ _ _ _ _ _ _ _ _ _
   | exact impl_DropDots.mono _ _
   | exact impl_ResolveUrl.mono _ _ _ _ _ _ _ _
   | exact impl_UrlText.mono _ _ _ _ _ _ _
   | exact spec_DrawResolveUrl.mono _ _
   | exact spec_ResolveUrl.mono _ _ _ _ _ _ _ _
   | exact LeO.none _
   | refine LeO.ite ?_ ?_
   | refine LeO.bind ?_ (fun _ => ?_)
set_option maxHeartbeats 8000000 in
set_option maxRecDepth 100000 in
theorem laws_FnResolved.calls (k : Nat) (A0 : Option Addr) (c0 : Nat) (l0 : List Int) (r : Bool) (w : World) (htrue : r = true) (hr0 : Kd.C (Kd.int .u8) w A0 l0.length l0) (hc0 : l0.length ≤ c0) (h : laws_FnResolved.f k l0 = some r) (hT_ : TabOk w) :
  Calls Tryz.prog 3 #[.slice A0 l0.length c0] w fun e w' => e = .returned (.bool r) ∧ Below w.heap.size w w' := by
 have HT := Aside0.mk htrue
 clear htrue
 have HTB_ := Aside0.mk hT_
 clear hT_
 have hu24 := Tryz.underlying24
 have HR0 := Aside0.mk hr0
 have HC0 := Aside0.mk hc0
 clear hr0 hc0
 have HB := Aside0.mk (Below.refl w.heap.size w)
 have H : (if (l0.length : Int) > 1048576 then (some true) else ((spec_DrawResolveUrl.f k l0).bind fun bt412 => ((impl_ResolveUrl.f k bt412.1 bt412.2.1 bt412.2.2.1 bt412.2.2.2.1 bt412.2.2.2.2.1 bt412.2.2.2.2.2.1 bt412.2.2.2.2.2.2).bind fun bt420 => ((spec_ResolveUrl.f k bt412.1 bt412.2.1 bt412.2.2.1 bt412.2.2.2.1 bt412.2.2.2.2.1 bt412.2.2.2.2.2.1 bt412.2.2.2.2.2.2).bind fun bt428 => (if (bt420.2.2.2.2.2.2 != bt428.2.2.2.2.2.2) = true then (laws_FnResolved.j0 k bt412.2.2.2.2.2.2 bt420.2.2.2.2.2.2 true bt412.1 bt412.2.1 bt412.2.2.1 bt412.2.2.2.1 bt412.2.2.2.2.1 bt412.2.2.2.2.2.1 bt420.1 bt420.2.1 bt420.2.2.1 bt420.2.2.2.1 bt420.2.2.2.2.1 bt420.2.2.2.2.2.1) else (laws_FnResolved.j0 k bt412.2.2.2.2.2.2 bt420.2.2.2.2.2.2 (!(bt420.1.toList == bt428.1.toList) || (!(bt420.2.1.toList == bt428.2.1.toList) || (!(bt420.2.2.1 == bt428.2.2.1) || (!(bt420.2.2.2.1.toList == bt428.2.2.2.1.toList) || (!(bt420.2.2.2.2.1.toList == bt428.2.2.2.2.1.toList) || (!(bt420.2.2.2.2.2.1 == bt428.2.2.2.2.2.1))))))) bt412.1 bt412.2.1 bt412.2.2.1 bt412.2.2.2.1 bt412.2.2.2.2.1 bt412.2.2.2.2.2.1 bt420.1 bt420.2.1 bt420.2.2.1 bt420.2.2.2.1 bt420.2.2.2.2.1 bt420.2.2.2.2.2.1)))))) = some r := h
 clear h
 by_cases c2 : (l0.length : Int) > 1048576
 ·rw [if_pos c2] at H
  have c2b0 : decide (1048576 < (l0.length : Int)) = true := decide_eq_true c2
  have c2b1 : decide (1048576 < l0.length) = true := decide_eq_true (by omega)
  clear c2
  obtain rfl := Option.some.inj H
  go_enter Tryz.func3, Tryz.ntmps3
  go_wp2
  go_ret
  exact ⟨by first | rfl | (simp [errW_none, errW_some] <;> rfl) | (simp [*, errW_none, errW_some] <;> rfl), xw_ HB⟩
 ·rw [if_neg c2] at H
  have c2b0 : decide (1048576 < (l0.length : Int)) = false := decide_eq_false c2
  have c2b1 : decide (1048576 < l0.length) = false := decide_eq_false (by omega)
  clear c2
  replace H := Option.bind_eq_some_iff.mp H
  obtain ⟨⟨t412, t413, t414, t415, t416, t417, t418⟩, A30, H⟩ := H
  replace H : ((impl_ResolveUrl.f k t412 t413 t414 t415 t416 t417 t418).bind fun bt420 => ((spec_ResolveUrl.f k t412 t413 t414 t415 t416 t417 t418).bind fun bt428 => (if (bt420.2.2.2.2.2.2 != bt428.2.2.2.2.2.2) = true then (laws_FnResolved.j0 k t418 bt420.2.2.2.2.2.2 true t412 t413 t414 t415 t416 t417 bt420.1 bt420.2.1 bt420.2.2.1 bt420.2.2.2.1 bt420.2.2.2.2.1 bt420.2.2.2.2.2.1) else (laws_FnResolved.j0 k t418 bt420.2.2.2.2.2.2 (!(bt420.1.toList == bt428.1.toList) || (!(bt420.2.1.toList == bt428.2.1.toList) || (!(bt420.2.2.1 == bt428.2.2.1) || (!(bt420.2.2.2.1.toList == bt428.2.2.2.1.toList) || (!(bt420.2.2.2.2.1.toList == bt428.2.2.2.2.1.toList) || (!(bt420.2.2.2.2.2.1 == bt428.2.2.2.2.2.1))))))) t412 t413 t414 t415 t416 t417 bt420.1 bt420.2.1 bt420.2.2.1 bt420.2.2.2.1 bt420.2.2.2.2.1 bt420.2.2.2.2.2.1)))) = some r := H
  have A3 := Aside0.mk A30
  clear A30
  replace H := Option.bind_eq_some_iff.mp H
  obtain ⟨⟨t420, t421, t422, t423, t424, t425, t426⟩, A40, H⟩ := H
  replace H : ((spec_ResolveUrl.f k t412 t413 t414 t415 t416 t417 t418).bind fun bt428 => (if (t426 != bt428.2.2.2.2.2.2) = true then (laws_FnResolved.j0 k t418 t426 true t412 t413 t414 t415 t416 t417 t420 t421 t422 t423 t424 t425) else (laws_FnResolved.j0 k t418 t426 (!(t420.toList == bt428.1.toList) || (!(t421.toList == bt428.2.1.toList) || (!(t422 == bt428.2.2.1) || (!(t423.toList == bt428.2.2.2.1.toList) || (!(t424.toList == bt428.2.2.2.2.1.toList) || (!(t425 == bt428.2.2.2.2.2.1))))))) t412 t413 t414 t415 t416 t417 t420 t421 t422 t423 t424 t425))) = some r := H
  have A4 := Aside0.mk A40
  clear A40
  replace H := Option.bind_eq_some_iff.mp H
  obtain ⟨⟨t428, t429, t430, t431, t432, t433, t434⟩, A50, H⟩ := H
  replace H : (if (t426 != t434) = true then (laws_FnResolved.j0 k t418 t426 true t412 t413 t414 t415 t416 t417 t420 t421 t422 t423 t424 t425) else (laws_FnResolved.j0 k t418 t426 (!(t420.toList == t428.toList) || (!(t421.toList == t429.toList) || (!(t422 == t430) || (!(t423.toList == t431.toList) || (!(t424.toList == t432.toList) || (!(t425 == t433))))))) t412 t413 t414 t415 t416 t417 t420 t421 t422 t423 t424 t425)) = some r := H
  have A5 := Aside0.mk A50
  clear A50
  have HC6 := Aside0.mk H
  clear H
  go_enter Tryz.func3, Tryz.ntmps3
  go_upto_region 6 with (first | ((with_reducible refine gate_callee (f := 4) rfl ?_); refine xgl_ (some 22) Tryz.func4 #[.slice A0 l0.length c0] ?_; (with_reducible refine (spec_DrawResolveUrl.calls k _ _ l0 t412 t413 t414 t415 t416 t417 t418 _ ?side1 ?side2 A3.out).mono ?_); (case side1 => repeat (first | exact HR0.out | (with_reducible refine Kd.C_alloc ?_ _) | (with_reducible refine Kd.C_drewN ?_ _) | (with_reducible refine Kd.C_drew ?_))); (case side2 => exact HC0.out); rintro e w7 ⟨rfl, hb⟩; refine ⟨_, rfl, ?_⟩; replace HB := xws_ HB hb; (try clear hb); (try clear hb2); (try clear hk); (try clear hi)) | ((with_reducible refine gate_dst (N := 3) rfl ?_); refine xbe_ (N := 3) (cs := #[.string (⟨#[]⟩ : ByteArray), .string (⟨#[]⟩ : ByteArray), .int .i64 0, .string (⟨#[]⟩ : ByteArray), .string (⟨#[]⟩ : ByteArray), .bool false]) (t := 24) ?_; intro gb419 hg w8 hbox hb; have BK419 := Aside0.mk (hbox); have GW419 := xge_ HB hg; have GE419 := xge_ HB hg; replace HB := xws_ HB hb; clear hb hbox hg; have ⟨_, _, _, _, _, _, _, _, _, _, _, _⟩ := c6_ BK419) | ((with_reducible refine gate_callee (f := 5) rfl ?_); refine xgl_ (some 28) Tryz.func5 #[.agg #[.string t412, .string t413, .int .i64 t414, .string t415, .string t416, .bool t417], .string t418] ?_; (with_reducible refine (impl_ResolveUrl.calls k t412 t413 t414 t415 t416 t417 t418 t420 t421 t422 t423 t424 t425 t426 _ A4.out (HTB_.out.below (by first | (with_reducible exact Below.refl _ _) | (repeat (first | (with_reducible first | exact HB.out | exact Below.refl _ _ | apply below_alloc | apply pw_below_drewN | apply below_drew1 | refine below_set ?_ GE419.out | refine below_set ?_ GE427.out | refine below_set ?_ GE435.out | refine below_set ?_ GE445.out | refine below_set ?_ GE453.out) | exact HB.out)) | (repeat (first | exact Below.refl _ _ | apply below_alloc | apply pw_below_drewN | apply below_drew1 | refine below_set ?_ GE419.out | refine below_set ?_ GE427.out | refine below_set ?_ GE435.out | refine below_set ?_ GE445.out | refine below_set ?_ GE453.out))))).mono ?_); rintro e w10 ⟨rfl, hb⟩; refine ⟨_, rfl, ?_⟩; replace BK419 := Aside0.mk (blk_below (g := gb419) (o := .cells #[.string t412, .string t413, .int .i64 t414, .string t415, .string t416, .bool t417] 24 (0, 0)) (by (with_reducible repeat first | apply bN_ | apply bD_ | apply bA_); refine blk_put (cs := #[.string t412, .string t413, .int .i64 t414, .string t415, .string t416, .bool false]) ?_ 5 _ rfl; (with_reducible repeat first | apply bN_ | apply bD_ | apply bA_); refine blk_put (cs := #[.string t412, .string t413, .int .i64 t414, .string t415, .string (⟨#[]⟩ : ByteArray), .bool false]) ?_ 4 _ rfl; (with_reducible repeat first | apply bN_ | apply bD_ | apply bA_); refine blk_put (cs := #[.string t412, .string t413, .int .i64 t414, .string (⟨#[]⟩ : ByteArray), .string (⟨#[]⟩ : ByteArray), .bool false]) ?_ 3 _ rfl; (with_reducible repeat first | apply bN_ | apply bD_ | apply bA_); refine blk_put (cs := #[.string t412, .string t413, .int .i64 0, .string (⟨#[]⟩ : ByteArray), .string (⟨#[]⟩ : ByteArray), .bool false]) ?_ 2 _ rfl; (with_reducible repeat first | apply bN_ | apply bD_ | apply bA_); refine blk_put (cs := #[.string t412, .string (⟨#[]⟩ : ByteArray), .int .i64 0, .string (⟨#[]⟩ : ByteArray), .string (⟨#[]⟩ : ByteArray), .bool false]) ?_ 1 _ rfl; (with_reducible repeat first | apply bN_ | apply bD_ | apply bA_); refine blk_put (cs := #[.string (⟨#[]⟩ : ByteArray), .string (⟨#[]⟩ : ByteArray), .int .i64 0, .string (⟨#[]⟩ : ByteArray), .string (⟨#[]⟩ : ByteArray), .bool false]) ?_ 0 _ rfl; (with_reducible repeat first | apply bN_ | apply bD_ | apply bA_); exact BK419.out) hb); replace HB := xws_ HB hb; (try clear hb); (try clear hb2); (try clear hk); (try clear hi)) | ((with_reducible refine gate_dst (N := 5) rfl ?_); refine xbe_ (N := 5) (cs := #[.string (⟨#[]⟩ : ByteArray), .string (⟨#[]⟩ : ByteArray), .int .i64 0, .string (⟨#[]⟩ : ByteArray), .string (⟨#[]⟩ : ByteArray), .bool false]) (t := 24) ?_; intro gb427 hg w11 hbox hb; have BK427 := Aside0.mk (hbox); have GW427 := xge_ HB hg; have GE427 := xge_ HB hg; replace HB := xws_ HB hb; have NB419_427 := xlt_ BK419 hg; have NB427_419 := xgt_ BK419 hg; replace BK419 := xbb_ BK419 hb; clear hb hbox hg; have hnb12 := NB427_419.out; have hnc12 := NB419_427.out; have ⟨_, _, _, _, _, _, _, _, _, _, _, _⟩ := c6_ BK427; have ⟨_, _, _, _, _, _, _, _, _, _, _, _⟩ := c6_ BK419) | ((with_reducible refine gate_callee (f := 6) rfl ?_); refine xgl_ (some 34) Tryz.func6 #[.agg #[.string t412, .string t413, .int .i64 t414, .string t415, .string t416, .bool t417], .string t418] ?_; (with_reducible refine (spec_ResolveUrl.calls k t412 t413 t414 t415 t416 t417 t418 t428 t429 t430 t431 t432 t433 t434 _ A5.out).mono ?_); rintro e w15 ⟨rfl, hb⟩; refine ⟨_, rfl, ?_⟩; replace BK419 := Aside0.mk (blk_below (g := gb419) (o := .cells #[.string t412, .string t413, .int .i64 t414, .string t415, .string t416, .bool t417] 24 (0, 0)) (by (with_reducible repeat first | apply bN_ | apply bD_ | apply bA_ | refine blk_far ?_ NB419_427.out _); exact BK419.out) hb); replace BK427 := Aside0.mk (blk_below (g := gb427) (o := .cells #[.string t420, .string t421, .int .i64 t422, .string t423, .string t424, .bool t425] 24 (0, 0)) (by (with_reducible repeat first | apply bN_ | apply bD_ | apply bA_); refine blk_put (cs := #[.string t420, .string t421, .int .i64 t422, .string t423, .string t424, .bool false]) ?_ 5 _ rfl; (with_reducible repeat first | apply bN_ | apply bD_ | apply bA_); refine blk_put (cs := #[.string t420, .string t421, .int .i64 t422, .string t423, .string (⟨#[]⟩ : ByteArray), .bool false]) ?_ 4 _ rfl; (with_reducible repeat first | apply bN_ | apply bD_ | apply bA_); refine blk_put (cs := #[.string t420, .string t421, .int .i64 t422, .string (⟨#[]⟩ : ByteArray), .string (⟨#[]⟩ : ByteArray), .bool false]) ?_ 3 _ rfl; (with_reducible repeat first | apply bN_ | apply bD_ | apply bA_); refine blk_put (cs := #[.string t420, .string t421, .int .i64 0, .string (⟨#[]⟩ : ByteArray), .string (⟨#[]⟩ : ByteArray), .bool false]) ?_ 2 _ rfl; (with_reducible repeat first | apply bN_ | apply bD_ | apply bA_); refine blk_put (cs := #[.string t420, .string (⟨#[]⟩ : ByteArray), .int .i64 0, .string (⟨#[]⟩ : ByteArray), .string (⟨#[]⟩ : ByteArray), .bool false]) ?_ 1 _ rfl; (with_reducible repeat first | apply bN_ | apply bD_ | apply bA_); refine blk_put (cs := #[.string (⟨#[]⟩ : ByteArray), .string (⟨#[]⟩ : ByteArray), .int .i64 0, .string (⟨#[]⟩ : ByteArray), .string (⟨#[]⟩ : ByteArray), .bool false]) ?_ 0 _ rfl; (with_reducible repeat first | apply bN_ | apply bD_ | apply bA_); exact BK427.out) hb); replace HB := xws_ HB hb; (try clear hb); (try clear hb2); (try clear hk); (try clear hi)) | ((with_reducible refine gate_dst (N := 7) rfl ?_); refine xbe_ (N := 7) (cs := #[.string (⟨#[]⟩ : ByteArray), .string (⟨#[]⟩ : ByteArray), .int .i64 0, .string (⟨#[]⟩ : ByteArray), .string (⟨#[]⟩ : ByteArray), .bool false]) (t := 24) ?_; intro gb435 hg w16 hbox hb; have BK435 := Aside0.mk (hbox); have GW435 := xge_ HB hg; have GE435 := xge_ HB hg; replace HB := xws_ HB hb; have NB419_435 := xlt_ BK419 hg; have NB435_419 := xgt_ BK419 hg; replace BK419 := xbb_ BK419 hb; have NB427_435 := xlt_ BK427 hg; have NB435_427 := xgt_ BK427 hg; replace BK427 := xbb_ BK427 hb; clear hb hbox hg; have hnb17 := NB435_419.out; have hnc17 := NB419_435.out; have hnb18 := NB435_427.out; have hnc18 := NB427_435.out; have ⟨_, _, _, _, _, _, _, _, _, _, _, _⟩ := c6_ BK435))
  (try simp only [Act.put, List.setIfInBounds_toArray, List.set_cons_zero, List.set_cons_succ])
  go_cut [44] (fun v44 wc => ∃ (kq : Nat) (x44_5 : Bool), v44 = .bool x44_5 ∧ Aside0 (laws_FnResolved.j0 kq t418 t426 x44_5 t412 t413 t414 t415 t416 t417 t420 t421 t422 t423 t424 t425 = some r) ∧ Aside0 (kq ≤ k) ∧ Aside0 (wc.heap[gb419]? = some (.cells #[.string t412, .string t413, .int .i64 t414, .string t415, .string t416, .bool t417] 24 (0, 0))) ∧ Aside0 (wc.heap[gb427]? = some (.cells #[.string t420, .string t421, .int .i64 t422, .string t423, .string t424, .bool t425] 24 (0, 0))) ∧ Aside0 (wc.heap[gb435]? = some (.cells #[.string t428, .string t429, .int .i64 t430, .string t431, .string t432, .bool t433] 24 (0, 0))) ∧ Aside0 (Below w.heap.size w wc))
  case first =>
   have H := HC6.out
   clear HC6
   by_cases c20 : (t426 != t434) = true
   ·rw [if_pos c20] at H
    have c20b0 : (t426 != t434) = true := c20
    (try (have c20b1 : decide (t426 = t434) = false := by simpa using c20))
    (try (have c20b2 : (t426 == t434) = false := by simpa using c20))
    (try (have c20b3 : ¬ (t426 = t434) := by simpa using c20))
    clear c20
    (first | rw [c20b0] | (simp only [i64_w, i32_w]; rw [c20b0]) | skip)
    have H' := Aside0.mk H
    clear H
    go_wp2
    go_meet
    case rel => exact ⟨_, (true), (by first | rfl | (simp; done) | (simp [*]; done)), H', ⟨by first | omega | exact Nat.le_refl _⟩, ⟨by (with_reducible repeat first | apply bN_ | apply bD_ | apply bA_ | refine blk_far ?_ NB419_435.out _); exact BK419.out⟩, ⟨by (with_reducible repeat first | apply bN_ | apply bD_ | apply bA_ | refine blk_far ?_ NB427_435.out _); exact BK427.out⟩, ⟨by (with_reducible repeat first | apply bN_ | apply bD_ | apply bA_); refine blk_put (cs := #[.string t428, .string t429, .int .i64 t430, .string t431, .string t432, .bool false]) ?_ 5 _ rfl; (with_reducible repeat first | apply bN_ | apply bD_ | apply bA_); refine blk_put (cs := #[.string t428, .string t429, .int .i64 t430, .string t431, .string (⟨#[]⟩ : ByteArray), .bool false]) ?_ 4 _ rfl; (with_reducible repeat first | apply bN_ | apply bD_ | apply bA_); refine blk_put (cs := #[.string t428, .string t429, .int .i64 t430, .string (⟨#[]⟩ : ByteArray), .string (⟨#[]⟩ : ByteArray), .bool false]) ?_ 3 _ rfl; (with_reducible repeat first | apply bN_ | apply bD_ | apply bA_); refine blk_put (cs := #[.string t428, .string t429, .int .i64 0, .string (⟨#[]⟩ : ByteArray), .string (⟨#[]⟩ : ByteArray), .bool false]) ?_ 2 _ rfl; (with_reducible repeat first | apply bN_ | apply bD_ | apply bA_); refine blk_put (cs := #[.string t428, .string (⟨#[]⟩ : ByteArray), .int .i64 0, .string (⟨#[]⟩ : ByteArray), .string (⟨#[]⟩ : ByteArray), .bool false]) ?_ 1 _ rfl; (with_reducible repeat first | apply bN_ | apply bD_ | apply bA_); refine blk_put (cs := #[.string (⟨#[]⟩ : ByteArray), .string (⟨#[]⟩ : ByteArray), .int .i64 0, .string (⟨#[]⟩ : ByteArray), .string (⟨#[]⟩ : ByteArray), .bool false]) ?_ 0 _ rfl; (with_reducible repeat first | apply bN_ | apply bD_ | apply bA_); exact BK435.out⟩, ⟨xw_ HB⟩⟩
   ·rw [if_neg c20] at H
    have c20b0 : (t426 != t434) = false := by simpa using c20
    (try (have c20b1 : decide (t426 = t434) = true := by simpa using c20))
    (try (have c20b2 : (t426 == t434) = true := by simpa using c20))
    clear c20
    (first | rw [c20b0] | (simp only [i64_w, i32_w]; rw [c20b0]) | skip)
    have H' := Aside0.mk H
    clear H
    have hnb21 := NB427_419.out
    have hnc21 := NB419_427.out
    have hnb22 := NB427_435.out
    have hnc22 := NB435_427.out
    have ⟨_, _, _, _, _, _, _, _, _, _, _, _⟩ := c6_ BK427
    have hnb24 := NB435_419.out
    have hnc24 := NB419_435.out
    have ⟨_, _, _, _, _, _, _, _, _, _, _, _⟩ := c6_ BK435
    go_wp2
    go_meet
    case rel => exact ⟨_, ((!(t420.toList == t428.toList) || (!(t421.toList == t429.toList) || (!(t422 == t430) || (!(t423.toList == t431.toList) || (!(t424.toList == t432.toList) || (!(t425 == t433)))))))), (by first | rfl | (simp; done) | (simp [*]; done)), H', ⟨by first | omega | exact Nat.le_refl _⟩, ⟨by (with_reducible repeat first | apply bN_ | apply bD_ | apply bA_ | refine blk_far ?_ NB419_435.out _); exact BK419.out⟩, ⟨by (with_reducible repeat first | apply bN_ | apply bD_ | apply bA_ | refine blk_far ?_ NB427_435.out _); exact BK427.out⟩, ⟨by (with_reducible repeat first | apply bN_ | apply bD_ | apply bA_); refine blk_put (cs := #[.string t428, .string t429, .int .i64 t430, .string t431, .string t432, .bool false]) ?_ 5 _ rfl; (with_reducible repeat first | apply bN_ | apply bD_ | apply bA_); refine blk_put (cs := #[.string t428, .string t429, .int .i64 t430, .string t431, .string (⟨#[]⟩ : ByteArray), .bool false]) ?_ 4 _ rfl; (with_reducible repeat first | apply bN_ | apply bD_ | apply bA_); refine blk_put (cs := #[.string t428, .string t429, .int .i64 t430, .string (⟨#[]⟩ : ByteArray), .string (⟨#[]⟩ : ByteArray), .bool false]) ?_ 3 _ rfl; (with_reducible repeat first | apply bN_ | apply bD_ | apply bA_); refine blk_put (cs := #[.string t428, .string t429, .int .i64 0, .string (⟨#[]⟩ : ByteArray), .string (⟨#[]⟩ : ByteArray), .bool false]) ?_ 2 _ rfl; (with_reducible repeat first | apply bN_ | apply bD_ | apply bA_); refine blk_put (cs := #[.string t428, .string (⟨#[]⟩ : ByteArray), .int .i64 0, .string (⟨#[]⟩ : ByteArray), .string (⟨#[]⟩ : ByteArray), .bool false]) ?_ 1 _ rfl; (with_reducible repeat first | apply bN_ | apply bD_ | apply bA_); refine blk_put (cs := #[.string (⟨#[]⟩ : ByteArray), .string (⟨#[]⟩ : ByteArray), .int .i64 0, .string (⟨#[]⟩ : ByteArray), .string (⟨#[]⟩ : ByteArray), .bool false]) ?_ 0 _ rfl; (with_reducible repeat first | apply bN_ | apply bD_ | apply bA_); exact BK435.out⟩, ⟨xw_ HB⟩⟩
  case rest =>
   clear HC6
   try clear c1
   try clear c2
   try clear c2b0
   try clear c2b1
   try clear p2
   try clear c3
   try clear c4
   try clear c5
   try clear c6
   try clear c12
   try clear c17
   try clear c18
   try clear c20
   try clear c20b0
   try clear c20b1
   try clear c20b2
   try clear c21
   try clear c22
   try clear c24
   obtain ⟨kq, x44_5, rfl, HA, HJ5, BK419, BK427, BK435, HB⟩ := hcut
   cases kq with
   | zero => exact absurd HA.out (by simp [laws_FnResolved.j0])
   | succ kj5 =>
    have H := HA.out
    clear HA
    simp only [laws_FnResolved.j0] at H
    by_cases c26 : x44_5 = true
    ·subst c26
     have H1 : (some false) = some r := by rw [if_pos rfl] at H; exact H
     clear H
     have H := H1
     clear H1
     exact absurd ((Option.some.inj H).trans HT.out) Bool.false_ne_true
    ·replace c26 := Bool.eq_false_iff.mpr c26
     subst c26
     have H1 : (if t426 = true then ((impl_UrlText.f kj5 t420 t421 t422 t423 t424 t425).bind fun bt436 => ((impl_ResolveUrl.f kj5 t412 t413 t414 t415 t416 t417 bt436.1).bind fun bt438 => ((impl_ResolveUrl.f kj5 t420 t421 t422 t423 t424 t425 (⟨#[]⟩ : ByteArray)).bind fun bt446 => ((impl_DropDots.f kj5 t423).bind fun bt454 => (if bt436.2 = true then (if bt438.2.2.2.2.2.2 = true then (if bt446.2.2.2.2.2.2 = true then (if bt454.2 = true then (if (bt446.1.toList == t420.toList && (bt446.2.1.toList == t421.toList && (bt446.2.2.1 == t422 && (bt446.2.2.2.1.toList == t423.toList && (bt446.2.2.2.2.1.toList == t424.toList && (bt446.2.2.2.2.2.1 == t425)))))) = true then (if t418.toList = ([] : List UInt8) then (some true) else (if bt454.1.toList = t423.toList then (some (bt438.1.toList == t420.toList && (bt438.2.1.toList == t421.toList && (bt438.2.2.1 == t422 && (bt438.2.2.2.1.toList == t423.toList && (bt438.2.2.2.2.1.toList == t424.toList && (bt438.2.2.2.2.2.1 == t425))))))) else (some false))) else (some false)) else (some false)) else (some false)) else (some false)) else (some false)))))) else (some (t420.toList == ([] : List UInt8) && (t421.toList == ([] : List UInt8) && (t422 == 0 && (t423.toList == ([] : List UInt8) && (t424.toList == ([] : List UInt8) && (!t425)))))))) = some r := by rw [if_neg (show ¬ (false = true) by decide)] at H; exact H
     clear H
     have H := H1
     clear H1
     by_cases c27 : t426 = true
     ·subst c27
      have H1 : ((impl_UrlText.f kj5 t420 t421 t422 t423 t424 t425).bind fun bt436 => ((impl_ResolveUrl.f kj5 t412 t413 t414 t415 t416 t417 bt436.1).bind fun bt438 => ((impl_ResolveUrl.f kj5 t420 t421 t422 t423 t424 t425 (⟨#[]⟩ : ByteArray)).bind fun bt446 => ((impl_DropDots.f kj5 t423).bind fun bt454 => (if bt436.2 = true then (if bt438.2.2.2.2.2.2 = true then (if bt446.2.2.2.2.2.2 = true then (if bt454.2 = true then (if (bt446.1.toList == t420.toList && (bt446.2.1.toList == t421.toList && (bt446.2.2.1 == t422 && (bt446.2.2.2.1.toList == t423.toList && (bt446.2.2.2.2.1.toList == t424.toList && (bt446.2.2.2.2.2.1 == t425)))))) = true then (if t418.toList = ([] : List UInt8) then (some true) else (if bt454.1.toList = t423.toList then (some (bt438.1.toList == t420.toList && (bt438.2.1.toList == t421.toList && (bt438.2.2.1 == t422 && (bt438.2.2.2.1.toList == t423.toList && (bt438.2.2.2.2.1.toList == t424.toList && (bt438.2.2.2.2.2.1 == t425))))))) else (some false))) else (some false)) else (some false)) else (some false)) else (some false)) else (some false)))))) = some r := by rw [if_pos rfl] at H; exact H
      clear H
      have H := H1
      clear H1
      replace H := Option.bind_eq_some_iff.mp H
      obtain ⟨⟨t436, t437⟩, A280, H⟩ := H
      replace H : ((impl_ResolveUrl.f kj5 t412 t413 t414 t415 t416 t417 t436).bind fun bt438 => ((impl_ResolveUrl.f kj5 t420 t421 t422 t423 t424 t425 (⟨#[]⟩ : ByteArray)).bind fun bt446 => ((impl_DropDots.f kj5 t423).bind fun bt454 => (if t437 = true then (if bt438.2.2.2.2.2.2 = true then (if bt446.2.2.2.2.2.2 = true then (if bt454.2 = true then (if (bt446.1.toList == t420.toList && (bt446.2.1.toList == t421.toList && (bt446.2.2.1 == t422 && (bt446.2.2.2.1.toList == t423.toList && (bt446.2.2.2.2.1.toList == t424.toList && (bt446.2.2.2.2.2.1 == t425)))))) = true then (if t418.toList = ([] : List UInt8) then (some true) else (if bt454.1.toList = t423.toList then (some (bt438.1.toList == t420.toList && (bt438.2.1.toList == t421.toList && (bt438.2.2.1 == t422 && (bt438.2.2.2.1.toList == t423.toList && (bt438.2.2.2.2.1.toList == t424.toList && (bt438.2.2.2.2.2.1 == t425))))))) else (some false))) else (some false)) else (some false)) else (some false)) else (some false)) else (some false))))) = some r := H
      have A28 := Aside0.mk A280
      clear A280
      replace H := Option.bind_eq_some_iff.mp H
      obtain ⟨⟨t438, t439, t440, t441, t442, t443, t444⟩, A290, H⟩ := H
      replace H : ((impl_ResolveUrl.f kj5 t420 t421 t422 t423 t424 t425 (⟨#[]⟩ : ByteArray)).bind fun bt446 => ((impl_DropDots.f kj5 t423).bind fun bt454 => (if t437 = true then (if t444 = true then (if bt446.2.2.2.2.2.2 = true then (if bt454.2 = true then (if (bt446.1.toList == t420.toList && (bt446.2.1.toList == t421.toList && (bt446.2.2.1 == t422 && (bt446.2.2.2.1.toList == t423.toList && (bt446.2.2.2.2.1.toList == t424.toList && (bt446.2.2.2.2.2.1 == t425)))))) = true then (if t418.toList = ([] : List UInt8) then (some true) else (if bt454.1.toList = t423.toList then (some (t438.toList == t420.toList && (t439.toList == t421.toList && (t440 == t422 && (t441.toList == t423.toList && (t442.toList == t424.toList && (t443 == t425))))))) else (some false))) else (some false)) else (some false)) else (some false)) else (some false)) else (some false)))) = some r := H
      have A29 := Aside0.mk A290
      clear A290
      replace H := Option.bind_eq_some_iff.mp H
      obtain ⟨⟨t446, t447, t448, t449, t450, t451, t452⟩, A300, H⟩ := H
      replace H : ((impl_DropDots.f kj5 t423).bind fun bt454 => (if t437 = true then (if t444 = true then (if t452 = true then (if bt454.2 = true then (if (t446.toList == t420.toList && (t447.toList == t421.toList && (t448 == t422 && (t449.toList == t423.toList && (t450.toList == t424.toList && (t451 == t425)))))) = true then (if t418.toList = ([] : List UInt8) then (some true) else (if bt454.1.toList = t423.toList then (some (t438.toList == t420.toList && (t439.toList == t421.toList && (t440 == t422 && (t441.toList == t423.toList && (t442.toList == t424.toList && (t443 == t425))))))) else (some false))) else (some false)) else (some false)) else (some false)) else (some false)) else (some false))) = some r := H
      have A30 := Aside0.mk A300
      clear A300
      replace H := Option.bind_eq_some_iff.mp H
      obtain ⟨⟨t454, t455⟩, A310, H⟩ := H
      replace H : (if t437 = true then (if t444 = true then (if t452 = true then (if t455 = true then (if (t446.toList == t420.toList && (t447.toList == t421.toList && (t448 == t422 && (t449.toList == t423.toList && (t450.toList == t424.toList && (t451 == t425)))))) = true then (if t418.toList = ([] : List UInt8) then (some true) else (if t454.toList = t423.toList then (some (t438.toList == t420.toList && (t439.toList == t421.toList && (t440 == t422 && (t441.toList == t423.toList && (t442.toList == t424.toList && (t443 == t425))))))) else (some false))) else (some false)) else (some false)) else (some false)) else (some false)) else (some false)) = some r := H
      have A31 := Aside0.mk A310
      clear A310
      by_cases c32 : t437 = true
      ·subst c32
       have H1 : (if t444 = true then (if t452 = true then (if t455 = true then (if (t446.toList == t420.toList && (t447.toList == t421.toList && (t448 == t422 && (t449.toList == t423.toList && (t450.toList == t424.toList && (t451 == t425)))))) = true then (if t418.toList = ([] : List UInt8) then (some true) else (if t454.toList = t423.toList then (some (t438.toList == t420.toList && (t439.toList == t421.toList && (t440 == t422 && (t441.toList == t423.toList && (t442.toList == t424.toList && (t443 == t425))))))) else (some false))) else (some false)) else (some false)) else (some false)) else (some false)) = some r := by rw [if_pos rfl] at H; exact H
       clear H
       have H := H1
       clear H1
       by_cases c33 : t444 = true
       ·subst c33
        have H1 : (if t452 = true then (if t455 = true then (if (t446.toList == t420.toList && (t447.toList == t421.toList && (t448 == t422 && (t449.toList == t423.toList && (t450.toList == t424.toList && (t451 == t425)))))) = true then (if t418.toList = ([] : List UInt8) then (some true) else (if t454.toList = t423.toList then (some (t438.toList == t420.toList && (t439.toList == t421.toList && (t440 == t422 && (t441.toList == t423.toList && (t442.toList == t424.toList && (t443 == t425))))))) else (some false))) else (some false)) else (some false)) else (some false)) = some r := by rw [if_pos rfl] at H; exact H
        clear H
        have H := H1
        clear H1
        by_cases c34 : t452 = true
        ·subst c34
         have H1 : (if t455 = true then (if (t446.toList == t420.toList && (t447.toList == t421.toList && (t448 == t422 && (t449.toList == t423.toList && (t450.toList == t424.toList && (t451 == t425)))))) = true then (if t418.toList = ([] : List UInt8) then (some true) else (if t454.toList = t423.toList then (some (t438.toList == t420.toList && (t439.toList == t421.toList && (t440 == t422 && (t441.toList == t423.toList && (t442.toList == t424.toList && (t443 == t425))))))) else (some false))) else (some false)) else (some false)) = some r := by rw [if_pos rfl] at H; exact H
         clear H
         have H := H1
         clear H1
         by_cases c35 : t455 = true
         ·subst c35
          have H1 : (if (t446.toList == t420.toList && (t447.toList == t421.toList && (t448 == t422 && (t449.toList == t423.toList && (t450.toList == t424.toList && (t451 == t425)))))) = true then (if t418.toList = ([] : List UInt8) then (some true) else (if t454.toList = t423.toList then (some (t438.toList == t420.toList && (t439.toList == t421.toList && (t440 == t422 && (t441.toList == t423.toList && (t442.toList == t424.toList && (t443 == t425))))))) else (some false))) else (some false)) = some r := by rw [if_pos rfl] at H; exact H
          clear H
          have H := H1
          clear H1
          by_cases c36 : (t446.toList == t420.toList && (t447.toList == t421.toList && (t448 == t422 && (t449.toList == t423.toList && (t450.toList == t424.toList && (t451 == t425)))))) = true
          ·rw [if_pos c36] at H
           have c36b0 : (t446.toList == t420.toList && (t447.toList == t421.toList && (t448 == t422 && (t449.toList == t423.toList && (t450.toList == t424.toList && (t451 == t425)))))) = true := c36
           (try (have c36b1 : decide (t446.toList = t420.toList && (t447.toList == t421.toList && (t448 == t422 && (t449.toList == t423.toList && (t450.toList == t424.toList && (t451 == t425)))))) = true := by simpa using c36))
           (try (have c36b2 : (t446.toList == t420.toList && (t447.toList == t421.toList && (t448 == t422 && (t449.toList == t423.toList && (t450.toList == t424.toList && (t451 == t425)))))) = true := by simpa using c36))
           clear c36
           by_cases c37 : t418.toList = ([] : List UInt8)
           ·rw [if_pos c37] at H
            have c37b0 : (t418.toList == ([] : List UInt8)) = true := beq_iff_eq.mpr c37
            have c37b1 : (t418.toList != ([] : List UInt8)) = false := bne_eq_false_iff_eq.mpr c37
            clear c37
            obtain rfl := Option.some.inj H
            have hnb38 := NB427_419.out
            have hnc38 := NB419_427.out
            have hnb39 := NB427_435.out
            have hnc39 := NB435_427.out
            have ⟨_, _, _, _, _, _, _, _, _, _, _, _⟩ := c6_ BK427
            go_wp2_with (first | ((with_reducible refine gate_callee (f := 7) rfl ?_); refine xgl_ (some 52) Tryz.func7 #[.agg #[.string t420, .string t421, .int .i64 t422, .string t423, .string t424, .bool t425]] ?_; (with_reducible refine (impl_UrlText.calls kj5 t420 t421 t422 t423 t424 t425 t436 true _ A28.out (HTB_.out.below (by first | (with_reducible exact Below.refl _ _) | (repeat (first | (with_reducible first | exact HB.out | exact Below.refl _ _ | apply below_alloc | apply pw_below_drewN | apply below_drew1 | refine below_set ?_ GE419.out | refine below_set ?_ GE427.out | refine below_set ?_ GE435.out | refine below_set ?_ GE445.out | refine below_set ?_ GE453.out) | exact HB.out)) | (repeat (first | exact Below.refl _ _ | apply below_alloc | apply pw_below_drewN | apply below_drew1 | refine below_set ?_ GE419.out | refine below_set ?_ GE427.out | refine below_set ?_ GE435.out | refine below_set ?_ GE445.out | refine below_set ?_ GE453.out))))).mono ?_); rintro e w41 ⟨rfl, hb⟩; refine ⟨_, rfl, ?_⟩; replace BK419 := xbb_ BK419 hb; replace BK427 := xbb_ BK427 hb; replace BK435 := xbb_ BK435 hb; replace HB := xws_ HB hb; (try clear hb); (try clear hb2); (try clear hk); (try clear hi); have hnb42 := NB419_435.out; have hnc42 := NB435_419.out; have ⟨_, _, _, _, _, _, _, _, _, _, _, _⟩ := c6_ BK419) | ((with_reducible refine gate_callee (f := 5) rfl ?_); refine xgl_ (some 58) Tryz.func5 #[.agg #[.string t412, .string t413, .int .i64 t414, .string t415, .string t416, .bool t417], .string t436] ?_; (with_reducible refine (impl_ResolveUrl.calls kj5 t412 t413 t414 t415 t416 t417 t436 t438 t439 t440 t441 t442 t443 true _ A29.out (HTB_.out.below (by first | (with_reducible exact Below.refl _ _) | (repeat (first | (with_reducible first | exact HB.out | exact Below.refl _ _ | apply below_alloc | apply pw_below_drewN | apply below_drew1 | refine below_set ?_ GE419.out | refine below_set ?_ GE427.out | refine below_set ?_ GE435.out | refine below_set ?_ GE445.out | refine below_set ?_ GE453.out) | exact HB.out)) | (repeat (first | exact Below.refl _ _ | apply below_alloc | apply pw_below_drewN | apply below_drew1 | refine below_set ?_ GE419.out | refine below_set ?_ GE427.out | refine below_set ?_ GE435.out | refine below_set ?_ GE445.out | refine below_set ?_ GE453.out))))).mono ?_); rintro e w44 ⟨rfl, hb⟩; refine ⟨_, rfl, ?_⟩; replace BK419 := xbb_ BK419 hb; replace BK427 := xbb_ BK427 hb; replace BK435 := xbb_ BK435 hb; replace HB := xws_ HB hb; (try clear hb); (try clear hb2); (try clear hk); (try clear hi)) | ((with_reducible refine gate_dst (N := 11) rfl ?_); refine xbe_ (N := 11) (cs := #[.string (⟨#[]⟩ : ByteArray), .string (⟨#[]⟩ : ByteArray), .int .i64 0, .string (⟨#[]⟩ : ByteArray), .string (⟨#[]⟩ : ByteArray), .bool false]) (t := 24) ?_; intro gb445 hg w45 hbox hb; have BK445 := Aside0.mk (hbox); have GW445 := xge_ HB hg; have GE445 := xge_ HB hg; replace HB := xws_ HB hb; have NB419_445 := xlt_ BK419 hg; have NB445_419 := xgt_ BK419 hg; replace BK419 := xbb_ BK419 hb; have NB427_445 := xlt_ BK427 hg; have NB445_427 := xgt_ BK427 hg; replace BK427 := xbb_ BK427 hb; have NB435_445 := xlt_ BK435 hg; have NB445_435 := xgt_ BK435 hg; replace BK435 := xbb_ BK435 hb; clear hb hbox hg; have hnb46 := NB445_419.out; have hnc46 := NB419_445.out; have hnb47 := NB445_427.out; have hnc47 := NB427_445.out; have hnb48 := NB445_435.out; have hnc48 := NB435_445.out; have ⟨_, _, _, _, _, _, _, _, _, _, _, _⟩ := c6_ BK445; have ⟨_, _, _, _, _, _, _, _, _, _, _, _⟩ := c6_ BK427) | ((with_reducible refine gate_callee (f := 5) rfl ?_); refine xgl_ (some 63) Tryz.func5 #[.agg #[.string t420, .string t421, .int .i64 t422, .string t423, .string t424, .bool t425], .string (⟨#[]⟩ : ByteArray)] ?_; (with_reducible refine (impl_ResolveUrl.calls kj5 t420 t421 t422 t423 t424 t425 (⟨#[]⟩ : ByteArray) t446 t447 t448 t449 t450 t451 true _ A30.out (HTB_.out.below (by first | (with_reducible exact Below.refl _ _) | (repeat (first | (with_reducible first | exact HB.out | exact Below.refl _ _ | apply below_alloc | apply pw_below_drewN | apply below_drew1 | refine below_set ?_ GE419.out | refine below_set ?_ GE427.out | refine below_set ?_ GE435.out | refine below_set ?_ GE445.out | refine below_set ?_ GE453.out) | exact HB.out)) | (repeat (first | exact Below.refl _ _ | apply below_alloc | apply pw_below_drewN | apply below_drew1 | refine below_set ?_ GE419.out | refine below_set ?_ GE427.out | refine below_set ?_ GE435.out | refine below_set ?_ GE445.out | refine below_set ?_ GE453.out))))).mono ?_); rintro e w51 ⟨rfl, hb⟩; refine ⟨_, rfl, ?_⟩; replace BK419 := Aside0.mk (blk_below (g := gb419) (o := .cells #[.string t412, .string t413, .int .i64 t414, .string t415, .string t416, .bool t417] 24 (0, 0)) (by (with_reducible repeat first | apply bN_ | apply bD_ | apply bA_ | refine blk_far ?_ NB419_445.out _); exact BK419.out) hb); replace BK427 := Aside0.mk (blk_below (g := gb427) (o := .cells #[.string t420, .string t421, .int .i64 t422, .string t423, .string t424, .bool t425] 24 (0, 0)) (by (with_reducible repeat first | apply bN_ | apply bD_ | apply bA_ | refine blk_far ?_ NB427_445.out _); exact BK427.out) hb); replace BK435 := Aside0.mk (blk_below (g := gb435) (o := .cells #[.string t428, .string t429, .int .i64 t430, .string t431, .string t432, .bool t433] 24 (0, 0)) (by (with_reducible repeat first | apply bN_ | apply bD_ | apply bA_ | refine blk_far ?_ NB435_445.out _); exact BK435.out) hb); replace BK445 := Aside0.mk (blk_below (g := gb445) (o := .cells #[.string t438, .string t439, .int .i64 t440, .string t441, .string t442, .bool t443] 24 (0, 0)) (by (with_reducible repeat first | apply bN_ | apply bD_ | apply bA_); refine blk_put (cs := #[.string t438, .string t439, .int .i64 t440, .string t441, .string t442, .bool false]) ?_ 5 _ rfl; (with_reducible repeat first | apply bN_ | apply bD_ | apply bA_); refine blk_put (cs := #[.string t438, .string t439, .int .i64 t440, .string t441, .string (⟨#[]⟩ : ByteArray), .bool false]) ?_ 4 _ rfl; (with_reducible repeat first | apply bN_ | apply bD_ | apply bA_); refine blk_put (cs := #[.string t438, .string t439, .int .i64 t440, .string (⟨#[]⟩ : ByteArray), .string (⟨#[]⟩ : ByteArray), .bool false]) ?_ 3 _ rfl; (with_reducible repeat first | apply bN_ | apply bD_ | apply bA_); refine blk_put (cs := #[.string t438, .string t439, .int .i64 0, .string (⟨#[]⟩ : ByteArray), .string (⟨#[]⟩ : ByteArray), .bool false]) ?_ 2 _ rfl; (with_reducible repeat first | apply bN_ | apply bD_ | apply bA_); refine blk_put (cs := #[.string t438, .string (⟨#[]⟩ : ByteArray), .int .i64 0, .string (⟨#[]⟩ : ByteArray), .string (⟨#[]⟩ : ByteArray), .bool false]) ?_ 1 _ rfl; (with_reducible repeat first | apply bN_ | apply bD_ | apply bA_); refine blk_put (cs := #[.string (⟨#[]⟩ : ByteArray), .string (⟨#[]⟩ : ByteArray), .int .i64 0, .string (⟨#[]⟩ : ByteArray), .string (⟨#[]⟩ : ByteArray), .bool false]) ?_ 0 _ rfl; (with_reducible repeat first | apply bN_ | apply bD_ | apply bA_); exact BK445.out) hb); replace HB := xws_ HB hb; (try clear hb); (try clear hb2); (try clear hk); (try clear hi)) | ((with_reducible refine gate_dst (N := 13) rfl ?_); refine xbe_ (N := 13) (cs := #[.string (⟨#[]⟩ : ByteArray), .string (⟨#[]⟩ : ByteArray), .int .i64 0, .string (⟨#[]⟩ : ByteArray), .string (⟨#[]⟩ : ByteArray), .bool false]) (t := 24) ?_; intro gb453 hg w52 hbox hb; have BK453 := Aside0.mk (hbox); have GW453 := xge_ HB hg; have GE453 := xge_ HB hg; replace HB := xws_ HB hb; have NB419_453 := xlt_ BK419 hg; have NB453_419 := xgt_ BK419 hg; replace BK419 := xbb_ BK419 hb; have NB427_453 := xlt_ BK427 hg; have NB453_427 := xgt_ BK427 hg; replace BK427 := xbb_ BK427 hb; have NB435_453 := xlt_ BK435 hg; have NB453_435 := xgt_ BK435 hg; replace BK435 := xbb_ BK435 hb; have NB445_453 := xlt_ BK445 hg; have NB453_445 := xgt_ BK445 hg; replace BK445 := xbb_ BK445 hb; clear hb hbox hg; have hnb53 := NB453_419.out; have hnc53 := NB419_453.out; have hnb54 := NB453_427.out; have hnc54 := NB427_453.out; have hnb55 := NB453_435.out; have hnc55 := NB435_453.out; have hnb56 := NB453_445.out; have hnc56 := NB445_453.out; have ⟨_, _, _, _, _, _, _, _, _, _, _, _⟩ := c6_ BK453; have ⟨_, _, _, _, _, _, _, _, _, _, _, _⟩ := c6_ BK427) | ((with_reducible refine gate_callee (f := 8) rfl ?_); refine xgl_ (some 69) Tryz.func8 #[.string t423] ?_; (with_reducible refine (impl_DropDots.calls kj5 t423 t454 true _ A31.out (HTB_.out.below (by first | (with_reducible exact Below.refl _ _) | (repeat (first | (with_reducible first | exact HB.out | exact Below.refl _ _ | apply below_alloc | apply pw_below_drewN | apply below_drew1 | refine below_set ?_ GE419.out | refine below_set ?_ GE427.out | refine below_set ?_ GE435.out | refine below_set ?_ GE445.out | refine below_set ?_ GE453.out) | exact HB.out)) | (repeat (first | exact Below.refl _ _ | apply below_alloc | apply pw_below_drewN | apply below_drew1 | refine below_set ?_ GE419.out | refine below_set ?_ GE427.out | refine below_set ?_ GE435.out | refine below_set ?_ GE445.out | refine below_set ?_ GE453.out))))).mono ?_); rintro e w59 ⟨rfl, hb⟩; refine ⟨_, rfl, ?_⟩; replace BK419 := Aside0.mk (blk_below (g := gb419) (o := .cells #[.string t412, .string t413, .int .i64 t414, .string t415, .string t416, .bool t417] 24 (0, 0)) (by (with_reducible repeat first | apply bN_ | apply bD_ | apply bA_ | refine blk_far ?_ NB419_453.out _); exact BK419.out) hb); replace BK427 := Aside0.mk (blk_below (g := gb427) (o := .cells #[.string t420, .string t421, .int .i64 t422, .string t423, .string t424, .bool t425] 24 (0, 0)) (by (with_reducible repeat first | apply bN_ | apply bD_ | apply bA_ | refine blk_far ?_ NB427_453.out _); exact BK427.out) hb); replace BK435 := Aside0.mk (blk_below (g := gb435) (o := .cells #[.string t428, .string t429, .int .i64 t430, .string t431, .string t432, .bool t433] 24 (0, 0)) (by (with_reducible repeat first | apply bN_ | apply bD_ | apply bA_ | refine blk_far ?_ NB435_453.out _); exact BK435.out) hb); replace BK445 := Aside0.mk (blk_below (g := gb445) (o := .cells #[.string t438, .string t439, .int .i64 t440, .string t441, .string t442, .bool t443] 24 (0, 0)) (by (with_reducible repeat first | apply bN_ | apply bD_ | apply bA_ | refine blk_far ?_ NB445_453.out _); exact BK445.out) hb); replace BK453 := Aside0.mk (blk_below (g := gb453) (o := .cells #[.string t446, .string t447, .int .i64 t448, .string t449, .string t450, .bool t451] 24 (0, 0)) (by (with_reducible repeat first | apply bN_ | apply bD_ | apply bA_); refine blk_put (cs := #[.string t446, .string t447, .int .i64 t448, .string t449, .string t450, .bool false]) ?_ 5 _ rfl; (with_reducible repeat first | apply bN_ | apply bD_ | apply bA_); refine blk_put (cs := #[.string t446, .string t447, .int .i64 t448, .string t449, .string (⟨#[]⟩ : ByteArray), .bool false]) ?_ 4 _ rfl; (with_reducible repeat first | apply bN_ | apply bD_ | apply bA_); refine blk_put (cs := #[.string t446, .string t447, .int .i64 t448, .string (⟨#[]⟩ : ByteArray), .string (⟨#[]⟩ : ByteArray), .bool false]) ?_ 3 _ rfl; (with_reducible repeat first | apply bN_ | apply bD_ | apply bA_); refine blk_put (cs := #[.string t446, .string t447, .int .i64 0, .string (⟨#[]⟩ : ByteArray), .string (⟨#[]⟩ : ByteArray), .bool false]) ?_ 2 _ rfl; (with_reducible repeat first | apply bN_ | apply bD_ | apply bA_); refine blk_put (cs := #[.string t446, .string (⟨#[]⟩ : ByteArray), .int .i64 0, .string (⟨#[]⟩ : ByteArray), .string (⟨#[]⟩ : ByteArray), .bool false]) ?_ 1 _ rfl; (with_reducible repeat first | apply bN_ | apply bD_ | apply bA_); refine blk_put (cs := #[.string (⟨#[]⟩ : ByteArray), .string (⟨#[]⟩ : ByteArray), .int .i64 0, .string (⟨#[]⟩ : ByteArray), .string (⟨#[]⟩ : ByteArray), .bool false]) ?_ 0 _ rfl; (with_reducible repeat first | apply bN_ | apply bD_ | apply bA_); exact BK453.out) hb); replace HB := xws_ HB hb; (try clear hb); (try clear hb2); (try clear hk); (try clear hi); have ⟨_, _, _, _, _, _, _, _, _, _, _, _⟩ := c6_ BK453; have ⟨_, _, _, _, _, _, _, _, _, _, _, _⟩ := c6_ BK427))
            go_ret
            exact ⟨by first | rfl | (simp [errW_none, errW_some] <;> rfl) | (simp [*, errW_none, errW_some] <;> rfl), xw_ HB⟩
           ·rw [if_neg c37] at H
            have c37b0 : (t418.toList == ([] : List UInt8)) = false := beq_eq_false_iff_ne.mpr c37
            have c37b1 : (t418.toList != ([] : List UInt8)) = true := bne_iff_ne.mpr c37
            by_cases c62 : t454.toList = t423.toList
            ·rw [if_pos c62] at H
             have c62b0 : (t454.toList == t423.toList) = true := beq_iff_eq.mpr c62
             have c62b1 : (t454.toList != t423.toList) = false := bne_eq_false_iff_eq.mpr c62
             clear c62
             obtain rfl := Option.some.inj H
             have hnb63 := NB427_419.out
             have hnc63 := NB419_427.out
             have hnb64 := NB427_435.out
             have hnc64 := NB435_427.out
             have ⟨_, _, _, _, _, _, _, _, _, _, _, _⟩ := c6_ BK427
             go_wp2_with (first | ((with_reducible refine gate_callee (f := 7) rfl ?_); refine xgl_ (some 52) Tryz.func7 #[.agg #[.string t420, .string t421, .int .i64 t422, .string t423, .string t424, .bool t425]] ?_; (with_reducible refine (impl_UrlText.calls kj5 t420 t421 t422 t423 t424 t425 t436 true _ A28.out (HTB_.out.below (by first | (with_reducible exact Below.refl _ _) | (repeat (first | (with_reducible first | exact HB.out | exact Below.refl _ _ | apply below_alloc | apply pw_below_drewN | apply below_drew1 | refine below_set ?_ GE419.out | refine below_set ?_ GE427.out | refine below_set ?_ GE435.out | refine below_set ?_ GE445.out | refine below_set ?_ GE453.out) | exact HB.out)) | (repeat (first | exact Below.refl _ _ | apply below_alloc | apply pw_below_drewN | apply below_drew1 | refine below_set ?_ GE419.out | refine below_set ?_ GE427.out | refine below_set ?_ GE435.out | refine below_set ?_ GE445.out | refine below_set ?_ GE453.out))))).mono ?_); rintro e w66 ⟨rfl, hb⟩; refine ⟨_, rfl, ?_⟩; replace BK419 := xbb_ BK419 hb; replace BK427 := xbb_ BK427 hb; replace BK435 := xbb_ BK435 hb; replace HB := xws_ HB hb; (try clear hb); (try clear hb2); (try clear hk); (try clear hi); have hnb67 := NB419_435.out; have hnc67 := NB435_419.out; have ⟨_, _, _, _, _, _, _, _, _, _, _, _⟩ := c6_ BK419) | ((with_reducible refine gate_callee (f := 5) rfl ?_); refine xgl_ (some 58) Tryz.func5 #[.agg #[.string t412, .string t413, .int .i64 t414, .string t415, .string t416, .bool t417], .string t436] ?_; (with_reducible refine (impl_ResolveUrl.calls kj5 t412 t413 t414 t415 t416 t417 t436 t438 t439 t440 t441 t442 t443 true _ A29.out (HTB_.out.below (by first | (with_reducible exact Below.refl _ _) | (repeat (first | (with_reducible first | exact HB.out | exact Below.refl _ _ | apply below_alloc | apply pw_below_drewN | apply below_drew1 | refine below_set ?_ GE419.out | refine below_set ?_ GE427.out | refine below_set ?_ GE435.out | refine below_set ?_ GE445.out | refine below_set ?_ GE453.out) | exact HB.out)) | (repeat (first | exact Below.refl _ _ | apply below_alloc | apply pw_below_drewN | apply below_drew1 | refine below_set ?_ GE419.out | refine below_set ?_ GE427.out | refine below_set ?_ GE435.out | refine below_set ?_ GE445.out | refine below_set ?_ GE453.out))))).mono ?_); rintro e w69 ⟨rfl, hb⟩; refine ⟨_, rfl, ?_⟩; replace BK419 := xbb_ BK419 hb; replace BK427 := xbb_ BK427 hb; replace BK435 := xbb_ BK435 hb; replace HB := xws_ HB hb; (try clear hb); (try clear hb2); (try clear hk); (try clear hi)) | ((with_reducible refine gate_dst (N := 11) rfl ?_); refine xbe_ (N := 11) (cs := #[.string (⟨#[]⟩ : ByteArray), .string (⟨#[]⟩ : ByteArray), .int .i64 0, .string (⟨#[]⟩ : ByteArray), .string (⟨#[]⟩ : ByteArray), .bool false]) (t := 24) ?_; intro gb445 hg w70 hbox hb; have BK445 := Aside0.mk (hbox); have GW445 := xge_ HB hg; have GE445 := xge_ HB hg; replace HB := xws_ HB hb; have NB419_445 := xlt_ BK419 hg; have NB445_419 := xgt_ BK419 hg; replace BK419 := xbb_ BK419 hb; have NB427_445 := xlt_ BK427 hg; have NB445_427 := xgt_ BK427 hg; replace BK427 := xbb_ BK427 hb; have NB435_445 := xlt_ BK435 hg; have NB445_435 := xgt_ BK435 hg; replace BK435 := xbb_ BK435 hb; clear hb hbox hg; have hnb71 := NB445_419.out; have hnc71 := NB419_445.out; have hnb72 := NB445_427.out; have hnc72 := NB427_445.out; have hnb73 := NB445_435.out; have hnc73 := NB435_445.out; have ⟨_, _, _, _, _, _, _, _, _, _, _, _⟩ := c6_ BK445; have ⟨_, _, _, _, _, _, _, _, _, _, _, _⟩ := c6_ BK427) | ((with_reducible refine gate_callee (f := 5) rfl ?_); refine xgl_ (some 63) Tryz.func5 #[.agg #[.string t420, .string t421, .int .i64 t422, .string t423, .string t424, .bool t425], .string (⟨#[]⟩ : ByteArray)] ?_; (with_reducible refine (impl_ResolveUrl.calls kj5 t420 t421 t422 t423 t424 t425 (⟨#[]⟩ : ByteArray) t446 t447 t448 t449 t450 t451 true _ A30.out (HTB_.out.below (by first | (with_reducible exact Below.refl _ _) | (repeat (first | (with_reducible first | exact HB.out | exact Below.refl _ _ | apply below_alloc | apply pw_below_drewN | apply below_drew1 | refine below_set ?_ GE419.out | refine below_set ?_ GE427.out | refine below_set ?_ GE435.out | refine below_set ?_ GE445.out | refine below_set ?_ GE453.out) | exact HB.out)) | (repeat (first | exact Below.refl _ _ | apply below_alloc | apply pw_below_drewN | apply below_drew1 | refine below_set ?_ GE419.out | refine below_set ?_ GE427.out | refine below_set ?_ GE435.out | refine below_set ?_ GE445.out | refine below_set ?_ GE453.out))))).mono ?_); rintro e w76 ⟨rfl, hb⟩; refine ⟨_, rfl, ?_⟩; replace BK419 := Aside0.mk (blk_below (g := gb419) (o := .cells #[.string t412, .string t413, .int .i64 t414, .string t415, .string t416, .bool t417] 24 (0, 0)) (by (with_reducible repeat first | apply bN_ | apply bD_ | apply bA_ | refine blk_far ?_ NB419_445.out _); exact BK419.out) hb); replace BK427 := Aside0.mk (blk_below (g := gb427) (o := .cells #[.string t420, .string t421, .int .i64 t422, .string t423, .string t424, .bool t425] 24 (0, 0)) (by (with_reducible repeat first | apply bN_ | apply bD_ | apply bA_ | refine blk_far ?_ NB427_445.out _); exact BK427.out) hb); replace BK435 := Aside0.mk (blk_below (g := gb435) (o := .cells #[.string t428, .string t429, .int .i64 t430, .string t431, .string t432, .bool t433] 24 (0, 0)) (by (with_reducible repeat first | apply bN_ | apply bD_ | apply bA_ | refine blk_far ?_ NB435_445.out _); exact BK435.out) hb); replace BK445 := Aside0.mk (blk_below (g := gb445) (o := .cells #[.string t438, .string t439, .int .i64 t440, .string t441, .string t442, .bool t443] 24 (0, 0)) (by (with_reducible repeat first | apply bN_ | apply bD_ | apply bA_); refine blk_put (cs := #[.string t438, .string t439, .int .i64 t440, .string t441, .string t442, .bool false]) ?_ 5 _ rfl; (with_reducible repeat first | apply bN_ | apply bD_ | apply bA_); refine blk_put (cs := #[.string t438, .string t439, .int .i64 t440, .string t441, .string (⟨#[]⟩ : ByteArray), .bool false]) ?_ 4 _ rfl; (with_reducible repeat first | apply bN_ | apply bD_ | apply bA_); refine blk_put (cs := #[.string t438, .string t439, .int .i64 t440, .string (⟨#[]⟩ : ByteArray), .string (⟨#[]⟩ : ByteArray), .bool false]) ?_ 3 _ rfl; (with_reducible repeat first | apply bN_ | apply bD_ | apply bA_); refine blk_put (cs := #[.string t438, .string t439, .int .i64 0, .string (⟨#[]⟩ : ByteArray), .string (⟨#[]⟩ : ByteArray), .bool false]) ?_ 2 _ rfl; (with_reducible repeat first | apply bN_ | apply bD_ | apply bA_); refine blk_put (cs := #[.string t438, .string (⟨#[]⟩ : ByteArray), .int .i64 0, .string (⟨#[]⟩ : ByteArray), .string (⟨#[]⟩ : ByteArray), .bool false]) ?_ 1 _ rfl; (with_reducible repeat first | apply bN_ | apply bD_ | apply bA_); refine blk_put (cs := #[.string (⟨#[]⟩ : ByteArray), .string (⟨#[]⟩ : ByteArray), .int .i64 0, .string (⟨#[]⟩ : ByteArray), .string (⟨#[]⟩ : ByteArray), .bool false]) ?_ 0 _ rfl; (with_reducible repeat first | apply bN_ | apply bD_ | apply bA_); exact BK445.out) hb); replace HB := xws_ HB hb; (try clear hb); (try clear hb2); (try clear hk); (try clear hi)) | ((with_reducible refine gate_dst (N := 13) rfl ?_); refine xbe_ (N := 13) (cs := #[.string (⟨#[]⟩ : ByteArray), .string (⟨#[]⟩ : ByteArray), .int .i64 0, .string (⟨#[]⟩ : ByteArray), .string (⟨#[]⟩ : ByteArray), .bool false]) (t := 24) ?_; intro gb453 hg w77 hbox hb; have BK453 := Aside0.mk (hbox); have GW453 := xge_ HB hg; have GE453 := xge_ HB hg; replace HB := xws_ HB hb; have NB419_453 := xlt_ BK419 hg; have NB453_419 := xgt_ BK419 hg; replace BK419 := xbb_ BK419 hb; have NB427_453 := xlt_ BK427 hg; have NB453_427 := xgt_ BK427 hg; replace BK427 := xbb_ BK427 hb; have NB435_453 := xlt_ BK435 hg; have NB453_435 := xgt_ BK435 hg; replace BK435 := xbb_ BK435 hb; have NB445_453 := xlt_ BK445 hg; have NB453_445 := xgt_ BK445 hg; replace BK445 := xbb_ BK445 hb; clear hb hbox hg; have hnb78 := NB453_419.out; have hnc78 := NB419_453.out; have hnb79 := NB453_427.out; have hnc79 := NB427_453.out; have hnb80 := NB453_435.out; have hnc80 := NB435_453.out; have hnb81 := NB453_445.out; have hnc81 := NB445_453.out; have ⟨_, _, _, _, _, _, _, _, _, _, _, _⟩ := c6_ BK453; have ⟨_, _, _, _, _, _, _, _, _, _, _, _⟩ := c6_ BK427) | ((with_reducible refine gate_callee (f := 8) rfl ?_); refine xgl_ (some 69) Tryz.func8 #[.string t423] ?_; (with_reducible refine (impl_DropDots.calls kj5 t423 t454 true _ A31.out (HTB_.out.below (by first | (with_reducible exact Below.refl _ _) | (repeat (first | (with_reducible first | exact HB.out | exact Below.refl _ _ | apply below_alloc | apply pw_below_drewN | apply below_drew1 | refine below_set ?_ GE419.out | refine below_set ?_ GE427.out | refine below_set ?_ GE435.out | refine below_set ?_ GE445.out | refine below_set ?_ GE453.out) | exact HB.out)) | (repeat (first | exact Below.refl _ _ | apply below_alloc | apply pw_below_drewN | apply below_drew1 | refine below_set ?_ GE419.out | refine below_set ?_ GE427.out | refine below_set ?_ GE435.out | refine below_set ?_ GE445.out | refine below_set ?_ GE453.out))))).mono ?_); rintro e w84 ⟨rfl, hb⟩; refine ⟨_, rfl, ?_⟩; replace BK419 := Aside0.mk (blk_below (g := gb419) (o := .cells #[.string t412, .string t413, .int .i64 t414, .string t415, .string t416, .bool t417] 24 (0, 0)) (by (with_reducible repeat first | apply bN_ | apply bD_ | apply bA_ | refine blk_far ?_ NB419_453.out _); exact BK419.out) hb); replace BK427 := Aside0.mk (blk_below (g := gb427) (o := .cells #[.string t420, .string t421, .int .i64 t422, .string t423, .string t424, .bool t425] 24 (0, 0)) (by (with_reducible repeat first | apply bN_ | apply bD_ | apply bA_ | refine blk_far ?_ NB427_453.out _); exact BK427.out) hb); replace BK435 := Aside0.mk (blk_below (g := gb435) (o := .cells #[.string t428, .string t429, .int .i64 t430, .string t431, .string t432, .bool t433] 24 (0, 0)) (by (with_reducible repeat first | apply bN_ | apply bD_ | apply bA_ | refine blk_far ?_ NB435_453.out _); exact BK435.out) hb); replace BK445 := Aside0.mk (blk_below (g := gb445) (o := .cells #[.string t438, .string t439, .int .i64 t440, .string t441, .string t442, .bool t443] 24 (0, 0)) (by (with_reducible repeat first | apply bN_ | apply bD_ | apply bA_ | refine blk_far ?_ NB445_453.out _); exact BK445.out) hb); replace BK453 := Aside0.mk (blk_below (g := gb453) (o := .cells #[.string t446, .string t447, .int .i64 t448, .string t449, .string t450, .bool t451] 24 (0, 0)) (by (with_reducible repeat first | apply bN_ | apply bD_ | apply bA_); refine blk_put (cs := #[.string t446, .string t447, .int .i64 t448, .string t449, .string t450, .bool false]) ?_ 5 _ rfl; (with_reducible repeat first | apply bN_ | apply bD_ | apply bA_); refine blk_put (cs := #[.string t446, .string t447, .int .i64 t448, .string t449, .string (⟨#[]⟩ : ByteArray), .bool false]) ?_ 4 _ rfl; (with_reducible repeat first | apply bN_ | apply bD_ | apply bA_); refine blk_put (cs := #[.string t446, .string t447, .int .i64 t448, .string (⟨#[]⟩ : ByteArray), .string (⟨#[]⟩ : ByteArray), .bool false]) ?_ 3 _ rfl; (with_reducible repeat first | apply bN_ | apply bD_ | apply bA_); refine blk_put (cs := #[.string t446, .string t447, .int .i64 0, .string (⟨#[]⟩ : ByteArray), .string (⟨#[]⟩ : ByteArray), .bool false]) ?_ 2 _ rfl; (with_reducible repeat first | apply bN_ | apply bD_ | apply bA_); refine blk_put (cs := #[.string t446, .string (⟨#[]⟩ : ByteArray), .int .i64 0, .string (⟨#[]⟩ : ByteArray), .string (⟨#[]⟩ : ByteArray), .bool false]) ?_ 1 _ rfl; (with_reducible repeat first | apply bN_ | apply bD_ | apply bA_); refine blk_put (cs := #[.string (⟨#[]⟩ : ByteArray), .string (⟨#[]⟩ : ByteArray), .int .i64 0, .string (⟨#[]⟩ : ByteArray), .string (⟨#[]⟩ : ByteArray), .bool false]) ?_ 0 _ rfl; (with_reducible repeat first | apply bN_ | apply bD_ | apply bA_); exact BK453.out) hb); replace HB := xws_ HB hb; (try clear hb); (try clear hb2); (try clear hk); (try clear hi); have ⟨_, _, _, _, _, _, _, _, _, _, _, _⟩ := c6_ BK453; have ⟨_, _, _, _, _, _, _, _, _, _, _, _⟩ := c6_ BK427; have ⟨_, _, _, _, _, _, _, _, _, _, _, _⟩ := c6_ BK445))
             go_ret
             exact ⟨by first | rfl | (simp [errW_none, errW_some] <;> rfl) | (simp [*, errW_none, errW_some] <;> rfl), xw_ HB⟩
            ·rw [if_neg c62] at H
             have c62b0 : (t454.toList == t423.toList) = false := beq_eq_false_iff_ne.mpr c62
             have c62b1 : (t454.toList != t423.toList) = true := bne_iff_ne.mpr c62
             exact absurd ((Option.some.inj H).trans HT.out) Bool.false_ne_true
          ·rw [if_neg c36] at H
           have c36b0 : (t446.toList == t420.toList && (t447.toList == t421.toList && (t448 == t422 && (t449.toList == t423.toList && (t450.toList == t424.toList && (t451 == t425)))))) = false := by simpa using c36
           (try (have c36b1 : decide (t446.toList = t420.toList && (t447.toList == t421.toList && (t448 == t422 && (t449.toList == t423.toList && (t450.toList == t424.toList && (t451 == t425)))))) = false := by simpa using c36))
           (try (have c36b2 : (t446.toList == t420.toList && (t447.toList == t421.toList && (t448 == t422 && (t449.toList == t423.toList && (t450.toList == t424.toList && (t451 == t425)))))) = false := by simpa using c36))
           (try (have c36b3 : ¬ (t446.toList = t420.toList && (t447.toList == t421.toList && (t448 == t422 && (t449.toList == t423.toList && (t450.toList == t424.toList && (t451 == t425)))))) := by simpa using c36))
           clear c36
           exact absurd ((Option.some.inj H).trans HT.out) Bool.false_ne_true
         ·replace c35 := Bool.eq_false_iff.mpr c35
          subst c35
          have H1 : (some false) = some r := by rw [if_neg (show ¬ (false = true) by decide)] at H; exact H
          clear H
          have H := H1
          clear H1
          exact absurd ((Option.some.inj H).trans HT.out) Bool.false_ne_true
        ·replace c34 := Bool.eq_false_iff.mpr c34
         subst c34
         have H1 : (some false) = some r := by rw [if_neg (show ¬ (false = true) by decide)] at H; exact H
         clear H
         have H := H1
         clear H1
         exact absurd ((Option.some.inj H).trans HT.out) Bool.false_ne_true
       ·replace c33 := Bool.eq_false_iff.mpr c33
        subst c33
        have H1 : (some false) = some r := by rw [if_neg (show ¬ (false = true) by decide)] at H; exact H
        clear H
        have H := H1
        clear H1
        exact absurd ((Option.some.inj H).trans HT.out) Bool.false_ne_true
      ·replace c32 := Bool.eq_false_iff.mpr c32
       subst c32
       have H1 : (some false) = some r := by rw [if_neg (show ¬ (false = true) by decide)] at H; exact H
       clear H
       have H := H1
       clear H1
       exact absurd ((Option.some.inj H).trans HT.out) Bool.false_ne_true
     ·replace c27 := Bool.eq_false_iff.mpr c27
      subst c27
      have H1 : (some (t420.toList == ([] : List UInt8) && (t421.toList == ([] : List UInt8) && (t422 == 0 && (t423.toList == ([] : List UInt8) && (t424.toList == ([] : List UInt8) && (!t425))))))) = some r := by rw [if_neg (show ¬ (false = true) by decide)] at H; exact H
      clear H
      have H := H1
      clear H1
      obtain rfl := Option.some.inj H
      have hnb224 := NB427_419.out
      have hnc224 := NB419_427.out
      have hnb225 := NB427_435.out
      have hnc225 := NB435_427.out
      have ⟨_, _, _, _, _, _, _, _, _, _, _, _⟩ := c6_ BK427
      go_wp2
      go_ret
      exact ⟨by first | rfl | (simp [errW_none, errW_some] <;> rfl) | (simp [*, errW_none, errW_some] <;> rfl), xw_ HB⟩

/-- THE ONE PURE STATEMENT of laws_FnResolved: yours. -/
def laws_FnResolved.Pure : Prop := ∀ (l0 : List Int), l0.length ≤ maxLen → l0.length * 1 ≤ 140737488351232 → (∀ x ∈ l0, (Lit.int .u8 x).wf = true) → ∃ k, laws_FnResolved.f k l0 = some true
theorem laws_FnResolved.walk (P : laws_FnResolved.Pure) (a0 : Option Addr) (len0 cap0 : Nat) (z0 : List Int) (w : World) (w0 : (a0 = none ∧ len0 = 0 ∧ cap0 = 0 ∧ z0 = []) ∨ ∃ x, a0 = some x ∧ len0 ≤ cap0 ∧ cap0 ≤ maxLen ∧ z0.length = cap0 ∧ (∀ i, i < z0.length → w.cell? (x.add i) = some (.int .u8 (z0.getD i 0))) ∧ ∀ n ∈ z0, (Lit.int .u8 n).wf = true) (y0 : len0 * 1 ≤ 140737488351232) (hT_ : TabOk w) :
  Calls Tryz.prog 3 #[.slice a0 len0 cap0] w fun e w' => e = .returned (.bool true) ∧ Below w.heap.size w w' := by
 obtain ⟨l0, rfl, hr0, hm0, hw0, hc0⟩ := ReadsInt.ofRowC w0
 obtain ⟨k, h⟩ := P l0 hm0 y0 hw0
 refine (laws_FnResolved.calls k _ _ l0 true w rfl (Kd.C_of_reads (d := (0 : Int)) (h1 := fun _ => rfl) hr0) hc0 h hT_).mono ?_
 rintro e w' ⟨rfl, hd⟩
 exact ⟨rfl, hd⟩

end Go.Proofs.YtklicdjbihmbiaaGreatDoor.PFnResolved
