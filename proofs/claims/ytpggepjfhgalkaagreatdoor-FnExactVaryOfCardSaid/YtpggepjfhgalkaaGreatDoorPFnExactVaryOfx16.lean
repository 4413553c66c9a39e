-- Written by a program of this project (xprint.py) out of the translation; Lean checks it.
import Derived.Test.YtpggepjfhgalkaaGreatDoorPFnExactVaryOfx0
import Derived.Test.YtpggepjfhgalkaaGreatDoorPFnExactVaryOfx1
import Derived.Test.YtpggepjfhgalkaaGreatDoorPFnExactVaryOfx7
import Derived.Test.YtpggepjfhgalkaaGreatDoorPFnExactVaryOfx11
import Derived.Test.YtpggepjfhgalkaaGreatDoorPFnExactVaryOfx13
import Derived.Test.YtpggepjfhgalkaaGreatDoorPFnExactVaryOfx14
import Derived.Test.YtpggepjfhgalkaaGreatDoorPFnExactVaryOfx15
namespace Go.Proofs.YtpggepjfhgalkaaGreatDoor.PFnExactVaryOf
open Go.RowKit Go.Proofs.YtpggepjfhgalkaaGreatDoorW.PrintWords Go.Proofs.YtpggepjfhgalkaaGreatDoorW.PrintLast Go.Proofs.YtpggepjfhgalkaaGreatDoorW.PrintMore
attribute [local go_sem] max2_int min2_int max_two min_two max_three min_three max_four min_four   -- for this text's walks alone
set_option linter.unusedVariables false
set_option linter.unusedSimpArgs false

/-! ### laws_FnExactVaryOf: function 5 -/
mutual
def laws_FnExactVaryOf.j0 : Nat → List ByteArray → Bool → Bool → List ByteArray → Bool → Bool → Bool → Int → ByteArray → List (S97) → ByteArray → Int → ByteArray → List (S105) → ByteArray → Option (Bool)
 | 0, _, _, _, _, _, _, _, _, _, _, _, _, _, _, _ => none
 | k + 1, x4, x5, x6, x8, x9, x10, x50, x349000, x349001, x349002, x349003, x368000, x368001, x368002, x368003 => if x50 = true then (some false) else ((laws_toResponse.f k x349000 x349001 x349002 x349003).bind fun bt374 => ((laws_eqResponse.f k x368000 x368001 x368002 x368003 bt374.1 bt374.2.1 bt374.2.2.1 bt374.2.2.2).bind fun t380 => (if t380 = true then ((laws_markResponse.f k x368000 x368001 x368002 x368003 1).bind fun bt381 => (if bt381.1 < 0 then (laws_FnExactVaryOf.j1 k x4 x5 x6 x8 true x349000 x349001 x349002 x349003) else ((laws_eqStringS.f k x8 x4).bind fun t383 => (if t383 = true then (if (x9 != x5) = true then (laws_FnExactVaryOf.j1 k x4 x5 x6 x8 true x349000 x349001 x349002 x349003) else (laws_FnExactVaryOf.j1 k x4 x5 x6 x8 (x10 != x6) x349000 x349001 x349002 x349003)) else (laws_FnExactVaryOf.j1 k x4 x5 x6 x8 true x349000 x349001 x349002 x349003))))) else (some false))))
def laws_FnExactVaryOf.j1 : Nat → List ByteArray → Bool → Bool → List ByteArray → Bool → Int → ByteArray → List (S97) → ByteArray → Option (Bool)
 | 0, _, _, _, _, _, _, _, _, _ => none
 | k + 1, x4, x5, x6, x8, x76, x349000, x349001, x349002, x349003 => if x76 = true then (some false) else ((laws_markStringS.f k x8 1).bind fun bt384 => ((laws_heldStringS.f k bt384.2 1).bind fun t386 => (if t386 < 0 then (some false) else (if t386 = bt384.1 then ((laws_toResponse.f k x349000 x349001 x349002 x349003).bind fun bt387 => ((impl_VaryOf.f k bt387.1 bt387.2.1 bt387.2.2.1 bt387.2.2.2).bind fun bt393 => ((laws_eqStringS.f k bt393.1 x4).bind fun t398 => (if t398 = true then (if (bt393.2.1 != x5) = true then (laws_FnExactVaryOf.j2 k bt384.2 bt384.1 true) else (laws_FnExactVaryOf.j2 k bt384.2 bt384.1 (bt393.2.2 != x6))) else (laws_FnExactVaryOf.j2 k bt384.2 bt384.1 true))))) else (some false)))))
def laws_FnExactVaryOf.j2 : Nat → List ByteArray → Int → Bool → Option (Bool)
 | 0, _, _, _ => none
 | k + 1, x8, x12, x108 => if x108 = true then (some false) else ((laws_heldStringS.f k x8 1).bind fun t399 => (if t399 < 0 then (some false) else (if t399 = x12 then (some true) else (some false))))
end
def laws_FnExactVaryOf.f (k : Nat) (a0_0 : Int) (a0_1 : ByteArray) (l0_2 : List (S97)) (a0_3 : ByteArray) : Option (Bool) := (laws_szResponse.f k a0_0 a0_1 l0_2 a0_3 1048576).bind fun t349 => (if t349 < 0 then (some true) else ((laws_toResponse.f k a0_0 a0_1 l0_2 a0_3).bind fun bt350 => ((spec_VaryOf.f k bt350.1 bt350.2.1 bt350.2.2.1 bt350.2.2.2).bind fun bt356 => ((laws_toResponse.f k a0_0 a0_1 l0_2 a0_3).bind fun bt361 => ((impl_VaryOf.f k bt361.1 bt361.2.1 bt361.2.2.1 bt361.2.2.2).bind fun bt368 => ((laws_eqStringS.f k bt368.1 bt356.1).bind fun t373 => (if t373 = true then (if (bt368.2.1 != bt356.2.1) = true then (laws_FnExactVaryOf.j0 k bt356.1 bt356.2.1 bt356.2.2 bt368.1 bt368.2.1 bt368.2.2 true a0_0 a0_1 l0_2 a0_3 bt361.1 bt361.2.1 bt361.2.2.1 bt361.2.2.2) else (laws_FnExactVaryOf.j0 k bt356.1 bt356.2.1 bt356.2.2 bt368.1 bt368.2.1 bt368.2.2 (bt368.2.2 != bt356.2.2) a0_0 a0_1 l0_2 a0_3 bt361.1 bt361.2.1 bt361.2.2.1 bt361.2.2.2)) else (laws_FnExactVaryOf.j0 k bt356.1 bt356.2.1 bt356.2.2 bt368.1 bt368.2.1 bt368.2.2 true a0_0 a0_1 l0_2 a0_3 bt361.1 bt361.2.1 bt361.2.2.1 bt361.2.2.2))))))))
theorem laws_FnExactVaryOf.mono_l : ∀ k, (∀ y0 y1 y2 y3 y4 y5 y6 y7 y8 y9 y10 y11 y12 y13 y14, LeO (laws_FnExactVaryOf.j0 k y0 y1 y2 y3 y4 y5 y6 y7 y8 y9 y10 y11 y12 y13 y14) (laws_FnExactVaryOf.j0 (k + 1) y0 y1 y2 y3 y4 y5 y6 y7 y8 y9 y10 y11 y12 y13 y14)) ∧ (∀ y0 y1 y2 y3 y4 y5 y6 y7 y8, LeO (laws_FnExactVaryOf.j1 k y0 y1 y2 y3 y4 y5 y6 y7 y8) (laws_FnExactVaryOf.j1 (k + 1) y0 y1 y2 y3 y4 y5 y6 y7 y8)) ∧ (∀ y0 y1 y2, LeO (laws_FnExactVaryOf.j2 k y0 y1 y2) (laws_FnExactVaryOf.j2 (k + 1) y0 y1 y2))
 | 0 => ⟨fun _ _ _ _ _ _ _ _ _ _ _ _ _ _ _ r h => by simp [laws_FnExactVaryOf.j0] at h, fun _ _ _ _ _ _ _ _ _ r h => by simp [laws_FnExactVaryOf.j1] at h, fun _ _ _ r h => by simp [laws_FnExactVaryOf.j2] at h⟩
 | k + 1 => by
  obtain ⟨ih0, ih1, ih2⟩ := laws_FnExactVaryOf.mono_l k
  refine ⟨?_, ?_, ?_⟩
  ·intro y0 y1 y2 y3 y4 y5 y6 y7 y8 y9 y10 y11 y12 y13 y14
   unfold laws_FnExactVaryOf.j0
   repeat' first
   | (with_reducible exact ih0 _ _ _ _ _ _ _ _ _ _ _ _ _ _ _)
   | (with_reducible exact ih1 _ _ _ _ _ _ _ _ _)
   | (with_reducible exact ih2 _ _ _)
   | (with_reducible exact impl_VaryOf.mono _ _ _ _ _)
   | (with_reducible exact laws_eqResponse.mono _ _ _ _ _ _ _ _ _)
   | (with_reducible exact laws_eqStringS.mono _ _ _)
   | (with_reducible exact laws_heldStringS.mono _ _ _)
   | (with_reducible exact laws_markResponse.mono _ _ _ _ _ _)
   | (with_reducible exact laws_markStringS.mono _ _ _)
   | (with_reducible exact laws_szResponse.mono _ _ _ _ _ _)
   | (with_reducible exact laws_toResponse.mono _ _ _ _ _)
   | (with_reducible exact spec_VaryOf.mono _ _ _ _ _)
   | (with_reducible exact LeO.refl _)
   | (with_reducible exact LeO.none _)
   | (with_reducible refine LeO.ite ?_ ?_)
   | (with_reducible refine LeO.bind ?_ (fun _ => ?_))
   | exact ih0 _ _ _ _ _ _ _ _ _ _ _ _ _ _ _
   | exact ih1 _ _ _ _ _ _ _ _ _
   | exact ih2 _ _ _
   | exact impl_VaryOf.mono _ _ _ _ _
   | exact laws_eqResponse.mono _ _ _ _ _ _ _ _ _
   | exact laws_eqStringS.mono _ _ _
   | exact laws_heldStringS.mono _ _ _
   | exact laws_markResponse.mono _ _ _ _ _ _
   | exact laws_markStringS.mono _ _ _
   | exact laws_szResponse.mono _ _ _ _ _ _
   | exact laws_toResponse.mono _ _ _ _ _
   | exact spec_VaryOf.mono _ _ _ _ _
   | exact LeO.none _
   | refine LeO.ite ?_ ?_
   | refine LeO.bind ?_ (fun _ => ?_)
  ·intro y0 y1 y2 y3 y4 y5 y6 y7 y8
   unfold laws_FnExactVaryOf.j1
   repeat' first
   | (with_reducible exact ih0 _ _ _ _ _ _ _ _ _ _ _ _ _ _ _)
   | (with_reducible exact ih1 _ _ _ _ _ _ _ _ _)
   | (with_reducible exact ih2 _ _ _)
   | (with_reducible exact impl_VaryOf.mono _ _ _ _ _)
   | (with_reducible exact laws_eqResponse.mono _ _ _ _ _ _ _ _ _)
   | (with_reducible exact laws_eqStringS.mono _ _ _)
   | (with_reducible exact laws_heldStringS.mono _ _ _)
   | (with_reducible exact laws_markResponse.mono _ _ _ _ _ _)
   | (with_reducible exact laws_markStringS.mono _ _ _)
   | (with_reducible exact laws_szResponse.mono _ _ _ _ _ _)
   | (with_reducible exact laws_toResponse.mono _ _ _ _ _)
   | (with_reducible exact spec_VaryOf.mono _ _ _ _ _)
   | (with_reducible exact LeO.refl _)
   | (with_reducible exact LeO.none _)
   | (with_reducible refine LeO.ite ?_ ?_)
   | (with_reducible refine LeO.bind ?_ (fun _ => ?_))
   | exact ih0 _ _ _ _ _ _ _ _ _ _ _ _ _ _ _
   | exact ih1 _ _ _ _ _ _ _ _ _
   | exact ih2 _ _ _
   | exact impl_VaryOf.mono _ _ _ _ _
   | exact laws_eqResponse.mono _ _ _ _ _ _ _ _ _
   | exact laws_eqStringS.mono _ _ _
   | exact laws_heldStringS.mono _ _ _
   | exact laws_markResponse.mono _ _ _ _ _ _
   | exact laws_markStringS.mono _ _ _
   | exact laws_szResponse.mono _ _ _ _ _ _
   | exact laws_toResponse.mono _ _ _ _ _
   | exact spec_VaryOf.mono _ _ _ _ _
   | exact LeO.none _
   | refine LeO.ite ?_ ?_
   | refine LeO.bind ?_ (fun _ => ?_)
  ·intro y0 y1 y2
   unfold laws_FnExactVaryOf.j2
   repeat' first
   | (with_reducible exact ih0 _ _ _ _ _ _ _ _ _ _ _ _ _ _ _)
   | (with_reducible exact ih1 _ _ _ _ _ _ _ _ _)
   | (with_reducible exact ih2 _ _ _)
   | (with_reducible exact impl_VaryOf.mono _ _ _ _ _)
   | (with_reducible exact laws_eqResponse.mono _ _ _ _ _ _ _ _ _)
   | (with_reducible exact laws_eqStringS.mono _ _ _)
   | (with_reducible exact laws_heldStringS.mono _ _ _)
   | (with_reducible exact laws_markResponse.mono _ _ _ _ _ _)
   | (with_reducible exact laws_markStringS.mono _ _ _)
   | (with_reducible exact laws_szResponse.mono _ _ _ _ _ _)
   | (with_reducible exact laws_toResponse.mono _ _ _ _ _)
   | (with_reducible exact spec_VaryOf.mono _ _ _ _ _)
   | (with_reducible exact LeO.refl _)
   | (with_reducible exact LeO.none _)
   | (with_reducible refine LeO.ite ?_ ?_)
   | (with_reducible refine LeO.bind ?_ (fun _ => ?_))
   | exact ih0 _ _ _ _ _ _ _ _ _ _ _ _ _ _ _
   | exact ih1 _ _ _ _ _ _ _ _ _
   | exact ih2 _ _ _
   | exact impl_VaryOf.mono _ _ _ _ _
   | exact laws_eqResponse.mono _ _ _ _ _ _ _ _ _
   | exact laws_eqStringS.mono _ _ _
   | exact laws_heldStringS.mono _ _ _
   | exact laws_markResponse.mono _ _ _ _ _ _
   | exact laws_markStringS.mono _ _ _
   | exact laws_szResponse.mono _ _ _ _ _ _
   | exact laws_toResponse.mono _ _ _ _ _
   | exact spec_VaryOf.mono _ _ _ _ _
   | exact LeO.none _
   | refine LeO.ite ?_ ?_
   | refine LeO.bind ?_ (fun _ => ?_)
theorem laws_FnExactVaryOf.mono : ∀ a0 a1 a2 a3 k, LeO (laws_FnExactVaryOf.f k a0 a1 a2 a3) (laws_FnExactVaryOf.f (k + 1) a0 a1 a2 a3) := by
 intro a0 a1 a2 a3 k
 obtain ⟨ih0, ih1, ih2⟩ := laws_FnExactVaryOf.mono_l k
 unfold laws_FnExactVaryOf.f
 repeat' first
   | (with_reducible exact ih0 _ _ _ _ _ _ _ _ _ _ _ _ _ _ _)
   | (with_reducible exact ih1 _ _ _ _ _ _ _ _ _)
   | (with_reducible exact ih2 _ _ _)
   | (with_reducible exact impl_VaryOf.mono _ _ _ _ _)
   | (with_reducible exact laws_eqResponse.mono _ _ _ _ _ _ _ _ _)
   | (with_reducible exact laws_eqStringS.mono _ _ _)
   | (with_reducible exact laws_heldStringS.mono _ _ _)
   | (with_reducible exact laws_markResponse.mono _ _ _ _ _ _)
   | (with_reducible exact laws_markStringS.mono _ _ _)
   | (with_reducible exact laws_szResponse.mono _ _ _ _ _ _)
   | (with_reducible exact laws_toResponse.mono _ _ _ _ _)
   | (with_reducible exact spec_VaryOf.mono _ _ _ _ _)
   | (with_reducible exact LeO.refl _)
   | (with_reducible exact LeO.none _)
   | (with_reducible refine LeO.ite ?_ ?_)
   | (with_reducible refine LeO.bind ?_ (fun _ => ?_))
   | exact ih0 _ _ _ _ _ _ _ _ _ _ _ _ _ _ _
   | exact ih1 _ _ _ _ _ _ _ _ _
   | exact ih2 _ _ _
   | exact impl_VaryOf.mono _ _ _ _ _
   | exact laws_eqResponse.mono _ _ _ _ _ _ _ _ _
   | exact laws_eqStringS.mono _ _ _
   | exact laws_heldStringS.mono _ _ _
   | exact laws_markResponse.mono _ _ _ _ _ _
   | exact laws_markStringS.mono _ _ _
   | exact laws_szResponse.mono _ _ _ _ _ _
   | exact laws_toResponse.mono _ _ _ _ _
   | exact spec_VaryOf.mono _ _ _ _ _
   | exact LeO.none _
   | refine LeO.ite ?_ ?_
   | refine LeO.bind ?_ (fun _ => ?_)
set_option maxHeartbeats 8000000 in
set_option maxRecDepth 100000 in
theorem laws_FnExactVaryOf.calls (k : Nat) (a0_0 : Int) (a0_1 : ByteArray) (A0_2 : Option Addr) (c0_2 : Nat) (l0_2 : List (S97)) (a0_3 : ByteArray) (r : Bool) (w : World) (hr0_2 : Kd.C k97 w A0_2 l0_2.length l0_2) (hc0_2 : l0_2.length ≤ c0_2) (h : laws_FnExactVaryOf.f k a0_0 a0_1 l0_2 a0_3 = some r) (hT_ : TabOk w) :
  Calls Tryz.prog 5 #[.agg #[.int .i64 a0_0, .string a0_1, .slice A0_2 l0_2.length c0_2, .string a0_3]] w fun e w' => e = .returned (.bool r) ∧ Below w.heap.size w w' := by
 have HTB_ := Aside0.mk hT_
 clear hT_
 have hu48 := Tryz.underlying48
 have hu54 := Tryz.underlying54
 have HR0_2 := Aside0.mk hr0_2
 have HC0_2 := Aside0.mk hc0_2
 clear hr0_2 hc0_2
 have HB := Aside0.mk (Below.refl w.heap.size w)
 have H : ((laws_szResponse.f k a0_0 a0_1 l0_2 a0_3 1048576).bind fun t349 => (if t349 < 0 then (some true) else ((laws_toResponse.f k a0_0 a0_1 l0_2 a0_3).bind fun bt350 => ((spec_VaryOf.f k bt350.1 bt350.2.1 bt350.2.2.1 bt350.2.2.2).bind fun bt356 => ((laws_toResponse.f k a0_0 a0_1 l0_2 a0_3).bind fun bt361 => ((impl_VaryOf.f k bt361.1 bt361.2.1 bt361.2.2.1 bt361.2.2.2).bind fun bt368 => ((laws_eqStringS.f k bt368.1 bt356.1).bind fun t373 => (if t373 = true then (if (bt368.2.1 != bt356.2.1) = true then (laws_FnExactVaryOf.j0 k bt356.1 bt356.2.1 bt356.2.2 bt368.1 bt368.2.1 bt368.2.2 true a0_0 a0_1 l0_2 a0_3 bt361.1 bt361.2.1 bt361.2.2.1 bt361.2.2.2) else (laws_FnExactVaryOf.j0 k bt356.1 bt356.2.1 bt356.2.2 bt368.1 bt368.2.1 bt368.2.2 (bt368.2.2 != bt356.2.2) a0_0 a0_1 l0_2 a0_3 bt361.1 bt361.2.1 bt361.2.2.1 bt361.2.2.2)) else (laws_FnExactVaryOf.j0 k bt356.1 bt356.2.1 bt356.2.2 bt368.1 bt368.2.1 bt368.2.2 true a0_0 a0_1 l0_2 a0_3 bt361.1 bt361.2.1 bt361.2.2.1 bt361.2.2.2))))))))) = some r := h
 clear h
 replace H := Option.bind_eq_some_iff.mp H
 obtain ⟨t349, A20, H⟩ := H
 replace H : (if t349 < 0 then (some true) else ((laws_toResponse.f k a0_0 a0_1 l0_2 a0_3).bind fun bt350 => ((spec_VaryOf.f k bt350.1 bt350.2.1 bt350.2.2.1 bt350.2.2.2).bind fun bt356 => ((laws_toResponse.f k a0_0 a0_1 l0_2 a0_3).bind fun bt361 => ((impl_VaryOf.f k bt361.1 bt361.2.1 bt361.2.2.1 bt361.2.2.2).bind fun bt368 => ((laws_eqStringS.f k bt368.1 bt356.1).bind fun t373 => (if t373 = true then (if (bt368.2.1 != bt356.2.1) = true then (laws_FnExactVaryOf.j0 k bt356.1 bt356.2.1 bt356.2.2 bt368.1 bt368.2.1 bt368.2.2 true a0_0 a0_1 l0_2 a0_3 bt361.1 bt361.2.1 bt361.2.2.1 bt361.2.2.2) else (laws_FnExactVaryOf.j0 k bt356.1 bt356.2.1 bt356.2.2 bt368.1 bt368.2.1 bt368.2.2 (bt368.2.2 != bt356.2.2) a0_0 a0_1 l0_2 a0_3 bt361.1 bt361.2.1 bt361.2.2.1 bt361.2.2.2)) else (laws_FnExactVaryOf.j0 k bt356.1 bt356.2.1 bt356.2.2 bt368.1 bt368.2.1 bt368.2.2 true a0_0 a0_1 l0_2 a0_3 bt361.1 bt361.2.1 bt361.2.2.1 bt361.2.2.2)))))))) = some r := H
 have A2 := Aside0.mk A20
 clear A20
 by_cases c3 : t349 < 0
 ·rw [if_pos c3] at H
  have c3b0 : decide (t349 < 0) = true := decide_eq_true c3
  clear c3
  obtain rfl := Option.some.inj H
  go_enter Tryz.func5, Tryz.ntmps5
  go_wp2_with (first | ((with_reducible refine gate_dst (N := 1) rfl ?_); refine xbe_ (N := 1) (cs := #[.int .i64 a0_0, .string a0_1, .slice A0_2 l0_2.length c0_2, .string a0_3]) (t := 48) ?_; intro gb348 hg w4 hbox hb; have BK348 := Aside0.mk (hbox); have GW348 := xge_ HB hg; have GE348 := xge_ HB hg; replace HB := xws_ HB hb; clear hb hbox hg; have ⟨_, _, _, _, _, _, _, _⟩ := c4_ BK348) | ((with_reducible refine gate_callee (f := 19) rfl ?_); refine xgl_ (some 19) Tryz.func19 #[.agg #[.int .i64 a0_0, .string a0_1, .slice A0_2 l0_2.length c0_2, .string a0_3], .int .i64 1048576] ?_; (with_reducible refine (laws_szResponse.calls k a0_0 a0_1 _ _ l0_2 a0_3 1048576 t349 _ ?side1 ?side2 A2.out).mono ?_); (case side1 => exact xc_ ((Kd.C_below HR0_2.out HB.out))); (case side2 => exact HC0_2.out); rintro e w6 ⟨rfl, hb⟩; refine ⟨_, rfl, ?_⟩; replace BK348 := xbb_ BK348 hb; replace HB := xws_ HB hb; (try clear hb); (try clear hb2); (try clear hk); (try clear hi)))
  go_ret
  exact ⟨by first | rfl | (simp [errW_none, errW_some] <;> rfl) | (simp [*, errW_none, errW_some] <;> rfl), xw_ HB⟩
 ·rw [if_neg c3] at H
  have c3b0 : decide (t349 < 0) = false := decide_eq_false c3
  clear c3
  replace H := Option.bind_eq_some_iff.mp H
  obtain ⟨⟨t350, t351, t352, t355⟩, A70, H⟩ := H
  replace H : ((spec_VaryOf.f k t350 t351 t352 t355).bind fun bt356 => ((laws_toResponse.f k a0_0 a0_1 l0_2 a0_3).bind fun bt361 => ((impl_VaryOf.f k bt361.1 bt361.2.1 bt361.2.2.1 bt361.2.2.2).bind fun bt368 => ((laws_eqStringS.f k bt368.1 bt356.1).bind fun t373 => (if t373 = true then (if (bt368.2.1 != bt356.2.1) = true then (laws_FnExactVaryOf.j0 k bt356.1 bt356.2.1 bt356.2.2 bt368.1 bt368.2.1 bt368.2.2 true a0_0 a0_1 l0_2 a0_3 bt361.1 bt361.2.1 bt361.2.2.1 bt361.2.2.2) else (laws_FnExactVaryOf.j0 k bt356.1 bt356.2.1 bt356.2.2 bt368.1 bt368.2.1 bt368.2.2 (bt368.2.2 != bt356.2.2) a0_0 a0_1 l0_2 a0_3 bt361.1 bt361.2.1 bt361.2.2.1 bt361.2.2.2)) else (laws_FnExactVaryOf.j0 k bt356.1 bt356.2.1 bt356.2.2 bt368.1 bt368.2.1 bt368.2.2 true a0_0 a0_1 l0_2 a0_3 bt361.1 bt361.2.1 bt361.2.2.1 bt361.2.2.2)))))) = some r := H
  have A7 := Aside0.mk A70
  clear A70
  replace H := Option.bind_eq_some_iff.mp H
  obtain ⟨⟨t356, t359, t360⟩, A80, H⟩ := H
  replace H : ((laws_toResponse.f k a0_0 a0_1 l0_2 a0_3).bind fun bt361 => ((impl_VaryOf.f k bt361.1 bt361.2.1 bt361.2.2.1 bt361.2.2.2).bind fun bt368 => ((laws_eqStringS.f k bt368.1 t356).bind fun t373 => (if t373 = true then (if (bt368.2.1 != t359) = true then (laws_FnExactVaryOf.j0 k t356 t359 t360 bt368.1 bt368.2.1 bt368.2.2 true a0_0 a0_1 l0_2 a0_3 bt361.1 bt361.2.1 bt361.2.2.1 bt361.2.2.2) else (laws_FnExactVaryOf.j0 k t356 t359 t360 bt368.1 bt368.2.1 bt368.2.2 (bt368.2.2 != t360) a0_0 a0_1 l0_2 a0_3 bt361.1 bt361.2.1 bt361.2.2.1 bt361.2.2.2)) else (laws_FnExactVaryOf.j0 k t356 t359 t360 bt368.1 bt368.2.1 bt368.2.2 true a0_0 a0_1 l0_2 a0_3 bt361.1 bt361.2.1 bt361.2.2.1 bt361.2.2.2))))) = some r := H
  have A8 := Aside0.mk A80
  clear A80
  replace H := Option.bind_eq_some_iff.mp H
  obtain ⟨⟨t361, t362, t363, t366⟩, A90, H⟩ := H
  replace H : ((impl_VaryOf.f k t361 t362 t363 t366).bind fun bt368 => ((laws_eqStringS.f k bt368.1 t356).bind fun t373 => (if t373 = true then (if (bt368.2.1 != t359) = true then (laws_FnExactVaryOf.j0 k t356 t359 t360 bt368.1 bt368.2.1 bt368.2.2 true a0_0 a0_1 l0_2 a0_3 t361 t362 t363 t366) else (laws_FnExactVaryOf.j0 k t356 t359 t360 bt368.1 bt368.2.1 bt368.2.2 (bt368.2.2 != t360) a0_0 a0_1 l0_2 a0_3 t361 t362 t363 t366)) else (laws_FnExactVaryOf.j0 k t356 t359 t360 bt368.1 bt368.2.1 bt368.2.2 true a0_0 a0_1 l0_2 a0_3 t361 t362 t363 t366)))) = some r := H
  have A9 := Aside0.mk A90
  clear A90
  replace H := Option.bind_eq_some_iff.mp H
  obtain ⟨⟨t368, t371, t372⟩, A100, H⟩ := H
  replace H : ((laws_eqStringS.f k t368 t356).bind fun t373 => (if t373 = true then (if (t371 != t359) = true then (laws_FnExactVaryOf.j0 k t356 t359 t360 t368 t371 t372 true a0_0 a0_1 l0_2 a0_3 t361 t362 t363 t366) else (laws_FnExactVaryOf.j0 k t356 t359 t360 t368 t371 t372 (t372 != t360) a0_0 a0_1 l0_2 a0_3 t361 t362 t363 t366)) else (laws_FnExactVaryOf.j0 k t356 t359 t360 t368 t371 t372 true a0_0 a0_1 l0_2 a0_3 t361 t362 t363 t366))) = some r := H
  have A10 := Aside0.mk A100
  clear A100
  have HC11 := Aside0.mk H
  clear H
  go_enter Tryz.func5, Tryz.ntmps5
  go_upto_region 8 with (first | ((with_reducible refine gate_dst (N := 1) rfl ?_); refine xbe_ (N := 1) (cs := #[.int .i64 a0_0, .string a0_1, .slice A0_2 l0_2.length c0_2, .string a0_3]) (t := 48) ?_; intro gb348 hg w12 hbox hb; have BK348 := Aside0.mk (hbox); have GW348 := xge_ HB hg; have GE348 := xge_ HB hg; replace HB := xws_ HB hb; clear hb hbox hg; have ⟨_, _, _, _, _, _, _, _⟩ := c4_ BK348) | ((with_reducible refine gate_callee (f := 19) rfl ?_); refine xgl_ (some 19) Tryz.func19 #[.agg #[.int .i64 a0_0, .string a0_1, .slice A0_2 l0_2.length c0_2, .string a0_3], .int .i64 1048576] ?_; (with_reducible refine (laws_szResponse.calls k a0_0 a0_1 _ _ l0_2 a0_3 1048576 t349 _ ?side1 ?side2 A2.out).mono ?_); (case side1 => exact xc_ ((Kd.C_below HR0_2.out HB.out))); (case side2 => exact HC0_2.out); rintro e w14 ⟨rfl, hb⟩; refine ⟨_, rfl, ?_⟩; replace BK348 := xbb_ BK348 hb; replace HB := xws_ HB hb; (try clear hb); (try clear hb2); (try clear hk); (try clear hi); have ⟨_, _, _, _, _, _, _, _⟩ := c4_ BK348) | ((with_reducible refine gate_callee (f := 21) rfl ?_); refine xgl_ (some 24) Tryz.func21 #[.agg #[.int .i64 a0_0, .string a0_1, .slice A0_2 l0_2.length c0_2, .string a0_3]] ?_; (with_reducible refine (laws_toResponse.calls k a0_0 a0_1 _ _ l0_2 a0_3 t350 t351 t352 t355 _ ?side1 ?side2 A7.out).mono ?_); (case side1 => exact xc_ ((Kd.C_below HR0_2.out HB.out))); (case side2 => exact HC0_2.out); rintro e w16 ⟨v353, rfl, ho0, hb⟩; refine ⟨_, rfl, ?_⟩; have HO354 := Aside0.mk (Kd.R_lower ho0 (below_size (xw_ HB))); replace BK348 := xbb_ BK348 hb; replace HB := xws_ HB hb; (try clear hb); (try clear hb2); (try clear hk); (try clear hi); (try clear ho0); obtain ⟨Ao17, co17, eo17⟩ := Kd.R_slice HO354.out; subst eo17) | ((with_reducible refine gate_callee (f := 20) rfl ?_); refine xgl_ (some 25) Tryz.func20 #[.agg #[.int .i64 t350, .string t351, .slice Ao17 t352.length co17, .string t355]] ?_; (with_reducible refine (spec_VaryOf.calls k t350 t351 _ _ t352 t355 t356 t359 t360 _ ?side1 ?side2 A8.out).mono ?_); (case side1 => exact xc_ ((Kd.R_reads' HO354.out).2.2)); (case side2 => exact (Kd.R_reads' HO354.out).2.1); rintro e w18 ⟨v357, rfl, ho0, hb⟩; refine ⟨_, rfl, ?_⟩; replace HO354 := xrb_ HO354 hb; have HO358 := Aside0.mk (Kd.R_lower ho0 (below_size (xw_ HB))); replace BK348 := xbb_ BK348 hb; replace HB := xws_ HB hb; (try clear hb); (try clear hb2); (try clear hk); (try clear hi); (try clear ho0); have ⟨_, _, _, _, _, _, _, _⟩ := c4_ BK348) | ((with_reducible refine gate_callee (f := 21) rfl ?_); refine xgl_ (some 30) Tryz.func21 #[.agg #[.int .i64 a0_0, .string a0_1, .slice A0_2 l0_2.length c0_2, .string a0_3]] ?_; (with_reducible refine (laws_toResponse.calls k a0_0 a0_1 _ _ l0_2 a0_3 t361 t362 t363 t366 _ ?side1 ?side2 A9.out).mono ?_); (case side1 => exact xc_ ((Kd.C_below HR0_2.out HB.out))); (case side2 => exact HC0_2.out); rintro e w20 ⟨v364, rfl, ho0, hb⟩; refine ⟨_, rfl, ?_⟩; replace HO358 := xrb_ HO358 hb; have HO365 := Aside0.mk (Kd.R_lower (Kd.R_new' ho0 (Kd.R_lt (xr_ HO354))) (below_size (xw_ HB))); replace HO354 := xre_ HO354 ho0 hb; replace BK348 := xbb_ BK348 hb; replace HB := xws_ HB hb; (try clear hb); (try clear hb2); (try clear hk); (try clear hi); (try clear ho0)) | ((with_reducible refine gate_dst (N := 7) rfl ?_); refine xbe_ (N := 7) (cs := #[.int .i64 0, .string (⟨#[]⟩ : ByteArray), .slice none 0 0, .string (⟨#[]⟩ : ByteArray)]) (t := 54) ?_; intro gb367 hg w21 hbox hb; replace HO354 := xrb_ HO354 hb; replace HO358 := xrb_ HO358 hb; replace HO365 := xrb_ HO365 hb; have BK367 := Aside0.mk (hbox); have GW367 := xge_ HB hg; have GE367 := xge_ HB hg; replace HB := xws_ HB hb; have NB348_367 := xlt_ BK348 hg; have NB367_348 := xgt_ BK348 hg; replace BK348 := xbb_ BK348 hb; clear hb hbox hg; have hnb22 := NB367_348.out; have hnc22 := NB348_367.out; have ⟨_, _, _, _, _, _, _, _⟩ := c4_ BK367; obtain ⟨Ao24, co24, eo24⟩ := Kd.R_slice HO365.out; subst eo24) | ((with_reducible refine gate_callee (f := 22) rfl ?_); refine xgl_ (some 33) Tryz.func22 #[.agg #[.int .i64 t361, .string t362, .slice Ao24 t363.length co24, .string t366]] ?_; (with_reducible refine (impl_VaryOf.calls k t361 t362 _ _ t363 t366 t368 t371 t372 _ ?side1 ?side2 A10.out (HTB_.out.below (by first | (with_reducible exact Below.refl _ _) | (repeat (first | (with_reducible first | exact HB.out | exact Below.refl _ _ | apply below_alloc | apply pw_below_drewN | apply below_drew1 | refine below_set ?_ GE348.out | refine below_set ?_ GE367.out) | exact HB.out)) | (repeat (first | exact Below.refl _ _ | apply below_alloc | apply pw_below_drewN | apply below_drew1 | refine below_set ?_ GE348.out | refine below_set ?_ GE367.out))))).mono ?_); (case side1 => refine (Kd.R_reads' (e := 105) (base := w.heap.size) (ok := fun k_ => (True ∧ some k_ ≠ (.slice Ao17 t352.length co17 : Value).ownBlock)) (n := t363.length) (c := co24) ?_).2.2; exact (xrt_ ((Kd.R_mono (Kd.R_far (p := ⟨gb367, 3, none⟩) (Kd.R_far (p := ⟨gb367, 2, none⟩) (Kd.R_far (p := ⟨gb367, 1, none⟩) (Kd.R_far (p := ⟨gb367, 0, none⟩) (Kd.R_types HO365.out BK367.out (by decide)) (fun _ hk => hk.2) (.int .i64 t361)) (fun _ hk => hk.2) (.string t362)) (fun _ hk => hk.2) (.slice Ao24 t363.length co24)) (fun _ hk => hk.2) (.string t366)) (fun _ h_ => h_.1))))); (case side2 => exact (Kd.R_reads' HO365.out).2.1); rintro e w25 ⟨v369, rfl, ho0, hb⟩; refine ⟨_, rfl, ?_⟩; replace HO354 := Aside0.mk (Kd.R_below (xrt_ ((Kd.R_mono (Kd.R_far (p := ⟨gb367, 3, none⟩) (Kd.R_far (p := ⟨gb367, 2, none⟩) (Kd.R_far (p := ⟨gb367, 1, none⟩) (Kd.R_far (p := ⟨gb367, 0, none⟩) (Kd.R_types HO354.out BK367.out (by decide)) (fun _ hk => hk.2) (.int .i64 t361)) (fun _ hk => hk.2) (.string t362)) (fun _ hk => hk.2) (.slice Ao24 t363.length co24)) (fun _ hk => hk.2) (.string t366)) (fun _ h_ => h_.1)))) hb); replace HO365 := Aside0.mk (Kd.R_below (xrt_ ((Kd.R_mono (Kd.R_far (p := ⟨gb367, 3, none⟩) (Kd.R_far (p := ⟨gb367, 2, none⟩) (Kd.R_far (p := ⟨gb367, 1, none⟩) (Kd.R_far (p := ⟨gb367, 0, none⟩) (Kd.R_types HO365.out BK367.out (by decide)) (fun _ hk => hk.2) (.int .i64 t361)) (fun _ hk => hk.2) (.string t362)) (fun _ hk => hk.2) (.slice Ao24 t363.length co24)) (fun _ hk => hk.2) (.string t366)) (fun _ h_ => h_.1)))) hb); have HO370 := Aside0.mk (Kd.R_lower (Kd.R_new' ho0 (Kd.R_lt (xrt_ ((Kd.R_mono (Kd.R_far (p := ⟨gb367, 3, none⟩) (Kd.R_far (p := ⟨gb367, 2, none⟩) (Kd.R_far (p := ⟨gb367, 1, none⟩) (Kd.R_far (p := ⟨gb367, 0, none⟩) (Kd.R_types HO358.out BK367.out (by decide)) (fun _ hk => hk.2) (.int .i64 t361)) (fun _ hk => hk.2) (.string t362)) (fun _ hk => hk.2) (.slice Ao24 t363.length co24)) (fun _ hk => hk.2) (.string t366)) (fun _ h_ => h_.1)))))) (below_size (xw_ HB))); replace HO358 := Aside0.mk (Kd.R_elder' (xrt_ ((Kd.R_mono (Kd.R_far (p := ⟨gb367, 3, none⟩) (Kd.R_far (p := ⟨gb367, 2, none⟩) (Kd.R_far (p := ⟨gb367, 1, none⟩) (Kd.R_far (p := ⟨gb367, 0, none⟩) (Kd.R_types HO358.out BK367.out (by decide)) (fun _ hk => hk.2) (.int .i64 t361)) (fun _ hk => hk.2) (.string t362)) (fun _ hk => hk.2) (.slice Ao24 t363.length co24)) (fun _ hk => hk.2) (.string t366)) (fun _ h_ => h_.1)))) (Kd.R_base ho0) hb); replace BK348 := Aside0.mk (blk_below (g := gb348) (o := .cells #[.int .i64 a0_0, .string a0_1, .slice A0_2 l0_2.length c0_2, .string a0_3] 48 (0, 0)) (by (with_reducible repeat first | apply bN_ | apply bD_ | apply bA_ | refine blk_far ?_ NB348_367.out _); exact BK348.out) hb); replace BK367 := Aside0.mk (blk_below (g := gb367) (o := .cells #[.int .i64 t361, .string t362, .slice Ao24 t363.length co24, .string t366] 54 (0, 0)) (by (with_reducible repeat first | apply bN_ | apply bD_ | apply bA_); refine blk_put (cs := #[.int .i64 t361, .string t362, .slice Ao24 t363.length co24, .string (⟨#[]⟩ : ByteArray)]) ?_ 3 _ rfl; (with_reducible repeat first | apply bN_ | apply bD_ | apply bA_); refine blk_put (cs := #[.int .i64 t361, .string t362, .slice none 0 0, .string (⟨#[]⟩ : ByteArray)]) ?_ 2 _ rfl; (with_reducible repeat first | apply bN_ | apply bD_ | apply bA_); refine blk_put (cs := #[.int .i64 t361, .string (⟨#[]⟩ : ByteArray), .slice none 0 0, .string (⟨#[]⟩ : ByteArray)]) ?_ 1 _ rfl; (with_reducible repeat first | apply bN_ | apply bD_ | apply bA_); refine blk_put (cs := #[.int .i64 0, .string (⟨#[]⟩ : ByteArray), .slice none 0 0, .string (⟨#[]⟩ : ByteArray)]) ?_ 0 _ rfl; (with_reducible repeat first | apply bN_ | apply bD_ | apply bA_); exact BK367.out) hb); replace HB := xws_ HB hb; (try clear hb); (try clear hb2); (try clear hk); (try clear hi); (try clear ho0)))
  (try simp only [Act.put, List.setIfInBounds_toArray, List.set_cons_zero, List.set_cons_succ])
  go_cut [50] (fun v50 wc => ∃ (kq : Nat) (x50_10 : Bool), v50 = .bool x50_10 ∧ Aside0 (laws_FnExactVaryOf.j0 kq t356 t359 t360 t368 t371 t372 x50_10 a0_0 a0_1 l0_2 a0_3 t361 t362 t363 t366 = some r) ∧ Aside0 (kq ≤ k) ∧ Aside0 (Kd.R Kd.string 9 wc w.heap.size (fun k_ => some k_ ≠ (v369 : Value).ownBlock) v357 t356) ∧ Aside0 (Kd.R Kd.string 9 wc w.heap.size (fun k_ => some k_ ≠ (v357 : Value).ownBlock) v369 t368) ∧ Aside0 (Kd.R k105 105 wc w.heap.size (fun _ => True) (.slice Ao24 t363.length co24) t363) ∧ Aside0 (wc.heap[gb348]? = some (.cells #[.int .i64 a0_0, .string a0_1, (.slice A0_2 l0_2.length c0_2), .string a0_3] 48 (0, 0))) ∧ Aside0 (wc.heap[gb367]? = some (.cells #[.int .i64 t361, .string t362, (.slice Ao24 t363.length co24), .string t366] 54 (0, 0))) ∧ Aside0 (Below w.heap.size w wc))
  case first =>
   have H := HC11.out
   clear HC11
   replace H := Option.bind_eq_some_iff.mp H
   obtain ⟨t373, A260, H⟩ := H
   replace H : (if t373 = true then (if (t371 != t359) = true then (laws_FnExactVaryOf.j0 k t356 t359 t360 t368 t371 t372 true a0_0 a0_1 l0_2 a0_3 t361 t362 t363 t366) else (laws_FnExactVaryOf.j0 k t356 t359 t360 t368 t371 t372 (t372 != t360) a0_0 a0_1 l0_2 a0_3 t361 t362 t363 t366)) else (laws_FnExactVaryOf.j0 k t356 t359 t360 t368 t371 t372 true a0_0 a0_1 l0_2 a0_3 t361 t362 t363 t366)) = some r := H
   have A26 := Aside0.mk A260
   clear A260
   by_cases c27 : t373 = true
   ·subst c27
    have H1 : (if (t371 != t359) = true then (laws_FnExactVaryOf.j0 k t356 t359 t360 t368 t371 t372 true a0_0 a0_1 l0_2 a0_3 t361 t362 t363 t366) else (laws_FnExactVaryOf.j0 k t356 t359 t360 t368 t371 t372 (t372 != t360) a0_0 a0_1 l0_2 a0_3 t361 t362 t363 t366)) = some r := by rw [if_pos rfl] at H; exact H
    clear H
    have H := H1
    clear H1
    by_cases c28 : (t371 != t359) = true
    ·rw [if_pos c28] at H
     have c28b0 : (t371 != t359) = true := c28
     (try (have c28b1 : decide (t371 = t359) = false := by simpa using c28))
     (try (have c28b2 : (t371 == t359) = false := by simpa using c28))
     (try (have c28b3 : ¬ (t371 = t359) := by simpa using c28))
     clear c28
     (first | rw [c28b0] | (simp only [i64_w, i32_w]; rw [c28b0]) | skip)
     have H' := Aside0.mk H
     clear H
     obtain ⟨Ao29, co29, eo29⟩ := Kd.R_slice HO370.out
     subst eo29
     obtain ⟨Ao30, co30, eo30⟩ := Kd.R_slice HO358.out
     subst eo30
     go_wp2_with (first | ((with_reducible refine gate_callee (f := 23) rfl ?_); refine xgl_ (some 39) Tryz.func23 #[.slice Ao29 t368.length co29, .slice Ao30 t356.length co30] ?_; (with_reducible refine (laws_eqStringS.calls k _ _ t368 _ _ t356 true _ ?side1 ?side2 ?side3 ?side4 A26.out).mono ?_); (case side1 => exact xc_ ((Kd.R_reads' HO370.out).2.2)); (case side2 => exact (Kd.R_reads' HO370.out).2.1); (case side3 => exact xc_ ((Kd.R_reads' HO358.out).2.2)); (case side4 => exact (Kd.R_reads' HO358.out).2.1); rintro e w' ⟨rfl, ⟨nd, rfl⟩⟩; refine ⟨_, rfl, ?_⟩))
     go_meet
     case rel => exact ⟨_, (true), (by first | rfl | (simp; done) | (simp [*]; done)), H', ⟨by first | omega | exact Nat.le_refl _⟩, ⟨xrt_ (Kd.R_mono HO358.out (fun _ hk => hk.2))⟩, ⟨xrt_ (Kd.R_mono HO370.out (fun _ hk => hk.2))⟩, ⟨xrt_ (Kd.R_mono HO365.out (fun _ hk => trivial))⟩, ⟨xb_ BK348⟩, ⟨xb_ BK367⟩, ⟨xw_ HB⟩⟩
    ·rw [if_neg c28] at H
     have c28b0 : (t371 != t359) = false := by simpa using c28
     (try (have c28b1 : decide (t371 = t359) = true := by simpa using c28))
     (try (have c28b2 : (t371 == t359) = true := by simpa using c28))
     clear c28
     (first | rw [c28b0] | (simp only [i64_w, i32_w]; rw [c28b0]) | skip)
     have H' := Aside0.mk H
     clear H
     obtain ⟨Ao31, co31, eo31⟩ := Kd.R_slice HO370.out
     subst eo31
     obtain ⟨Ao32, co32, eo32⟩ := Kd.R_slice HO358.out
     subst eo32
     go_wp2_with (first | ((with_reducible refine gate_callee (f := 23) rfl ?_); refine xgl_ (some 39) Tryz.func23 #[.slice Ao31 t368.length co31, .slice Ao32 t356.length co32] ?_; (with_reducible refine (laws_eqStringS.calls k _ _ t368 _ _ t356 true _ ?side1 ?side2 ?side3 ?side4 A26.out).mono ?_); (case side1 => exact xc_ ((Kd.R_reads' HO370.out).2.2)); (case side2 => exact (Kd.R_reads' HO370.out).2.1); (case side3 => exact xc_ ((Kd.R_reads' HO358.out).2.2)); (case side4 => exact (Kd.R_reads' HO358.out).2.1); rintro e w' ⟨rfl, ⟨nd, rfl⟩⟩; refine ⟨_, rfl, ?_⟩))
     go_meet
     case rel => exact ⟨_, ((t372 != t360)), (by first | rfl | (simp; done) | (simp [*]; done)), H', ⟨by first | omega | exact Nat.le_refl _⟩, ⟨xrt_ (Kd.R_mono HO358.out (fun _ hk => hk.2))⟩, ⟨xrt_ (Kd.R_mono HO370.out (fun _ hk => hk.2))⟩, ⟨xrt_ (Kd.R_mono HO365.out (fun _ hk => trivial))⟩, ⟨xb_ BK348⟩, ⟨xb_ BK367⟩, ⟨xw_ HB⟩⟩
   ·replace c27 := Bool.eq_false_iff.mpr c27
    subst c27
    have H1 : (laws_FnExactVaryOf.j0 k t356 t359 t360 t368 t371 t372 true a0_0 a0_1 l0_2 a0_3 t361 t362 t363 t366) = some r := by rw [if_neg (show ¬ (false = true) by decide)] at H; exact H
    clear H
    have H := H1
    clear H1
    have H' := Aside0.mk H
    clear H
    obtain ⟨Ao33, co33, eo33⟩ := Kd.R_slice HO370.out
    subst eo33
    obtain ⟨Ao34, co34, eo34⟩ := Kd.R_slice HO358.out
    subst eo34
    go_wp2_with (first | ((with_reducible refine gate_callee (f := 23) rfl ?_); refine xgl_ (some 39) Tryz.func23 #[.slice Ao33 t368.length co33, .slice Ao34 t356.length co34] ?_; (with_reducible refine (laws_eqStringS.calls k _ _ t368 _ _ t356 false _ ?side1 ?side2 ?side3 ?side4 A26.out).mono ?_); (case side1 => exact xc_ ((Kd.R_reads' HO370.out).2.2)); (case side2 => exact (Kd.R_reads' HO370.out).2.1); (case side3 => exact xc_ ((Kd.R_reads' HO358.out).2.2)); (case side4 => exact (Kd.R_reads' HO358.out).2.1); rintro e w' ⟨rfl, ⟨nd, rfl⟩⟩; refine ⟨_, rfl, ?_⟩))
    go_meet
    case rel => exact ⟨_, (true), (by first | rfl | (simp; done) | (simp [*]; done)), H', ⟨by first | omega | exact Nat.le_refl _⟩, ⟨xrt_ (Kd.R_mono HO358.out (fun _ hk => hk.2))⟩, ⟨xrt_ (Kd.R_mono HO370.out (fun _ hk => hk.2))⟩, ⟨xrt_ (Kd.R_mono HO365.out (fun _ hk => trivial))⟩, ⟨xb_ BK348⟩, ⟨xb_ BK367⟩, ⟨xw_ HB⟩⟩
  case rest =>
   clear HC11
   try clear c1
   try clear c2
   try clear p2
   try clear c3
   try clear c3b0
   try clear c5
   try clear c19
   try clear c20
   try clear c21
   try clear c22
   try clear c23
   try clear c27
   try clear c28
   try clear c28b0
   try clear c28b1
   try clear c28b2
   obtain ⟨kq, x50_10, rfl, HA, HJ10, HO_4, HO_8, HO_368002, BK348, BK367, HB⟩ := hcut
   cases kq with
   | zero => exact absurd HA.out (by simp [laws_FnExactVaryOf.j0])
   | succ kj10 =>
    have H := HA.out
    clear HA
    simp only [laws_FnExactVaryOf.j0] at H
    by_cases c35 : x50_10 = true
    ·subst c35
     have H1 : (some false) = some r := by rw [if_pos rfl] at H; exact H
     clear H
     have H := H1
     clear H1
     obtain rfl := Option.some.inj H
     go_wp2
     go_ret
     exact ⟨by first | rfl | (simp [errW_none, errW_some] <;> rfl) | (simp [*, errW_none, errW_some] <;> rfl), xw_ HB⟩
    ·replace c35 := Bool.eq_false_iff.mpr c35
     subst c35
     have H1 : ((laws_toResponse.f kj10 a0_0 a0_1 l0_2 a0_3).bind fun bt374 => ((laws_eqResponse.f kj10 t361 t362 t363 t366 bt374.1 bt374.2.1 bt374.2.2.1 bt374.2.2.2).bind fun t380 => (if t380 = true then ((laws_markResponse.f kj10 t361 t362 t363 t366 1).bind fun bt381 => (if bt381.1 < 0 then (laws_FnExactVaryOf.j1 kj10 t356 t359 t360 t368 true a0_0 a0_1 l0_2 a0_3) else ((laws_eqStringS.f kj10 t368 t356).bind fun t383 => (if t383 = true then (if (t371 != t359) = true then (laws_FnExactVaryOf.j1 kj10 t356 t359 t360 t368 true a0_0 a0_1 l0_2 a0_3) else (laws_FnExactVaryOf.j1 kj10 t356 t359 t360 t368 (t372 != t360) a0_0 a0_1 l0_2 a0_3)) else (laws_FnExactVaryOf.j1 kj10 t356 t359 t360 t368 true a0_0 a0_1 l0_2 a0_3))))) else (some false)))) = some r := by rw [if_neg (show ¬ (false = true) by decide)] at H; exact H
     clear H
     have H := H1
     clear H1
     replace H := Option.bind_eq_some_iff.mp H
     obtain ⟨⟨t374, t375, t376, t379⟩, A360, H⟩ := H
     replace H : ((laws_eqResponse.f kj10 t361 t362 t363 t366 t374 t375 t376 t379).bind fun t380 => (if t380 = true then ((laws_markResponse.f kj10 t361 t362 t363 t366 1).bind fun bt381 => (if bt381.1 < 0 then (laws_FnExactVaryOf.j1 kj10 t356 t359 t360 t368 true a0_0 a0_1 l0_2 a0_3) else ((laws_eqStringS.f kj10 t368 t356).bind fun t383 => (if t383 = true then (if (t371 != t359) = true then (laws_FnExactVaryOf.j1 kj10 t356 t359 t360 t368 true a0_0 a0_1 l0_2 a0_3) else (laws_FnExactVaryOf.j1 kj10 t356 t359 t360 t368 (t372 != t360) a0_0 a0_1 l0_2 a0_3)) else (laws_FnExactVaryOf.j1 kj10 t356 t359 t360 t368 true a0_0 a0_1 l0_2 a0_3))))) else (some false))) = some r := H
     have A36 := Aside0.mk A360
     clear A360
     replace H := Option.bind_eq_some_iff.mp H
     obtain ⟨t380, A370, H⟩ := H
     replace H : (if t380 = true then ((laws_markResponse.f kj10 t361 t362 t363 t366 1).bind fun bt381 => (if bt381.1 < 0 then (laws_FnExactVaryOf.j1 kj10 t356 t359 t360 t368 true a0_0 a0_1 l0_2 a0_3) else ((laws_eqStringS.f kj10 t368 t356).bind fun t383 => (if t383 = true then (if (t371 != t359) = true then (laws_FnExactVaryOf.j1 kj10 t356 t359 t360 t368 true a0_0 a0_1 l0_2 a0_3) else (laws_FnExactVaryOf.j1 kj10 t356 t359 t360 t368 (t372 != t360) a0_0 a0_1 l0_2 a0_3)) else (laws_FnExactVaryOf.j1 kj10 t356 t359 t360 t368 true a0_0 a0_1 l0_2 a0_3))))) else (some false)) = some r := H
     have A37 := Aside0.mk A370
     clear A370
     by_cases c38 : t380 = true
     ·subst c38
      have H1 : ((laws_markResponse.f kj10 t361 t362 t363 t366 1).bind fun bt381 => (if bt381.1 < 0 then (laws_FnExactVaryOf.j1 kj10 t356 t359 t360 t368 true a0_0 a0_1 l0_2 a0_3) else ((laws_eqStringS.f kj10 t368 t356).bind fun t383 => (if t383 = true then (if (t371 != t359) = true then (laws_FnExactVaryOf.j1 kj10 t356 t359 t360 t368 true a0_0 a0_1 l0_2 a0_3) else (laws_FnExactVaryOf.j1 kj10 t356 t359 t360 t368 (t372 != t360) a0_0 a0_1 l0_2 a0_3)) else (laws_FnExactVaryOf.j1 kj10 t356 t359 t360 t368 true a0_0 a0_1 l0_2 a0_3))))) = some r := by rw [if_pos rfl] at H; exact H
      clear H
      have H := H1
      clear H1
      replace H := Option.bind_eq_some_iff.mp H
      obtain ⟨⟨t381, t382⟩, A390, H⟩ := H
      replace H : (if t381 < 0 then (laws_FnExactVaryOf.j1 kj10 t356 t359 t360 t368 true a0_0 a0_1 l0_2 a0_3) else ((laws_eqStringS.f kj10 t368 t356).bind fun t383 => (if t383 = true then (if (t371 != t359) = true then (laws_FnExactVaryOf.j1 kj10 t356 t359 t360 t368 true a0_0 a0_1 l0_2 a0_3) else (laws_FnExactVaryOf.j1 kj10 t356 t359 t360 t368 (t372 != t360) a0_0 a0_1 l0_2 a0_3)) else (laws_FnExactVaryOf.j1 kj10 t356 t359 t360 t368 true a0_0 a0_1 l0_2 a0_3)))) = some r := H
      have A39 := Aside0.mk A390
      clear A390
      have HC40 := Aside0.mk H
      clear H
      try go_wp2
      replace HO_4 := Aside0.mk (Kd.R_drew HO_4.out)
      replace HO_8 := Aside0.mk (Kd.R_drew HO_8.out)
      replace HO_368002 := Aside0.mk (Kd.R_drew HO_368002.out)
      replace BK348 := Aside0.mk (blk_drew BK348.out)
      replace BK367 := Aside0.mk (blk_drew BK367.out)
      replace HB := Aside0.mk (below_drew1 HB.out)
      refine start_ (n := 5) (S := fun w' => w'.cell? ⟨gb367, 0, none⟩ = some (.int .i64 t361) ∧ w'.cell? ⟨gb367, 1, none⟩ = some (.string t362) ∧ w'.cell? ⟨gb367, 2, none⟩ = some (.slice Ao24 t363.length co24) ∧ w'.cell? ⟨gb367, 3, none⟩ = some (.string t366) ∧ w'.cell? ⟨gb348, 0, none⟩ = some (.int .i64 a0_0) ∧ w'.cell? ⟨gb348, 1, none⟩ = some (.string a0_1) ∧ w'.cell? ⟨gb348, 2, none⟩ = some (.slice A0_2 l0_2.length c0_2) ∧ w'.cell? ⟨gb348, 3, none⟩ = some (.string a0_3)) (ds := []) #[false, false, false, false, false] (by kernel_rfl) rfl rfl ⟨xk_ BK367 0, xk_ BK367 1, xk_ BK367 2, xk_ BK367 3, xk_ BK348 0, xk_ BK348 1, xk_ BK348 2, xk_ BK348 3⟩ (fun hHeld => ?_)
      generalize wc.drew = w41 at HO_4 HO_8 HO_368002 BK348 BK367 HB hHeld ⊢
      refine take_ (i := 0) (N := some 51) (v := ?_) (a' := ?_) #[true, false, false, false, false] rfl rfl (by kernel_rfl) (fun _ _ _ h => h) (Or.inl ⟨by rfl, ?_⟩) hHeld ?_ ?_
      rotate_left
      ·rintro w' ⟨s0, s1, s2, s3, s4, s5, s6, s7⟩
       go_simp
       with_reducible rfl
      rotate_left
      ·simp only [Act.put, List.setIfInBounds_toArray, List.set_cons_zero, List.set_cons_succ, i64_w, i32_w]
       rfl
      refine take_ (i := 1) (N := some 52) (v := ?_) (a' := ?_) #[true, true, false, false, false] rfl rfl (by kernel_rfl) (fun _ _ _ h => h) (Or.inl ⟨by rfl, ?_⟩) hHeld ?_ ?_
      rotate_left
      ·rintro w' ⟨s0, s1, s2, s3, s4, s5, s6, s7⟩
       go_simp
       with_reducible rfl
      rotate_left
      ·simp only [Act.put, List.setIfInBounds_toArray, List.set_cons_zero, List.set_cons_succ, i64_w, i32_w]
       rfl
      refine one_ (i := 2) (N := some 53) #[true, true, true, false, false] rfl rfl (by kernel_rfl) (by decide) (fun K hK => ?_)
      refine xgo_ Tryz.func21 #[.agg #[.int .i64 a0_0, .string a0_1, .slice A0_2 l0_2.length c0_2, .string a0_3]] ?_
      with_reducible refine (laws_toResponse.calls kj10 a0_0 a0_1 _ _ l0_2 a0_3 t374 t375 t376 t379 _ ?side1 ?side2 A36.out).mono ?_
      (case side1 => exact xc_ ((Kd.C_below HR0_2.out HB.out)))
      (case side2 => exact HC0_2.out)
      rintro e w42 ⟨v377, rfl, ho0, hb⟩
      refine ⟨_, rfl, ?_⟩
      replace HO_4 := xrb_ HO_4 hb
      replace HO_8 := xrb_ HO_8 hb
      have HO378 := Aside0.mk (Kd.R_lower (Kd.R_new' ho0 (Kd.R_lt (xr_ HO_368002))) (below_size (xw_ HB)))
      replace HO_368002 := xre_ HO_368002 ho0 hb
      replace BK348 := xbb_ BK348 hb
      replace BK367 := xbb_ BK367 hb
      replace HB := xws_ HB hb
      (try clear hb)
      (try clear hb2)
      (try clear hk)
      (try clear hi)
      (try clear ho0)
      obtain ⟨Ao43, co43, eo43⟩ := Kd.R_slice HO378.out
      (first | subst eo43 | (injection eo43 with f1_ f2_ f3_; have f4_ := f1_.symm; have f5_ := f3_.symm; clear f1_ f2_ f3_; subst f4_; subst f5_))
      refine hK.out _ _ ⟨xk_ BK367 0, xk_ BK367 1, xk_ BK367 2, xk_ BK367 3, xk_ BK348 0, xk_ BK348 1, xk_ BK348 2, xk_ BK348 3⟩ (fun hHeld => ?_)
      clear hK K
      refine norm_ (a' := ?_) ?_ ?_
      rotate_left
      ·show Act.put _ (some 53) _ = _
       simp only [Act.put, List.setIfInBounds_toArray, List.set_cons_zero, List.set_cons_succ, i64_w, i32_w]
       rfl
      refine one_ (i := 3) (N := some 54) #[true, true, true, true, false] rfl rfl (by kernel_rfl) (by decide) (fun K hK => ?_)
      refine xgo_ Tryz.func24 #[.agg #[.int .i64 t361, .string t362, .slice Ao24 t363.length co24, .string t366], .agg #[.int .i64 t374, .string t375, .slice Ao43 t376.length co43, .string t379]] ?_
      with_reducible refine (laws_eqResponse.calls kj10 t361 t362 _ _ t363 t366 t374 t375 _ _ t376 t379 true _ ?side1 ?side2 ?side3 ?side4 A37.out).mono ?_
      (case side1 => exact xc_ ((Kd.R_reads' HO_368002.out).2.2))
      (case side2 => exact (Kd.R_reads' HO_368002.out).2.1)
      (case side3 => exact xc_ ((Kd.R_reads' HO378.out).2.2))
      (case side4 => exact (Kd.R_reads' HO378.out).2.1)
      rintro e w44 ⟨rfl, hb⟩
      refine ⟨_, rfl, ?_⟩
      replace HO_4 := xrb_ HO_4 hb
      replace HO_8 := xrb_ HO_8 hb
      replace HO_368002 := xrb_ HO_368002 hb
      replace HO378 := xrb_ HO378 hb
      replace BK348 := xbb_ BK348 hb
      replace BK367 := xbb_ BK367 hb
      replace HB := xws_ HB hb
      (try clear hb)
      (try clear hb2)
      (try clear hk)
      (try clear hi)
      refine hK.out _ _ ⟨xk_ BK367 0, xk_ BK367 1, xk_ BK367 2, xk_ BK367 3, xk_ BK348 0, xk_ BK348 1, xk_ BK348 2, xk_ BK348 3⟩ (fun hHeld => ?_)
      clear hK K
      refine norm_ (a' := ?_) ?_ ?_
      rotate_left
      ·show Act.put _ (some 54) _ = _
       simp only [Act.put, List.setIfInBounds_toArray, List.set_cons_zero, List.set_cons_succ, i64_w, i32_w]
       rfl
      refine pure_ (i := 4) (N := some 55) (v := ?_) (a' := ?_) #[true, true, true, true, true] rfl rfl (by kernel_rfl) (fun _ _ _ h => h) (Or.inl ⟨by rfl, ?_⟩) ?_ ?_
      rotate_left
      ·intro w'
       go_simp
       with_reducible rfl
      rotate_left
      ·simp only [Act.put, List.setIfInBounds_toArray, List.set_cons_zero, List.set_cons_succ, i64_w, i32_w]
       rfl
      refine done_ (by kernel_rfl) ?_
      have hnb45 := NB367_348.out
      have hnc45 := NB348_367.out
      have ⟨_, _, _, _, _, _, _, _⟩ := c4_ BK367
      go_upto_region 14 with (first | ((with_reducible refine gate_callee (f := 25) rfl ?_); refine xgl_ (some 58) Tryz.func25 #[.agg #[.int .i64 t361, .string t362, .slice Ao24 t363.length co24, .string t366], .int .i64 1] ?_; (with_reducible refine (laws_markResponse.calls kj10 t361 t362 (fun k_ => some k_ = (.slice Ao24 t363.length co24 : Value).ownBlock) (.slice Ao24 t363.length co24) t363 t366 1 t381 t382 w _ ?side1 ?side2 A39.out).mono ?_); (case side1 => repeat (first | (with_reducible first | exact HB.out | apply below_alloc | apply pw_below_drewN | apply below_drew1 | refine below_set ?_ GE348.out | refine below_set ?_ GE367.out) | exact HB.out)); (case side2 => exact Kd.R_tight rfl HO_368002.out); rintro e w47 ⟨rfl, hy0, hb, hkp⟩; refine ⟨_, rfl, ?_⟩; replace HO_4 := Aside0.mk (Kd.R_mono (ok' := fun k_ => some k_ ≠ (v369 : Value).ownBlock) (Kd.R_keptB ((Kd.R_apart' HO_4.out (Kd.R_typed HO_368002.out) (by decide))) hkp (fun k_ hk_ hs_ => (hk_.2) hs_)) (fun k_ hk_ => hk_.1.1)); replace HO_8 := Aside0.mk (Kd.R_mono (ok' := fun k_ => some k_ ≠ (v357 : Value).ownBlock) (Kd.R_keptB ((Kd.R_apart' HO_8.out (Kd.R_typed HO_368002.out) (by decide))) hkp (fun k_ hk_ hs_ => (hk_.2) hs_)) (fun k_ hk_ => hk_.1.1)); replace BK348 := Aside0.mk (blk_kept (xb_ BK348) hkp (fun hs_ => (fun e_ => (Kd.R_ne HO_368002.out BK348.out (by decide)) e_) hs_)); replace BK367 := Aside0.mk (blk_kept (xb_ BK367) hkp (fun hs_ => (fun e_ => (Kd.R_ne HO_368002.out BK367.out (by decide)) e_) hs_)); replace HO_368002 := Aside0.mk (Kd.R_reok rfl hy0 (fun k_ e_ => HO_368002.out.1 k_ e_)); replace HO378 := Aside0.mk (Kd.R_mono (ok' := fun k_ => some k_ ≠ (.slice Ao24 t363.length co24 : Value).ownBlock) (Kd.R_keptB (HO378.out) hkp (fun k_ hk_ hs_ => (hk_.2) hs_)) (fun k_ hk_ => hk_.1.2)); replace HB := Aside0.mk (hb); (try clear hb); (try clear hkp); (try clear hy0)))
      (try simp only [Act.put, List.setIfInBounds_toArray, List.set_cons_zero, List.set_cons_succ])
      go_cut [76] (fun v76 wc => ∃ (kq : Nat) (x76_39 : Bool), v76 = .bool x76_39 ∧ Aside0 (laws_FnExactVaryOf.j1 kq t356 t359 t360 t368 x76_39 a0_0 a0_1 l0_2 a0_3 = some r) ∧ Aside0 (kq ≤ kj10) ∧ Aside0 (Kd.R Kd.string 9 wc w.heap.size (fun k_ => some k_ ≠ (v369 : Value).ownBlock) v357 t356) ∧ Aside0 (Kd.R Kd.string 9 wc w.heap.size (fun k_ => some k_ ≠ (v357 : Value).ownBlock) v369 t368) ∧ Aside0 (Kd.R k105 105 wc w.heap.size (fun _ => True) (.slice Ao24 t363.length co24) t382) ∧ Aside0 (wc.heap[gb348]? = some (.cells #[.int .i64 a0_0, .string a0_1, (.slice A0_2 l0_2.length c0_2), .string a0_3] 48 (0, 0))) ∧ Aside0 (wc.heap[gb367]? = some (.cells #[.int .i64 t361, .string t362, (.slice Ao24 t363.length co24), .string t366] 54 (0, 0))) ∧ Aside0 (Below w.heap.size w wc))
      case first =>
       have H := HC40.out
       clear HC40
       by_cases c48 : t381 < 0
       ·rw [if_pos c48] at H
        have c48b0 : decide (t381 < 0) = true := decide_eq_true c48
        clear c48
        (first | rw [c48b0] | (simp only [i64_w, i32_w]; rw [c48b0]) | skip)
        have H' := Aside0.mk H
        clear H
        go_wp2
        go_meet
        case rel => exact ⟨_, (true), (by first | rfl | (simp; done) | (simp [*]; done)), H', ⟨by have := HJ10.out; first | omega | exact Nat.le_refl _⟩, ⟨xr_ HO_4⟩, ⟨xr_ HO_8⟩, ⟨xrt_ (Kd.R_mono HO_368002.out (fun _ hk => trivial))⟩, ⟨xb_ BK348⟩, ⟨xb_ BK367⟩, ⟨xw_ HB⟩⟩
       ·rw [if_neg c48] at H
        have c48b0 : decide (t381 < 0) = false := decide_eq_false c48
        clear c48
        (first | rw [c48b0] | (simp only [i64_w, i32_w]; rw [c48b0]) | skip)
        replace H := Option.bind_eq_some_iff.mp H
        obtain ⟨t383, A490, H⟩ := H
        replace H : (if t383 = true then (if (t371 != t359) = true then (laws_FnExactVaryOf.j1 kj10 t356 t359 t360 t368 true a0_0 a0_1 l0_2 a0_3) else (laws_FnExactVaryOf.j1 kj10 t356 t359 t360 t368 (t372 != t360) a0_0 a0_1 l0_2 a0_3)) else (laws_FnExactVaryOf.j1 kj10 t356 t359 t360 t368 true a0_0 a0_1 l0_2 a0_3)) = some r := H
        have A49 := Aside0.mk A490
        clear A490
        by_cases c50 : t383 = true
        ·subst c50
         have H1 : (if (t371 != t359) = true then (laws_FnExactVaryOf.j1 kj10 t356 t359 t360 t368 true a0_0 a0_1 l0_2 a0_3) else (laws_FnExactVaryOf.j1 kj10 t356 t359 t360 t368 (t372 != t360) a0_0 a0_1 l0_2 a0_3)) = some r := by rw [if_pos rfl] at H; exact H
         clear H
         have H := H1
         clear H1
         by_cases c51 : (t371 != t359) = true
         ·rw [if_pos c51] at H
          have c51b0 : (t371 != t359) = true := c51
          (try (have c51b1 : decide (t371 = t359) = false := by simpa using c51))
          (try (have c51b2 : (t371 == t359) = false := by simpa using c51))
          (try (have c51b3 : ¬ (t371 = t359) := by simpa using c51))
          clear c51
          have H' := Aside0.mk H
          clear H
          obtain ⟨Ao52, co52, eo52⟩ := Kd.R_slice HO_8.out
          subst eo52
          obtain ⟨Ao53, co53, eo53⟩ := Kd.R_slice HO_4.out
          subst eo53
          go_wp2_with (first | (go_at_call 23; (with_reducible refine (laws_eqStringS.calls kj10 _ _ t368 _ _ t356 true _ ?side1 ?side2 ?side3 ?side4 A49.out).mono ?_); (case side1 => exact xc_ ((Kd.R_reads' HO_8.out).2.2)); (case side2 => exact (Kd.R_reads' HO_8.out).2.1); (case side3 => exact xc_ ((Kd.R_reads' HO_4.out).2.2)); (case side4 => exact (Kd.R_reads' HO_4.out).2.1); rintro e w' ⟨rfl, ⟨nd, rfl⟩⟩))
          go_meet
          case rel => exact ⟨_, (true), (by first | rfl | (simp; done) | (simp [*]; done)), H', ⟨by have := HJ10.out; first | omega | exact Nat.le_refl _⟩, ⟨xr_ HO_4⟩, ⟨xr_ HO_8⟩, ⟨xrt_ (Kd.R_mono HO_368002.out (fun _ hk => trivial))⟩, ⟨xb_ BK348⟩, ⟨xb_ BK367⟩, ⟨xw_ HB⟩⟩
         ·rw [if_neg c51] at H
          have c51b0 : (t371 != t359) = false := by simpa using c51
          (try (have c51b1 : decide (t371 = t359) = true := by simpa using c51))
          (try (have c51b2 : (t371 == t359) = true := by simpa using c51))
          clear c51
          have H' := Aside0.mk H
          clear H
          obtain ⟨Ao54, co54, eo54⟩ := Kd.R_slice HO_8.out
          subst eo54
          obtain ⟨Ao55, co55, eo55⟩ := Kd.R_slice HO_4.out
          subst eo55
          go_wp2_with (first | (go_at_call 23; (with_reducible refine (laws_eqStringS.calls kj10 _ _ t368 _ _ t356 true _ ?side1 ?side2 ?side3 ?side4 A49.out).mono ?_); (case side1 => exact xc_ ((Kd.R_reads' HO_8.out).2.2)); (case side2 => exact (Kd.R_reads' HO_8.out).2.1); (case side3 => exact xc_ ((Kd.R_reads' HO_4.out).2.2)); (case side4 => exact (Kd.R_reads' HO_4.out).2.1); rintro e w' ⟨rfl, ⟨nd, rfl⟩⟩))
          go_meet
          case rel => exact ⟨_, ((t372 != t360)), (by first | rfl | (simp; done) | (simp [*]; done)), H', ⟨by have := HJ10.out; first | omega | exact Nat.le_refl _⟩, ⟨xr_ HO_4⟩, ⟨xr_ HO_8⟩, ⟨xrt_ (Kd.R_mono HO_368002.out (fun _ hk => trivial))⟩, ⟨xb_ BK348⟩, ⟨xb_ BK367⟩, ⟨xw_ HB⟩⟩
        ·replace c50 := Bool.eq_false_iff.mpr c50
         subst c50
         have H1 : (laws_FnExactVaryOf.j1 kj10 t356 t359 t360 t368 true a0_0 a0_1 l0_2 a0_3) = some r := by rw [if_neg (show ¬ (false = true) by decide)] at H; exact H
         clear H
         have H := H1
         clear H1
         have H' := Aside0.mk H
         clear H
         obtain ⟨Ao56, co56, eo56⟩ := Kd.R_slice HO_8.out
         subst eo56
         obtain ⟨Ao57, co57, eo57⟩ := Kd.R_slice HO_4.out
         subst eo57
         go_wp2_with (first | (go_at_call 23; (with_reducible refine (laws_eqStringS.calls kj10 _ _ t368 _ _ t356 false _ ?side1 ?side2 ?side3 ?side4 A49.out).mono ?_); (case side1 => exact xc_ ((Kd.R_reads' HO_8.out).2.2)); (case side2 => exact (Kd.R_reads' HO_8.out).2.1); (case side3 => exact xc_ ((Kd.R_reads' HO_4.out).2.2)); (case side4 => exact (Kd.R_reads' HO_4.out).2.1); rintro e w' ⟨rfl, ⟨nd, rfl⟩⟩))
         go_meet
         case rel => exact ⟨_, (true), (by first | rfl | (simp; done) | (simp [*]; done)), H', ⟨by have := HJ10.out; first | omega | exact Nat.le_refl _⟩, ⟨xr_ HO_4⟩, ⟨xr_ HO_8⟩, ⟨xrt_ (Kd.R_mono HO_368002.out (fun _ hk => trivial))⟩, ⟨xb_ BK348⟩, ⟨xb_ BK367⟩, ⟨xw_ HB⟩⟩
      case rest =>
       clear HC40
       try clear c1
       try clear c2
       try clear p2
       try clear c3
       try clear c3b0
       try clear c4
       try clear c5
       try clear c19
       try clear c20
       try clear c21
       try clear c22
       try clear c23
       try clear c24
       try clear c25
       try clear c27
       try clear c28
       try clear c28b0
       try clear c28b1
       try clear c28b2
       try clear c35
       try clear c38
       try clear c45
       try clear c48
       try clear c48b0
       try clear c50
       try clear c51
       try clear c51b0
       try clear c51b1
       try clear c51b2
       try clear p2
       obtain ⟨kq, x76_39, rfl, HA, HJ39, HO_4, HO_8, HO_368002, BK348, BK367, HB⟩ := hcut
       have hl368002_39 := (Kd.R_reads' HO_368002.out).1
       rw [hl368002_39] at HO_368002
       (try simp only [hl368002_39])
       (try simp only [hl368002_39] at BK348)
       (try simp only [hl368002_39] at BK367)
       (try simp only [hl368002_39] at HO_4)
       (try simp only [hl368002_39] at HO_8)
       cases kq with
       | zero => exact absurd HA.out (by simp [laws_FnExactVaryOf.j1])
       | succ kj39 =>
        have H := HA.out
        clear HA
        simp only [laws_FnExactVaryOf.j1] at H
        by_cases c58 : x76_39 = true
        ·subst c58
         have H1 : (some false) = some r := by rw [if_pos rfl] at H; exact H
         clear H
         have H := H1
         clear H1
         obtain rfl := Option.some.inj H
         go_wp2
         go_ret
         exact ⟨by first | rfl | (simp [errW_none, errW_some] <;> rfl) | (simp [*, errW_none, errW_some] <;> rfl), xw_ HB⟩
        ·replace c58 := Bool.eq_false_iff.mpr c58
         subst c58
         have H1 : ((laws_markStringS.f kj39 t368 1).bind fun bt384 => ((laws_heldStringS.f kj39 bt384.2 1).bind fun t386 => (if t386 < 0 then (some false) else (if t386 = bt384.1 then ((laws_toResponse.f kj39 a0_0 a0_1 l0_2 a0_3).bind fun bt387 => ((impl_VaryOf.f kj39 bt387.1 bt387.2.1 bt387.2.2.1 bt387.2.2.2).bind fun bt393 => ((laws_eqStringS.f kj39 bt393.1 t356).bind fun t398 => (if t398 = true then (if (bt393.2.1 != t359) = true then (laws_FnExactVaryOf.j2 kj39 bt384.2 bt384.1 true) else (laws_FnExactVaryOf.j2 kj39 bt384.2 bt384.1 (bt393.2.2 != t360))) else (laws_FnExactVaryOf.j2 kj39 bt384.2 bt384.1 true))))) else (some false))))) = some r := by rw [if_neg (show ¬ (false = true) by decide)] at H; exact H
         clear H
         have H := H1
         clear H1
         replace H := Option.bind_eq_some_iff.mp H
         obtain ⟨⟨t384, t385⟩, A590, H⟩ := H
         replace H : ((laws_heldStringS.f kj39 t385 1).bind fun t386 => (if t386 < 0 then (some false) else (if t386 = t384 then ((laws_toResponse.f kj39 a0_0 a0_1 l0_2 a0_3).bind fun bt387 => ((impl_VaryOf.f kj39 bt387.1 bt387.2.1 bt387.2.2.1 bt387.2.2.2).bind fun bt393 => ((laws_eqStringS.f kj39 bt393.1 t356).bind fun t398 => (if t398 = true then (if (bt393.2.1 != t359) = true then (laws_FnExactVaryOf.j2 kj39 t385 t384 true) else (laws_FnExactVaryOf.j2 kj39 t385 t384 (bt393.2.2 != t360))) else (laws_FnExactVaryOf.j2 kj39 t385 t384 true))))) else (some false)))) = some r := H
         have A59 := Aside0.mk A590
         clear A590
         replace H := Option.bind_eq_some_iff.mp H
         obtain ⟨t386, A600, H⟩ := H
         replace H : (if t386 < 0 then (some false) else (if t386 = t384 then ((laws_toResponse.f kj39 a0_0 a0_1 l0_2 a0_3).bind fun bt387 => ((impl_VaryOf.f kj39 bt387.1 bt387.2.1 bt387.2.2.1 bt387.2.2.2).bind fun bt393 => ((laws_eqStringS.f kj39 bt393.1 t356).bind fun t398 => (if t398 = true then (if (bt393.2.1 != t359) = true then (laws_FnExactVaryOf.j2 kj39 t385 t384 true) else (laws_FnExactVaryOf.j2 kj39 t385 t384 (bt393.2.2 != t360))) else (laws_FnExactVaryOf.j2 kj39 t385 t384 true))))) else (some false))) = some r := H
         have A60 := Aside0.mk A600
         clear A600
         by_cases c61 : t386 < 0
         ·rw [if_pos c61] at H
          have c61b0 : decide (t386 < 0) = true := decide_eq_true c61
          clear c61
          obtain rfl := Option.some.inj H
          obtain ⟨Ao62, co62, eo62⟩ := Kd.R_slice HO_8.out
          subst eo62
          go_wp2_with (first | ((with_reducible refine gate_callee (f := 26) rfl ?_); refine xgl_ (some 79) Tryz.func26 #[.slice Ao62 t368.length co62, .int .i64 1] ?_; (with_reducible refine (laws_markStringS.calls kj39 (fun k_ => some k_ = (.slice Ao62 t368.length co62 : Value).ownBlock) (.slice Ao62 t368.length co62) t368 1 t384 t385 w _ ?side1 ?side2 A59.out).mono ?_); (case side1 => repeat (first | (with_reducible first | exact HB.out | apply below_alloc | apply pw_below_drewN | apply below_drew1 | refine below_set ?_ GE348.out | refine below_set ?_ GE367.out) | exact HB.out)); (case side2 => exact Kd.R_tight rfl HO_8.out); rintro e w63 ⟨rfl, hy0, hb, hkp⟩; refine ⟨_, rfl, ?_⟩; replace HO_4 := Aside0.mk (Kd.R_mono (ok' := fun k_ => some k_ ≠ (.slice Ao62 t368.length co62 : Value).ownBlock) (Kd.R_keptB (HO_4.out) hkp (fun k_ hk_ hs_ => (hk_) hs_)) (fun k_ hk_ => hk_.1)); replace HO_368002 := Aside0.mk (Kd.R_mono (ok' := fun k_ => True) (Kd.R_keptB ((Kd.R_apart' HO_368002.out (Kd.R_typed HO_8.out) (by decide))) hkp (fun k_ hk_ hs_ => (hk_.2) hs_)) (fun k_ hk_ => trivial)); replace BK348 := Aside0.mk (blk_kept (xb_ BK348) hkp (fun hs_ => (fun e_ => (Kd.R_ne HO_8.out BK348.out (by decide)) e_) hs_)); replace BK367 := Aside0.mk (blk_kept (xb_ BK367) hkp (fun hs_ => (fun e_ => (Kd.R_ne HO_8.out BK367.out (by decide)) e_) hs_)); replace HO_8 := Aside0.mk (Kd.R_reok rfl hy0 (fun k_ e_ => HO_8.out.1 k_ e_)); replace HB := Aside0.mk (hb); (try clear hb); (try clear hkp); (try clear hy0)) | ((with_reducible refine gate_callee (f := 27) rfl ?_); refine goesL_ (some 82) rfl rfl Tryz.func27 (by kernel_rfl) rfl #[.slice Ao62 t385.length co62, .int .i64 1] rfl (by (try simp only [List.map_toArray, List.map_cons, List.map_nil]); first | done | (rw [show t385.length = t368.length from (Kd.R_reads' HO_8.out).1.symm] <;> rfl) | rfl | (simp only [List.length_drop, List.length_take]; rfl)) ?_; (with_reducible refine (laws_heldStringS.calls kj39 _ _ t385 1 t386 _ ?side1 ?side2 A60.out).mono ?_); (case side1 => exact xc_ ((Kd.R_reads' HO_8.out).2.2)); (case side2 => rw [show t385.length = t368.length from (Kd.R_reads' HO_8.out).1.symm]; exact (Kd.R_reads' HO_8.out).2.1); rintro e w64 ⟨rfl, hb⟩; refine ⟨_, rfl, ?_⟩; replace HO_4 := xrb_ HO_4 hb; replace HO_8 := xrb_ HO_8 hb; replace HO_368002 := xrb_ HO_368002 hb; replace BK348 := xbb_ BK348 hb; replace BK367 := xbb_ BK367 hb; replace HB := xws_ HB hb; (try clear hb); (try clear hb2); (try clear hk); (try clear hi)))
          go_ret
          exact ⟨by first | rfl | (simp [errW_none, errW_some] <;> rfl) | (simp [*, errW_none, errW_some] <;> rfl), xw_ HB⟩
         ·rw [if_neg c61] at H
          have c61b0 : decide (t386 < 0) = false := decide_eq_false c61
          clear c61
          by_cases c65 : t386 = t384
          ·rw [if_pos c65] at H
           have c65b0 : (t386 == t384) = true := beq_iff_eq.mpr c65
           have c65b1 : (t386 != t384) = false := bne_eq_false_iff_eq.mpr c65
           clear c65
           replace H := Option.bind_eq_some_iff.mp H
           obtain ⟨⟨t387, t388, t389, t392⟩, A660, H⟩ := H
           replace H : ((impl_VaryOf.f kj39 t387 t388 t389 t392).bind fun bt393 => ((laws_eqStringS.f kj39 bt393.1 t356).bind fun t398 => (if t398 = true then (if (bt393.2.1 != t359) = true then (laws_FnExactVaryOf.j2 kj39 t385 t384 true) else (laws_FnExactVaryOf.j2 kj39 t385 t384 (bt393.2.2 != t360))) else (laws_FnExactVaryOf.j2 kj39 t385 t384 true)))) = some r := H
           have A66 := Aside0.mk A660
           clear A660
           replace H := Option.bind_eq_some_iff.mp H
           obtain ⟨⟨t393, t396, t397⟩, A670, H⟩ := H
           replace H : ((laws_eqStringS.f kj39 t393 t356).bind fun t398 => (if t398 = true then (if (t396 != t359) = true then (laws_FnExactVaryOf.j2 kj39 t385 t384 true) else (laws_FnExactVaryOf.j2 kj39 t385 t384 (t397 != t360))) else (laws_FnExactVaryOf.j2 kj39 t385 t384 true))) = some r := H
           have A67 := Aside0.mk A670
           clear A670
           have HC68 := Aside0.mk H
           clear H
           obtain ⟨Ao69, co69, eo69⟩ := Kd.R_slice HO_8.out
           subst eo69
           go_upto_region 25 with (first | ((with_reducible refine gate_callee (f := 26) rfl ?_); refine xgl_ (some 79) Tryz.func26 #[.slice Ao69 t368.length co69, .int .i64 1] ?_; (with_reducible refine (laws_markStringS.calls kj39 (fun k_ => some k_ = (.slice Ao69 t368.length co69 : Value).ownBlock) (.slice Ao69 t368.length co69) t368 1 t384 t385 w _ ?side1 ?side2 A59.out).mono ?_); (case side1 => repeat (first | (with_reducible first | exact HB.out | apply below_alloc | apply pw_below_drewN | apply below_drew1 | refine below_set ?_ GE348.out | refine below_set ?_ GE367.out) | exact HB.out)); (case side2 => exact Kd.R_tight rfl HO_8.out); rintro e w70 ⟨rfl, hy0, hb, hkp⟩; refine ⟨_, rfl, ?_⟩; replace HO_4 := Aside0.mk (Kd.R_mono (ok' := fun k_ => some k_ ≠ (.slice Ao69 t368.length co69 : Value).ownBlock) (Kd.R_keptB (HO_4.out) hkp (fun k_ hk_ hs_ => (hk_) hs_)) (fun k_ hk_ => hk_.1)); replace HO_368002 := Aside0.mk (Kd.R_mono (ok' := fun k_ => True) (Kd.R_keptB ((Kd.R_apart' HO_368002.out (Kd.R_typed HO_8.out) (by decide))) hkp (fun k_ hk_ hs_ => (hk_.2) hs_)) (fun k_ hk_ => trivial)); replace BK348 := Aside0.mk (blk_kept (xb_ BK348) hkp (fun hs_ => (fun e_ => (Kd.R_ne HO_8.out BK348.out (by decide)) e_) hs_)); replace BK367 := Aside0.mk (blk_kept (xb_ BK367) hkp (fun hs_ => (fun e_ => (Kd.R_ne HO_8.out BK367.out (by decide)) e_) hs_)); replace HO_8 := Aside0.mk (Kd.R_reok rfl hy0 (fun k_ e_ => HO_8.out.1 k_ e_)); replace HB := Aside0.mk (hb); (try clear hb); (try clear hkp); (try clear hy0)) | ((with_reducible refine gate_callee (f := 27) rfl ?_); refine goesL_ (some 82) rfl rfl Tryz.func27 (by kernel_rfl) rfl #[.slice Ao69 t385.length co69, .int .i64 1] rfl (by (try simp only [List.map_toArray, List.map_cons, List.map_nil]); first | done | (rw [show t385.length = t368.length from (Kd.R_reads' HO_8.out).1.symm] <;> rfl) | rfl | (simp only [List.length_drop, List.length_take]; rfl)) ?_; (with_reducible refine (laws_heldStringS.calls kj39 _ _ t385 1 t386 _ ?side1 ?side2 A60.out).mono ?_); (case side1 => exact xc_ ((Kd.R_reads' HO_8.out).2.2)); (case side2 => rw [show t385.length = t368.length from (Kd.R_reads' HO_8.out).1.symm]; exact (Kd.R_reads' HO_8.out).2.1); rintro e w71 ⟨rfl, hb⟩; refine ⟨_, rfl, ?_⟩; replace HO_4 := xrb_ HO_4 hb; replace HO_8 := xrb_ HO_8 hb; replace HO_368002 := xrb_ HO_368002 hb; replace BK348 := xbb_ BK348 hb; replace BK367 := xbb_ BK367 hb; replace HB := xws_ HB hb; (try clear hb); (try clear hb2); (try clear hk); (try clear hi); have hnb72 := NB348_367.out; have hnc72 := NB367_348.out; have ⟨_, _, _, _, _, _, _, _⟩ := c4_ BK348) | ((with_reducible refine gate_callee (f := 21) rfl ?_); refine xgl_ (some 90) Tryz.func21 #[.agg #[.int .i64 a0_0, .string a0_1, .slice A0_2 l0_2.length c0_2, .string a0_3]] ?_; (with_reducible refine (laws_toResponse.calls kj39 a0_0 a0_1 _ _ l0_2 a0_3 t387 t388 t389 t392 _ ?side1 ?side2 A66.out).mono ?_); (case side1 => exact xc_ ((Kd.C_below HR0_2.out HB.out))); (case side2 => exact HC0_2.out); rintro e w74 ⟨v390, rfl, ho0, hb⟩; refine ⟨_, rfl, ?_⟩; replace HO_4 := xrb_ HO_4 hb; replace HO_8 := xrb_ HO_8 hb; have HO391 := Aside0.mk (Kd.R_lower (Kd.R_new' ho0 (Kd.R_lt (xr_ HO_368002))) (below_size (xw_ HB))); replace HO_368002 := xre_ HO_368002 ho0 hb; replace BK348 := xbb_ BK348 hb; replace BK367 := xbb_ BK367 hb; replace HB := xws_ HB hb; (try clear hb); (try clear hb2); (try clear hk); (try clear hi); (try clear ho0); obtain ⟨Ao75, co75, eo75⟩ := Kd.R_slice HO391.out; subst eo75) | ((with_reducible refine gate_callee (f := 22) rfl ?_); refine xgl_ (some 91) Tryz.func22 #[.agg #[.int .i64 t387, .string t388, .slice Ao75 t389.length co75, .string t392]] ?_; (with_reducible refine (impl_VaryOf.calls kj39 t387 t388 _ _ t389 t392 t393 t396 t397 _ ?side1 ?side2 A67.out (HTB_.out.below (by first | (with_reducible exact Below.refl _ _) | (repeat (first | (with_reducible first | exact HB.out | exact Below.refl _ _ | apply below_alloc | apply pw_below_drewN | apply below_drew1 | refine below_set ?_ GE348.out | refine below_set ?_ GE367.out) | exact HB.out)) | (repeat (first | exact Below.refl _ _ | apply below_alloc | apply pw_below_drewN | apply below_drew1 | refine below_set ?_ GE348.out | refine below_set ?_ GE367.out))))).mono ?_); (case side1 => exact xc_ ((Kd.R_reads' HO391.out).2.2)); (case side2 => exact (Kd.R_reads' HO391.out).2.1); rintro e w76 ⟨v394, rfl, ho0, hb⟩; refine ⟨_, rfl, ?_⟩; replace HO_368002 := xrb_ HO_368002 hb; replace HO391 := xrb_ HO391 hb; have HO395 := Aside0.mk (Kd.R_lower (Kd.R_new' (Kd.R_new' ho0 (Kd.R_lt (xr_ HO_4))) (Kd.R_lt (xr_ HO_8))) (below_size (xw_ HB))); replace HO_4 := xre_ HO_4 ho0 hb; replace HO_8 := xre_ HO_8 ho0 hb; replace BK348 := xbb_ BK348 hb; replace BK367 := xbb_ BK367 hb; replace HB := xws_ HB hb; (try clear hb); (try clear hb2); (try clear hk); (try clear hi); (try clear ho0)))
           (try simp only [Act.put, List.setIfInBounds_toArray, List.set_cons_zero, List.set_cons_succ])
           go_cut [108] (fun v108 wc => ∃ (kq : Nat) (x108_67 : Bool), v108 = .bool x108_67 ∧ Aside0 (laws_FnExactVaryOf.j2 kq t385 t384 x108_67 = some r) ∧ Aside0 (kq ≤ kj39) ∧ Aside0 (Kd.R Kd.string 9 wc w.heap.size (fun _ => True) (.slice Ao69 t368.length co69) t385) ∧ Aside0 (Kd.R k105 105 wc w.heap.size (fun _ => True) (.slice Ao24 t382.length co24) t382) ∧ Aside0 (wc.heap[gb348]? = some (.cells #[.int .i64 a0_0, .string a0_1, (.slice A0_2 l0_2.length c0_2), .string a0_3] 48 (0, 0))) ∧ Aside0 (wc.heap[gb367]? = some (.cells #[.int .i64 t361, .string t362, (.slice Ao24 t382.length co24), .string t366] 54 (0, 0))) ∧ Aside0 (Below w.heap.size w wc))
           case first =>
            have H := HC68.out
            clear HC68
            replace H := Option.bind_eq_some_iff.mp H
            obtain ⟨t398, A770, H⟩ := H
            replace H : (if t398 = true then (if (t396 != t359) = true then (laws_FnExactVaryOf.j2 kj39 t385 t384 true) else (laws_FnExactVaryOf.j2 kj39 t385 t384 (t397 != t360))) else (laws_FnExactVaryOf.j2 kj39 t385 t384 true)) = some r := H
            have A77 := Aside0.mk A770
            clear A770
            by_cases c78 : t398 = true
            ·subst c78
             have H1 : (if (t396 != t359) = true then (laws_FnExactVaryOf.j2 kj39 t385 t384 true) else (laws_FnExactVaryOf.j2 kj39 t385 t384 (t397 != t360))) = some r := by rw [if_pos rfl] at H; exact H
             clear H
             have H := H1
             clear H1
             by_cases c79 : (t396 != t359) = true
             ·rw [if_pos c79] at H
              have c79b0 : (t396 != t359) = true := c79
              (try (have c79b1 : decide (t396 = t359) = false := by simpa using c79))
              (try (have c79b2 : (t396 == t359) = false := by simpa using c79))
              (try (have c79b3 : ¬ (t396 = t359) := by simpa using c79))
              clear c79
              (first | rw [c79b0] | (simp only [i64_w, i32_w]; rw [c79b0]) | skip)
              have H' := Aside0.mk H
              clear H
              obtain ⟨Ao80, co80, eo80⟩ := Kd.R_slice HO395.out
              subst eo80
              obtain ⟨Ao81, co81, eo81⟩ := Kd.R_slice HO_4.out
              subst eo81
              go_wp2_with (first | ((with_reducible refine gate_callee (f := 23) rfl ?_); refine xgl_ (some 97) Tryz.func23 #[.slice Ao80 t393.length co80, .slice Ao81 t356.length co81] ?_; (with_reducible refine (laws_eqStringS.calls kj39 _ _ t393 _ _ t356 true _ ?side1 ?side2 ?side3 ?side4 A77.out).mono ?_); (case side1 => exact xc_ ((Kd.R_reads' HO395.out).2.2)); (case side2 => exact (Kd.R_reads' HO395.out).2.1); (case side3 => exact xc_ ((Kd.R_reads' HO_4.out).2.2)); (case side4 => exact (Kd.R_reads' HO_4.out).2.1); rintro e w' ⟨rfl, ⟨nd, rfl⟩⟩; refine ⟨_, rfl, ?_⟩))
              go_meet
              case rel => exact ⟨_, (true), (by first | rfl | (simp; done) | (simp [*]; done)), H', ⟨by have := HJ10.out; have := HJ39.out; first | omega | exact Nat.le_refl _⟩, ⟨by (try simp only [hl368002_39]); (with_reducible repeat (first | apply Kd.R_alloc | apply Kd.R_drewN | apply Kd.R_drew)); exact Kd.R_mono HO_8.out (fun _ hk => trivial)⟩, ⟨by (try simp only [hl368002_39]); (with_reducible repeat (first | apply Kd.R_alloc | apply Kd.R_drewN | apply Kd.R_drew)); exact Kd.R_mono HO_368002.out (fun _ hk => trivial)⟩, ⟨by (try simp only [hl368002_39]); (with_reducible repeat first | apply bN_ | apply bD_ | apply bA_); exact BK348.out⟩, ⟨by (try simp only [hl368002_39]); (with_reducible repeat first | apply bN_ | apply bD_ | apply bA_); exact BK367.out⟩, ⟨xw_ HB⟩⟩
             ·rw [if_neg c79] at H
              have c79b0 : (t396 != t359) = false := by simpa using c79
              (try (have c79b1 : decide (t396 = t359) = true := by simpa using c79))
              (try (have c79b2 : (t396 == t359) = true := by simpa using c79))
              clear c79
              (first | rw [c79b0] | (simp only [i64_w, i32_w]; rw [c79b0]) | skip)
              have H' := Aside0.mk H
              clear H
              obtain ⟨Ao82, co82, eo82⟩ := Kd.R_slice HO395.out
              subst eo82
              obtain ⟨Ao83, co83, eo83⟩ := Kd.R_slice HO_4.out
              subst eo83
              go_wp2_with (first | ((with_reducible refine gate_callee (f := 23) rfl ?_); refine xgl_ (some 97) Tryz.func23 #[.slice Ao82 t393.length co82, .slice Ao83 t356.length co83] ?_; (with_reducible refine (laws_eqStringS.calls kj39 _ _ t393 _ _ t356 true _ ?side1 ?side2 ?side3 ?side4 A77.out).mono ?_); (case side1 => exact xc_ ((Kd.R_reads' HO395.out).2.2)); (case side2 => exact (Kd.R_reads' HO395.out).2.1); (case side3 => exact xc_ ((Kd.R_reads' HO_4.out).2.2)); (case side4 => exact (Kd.R_reads' HO_4.out).2.1); rintro e w' ⟨rfl, ⟨nd, rfl⟩⟩; refine ⟨_, rfl, ?_⟩))
              go_meet
              case rel => exact ⟨_, ((t397 != t360)), (by first | rfl | (simp; done) | (simp [*]; done)), H', ⟨by have := HJ10.out; have := HJ39.out; first | omega | exact Nat.le_refl _⟩, ⟨by (try simp only [hl368002_39]); (with_reducible repeat (first | apply Kd.R_alloc | apply Kd.R_drewN | apply Kd.R_drew)); exact Kd.R_mono HO_8.out (fun _ hk => trivial)⟩, ⟨by (try simp only [hl368002_39]); (with_reducible repeat (first | apply Kd.R_alloc | apply Kd.R_drewN | apply Kd.R_drew)); exact Kd.R_mono HO_368002.out (fun _ hk => trivial)⟩, ⟨by (try simp only [hl368002_39]); (with_reducible repeat first | apply bN_ | apply bD_ | apply bA_); exact BK348.out⟩, ⟨by (try simp only [hl368002_39]); (with_reducible repeat first | apply bN_ | apply bD_ | apply bA_); exact BK367.out⟩, ⟨xw_ HB⟩⟩
            ·replace c78 := Bool.eq_false_iff.mpr c78
             subst c78
             have H1 : (laws_FnExactVaryOf.j2 kj39 t385 t384 true) = some r := by rw [if_neg (show ¬ (false = true) by decide)] at H; exact H
             clear H
             have H := H1
             clear H1
             have H' := Aside0.mk H
             clear H
             obtain ⟨Ao84, co84, eo84⟩ := Kd.R_slice HO395.out
             subst eo84
             obtain ⟨Ao85, co85, eo85⟩ := Kd.R_slice HO_4.out
             subst eo85
             go_wp2_with (first | ((with_reducible refine gate_callee (f := 23) rfl ?_); refine xgl_ (some 97) Tryz.func23 #[.slice Ao84 t393.length co84, .slice Ao85 t356.length co85] ?_; (with_reducible refine (laws_eqStringS.calls kj39 _ _ t393 _ _ t356 false _ ?side1 ?side2 ?side3 ?side4 A77.out).mono ?_); (case side1 => exact xc_ ((Kd.R_reads' HO395.out).2.2)); (case side2 => exact (Kd.R_reads' HO395.out).2.1); (case side3 => exact xc_ ((Kd.R_reads' HO_4.out).2.2)); (case side4 => exact (Kd.R_reads' HO_4.out).2.1); rintro e w' ⟨rfl, ⟨nd, rfl⟩⟩; refine ⟨_, rfl, ?_⟩))
             go_meet
             case rel => exact ⟨_, (true), (by first | rfl | (simp; done) | (simp [*]; done)), H', ⟨by have := HJ10.out; have := HJ39.out; first | omega | exact Nat.le_refl _⟩, ⟨by (try simp only [hl368002_39]); (with_reducible repeat (first | apply Kd.R_alloc | apply Kd.R_drewN | apply Kd.R_drew)); exact Kd.R_mono HO_8.out (fun _ hk => trivial)⟩, ⟨by (try simp only [hl368002_39]); (with_reducible repeat (first | apply Kd.R_alloc | apply Kd.R_drewN | apply Kd.R_drew)); exact Kd.R_mono HO_368002.out (fun _ hk => trivial)⟩, ⟨by (try simp only [hl368002_39]); (with_reducible repeat first | apply bN_ | apply bD_ | apply bA_); exact BK348.out⟩, ⟨by (try simp only [hl368002_39]); (with_reducible repeat first | apply bN_ | apply bD_ | apply bA_); exact BK367.out⟩, ⟨xw_ HB⟩⟩
           case rest =>
            clear HC68
            try clear c1
            try clear c2
            try clear p2
            try clear c3
            try clear c3b0
            try clear c4
            try clear c5
            try clear c6
            try clear c7
            try clear c19
            try clear c20
            try clear c21
            try clear c22
            try clear c23
            try clear c24
            try clear c25
            try clear c26
            try clear c27
            try clear c28
            try clear c28b0
            try clear c28b1
            try clear c28b2
            try clear c35
            try clear c38
            try clear c45
            try clear c48
            try clear c48b0
            try clear c50
            try clear c51
            try clear c51b0
            try clear c51b1
            try clear c51b2
            try clear c58
            try clear c61
            try clear c61b0
            try clear c65
            try clear c65b0
            try clear c65b1
            try clear c72
            try clear c78
            try clear c79
            try clear c79b0
            try clear c79b1
            try clear c79b2
            try clear p2
            obtain ⟨kq, x108_67, rfl, HA, HJ67, HO_8, HO_368002, BK348, BK367, HB⟩ := hcut
            have hl8_67 := (Kd.R_reads' HO_8.out).1
            rw [hl8_67] at HO_8
            (try simp only [hl8_67])
            (try simp only [hl8_67] at BK348)
            (try simp only [hl8_67] at BK367)
            (try simp only [hl8_67] at HO_368002)
            cases kq with
            | zero => exact absurd HA.out (by simp [laws_FnExactVaryOf.j2])
            | succ kj67 =>
             have H := HA.out
             clear HA
             simp only [laws_FnExactVaryOf.j2] at H
             by_cases c86 : x108_67 = true
             ·subst c86
              have H1 : (some false) = some r := by rw [if_pos rfl] at H; exact H
              clear H
              have H := H1
              clear H1
              obtain rfl := Option.some.inj H
              go_wp2
              go_ret
              exact ⟨by first | rfl | (simp [errW_none, errW_some] <;> rfl) | (simp [*, errW_none, errW_some] <;> rfl), xw_ HB⟩
             ·replace c86 := Bool.eq_false_iff.mpr c86
              subst c86
              have H1 : ((laws_heldStringS.f kj67 t385 1).bind fun t399 => (if t399 < 0 then (some false) else (if t399 = t384 then (some true) else (some false)))) = some r := by rw [if_neg (show ¬ (false = true) by decide)] at H; exact H
              clear H
              have H := H1
              clear H1
              replace H := Option.bind_eq_some_iff.mp H
              obtain ⟨t399, A870, H⟩ := H
              replace H : (if t399 < 0 then (some false) else (if t399 = t384 then (some true) else (some false))) = some r := H
              have A87 := Aside0.mk A870
              clear A870
              by_cases c88 : t399 < 0
              ·rw [if_pos c88] at H
               have c88b0 : decide (t399 < 0) = true := decide_eq_true c88
               clear c88
               obtain rfl := Option.some.inj H
               go_wp2_with (first | ((with_reducible refine gate_callee (f := 27) rfl ?_); refine xgl_ (some 111) Tryz.func27 #[.slice Ao69 t385.length co69, .int .i64 1] ?_; (with_reducible refine (laws_heldStringS.calls kj67 _ _ t385 1 t399 _ ?side1 ?side2 A87.out).mono ?_); (case side1 => exact xc_ ((Kd.R_reads' HO_8.out).2.2)); (case side2 => exact (Kd.R_reads' HO_8.out).2.1); rintro e w89 ⟨rfl, hb⟩; refine ⟨_, rfl, ?_⟩; replace HO_8 := xrb_ HO_8 hb; replace HO_368002 := xrb_ HO_368002 hb; replace BK348 := xbb_ BK348 hb; replace BK367 := xbb_ BK367 hb; replace HB := xws_ HB hb; (try clear hb); (try clear hb2); (try clear hk); (try clear hi)))
               go_ret
               exact ⟨by first | rfl | (simp [errW_none, errW_some] <;> rfl) | (simp [*, errW_none, errW_some] <;> rfl), xw_ HB⟩
              ·rw [if_neg c88] at H
               have c88b0 : decide (t399 < 0) = false := decide_eq_false c88
               clear c88
               by_cases c90 : t399 = t384
               ·rw [if_pos c90] at H
                have c90b0 : (t399 == t384) = true := beq_iff_eq.mpr c90
                have c90b1 : (t399 != t384) = false := bne_eq_false_iff_eq.mpr c90
                clear c90
                obtain rfl := Option.some.inj H
                go_wp2_with (first | ((with_reducible refine gate_callee (f := 27) rfl ?_); refine xgl_ (some 111) Tryz.func27 #[.slice Ao69 t385.length co69, .int .i64 1] ?_; (with_reducible refine (laws_heldStringS.calls kj67 _ _ t385 1 t399 _ ?side1 ?side2 A87.out).mono ?_); (case side1 => exact xc_ ((Kd.R_reads' HO_8.out).2.2)); (case side2 => exact (Kd.R_reads' HO_8.out).2.1); rintro e w91 ⟨rfl, hb⟩; refine ⟨_, rfl, ?_⟩; replace HO_8 := xrb_ HO_8 hb; replace HO_368002 := xrb_ HO_368002 hb; replace BK348 := xbb_ BK348 hb; replace BK367 := xbb_ BK367 hb; replace HB := xws_ HB hb; (try clear hb); (try clear hb2); (try clear hk); (try clear hi)))
                go_ret
                exact ⟨by first | rfl | (simp [errW_none, errW_some] <;> rfl) | (simp [*, errW_none, errW_some] <;> rfl), xw_ HB⟩
               ·rw [if_neg c90] at H
                have c90b0 : (t399 == t384) = false := beq_eq_false_iff_ne.mpr c90
                have c90b1 : (t399 != t384) = true := bne_iff_ne.mpr c90
                obtain rfl := Option.some.inj H
                go_wp2_with (first | ((with_reducible refine gate_callee (f := 27) rfl ?_); refine xgl_ (some 111) Tryz.func27 #[.slice Ao69 t385.length co69, .int .i64 1] ?_; (with_reducible refine (laws_heldStringS.calls kj67 _ _ t385 1 t399 _ ?side1 ?side2 A87.out).mono ?_); (case side1 => exact xc_ ((Kd.R_reads' HO_8.out).2.2)); (case side2 => exact (Kd.R_reads' HO_8.out).2.1); rintro e w92 ⟨rfl, hb⟩; refine ⟨_, rfl, ?_⟩; replace HO_8 := xrb_ HO_8 hb; replace HO_368002 := xrb_ HO_368002 hb; replace BK348 := xbb_ BK348 hb; replace BK367 := xbb_ BK367 hb; replace HB := xws_ HB hb; (try clear hb); (try clear hb2); (try clear hk); (try clear hi)))
                go_ret
                exact ⟨by first | rfl | (simp [errW_none, errW_some] <;> rfl) | (simp [*, errW_none, errW_some] <;> rfl), xw_ HB⟩
          ·rw [if_neg c65] at H
           have c65b0 : (t386 == t384) = false := beq_eq_false_iff_ne.mpr c65
           have c65b1 : (t386 != t384) = true := bne_iff_ne.mpr c65
           obtain rfl := Option.some.inj H
           obtain ⟨Ao93, co93, eo93⟩ := Kd.R_slice HO_8.out
           subst eo93
           go_wp2_with (first | ((with_reducible refine gate_callee (f := 26) rfl ?_); refine xgl_ (some 79) Tryz.func26 #[.slice Ao93 t368.length co93, .int .i64 1] ?_; (with_reducible refine (laws_markStringS.calls kj39 (fun k_ => some k_ = (.slice Ao93 t368.length co93 : Value).ownBlock) (.slice Ao93 t368.length co93) t368 1 t384 t385 w _ ?side1 ?side2 A59.out).mono ?_); (case side1 => repeat (first | (with_reducible first | exact HB.out | apply below_alloc | apply pw_below_drewN | apply below_drew1 | refine below_set ?_ GE348.out | refine below_set ?_ GE367.out) | exact HB.out)); (case side2 => exact Kd.R_tight rfl HO_8.out); rintro e w94 ⟨rfl, hy0, hb, hkp⟩; refine ⟨_, rfl, ?_⟩; replace HO_4 := Aside0.mk (Kd.R_mono (ok' := fun k_ => some k_ ≠ (.slice Ao93 t368.length co93 : Value).ownBlock) (Kd.R_keptB (HO_4.out) hkp (fun k_ hk_ hs_ => (hk_) hs_)) (fun k_ hk_ => hk_.1)); replace HO_368002 := Aside0.mk (Kd.R_mono (ok' := fun k_ => True) (Kd.R_keptB ((Kd.R_apart' HO_368002.out (Kd.R_typed HO_8.out) (by decide))) hkp (fun k_ hk_ hs_ => (hk_.2) hs_)) (fun k_ hk_ => trivial)); replace BK348 := Aside0.mk (blk_kept (xb_ BK348) hkp (fun hs_ => (fun e_ => (Kd.R_ne HO_8.out BK348.out (by decide)) e_) hs_)); replace BK367 := Aside0.mk (blk_kept (xb_ BK367) hkp (fun hs_ => (fun e_ => (Kd.R_ne HO_8.out BK367.out (by decide)) e_) hs_)); replace HO_8 := Aside0.mk (Kd.R_reok rfl hy0 (fun k_ e_ => HO_8.out.1 k_ e_)); replace HB := Aside0.mk (hb); (try clear hb); (try clear hkp); (try clear hy0)) | ((with_reducible refine gate_callee (f := 27) rfl ?_); refine goesL_ (some 82) rfl rfl Tryz.func27 (by kernel_rfl) rfl #[.slice Ao93 t385.length co93, .int .i64 1] rfl (by (try simp only [List.map_toArray, List.map_cons, List.map_nil]); first | done | (rw [show t385.length = t368.length from (Kd.R_reads' HO_8.out).1.symm] <;> rfl) | rfl | (simp only [List.length_drop, List.length_take]; rfl)) ?_; (with_reducible refine (laws_heldStringS.calls kj39 _ _ t385 1 t386 _ ?side1 ?side2 A60.out).mono ?_); (case side1 => exact xc_ ((Kd.R_reads' HO_8.out).2.2)); (case side2 => rw [show t385.length = t368.length from (Kd.R_reads' HO_8.out).1.symm]; exact (Kd.R_reads' HO_8.out).2.1); rintro e w95 ⟨rfl, hb⟩; refine ⟨_, rfl, ?_⟩; replace HO_4 := xrb_ HO_4 hb; replace HO_8 := xrb_ HO_8 hb; replace HO_368002 := xrb_ HO_368002 hb; replace BK348 := xbb_ BK348 hb; replace BK367 := xbb_ BK367 hb; replace HB := xws_ HB hb; (try clear hb); (try clear hb2); (try clear hk); (try clear hi)))
           go_ret
           exact ⟨by first | rfl | (simp [errW_none, errW_some] <;> rfl) | (simp [*, errW_none, errW_some] <;> rfl), xw_ HB⟩
     ·replace c38 := Bool.eq_false_iff.mpr c38
      subst c38
      have H1 : (some false) = some r := by rw [if_neg (show ¬ (false = true) by decide)] at H; exact H
      clear H
      have H := H1
      clear H1
      obtain rfl := Option.some.inj H
      try go_wp2
      replace HO_4 := Aside0.mk (Kd.R_drew HO_4.out)
      replace HO_8 := Aside0.mk (Kd.R_drew HO_8.out)
      replace HO_368002 := Aside0.mk (Kd.R_drew HO_368002.out)
      replace BK348 := Aside0.mk (blk_drew BK348.out)
      replace BK367 := Aside0.mk (blk_drew BK367.out)
      replace HB := Aside0.mk (below_drew1 HB.out)
      refine start_ (n := 5) (S := fun w' => w'.cell? ⟨gb367, 0, none⟩ = some (.int .i64 t361) ∧ w'.cell? ⟨gb367, 1, none⟩ = some (.string t362) ∧ w'.cell? ⟨gb367, 2, none⟩ = some (.slice Ao24 t363.length co24) ∧ w'.cell? ⟨gb367, 3, none⟩ = some (.string t366) ∧ w'.cell? ⟨gb348, 0, none⟩ = some (.int .i64 a0_0) ∧ w'.cell? ⟨gb348, 1, none⟩ = some (.string a0_1) ∧ w'.cell? ⟨gb348, 2, none⟩ = some (.slice A0_2 l0_2.length c0_2) ∧ w'.cell? ⟨gb348, 3, none⟩ = some (.string a0_3)) (ds := []) #[false, false, false, false, false] (by kernel_rfl) rfl rfl ⟨xk_ BK367 0, xk_ BK367 1, xk_ BK367 2, xk_ BK367 3, xk_ BK348 0, xk_ BK348 1, xk_ BK348 2, xk_ BK348 3⟩ (fun hHeld => ?_)
      generalize wc.drew = w96 at HO_4 HO_8 HO_368002 BK348 BK367 HB hHeld ⊢
      refine take_ (i := 0) (N := some 51) (v := ?_) (a' := ?_) #[true, false, false, false, false] rfl rfl (by kernel_rfl) (fun _ _ _ h => h) (Or.inl ⟨by rfl, ?_⟩) hHeld ?_ ?_
      rotate_left
      ·rintro w' ⟨s0, s1, s2, s3, s4, s5, s6, s7⟩
       go_simp
       with_reducible rfl
      rotate_left
      ·simp only [Act.put, List.setIfInBounds_toArray, List.set_cons_zero, List.set_cons_succ, i64_w, i32_w]
       rfl
      refine take_ (i := 1) (N := some 52) (v := ?_) (a' := ?_) #[true, true, false, false, false] rfl rfl (by kernel_rfl) (fun _ _ _ h => h) (Or.inl ⟨by rfl, ?_⟩) hHeld ?_ ?_
      rotate_left
      ·rintro w' ⟨s0, s1, s2, s3, s4, s5, s6, s7⟩
       go_simp
       with_reducible rfl
      rotate_left
      ·simp only [Act.put, List.setIfInBounds_toArray, List.set_cons_zero, List.set_cons_succ, i64_w, i32_w]
       rfl
      refine one_ (i := 2) (N := some 53) #[true, true, true, false, false] rfl rfl (by kernel_rfl) (by decide) (fun K hK => ?_)
      refine xgo_ Tryz.func21 #[.agg #[.int .i64 a0_0, .string a0_1, .slice A0_2 l0_2.length c0_2, .string a0_3]] ?_
      with_reducible refine (laws_toResponse.calls kj10 a0_0 a0_1 _ _ l0_2 a0_3 t374 t375 t376 t379 _ ?side1 ?side2 A36.out).mono ?_
      (case side1 => exact xc_ ((Kd.C_below HR0_2.out HB.out)))
      (case side2 => exact HC0_2.out)
      rintro e w97 ⟨v377, rfl, ho0, hb⟩
      refine ⟨_, rfl, ?_⟩
      replace HO_4 := xrb_ HO_4 hb
      replace HO_8 := xrb_ HO_8 hb
      have HO378 := Aside0.mk (Kd.R_lower (Kd.R_new' ho0 (Kd.R_lt (xr_ HO_368002))) (below_size (xw_ HB)))
      replace HO_368002 := xre_ HO_368002 ho0 hb
      replace BK348 := xbb_ BK348 hb
      replace BK367 := xbb_ BK367 hb
      replace HB := xws_ HB hb
      (try clear hb)
      (try clear hb2)
      (try clear hk)
      (try clear hi)
      (try clear ho0)
      obtain ⟨Ao98, co98, eo98⟩ := Kd.R_slice HO378.out
      (first | subst eo98 | (injection eo98 with f1_ f2_ f3_; have f4_ := f1_.symm; have f5_ := f3_.symm; clear f1_ f2_ f3_; subst f4_; subst f5_))
      refine hK.out _ _ ⟨xk_ BK367 0, xk_ BK367 1, xk_ BK367 2, xk_ BK367 3, xk_ BK348 0, xk_ BK348 1, xk_ BK348 2, xk_ BK348 3⟩ (fun hHeld => ?_)
      clear hK K
      refine norm_ (a' := ?_) ?_ ?_
      rotate_left
      ·show Act.put _ (some 53) _ = _
       simp only [Act.put, List.setIfInBounds_toArray, List.set_cons_zero, List.set_cons_succ, i64_w, i32_w]
       rfl
      refine one_ (i := 3) (N := some 54) #[true, true, true, true, false] rfl rfl (by kernel_rfl) (by decide) (fun K hK => ?_)
      refine xgo_ Tryz.func24 #[.agg #[.int .i64 t361, .string t362, .slice Ao24 t363.length co24, .string t366], .agg #[.int .i64 t374, .string t375, .slice Ao98 t376.length co98, .string t379]] ?_
      with_reducible refine (laws_eqResponse.calls kj10 t361 t362 _ _ t363 t366 t374 t375 _ _ t376 t379 false _ ?side1 ?side2 ?side3 ?side4 A37.out).mono ?_
      (case side1 => exact xc_ ((Kd.R_reads' HO_368002.out).2.2))
      (case side2 => exact (Kd.R_reads' HO_368002.out).2.1)
      (case side3 => exact xc_ ((Kd.R_reads' HO378.out).2.2))
      (case side4 => exact (Kd.R_reads' HO378.out).2.1)
      rintro e w99 ⟨rfl, hb⟩
      refine ⟨_, rfl, ?_⟩
      replace HO_4 := xrb_ HO_4 hb
      replace HO_8 := xrb_ HO_8 hb
      replace HO_368002 := xrb_ HO_368002 hb
      replace HO378 := xrb_ HO378 hb
      replace BK348 := xbb_ BK348 hb
      replace BK367 := xbb_ BK367 hb
      replace HB := xws_ HB hb
      (try clear hb)
      (try clear hb2)
      (try clear hk)
      (try clear hi)
      refine hK.out _ _ ⟨xk_ BK367 0, xk_ BK367 1, xk_ BK367 2, xk_ BK367 3, xk_ BK348 0, xk_ BK348 1, xk_ BK348 2, xk_ BK348 3⟩ (fun hHeld => ?_)
      clear hK K
      refine norm_ (a' := ?_) ?_ ?_
      rotate_left
      ·show Act.put _ (some 54) _ = _
       simp only [Act.put, List.setIfInBounds_toArray, List.set_cons_zero, List.set_cons_succ, i64_w, i32_w]
       rfl
      refine pure_ (i := 4) (N := some 55) (v := ?_) (a' := ?_) #[true, true, true, true, true] rfl rfl (by kernel_rfl) (fun _ _ _ h => h) (Or.inl ⟨by rfl, ?_⟩) ?_ ?_
      rotate_left
      ·intro w'
       go_simp
       with_reducible rfl
      rotate_left
      ·simp only [Act.put, List.setIfInBounds_toArray, List.set_cons_zero, List.set_cons_succ, i64_w, i32_w]
       rfl
      refine done_ (by kernel_rfl) ?_
      try go_wp2
      go_ret
      exact ⟨by first | rfl | (simp [errW_none, errW_some] <;> rfl) | (simp [*, errW_none, errW_some] <;> rfl), xw_ HB⟩

/-- THE ONE PURE STATEMENT of laws_FnExactVaryOf: yours. -/
def laws_FnExactVaryOf.Pure : Prop := ∀ (a0_0 : Int) (a0_1 : ByteArray) (l0_2 : List (S97)) (a0_3 : ByteArray), (Lit.int .i64 a0_0).wf = true → a0_1.size ≤ maxLen → l0_2.length ≤ maxLen → (∀ x ∈ l0_2, x.f0.size ≤ maxLen ∧ x.f1.size ≤ maxLen) → a0_3.size ≤ maxLen → ∃ k, laws_FnExactVaryOf.f k a0_0 a0_1 l0_2 a0_3 = some true
theorem laws_FnExactVaryOf.walk (P : laws_FnExactVaryOf.Pure) (a0_0 : Int) (a0_1 : ByteArray) (A0_2 : Option Addr) (c0_2 : Nat) (l0_2 : List (S97)) (a0_3 : ByteArray) (w : World) (w0_0 : (Lit.int .i64 a0_0).wf = true) (w0_1 : a0_1.size ≤ maxLen) (wr0_2 : Kd.C k97 w A0_2 l0_2.length l0_2) (wc0_2 : l0_2.length ≤ c0_2) (wm0_2 : l0_2.length ≤ maxLen) (ww0_2 : ∀ x ∈ l0_2, x.f0.size ≤ maxLen ∧ x.f1.size ≤ maxLen) (w0_3 : a0_3.size ≤ maxLen) (hT_ : TabOk w) :
  Calls Tryz.prog 5 #[.agg #[.int .i64 a0_0, .string a0_1, .slice A0_2 l0_2.length c0_2, .string a0_3]] w fun e w' => e = .returned (.bool true) ∧ Below w.heap.size w w' := by
 obtain ⟨k, h⟩ := P a0_0 a0_1 l0_2 a0_3 w0_0 w0_1 wm0_2 ww0_2 w0_3
 refine (laws_FnExactVaryOf.calls k a0_0 a0_1 _ _ l0_2 a0_3 true w wr0_2 wc0_2 h hT_).mono ?_
 rintro e w' ⟨rfl, hd⟩
 exact ⟨rfl, hd⟩

end Go.Proofs.YtpggepjfhgalkaaGreatDoor.PFnExactVaryOf
