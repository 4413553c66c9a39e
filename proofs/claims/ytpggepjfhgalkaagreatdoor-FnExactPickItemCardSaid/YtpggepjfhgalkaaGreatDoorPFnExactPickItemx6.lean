-- Written by a program of this project (xprint.py) out of the translation; Lean checks it.
import Derived.Test.YtpggepjfhgalkaaGreatDoorPFnExactPickItemx0
import Derived.Test.YtpggepjfhgalkaaGreatDoorPFnExactPickItemx3
import Derived.Test.YtpggepjfhgalkaaGreatDoorPFnExactPickItemx5
namespace Go.Proofs.YtpggepjfhgalkaaGreatDoor.PFnExactPickItem
open Go.RowKit Go.Proofs.YtpggepjfhgalkaaGreatDoorW.PrintWords Go.Proofs.YtpggepjfhgalkaaGreatDoorW.PrintLast Go.Proofs.YtpggepjfhgalkaaGreatDoorW.PrintMore
attribute [local go_sem] max2_int min2_int max_two min_two max_three min_three max_four min_four   -- for this text's walks alone
set_option linter.unusedVariables false
set_option linter.unusedSimpArgs false

/-! ### spec_GoodRequest: function 35 -/
def spec_GoodRequest.f (k : Nat) (a0_0 : ByteArray) (a0_1 : ByteArray) (l0_2 : List (S105)) (a0_3 : ByteArray) : Option (Bool) := (spec_l4Method.f k a0_0).bind fun t187 => (if t187 = true then ((spec_l4Target.f k a0_1).bind fun t188 => (if t188 = true then ((spec_l3Fields.f k l0_2).bind fun t189 => (if t189 = true then ((spec_l4Framed.f k l0_2 a0_3).bind fun t190 => (if t190 = true then ((spec_l4First.f a0_0 a0_1 l0_2 a0_3).bind fun t191 => ((spec_l4Head.f k t191 l0_2).bind fun t192 => (some (decide ((t192.size : Int) ≤ 2000))))) else (some false))) else (some false))) else (some false))) else (some false))
def spec_GoodRequest.T1 : Bool × List (List Nat × List Nat) := (true, [([], []), ([0], [0]), ([1], [1]), ([2, 2], [2]), ([3], [3]), ([4, 3], [3, 4]), ([5, 3, 3], [3, 5]), ([3, 6], [3, 6]), ([7, 6], [7]), ([8], [8]), ([9, 8], [8, 9]), ([10, 8, 8], [8, 10]), ([8, 11], [8, 11]), ([12, 11], [12]), ([13], [13]), ([14, 13], [13, 14]), ([13], [13]), ([16, 13], [13, 16]), ([15, 17, 13, 13], [13, 15, 17]), ([13, 18], [13, 18]), ([19, 18], [19]), ([20], [20]), ([21, 20, 20], [20, 21]), ([20], [20]), ([23, 20], [20, 23]), ([22, 24, 22, 20], [20, 22, 24]), ([25, 20], [20, 25]), ([26, 20], [20, 26]), ([20, 27], [20, 27]), ([28, 25, 0, 1, 2, 3, 4, 5, 6, 7, 8, 9, 10, 11, 12, 13, 14, 15, 16, 17, 18, 19, 20, 21, 22, 23, 24, 25, 26, 27, 28], [28])])
def spec_GoodRequest.B1 : List Nat := [0, 1, 3, 7, 15, 31, 63, 127, 255, 511, 1023, 2047, 4095, 8191, 16383, 32767, 16383, 81919, 262143, 524287, 1048575, 2097151, 4194303, 2097151, 10485759, 33554431, 67108863, 134217727, 268435455, 536870911]
theorem spec_GoodRequest.tab1 : rtab .any (opsOf Tryz.f35 1) = spec_GoodRequest.T1 := by kernel_rfl
theorem spec_GoodRequest.bits1 : waitsOk spec_GoodRequest.T1.2 spec_GoodRequest.B1 = true := by kernel_rfl
set_option maxHeartbeats 8000000 in
set_option maxRecDepth 100000 in
theorem spec_GoodRequest.calls (k : Nat) (a0_0 : ByteArray) (a0_1 : ByteArray) (A0_2 : Option Addr) (c0_2 : Nat) (l0_2 : List (S105)) (a0_3 : ByteArray) (r : Bool) (w : World) (hr0_2 : Kd.C k105 w A0_2 l0_2.length l0_2) (hc0_2 : l0_2.length ≤ c0_2) (h : spec_GoodRequest.f k a0_0 a0_1 l0_2 a0_3 = some r) :
  Calls Tryz.prog 35 #[.agg #[.string a0_0, .string a0_1, .slice A0_2 l0_2.length c0_2, .string a0_3]] w fun e w' => e = .returned (.bool r) ∧ Below w.heap.size w w' := by
 have hu35 := Tryz.underlying35
 have HR0_2 := Aside0.mk hr0_2
 have HC0_2 := Aside0.mk hc0_2
 clear hr0_2 hc0_2
 have HB := Aside0.mk (Below.refl w.heap.size w)
 have H := h
 unfold spec_GoodRequest.f at H
 clear h
 replace H := mb_ H
 obtain ⟨t187, A2, H⟩ := H
 by_cases c3 : t187 = true
 ·subst c3
  rw [if_pos rfl] at H
  replace H := mb_ H
  obtain ⟨t188, A4, H⟩ := H
  by_cases c5 : t188 = true
  ·subst c5
   rw [if_pos rfl] at H
   replace H := mb_ H
   obtain ⟨t189, A6, H⟩ := H
   by_cases c7 : t189 = true
   ·subst c7
    rw [if_pos rfl] at H
    replace H := mb_ H
    obtain ⟨t190, A8, H⟩ := H
    by_cases c9 : t190 = true
    ·subst c9
     rw [if_pos rfl] at H
     replace H := mb_ H
     obtain ⟨t191, A10, H⟩ := H
     replace H := mb_ H
     obtain ⟨t192, A11, H⟩ := H
     obtain rfl := Option.some.inj H
     go_enter Tryz.func35, Tryz.ntmps35
     try go_wp2_with (first | ((with_reducible refine gd_ 1 ?_); (try (refine gate_guard (by rfl) ?_; dsimp only)); refine xbe_ (N := 1) (cs := #[.string a0_0, .string a0_1, .slice A0_2 l0_2.length c0_2, .string a0_3]) (t := 35) ?_; intro gb186 hg w12 hbox hb; have BK186 := Aside0.mk (hbox); have GE186 := xge_ HB hg; replace HB := xws_ HB hb; clear hb hbox hg))
     replace BK186 := Aside0.mk (blk_drew BK186.out)
     replace HB := Aside0.mk (below_drew1 HB.out)
     refine ms_ 30 (fun w' => w'.cell? ⟨gb186, 0, none⟩ = some (.string a0_0) ∧ w'.cell? ⟨gb186, 1, none⟩ = some (.string a0_1) ∧ w'.cell? ⟨gb186, 2, none⟩ = some (.slice A0_2 l0_2.length c0_2) ∧ w'.cell? ⟨gb186, 3, none⟩ = some (.string a0_3)) spec_GoodRequest.tab1 spec_GoodRequest.bits1 ⟨xk_ BK186 0, xk_ BK186 1, xk_ BK186 2, xk_ BK186 3⟩ (fun hHeld HT_ HW_ => ?_)
     generalize w12.drew = w13 at BK186 HB hHeld ⊢
     refine mp_ 0 3 ?_
     refine mt_ 1 4 hHeld ?_
     refine m1_ 2 5 Tryz.func65 #[.string a0_0] ?_
     with_reducible refine (spec_l4Method.calls k a0_0 true _ A2.out).mono ?_
     rintro e w' ⟨rfl, ⟨nd, rfl⟩⟩
     refine ⟨_, rfl, ?_⟩
     refine ⟨⟨xk_ BK186 0, xk_ BK186 1, xk_ BK186 2, xk_ BK186 3⟩, fun hHeld => ?_⟩
     refine mn_ 5 ?_
     refine mp_ 3 6 ?_
     refine mp_ 4 7 ?_
     refine mt_ 5 8 hHeld ?_
     refine m1_ 6 9 Tryz.func66 #[.string a0_1] ?_
     with_reducible refine (spec_l4Target.calls k a0_1 true _ A4.out).mono ?_
     rintro e w' ⟨rfl, ⟨nd, rfl⟩⟩
     refine ⟨_, rfl, ?_⟩
     refine ⟨⟨xk_ BK186 0, xk_ BK186 1, xk_ BK186 2, xk_ BK186 3⟩, fun hHeld => ?_⟩
     refine mn_ 9 ?_
     refine mp_ 7 10 ?_
     refine mp_ 8 11 ?_
     refine mp_ 9 12 ?_
     refine mt_ 10 13 hHeld ?_
     refine m1_ 11 14 Tryz.func67 #[.slice A0_2 l0_2.length c0_2] ?_
     with_reducible refine (spec_l3Fields.calls k _ _ l0_2 true _ ?side1 ?side2 A6.out).mono ?_
     (case side1 => exact xc_ ((Kd.C_below HR0_2.out (xw_ HB))))
     (case side2 => exact HC0_2.out)
     rintro e w14 ⟨rfl, hb⟩
     refine ⟨_, rfl, ?_⟩
     replace BK186 := xbb_ BK186 hb
     replace HB := xws_ HB hb
     (try clear hb)
     refine ⟨⟨xk_ BK186 0, xk_ BK186 1, xk_ BK186 2, xk_ BK186 3⟩, fun hHeld => ?_⟩
     refine mn_ 14 ?_
     refine mp_ 12 15 ?_
     refine mp_ 13 16 ?_
     refine mp_ 14 17 ?_
     refine mp_ 16 19 ?_
     refine mt_ 15 18 hHeld ?_
     refine mt_ 17 20 hHeld ?_
     refine m1_ 18 21 Tryz.func68 #[.slice A0_2 l0_2.length c0_2, .string a0_3] ?_
     with_reducible refine (spec_l4Framed.calls k _ _ l0_2 a0_3 true _ ?side1 ?side2 A8.out).mono ?_
     (case side1 => exact xc_ ((Kd.C_below HR0_2.out HB.out)))
     (case side2 => exact HC0_2.out)
     rintro e w15 ⟨rfl, hb⟩
     refine ⟨_, rfl, ?_⟩
     replace BK186 := xbb_ BK186 hb
     replace HB := xws_ HB hb
     (try clear hb)
     refine ⟨⟨xk_ BK186 0, xk_ BK186 1, xk_ BK186 2, xk_ BK186 3⟩, fun hHeld => ?_⟩
     refine mn_ 21 ?_
     refine mp_ 19 22 ?_
     refine mp_ 20 23 ?_
     refine mp_ 23 26 ?_
     refine mt_ 21 24 hHeld ?_
     refine mt_ 24 27 hHeld ?_
     refine m1_ 22 25 Tryz.func70 #[.agg #[.string a0_0, .string a0_1, .slice A0_2 l0_2.length c0_2, .string a0_3]] ?_
     with_reducible refine (spec_l4First.calls a0_0 a0_1 _ _ l0_2 a0_3 t191 _ ?side1 ?side2 A10.out).mono ?_
     (case side1 => exact xc_ ((Kd.C_below HR0_2.out HB.out)))
     (case side2 => exact HC0_2.out)
     rintro e w16 ⟨rfl, hb⟩
     refine ⟨_, rfl, ?_⟩
     replace BK186 := xbb_ BK186 hb
     replace HB := xws_ HB hb
     (try clear hb)
     refine ⟨⟨xk_ BK186 0, xk_ BK186 1, xk_ BK186 2, xk_ BK186 3⟩, fun hHeld => ?_⟩
     refine mn_ 25 ?_
     refine m1_ 25 28 Tryz.func69 #[.string t191, .slice A0_2 l0_2.length c0_2] ?_
     with_reducible refine (spec_l4Head.calls k t191 _ _ l0_2 t192 _ ?side1 ?side2 A11.out).mono ?_
     (case side1 => exact xc_ ((Kd.C_below HR0_2.out HB.out)))
     (case side2 => exact HC0_2.out)
     rintro e w17 ⟨rfl, hb⟩
     refine ⟨_, rfl, ?_⟩
     replace BK186 := xbb_ BK186 hb
     replace HB := xws_ HB hb
     (try clear hb)
     refine ⟨⟨xk_ BK186 0, xk_ BK186 1, xk_ BK186 2, xk_ BK186 3⟩, fun hHeld => ?_⟩
     refine mn_ 28 ?_
     refine mp_ 26 29 ?_
     refine mp_ 27 30 ?_
     refine mp_ 28 31 ?_
     refine mp_ 29 2 ?_
     refine done_ (done_of HT_.out (by kernel_rfl)) ?_
     try go_wp2
     go_ret
     exact ⟨mf_, xw_ HB⟩
    ·replace c9 := Bool.eq_false_iff.mpr c9
     subst c9
     rw [if_neg (show ¬ (false = true) by decide)] at H
     obtain rfl := Option.some.inj H
     go_enter Tryz.func35, Tryz.ntmps35
     try go_wp2_with (first | ((with_reducible refine gd_ 1 ?_); (try (refine gate_guard (by rfl) ?_; dsimp only)); refine xbe_ (N := 1) (cs := #[.string a0_0, .string a0_1, .slice A0_2 l0_2.length c0_2, .string a0_3]) (t := 35) ?_; intro gb186 hg w18 hbox hb; have BK186 := Aside0.mk (hbox); have GE186 := xge_ HB hg; replace HB := xws_ HB hb; clear hb hbox hg))
     replace BK186 := Aside0.mk (blk_drew BK186.out)
     replace HB := Aside0.mk (below_drew1 HB.out)
     refine ms_ 30 (fun w' => w'.cell? ⟨gb186, 0, none⟩ = some (.string a0_0) ∧ w'.cell? ⟨gb186, 1, none⟩ = some (.string a0_1) ∧ w'.cell? ⟨gb186, 2, none⟩ = some (.slice A0_2 l0_2.length c0_2) ∧ w'.cell? ⟨gb186, 3, none⟩ = some (.string a0_3)) spec_GoodRequest.tab1 spec_GoodRequest.bits1 ⟨xk_ BK186 0, xk_ BK186 1, xk_ BK186 2, xk_ BK186 3⟩ (fun hHeld HT_ HW_ => ?_)
     generalize w18.drew = w19 at BK186 HB hHeld ⊢
     refine mp_ 0 3 ?_
     refine mt_ 1 4 hHeld ?_
     refine m1_ 2 5 Tryz.func65 #[.string a0_0] ?_
     with_reducible refine (spec_l4Method.calls k a0_0 true _ A2.out).mono ?_
     rintro e w' ⟨rfl, ⟨nd, rfl⟩⟩
     refine ⟨_, rfl, ?_⟩
     refine ⟨⟨xk_ BK186 0, xk_ BK186 1, xk_ BK186 2, xk_ BK186 3⟩, fun hHeld => ?_⟩
     refine mn_ 5 ?_
     refine mp_ 3 6 ?_
     refine mp_ 4 7 ?_
     refine mt_ 5 8 hHeld ?_
     refine m1_ 6 9 Tryz.func66 #[.string a0_1] ?_
     with_reducible refine (spec_l4Target.calls k a0_1 true _ A4.out).mono ?_
     rintro e w' ⟨rfl, ⟨nd, rfl⟩⟩
     refine ⟨_, rfl, ?_⟩
     refine ⟨⟨xk_ BK186 0, xk_ BK186 1, xk_ BK186 2, xk_ BK186 3⟩, fun hHeld => ?_⟩
     refine mn_ 9 ?_
     refine mp_ 7 10 ?_
     refine mp_ 8 11 ?_
     refine mp_ 9 12 ?_
     refine mt_ 10 13 hHeld ?_
     refine m1_ 11 14 Tryz.func67 #[.slice A0_2 l0_2.length c0_2] ?_
     with_reducible refine (spec_l3Fields.calls k _ _ l0_2 true _ ?side1 ?side2 A6.out).mono ?_
     (case side1 => exact xc_ ((Kd.C_below HR0_2.out (xw_ HB))))
     (case side2 => exact HC0_2.out)
     rintro e w20 ⟨rfl, hb⟩
     refine ⟨_, rfl, ?_⟩
     replace BK186 := xbb_ BK186 hb
     replace HB := xws_ HB hb
     (try clear hb)
     refine ⟨⟨xk_ BK186 0, xk_ BK186 1, xk_ BK186 2, xk_ BK186 3⟩, fun hHeld => ?_⟩
     refine mn_ 14 ?_
     refine mp_ 12 15 ?_
     refine mp_ 13 16 ?_
     refine mp_ 14 17 ?_
     refine mp_ 16 19 ?_
     refine mt_ 15 18 hHeld ?_
     refine mt_ 17 20 hHeld ?_
     refine m1_ 18 21 Tryz.func68 #[.slice A0_2 l0_2.length c0_2, .string a0_3] ?_
     with_reducible refine (spec_l4Framed.calls k _ _ l0_2 a0_3 false _ ?side1 ?side2 A8.out).mono ?_
     (case side1 => exact xc_ ((Kd.C_below HR0_2.out HB.out)))
     (case side2 => exact HC0_2.out)
     rintro e w21 ⟨rfl, hb⟩
     refine ⟨_, rfl, ?_⟩
     replace BK186 := xbb_ BK186 hb
     replace HB := xws_ HB hb
     (try clear hb)
     refine ⟨⟨xk_ BK186 0, xk_ BK186 1, xk_ BK186 2, xk_ BK186 3⟩, fun hHeld => ?_⟩
     refine mn_ 21 ?_
     refine mp_ 19 22 ?_
     refine mp_ 20 23 ?_
     refine mu_ 21 24 ?_
     refine mu_ 22 25 ?_
     refine mu_ 23 26 ?_
     refine mu_ 24 27 ?_
     refine mu_ 25 28 ?_
     refine mu_ 26 29 ?_
     refine mu_ 27 30 ?_
     refine mp_ 28 31 ?_
     refine mp_ 29 2 ?_
     refine done_ (done_of HT_.out (by kernel_rfl)) ?_
     try go_wp2
     go_ret
     exact ⟨mf_, xw_ HB⟩
   ·replace c7 := Bool.eq_false_iff.mpr c7
    subst c7
    rw [if_neg (show ¬ (false = true) by decide)] at H
    obtain rfl := Option.some.inj H
    go_enter Tryz.func35, Tryz.ntmps35
    try go_wp2_with (first | ((with_reducible refine gd_ 1 ?_); (try (refine gate_guard (by rfl) ?_; dsimp only)); refine xbe_ (N := 1) (cs := #[.string a0_0, .string a0_1, .slice A0_2 l0_2.length c0_2, .string a0_3]) (t := 35) ?_; intro gb186 hg w22 hbox hb; have BK186 := Aside0.mk (hbox); have GE186 := xge_ HB hg; replace HB := xws_ HB hb; clear hb hbox hg))
    replace BK186 := Aside0.mk (blk_drew BK186.out)
    replace HB := Aside0.mk (below_drew1 HB.out)
    refine ms_ 30 (fun w' => w'.cell? ⟨gb186, 0, none⟩ = some (.string a0_0) ∧ w'.cell? ⟨gb186, 1, none⟩ = some (.string a0_1) ∧ w'.cell? ⟨gb186, 2, none⟩ = some (.slice A0_2 l0_2.length c0_2) ∧ w'.cell? ⟨gb186, 3, none⟩ = some (.string a0_3)) spec_GoodRequest.tab1 spec_GoodRequest.bits1 ⟨xk_ BK186 0, xk_ BK186 1, xk_ BK186 2, xk_ BK186 3⟩ (fun hHeld HT_ HW_ => ?_)
    generalize w22.drew = w23 at BK186 HB hHeld ⊢
    refine mp_ 0 3 ?_
    refine mt_ 1 4 hHeld ?_
    refine m1_ 2 5 Tryz.func65 #[.string a0_0] ?_
    with_reducible refine (spec_l4Method.calls k a0_0 true _ A2.out).mono ?_
    rintro e w' ⟨rfl, ⟨nd, rfl⟩⟩
    refine ⟨_, rfl, ?_⟩
    refine ⟨⟨xk_ BK186 0, xk_ BK186 1, xk_ BK186 2, xk_ BK186 3⟩, fun hHeld => ?_⟩
    refine mn_ 5 ?_
    refine mp_ 3 6 ?_
    refine mp_ 4 7 ?_
    refine mt_ 5 8 hHeld ?_
    refine m1_ 6 9 Tryz.func66 #[.string a0_1] ?_
    with_reducible refine (spec_l4Target.calls k a0_1 true _ A4.out).mono ?_
    rintro e w' ⟨rfl, ⟨nd, rfl⟩⟩
    refine ⟨_, rfl, ?_⟩
    refine ⟨⟨xk_ BK186 0, xk_ BK186 1, xk_ BK186 2, xk_ BK186 3⟩, fun hHeld => ?_⟩
    refine mn_ 9 ?_
    refine mp_ 7 10 ?_
    refine mp_ 8 11 ?_
    refine mp_ 9 12 ?_
    refine mt_ 10 13 hHeld ?_
    refine m1_ 11 14 Tryz.func67 #[.slice A0_2 l0_2.length c0_2] ?_
    with_reducible refine (spec_l3Fields.calls k _ _ l0_2 false _ ?side1 ?side2 A6.out).mono ?_
    (case side1 => exact xc_ ((Kd.C_below HR0_2.out (xw_ HB))))
    (case side2 => exact HC0_2.out)
    rintro e w24 ⟨rfl, hb⟩
    refine ⟨_, rfl, ?_⟩
    replace BK186 := xbb_ BK186 hb
    replace HB := xws_ HB hb
    (try clear hb)
    refine ⟨⟨xk_ BK186 0, xk_ BK186 1, xk_ BK186 2, xk_ BK186 3⟩, fun hHeld => ?_⟩
    refine mn_ 14 ?_
    refine mp_ 12 15 ?_
    refine mp_ 13 16 ?_
    refine mu_ 14 17 ?_
    refine mu_ 15 18 ?_
    refine mu_ 16 19 ?_
    refine mu_ 17 20 ?_
    refine mu_ 18 21 ?_
    refine mp_ 19 22 ?_
    refine mp_ 20 23 ?_
    refine mu_ 21 24 ?_
    refine mu_ 22 25 ?_
    refine mu_ 23 26 ?_
    refine mu_ 24 27 ?_
    refine mu_ 25 28 ?_
    refine mu_ 26 29 ?_
    refine mu_ 27 30 ?_
    refine mp_ 28 31 ?_
    refine mp_ 29 2 ?_
    refine done_ (done_of HT_.out (by kernel_rfl)) ?_
    try go_wp2
    go_ret
    exact ⟨mf_, xw_ HB⟩
  ·replace c5 := Bool.eq_false_iff.mpr c5
   subst c5
   rw [if_neg (show ¬ (false = true) by decide)] at H
   obtain rfl := Option.some.inj H
   go_enter Tryz.func35, Tryz.ntmps35
   try go_wp2_with (first | ((with_reducible refine gd_ 1 ?_); (try (refine gate_guard (by rfl) ?_; dsimp only)); refine xbe_ (N := 1) (cs := #[.string a0_0, .string a0_1, .slice A0_2 l0_2.length c0_2, .string a0_3]) (t := 35) ?_; intro gb186 hg w25 hbox hb; have BK186 := Aside0.mk (hbox); have GE186 := xge_ HB hg; replace HB := xws_ HB hb; clear hb hbox hg))
   replace BK186 := Aside0.mk (blk_drew BK186.out)
   replace HB := Aside0.mk (below_drew1 HB.out)
   refine ms_ 30 (fun w' => w'.cell? ⟨gb186, 0, none⟩ = some (.string a0_0) ∧ w'.cell? ⟨gb186, 1, none⟩ = some (.string a0_1) ∧ w'.cell? ⟨gb186, 2, none⟩ = some (.slice A0_2 l0_2.length c0_2) ∧ w'.cell? ⟨gb186, 3, none⟩ = some (.string a0_3)) spec_GoodRequest.tab1 spec_GoodRequest.bits1 ⟨xk_ BK186 0, xk_ BK186 1, xk_ BK186 2, xk_ BK186 3⟩ (fun hHeld HT_ HW_ => ?_)
   generalize w25.drew = w26 at BK186 HB hHeld ⊢
   refine mp_ 0 3 ?_
   refine mt_ 1 4 hHeld ?_
   refine m1_ 2 5 Tryz.func65 #[.string a0_0] ?_
   with_reducible refine (spec_l4Method.calls k a0_0 true _ A2.out).mono ?_
   rintro e w' ⟨rfl, ⟨nd, rfl⟩⟩
   refine ⟨_, rfl, ?_⟩
   refine ⟨⟨xk_ BK186 0, xk_ BK186 1, xk_ BK186 2, xk_ BK186 3⟩, fun hHeld => ?_⟩
   refine mn_ 5 ?_
   refine mp_ 3 6 ?_
   refine mp_ 4 7 ?_
   refine mt_ 5 8 hHeld ?_
   refine m1_ 6 9 Tryz.func66 #[.string a0_1] ?_
   with_reducible refine (spec_l4Target.calls k a0_1 false _ A4.out).mono ?_
   rintro e w' ⟨rfl, ⟨nd, rfl⟩⟩
   refine ⟨_, rfl, ?_⟩
   refine ⟨⟨xk_ BK186 0, xk_ BK186 1, xk_ BK186 2, xk_ BK186 3⟩, fun hHeld => ?_⟩
   refine mn_ 9 ?_
   refine mp_ 7 10 ?_
   refine mp_ 8 11 ?_
   refine mu_ 9 12 ?_
   refine mu_ 10 13 ?_
   refine mu_ 11 14 ?_
   refine mp_ 12 15 ?_
   refine mp_ 13 16 ?_
   refine mu_ 14 17 ?_
   refine mu_ 15 18 ?_
   refine mu_ 16 19 ?_
   refine mu_ 17 20 ?_
   refine mu_ 18 21 ?_
   refine mp_ 19 22 ?_
   refine mp_ 20 23 ?_
   refine mu_ 21 24 ?_
   refine mu_ 22 25 ?_
   refine mu_ 23 26 ?_
   refine mu_ 24 27 ?_
   refine mu_ 25 28 ?_
   refine mu_ 26 29 ?_
   refine mu_ 27 30 ?_
   refine mp_ 28 31 ?_
   refine mp_ 29 2 ?_
   refine done_ (done_of HT_.out (by kernel_rfl)) ?_
   try go_wp2
   go_ret
   exact ⟨mf_, xw_ HB⟩
 ·replace c3 := Bool.eq_false_iff.mpr c3
  subst c3
  rw [if_neg (show ¬ (false = true) by decide)] at H
  obtain rfl := Option.some.inj H
  go_enter Tryz.func35, Tryz.ntmps35
  try go_wp2_with (first | ((with_reducible refine gd_ 1 ?_); (try (refine gate_guard (by rfl) ?_; dsimp only)); refine xbe_ (N := 1) (cs := #[.string a0_0, .string a0_1, .slice A0_2 l0_2.length c0_2, .string a0_3]) (t := 35) ?_; intro gb186 hg w27 hbox hb; have BK186 := Aside0.mk (hbox); have GE186 := xge_ HB hg; replace HB := xws_ HB hb; clear hb hbox hg))
  replace BK186 := Aside0.mk (blk_drew BK186.out)
  replace HB := Aside0.mk (below_drew1 HB.out)
  refine ms_ 30 (fun w' => w'.cell? ⟨gb186, 0, none⟩ = some (.string a0_0) ∧ w'.cell? ⟨gb186, 1, none⟩ = some (.string a0_1) ∧ w'.cell? ⟨gb186, 2, none⟩ = some (.slice A0_2 l0_2.length c0_2) ∧ w'.cell? ⟨gb186, 3, none⟩ = some (.string a0_3)) spec_GoodRequest.tab1 spec_GoodRequest.bits1 ⟨xk_ BK186 0, xk_ BK186 1, xk_ BK186 2, xk_ BK186 3⟩ (fun hHeld HT_ HW_ => ?_)
  generalize w27.drew = w28 at BK186 HB hHeld ⊢
  refine mp_ 0 3 ?_
  refine mt_ 1 4 hHeld ?_
  refine m1_ 2 5 Tryz.func65 #[.string a0_0] ?_
  with_reducible refine (spec_l4Method.calls k a0_0 false _ A2.out).mono ?_
  rintro e w' ⟨rfl, ⟨nd, rfl⟩⟩
  refine ⟨_, rfl, ?_⟩
  refine ⟨⟨xk_ BK186 0, xk_ BK186 1, xk_ BK186 2, xk_ BK186 3⟩, fun hHeld => ?_⟩
  refine mn_ 5 ?_
  refine mp_ 3 6 ?_
  refine mu_ 4 7 ?_
  refine mu_ 5 8 ?_
  refine mu_ 6 9 ?_
  refine mp_ 7 10 ?_
  refine mp_ 8 11 ?_
  refine mu_ 9 12 ?_
  refine mu_ 10 13 ?_
  refine mu_ 11 14 ?_
  refine mp_ 12 15 ?_
  refine mp_ 13 16 ?_
  refine mu_ 14 17 ?_
  refine mu_ 15 18 ?_
  refine mu_ 16 19 ?_
  refine mu_ 17 20 ?_
  refine mu_ 18 21 ?_
  refine mp_ 19 22 ?_
  refine mp_ 20 23 ?_
  refine mu_ 21 24 ?_
  refine mu_ 22 25 ?_
  refine mu_ 23 26 ?_
  refine mu_ 24 27 ?_
  refine mu_ 25 28 ?_
  refine mu_ 26 29 ?_
  refine mu_ 27 30 ?_
  refine mp_ 28 31 ?_
  refine mp_ 29 2 ?_
  refine done_ (done_of HT_.out (by kernel_rfl)) ?_
  try go_wp2
  go_ret
  exact ⟨mf_, xw_ HB⟩

end Go.Proofs.YtpggepjfhgalkaaGreatDoor.PFnExactPickItem
