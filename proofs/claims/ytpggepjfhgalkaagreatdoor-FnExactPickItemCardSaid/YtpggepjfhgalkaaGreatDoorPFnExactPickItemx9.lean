-- Written by a program of this project (xprint.py) out of the translation; Lean checks it.
import Derived.Test.YtpggepjfhgalkaaGreatDoorPFnExactPickItemx0
import Derived.Test.YtpggepjfhgalkaaGreatDoorPFnExactPickItemx2
import Derived.Test.YtpggepjfhgalkaaGreatDoorPFnExactPickItemx3
import Derived.Test.YtpggepjfhgalkaaGreatDoorPFnExactPickItemx5
import Derived.Test.YtpggepjfhgalkaaGreatDoorPFnExactPickItemx7
import Derived.Test.YtpggepjfhgalkaaGreatDoorPFnExactPickItemx8
namespace Go.Proofs.YtpggepjfhgalkaaGreatDoor.PFnExactPickItem
open Go.RowKit Go.Proofs.YtpggepjfhgalkaaGreatDoorW.PrintWords Go.Proofs.YtpggepjfhgalkaaGreatDoorW.PrintLast Go.Proofs.YtpggepjfhgalkaaGreatDoorW.PrintMore
attribute [local go_sem] max2_int min2_int max_two min_two max_three min_three max_four min_four   -- for this text's walks alone
set_option linter.unusedVariables false
set_option linter.unusedSimpArgs false

/-! ### spec_GoodResponse: function 47 -/
def spec_GoodResponse.f (k : Nat) (a0_0 : Int) (a0_1 : ByteArray) (l0_2 : List (S105)) (a0_3 : ByteArray) : Option (Bool) := (spec_l1In.f a0_0 100 599).bind fun t254 => (if t254 = true then ((spec_l4Reason.f k a0_1).bind fun t255 => (if t255 = true then ((spec_l3Fields.f k l0_2).bind fun t256 => (if t256 = true then ((spec_l4Framed.f k l0_2 a0_3).bind fun t257 => (if t257 = true then ((spec_l4Status.f k a0_0 a0_1 l0_2 a0_3).bind fun t258 => ((spec_l4Head.f k t258 l0_2).bind fun t259 => (some (decide ((t259.size : Int) ≤ 2000))))) else (some false))) else (some false))) else (some false))) else (some false))
def spec_GoodResponse.T1 : Bool × List (List Nat × List Nat) := (true, [([], []), ([0], [0]), ([1], [1]), ([2, 2], [2]), ([3], [3]), ([4, 3], [3, 4]), ([5, 3, 3], [3, 5]), ([3, 6], [3, 6]), ([7, 6], [7]), ([8], [8]), ([9, 8], [8, 9]), ([10, 8, 8], [8, 10]), ([8, 11], [8, 11]), ([12, 11], [12]), ([13], [13]), ([14, 13], [13, 14]), ([13], [13]), ([16, 13], [13, 16]), ([15, 17, 13, 13], [13, 15, 17]), ([13, 18], [13, 18]), ([19, 18], [19]), ([20], [20]), ([21, 20, 20], [20, 21]), ([20], [20]), ([23, 20], [20, 23]), ([22, 24, 22, 20], [20, 22, 24]), ([25, 20], [20, 25]), ([26, 20], [20, 26]), ([20, 27], [20, 27]), ([28, 25, 0, 1, 2, 3, 4, 5, 6, 7, 8, 9, 10, 11, 12, 13, 14, 15, 16, 17, 18, 19, 20, 21, 22, 23, 24, 25, 26, 27, 28], [28])])
def spec_GoodResponse.B1 : List Nat := [0, 1, 3, 7, 15, 31, 63, 127, 255, 511, 1023, 2047, 4095, 8191, 16383, 32767, 16383, 81919, 262143, 524287, 1048575, 2097151, 4194303, 2097151, 10485759, 33554431, 67108863, 134217727, 268435455, 536870911]
theorem spec_GoodResponse.tab1 : rtab .any (opsOf Tryz.f47 1) = spec_GoodResponse.T1 := by kernel_rfl
theorem spec_GoodResponse.bits1 : waitsOk spec_GoodResponse.T1.2 spec_GoodResponse.B1 = true := by kernel_rfl
set_option maxHeartbeats 8000000 in
set_option maxRecDepth 100000 in
theorem spec_GoodResponse.calls (k : Nat) (a0_0 : Int) (a0_1 : ByteArray) (A0_2 : Option Addr) (c0_2 : Nat) (l0_2 : List (S105)) (a0_3 : ByteArray) (r : Bool) (w : World) (hr0_2 : Kd.C k105 w A0_2 l0_2.length l0_2) (hc0_2 : l0_2.length ≤ c0_2) (h : spec_GoodResponse.f k a0_0 a0_1 l0_2 a0_3 = some r) :
  Calls Tryz.prog 47 #[.agg #[.int .i64 a0_0, .string a0_1, .slice A0_2 l0_2.length c0_2, .string a0_3]] w fun e w' => e = .returned (.bool r) ∧ Below w.heap.size w w' := by
 have hu54 := Tryz.underlying54
 have HR0_2 := Aside0.mk hr0_2
 have HC0_2 := Aside0.mk hc0_2
 clear hr0_2 hc0_2
 have HB := Aside0.mk (Below.refl w.heap.size w)
 have H := h
 unfold spec_GoodResponse.f at H
 clear h
 replace H := mb_ H
 obtain ⟨t254, A2, H⟩ := H
 by_cases c3 : t254 = true
 ·subst c3
  rw [if_pos rfl] at H
  replace H := mb_ H
  obtain ⟨t255, A4, H⟩ := H
  by_cases c5 : t255 = true
  ·subst c5
   rw [if_pos rfl] at H
   replace H := mb_ H
   obtain ⟨t256, A6, H⟩ := H
   by_cases c7 : t256 = true
   ·subst c7
    rw [if_pos rfl] at H
    replace H := mb_ H
    obtain ⟨t257, A8, H⟩ := H
    by_cases c9 : t257 = true
    ·subst c9
     rw [if_pos rfl] at H
     replace H := mb_ H
     obtain ⟨t258, A10, H⟩ := H
     replace H := mb_ H
     obtain ⟨t259, A11, H⟩ := H
     obtain rfl := Option.some.inj H
     go_enter Tryz.func47, Tryz.ntmps47
     try go_wp2_with (first | ((with_reducible refine gd_ 1 ?_); (try (refine gate_guard (by rfl) ?_; dsimp only)); refine xbe_ (N := 1) (cs := #[.int .i64 a0_0, .string a0_1, .slice A0_2 l0_2.length c0_2, .string a0_3]) (t := 54) ?_; intro gb253 hg w12 hbox hb; have BK253 := Aside0.mk (hbox); have GE253 := xge_ HB hg; replace HB := xws_ HB hb; clear hb hbox hg))
     replace BK253 := Aside0.mk (blk_drew BK253.out)
     replace HB := Aside0.mk (below_drew1 HB.out)
     refine ms_ 30 (fun w' => w'.cell? ⟨gb253, 0, none⟩ = some (.int .i64 a0_0) ∧ w'.cell? ⟨gb253, 1, none⟩ = some (.string a0_1) ∧ w'.cell? ⟨gb253, 2, none⟩ = some (.slice A0_2 l0_2.length c0_2) ∧ w'.cell? ⟨gb253, 3, none⟩ = some (.string a0_3)) spec_GoodResponse.tab1 spec_GoodResponse.bits1 ⟨xk_ BK253 0, xk_ BK253 1, xk_ BK253 2, xk_ BK253 3⟩ (fun hHeld HT_ HW_ => ?_)
     generalize w12.drew = w13 at BK253 HB hHeld ⊢
     refine mp_ 0 3 ?_
     refine mt_ 1 4 hHeld ?_
     refine m1_ 2 5 Tryz.func62 #[.int .i64 a0_0, .int .i64 100, .int .i64 599] ?_
     with_reducible refine (spec_l1In.calls a0_0 100 599 true _ A2.out).mono ?_
     rintro e w' ⟨rfl, ⟨nd, rfl⟩⟩
     refine ⟨_, rfl, ?_⟩
     refine ⟨⟨xk_ BK253 0, xk_ BK253 1, xk_ BK253 2, xk_ BK253 3⟩, fun hHeld => ?_⟩
     refine mn_ 5 ?_
     refine mp_ 3 6 ?_
     refine mp_ 4 7 ?_
     refine mt_ 5 8 hHeld ?_
     refine m1_ 6 9 Tryz.func85 #[.string a0_1] ?_
     with_reducible refine (spec_l4Reason.calls k a0_1 true _ A4.out).mono ?_
     rintro e w' ⟨rfl, ⟨nd, rfl⟩⟩
     refine ⟨_, rfl, ?_⟩
     refine ⟨⟨xk_ BK253 0, xk_ BK253 1, xk_ BK253 2, xk_ BK253 3⟩, fun hHeld => ?_⟩
     refine mn_ 9 ?_
     refine mp_ 7 10 ?_
     refine mp_ 8 11 ?_
     refine mp_ 9 12 ?_
     refine mt_ 10 13 hHeld ?_
     refine m1_ 11 14 Tryz.func67 #[.slice A0_2 l0_2.length c0_2] ?_
     with_reducible refine (spec_l3Fields.calls k _ _ l0_2 true _ ?side1 ?side2 A6.out).mono ?_
     (case side1 => exact xc_ ((Kd.C_below HR0_2.out (xw_ HB))))
     (case side2 => exact HC0_2.out)
     rintro e w14 ⟨rfl, hb⟩
     refine ⟨_, rfl, ?_⟩
     replace BK253 := xbb_ BK253 hb
     replace HB := xws_ HB hb
     (try clear hb)
     refine ⟨⟨xk_ BK253 0, xk_ BK253 1, xk_ BK253 2, xk_ BK253 3⟩, fun hHeld => ?_⟩
     refine mn_ 14 ?_
     refine mp_ 12 15 ?_
     refine mp_ 13 16 ?_
     refine mp_ 14 17 ?_
     refine mp_ 16 19 ?_
     refine mt_ 15 18 hHeld ?_
     refine mt_ 17 20 hHeld ?_
     refine m1_ 18 21 Tryz.func68 #[.slice A0_2 l0_2.length c0_2, .string a0_3] ?_
     with_reducible refine (spec_l4Framed.calls k _ _ l0_2 a0_3 true _ ?side1 ?side2 A8.out).mono ?_
     (case side1 => exact xc_ ((Kd.C_below HR0_2.out HB.out)))
     (case side2 => exact HC0_2.out)
     rintro e w15 ⟨rfl, hb⟩
     refine ⟨_, rfl, ?_⟩
     replace BK253 := xbb_ BK253 hb
     replace HB := xws_ HB hb
     (try clear hb)
     refine ⟨⟨xk_ BK253 0, xk_ BK253 1, xk_ BK253 2, xk_ BK253 3⟩, fun hHeld => ?_⟩
     refine mn_ 21 ?_
     refine mp_ 19 22 ?_
     refine mp_ 20 23 ?_
     refine mp_ 23 26 ?_
     refine mt_ 21 24 hHeld ?_
     refine mt_ 24 27 hHeld ?_
     refine m1_ 22 25 Tryz.func86 #[.agg #[.int .i64 a0_0, .string a0_1, .slice A0_2 l0_2.length c0_2, .string a0_3]] ?_
     with_reducible refine (spec_l4Status.calls k a0_0 a0_1 _ _ l0_2 a0_3 t258 _ ?side1 ?side2 A10.out).mono ?_
     (case side1 => exact xc_ ((Kd.C_below HR0_2.out HB.out)))
     (case side2 => exact HC0_2.out)
     rintro e w16 ⟨rfl, hb⟩
     refine ⟨_, rfl, ?_⟩
     replace BK253 := xbb_ BK253 hb
     replace HB := xws_ HB hb
     (try clear hb)
     refine ⟨⟨xk_ BK253 0, xk_ BK253 1, xk_ BK253 2, xk_ BK253 3⟩, fun hHeld => ?_⟩
     refine mn_ 25 ?_
     refine m1_ 25 28 Tryz.func69 #[.string t258, .slice A0_2 l0_2.length c0_2] ?_
     with_reducible refine (spec_l4Head.calls k t258 _ _ l0_2 t259 _ ?side1 ?side2 A11.out).mono ?_
     (case side1 => exact xc_ ((Kd.C_below HR0_2.out HB.out)))
     (case side2 => exact HC0_2.out)
     rintro e w17 ⟨rfl, hb⟩
     refine ⟨_, rfl, ?_⟩
     replace BK253 := xbb_ BK253 hb
     replace HB := xws_ HB hb
     (try clear hb)
     refine ⟨⟨xk_ BK253 0, xk_ BK253 1, xk_ BK253 2, xk_ BK253 3⟩, fun hHeld => ?_⟩
     refine mn_ 28 ?_
     refine mp_ 26 29 ?_
     refine mp_ 27 30 ?_
     refine mp_ 28 31 ?_
     refine mp_ 29 2 ?_
     refine done_ (done_of HT_.out (by kernel_rfl)) ?_
     try go_wp2
     go_ret
     exact ⟨mf_, xw_ HB⟩
    ·replace c9 := Bool.eq_false_iff.mpr c9
     subst c9
     rw [if_neg (show ¬ (false = true) by decide)] at H
     obtain rfl := Option.some.inj H
     go_enter Tryz.func47, Tryz.ntmps47
     try go_wp2_with (first | ((with_reducible refine gd_ 1 ?_); (try (refine gate_guard (by rfl) ?_; dsimp only)); refine xbe_ (N := 1) (cs := #[.int .i64 a0_0, .string a0_1, .slice A0_2 l0_2.length c0_2, .string a0_3]) (t := 54) ?_; intro gb253 hg w18 hbox hb; have BK253 := Aside0.mk (hbox); have GE253 := xge_ HB hg; replace HB := xws_ HB hb; clear hb hbox hg))
     replace BK253 := Aside0.mk (blk_drew BK253.out)
     replace HB := Aside0.mk (below_drew1 HB.out)
     refine ms_ 30 (fun w' => w'.cell? ⟨gb253, 0, none⟩ = some (.int .i64 a0_0) ∧ w'.cell? ⟨gb253, 1, none⟩ = some (.string a0_1) ∧ w'.cell? ⟨gb253, 2, none⟩ = some (.slice A0_2 l0_2.length c0_2) ∧ w'.cell? ⟨gb253, 3, none⟩ = some (.string a0_3)) spec_GoodResponse.tab1 spec_GoodResponse.bits1 ⟨xk_ BK253 0, xk_ BK253 1, xk_ BK253 2, xk_ BK253 3⟩ (fun hHeld HT_ HW_ => ?_)
     generalize w18.drew = w19 at BK253 HB hHeld ⊢
     refine mp_ 0 3 ?_
     refine mt_ 1 4 hHeld ?_
     refine m1_ 2 5 Tryz.func62 #[.int .i64 a0_0, .int .i64 100, .int .i64 599] ?_
     with_reducible refine (spec_l1In.calls a0_0 100 599 true _ A2.out).mono ?_
     rintro e w' ⟨rfl, ⟨nd, rfl⟩⟩
     refine ⟨_, rfl, ?_⟩
     refine ⟨⟨xk_ BK253 0, xk_ BK253 1, xk_ BK253 2, xk_ BK253 3⟩, fun hHeld => ?_⟩
     refine mn_ 5 ?_
     refine mp_ 3 6 ?_
     refine mp_ 4 7 ?_
     refine mt_ 5 8 hHeld ?_
     refine m1_ 6 9 Tryz.func85 #[.string a0_1] ?_
     with_reducible refine (spec_l4Reason.calls k a0_1 true _ A4.out).mono ?_
     rintro e w' ⟨rfl, ⟨nd, rfl⟩⟩
     refine ⟨_, rfl, ?_⟩
     refine ⟨⟨xk_ BK253 0, xk_ BK253 1, xk_ BK253 2, xk_ BK253 3⟩, fun hHeld => ?_⟩
     refine mn_ 9 ?_
     refine mp_ 7 10 ?_
     refine mp_ 8 11 ?_
     refine mp_ 9 12 ?_
     refine mt_ 10 13 hHeld ?_
     refine m1_ 11 14 Tryz.func67 #[.slice A0_2 l0_2.length c0_2] ?_
     with_reducible refine (spec_l3Fields.calls k _ _ l0_2 true _ ?side1 ?side2 A6.out).mono ?_
     (case side1 => exact xc_ ((Kd.C_below HR0_2.out (xw_ HB))))
     (case side2 => exact HC0_2.out)
     rintro e w20 ⟨rfl, hb⟩
     refine ⟨_, rfl, ?_⟩
     replace BK253 := xbb_ BK253 hb
     replace HB := xws_ HB hb
     (try clear hb)
     refine ⟨⟨xk_ BK253 0, xk_ BK253 1, xk_ BK253 2, xk_ BK253 3⟩, fun hHeld => ?_⟩
     refine mn_ 14 ?_
     refine mp_ 12 15 ?_
     refine mp_ 13 16 ?_
     refine mp_ 14 17 ?_
     refine mp_ 16 19 ?_
     refine mt_ 15 18 hHeld ?_
     refine mt_ 17 20 hHeld ?_
     refine m1_ 18 21 Tryz.func68 #[.slice A0_2 l0_2.length c0_2, .string a0_3] ?_
     with_reducible refine (spec_l4Framed.calls k _ _ l0_2 a0_3 false _ ?side1 ?side2 A8.out).mono ?_
     (case side1 => exact xc_ ((Kd.C_below HR0_2.out HB.out)))
     (case side2 => exact HC0_2.out)
     rintro e w21 ⟨rfl, hb⟩
     refine ⟨_, rfl, ?_⟩
     replace BK253 := xbb_ BK253 hb
     replace HB := xws_ HB hb
     (try clear hb)
     refine ⟨⟨xk_ BK253 0, xk_ BK253 1, xk_ BK253 2, xk_ BK253 3⟩, fun hHeld => ?_⟩
     refine mn_ 21 ?_
     refine mp_ 19 22 ?_
     refine mp_ 20 23 ?_
     refine mu_ 21 24 ?_
     refine mu_ 22 25 ?_
     refine mu_ 23 26 ?_
     refine mu_ 24 27 ?_
     refine mu_ 25 28 ?_
     refine mu_ 26 29 ?_
     refine mu_ 27 30 ?_
     refine mp_ 28 31 ?_
     refine mp_ 29 2 ?_
     refine done_ (done_of HT_.out (by kernel_rfl)) ?_
     try go_wp2
     go_ret
     exact ⟨mf_, xw_ HB⟩
   ·replace c7 := Bool.eq_false_iff.mpr c7
    subst c7
    rw [if_neg (show ¬ (false = true) by decide)] at H
    obtain rfl := Option.some.inj H
    go_enter Tryz.func47, Tryz.ntmps47
    try go_wp2_with (first | ((with_reducible refine gd_ 1 ?_); (try (refine gate_guard (by rfl) ?_; dsimp only)); refine xbe_ (N := 1) (cs := #[.int .i64 a0_0, .string a0_1, .slice A0_2 l0_2.length c0_2, .string a0_3]) (t := 54) ?_; intro gb253 hg w22 hbox hb; have BK253 := Aside0.mk (hbox); have GE253 := xge_ HB hg; replace HB := xws_ HB hb; clear hb hbox hg))
    replace BK253 := Aside0.mk (blk_drew BK253.out)
    replace HB := Aside0.mk (below_drew1 HB.out)
    refine ms_ 30 (fun w' => w'.cell? ⟨gb253, 0, none⟩ = some (.int .i64 a0_0) ∧ w'.cell? ⟨gb253, 1, none⟩ = some (.string a0_1) ∧ w'.cell? ⟨gb253, 2, none⟩ = some (.slice A0_2 l0_2.length c0_2) ∧ w'.cell? ⟨gb253, 3, none⟩ = some (.string a0_3)) spec_GoodResponse.tab1 spec_GoodResponse.bits1 ⟨xk_ BK253 0, xk_ BK253 1, xk_ BK253 2, xk_ BK253 3⟩ (fun hHeld HT_ HW_ => ?_)
    generalize w22.drew = w23 at BK253 HB hHeld ⊢
    refine mp_ 0 3 ?_
    refine mt_ 1 4 hHeld ?_
    refine m1_ 2 5 Tryz.func62 #[.int .i64 a0_0, .int .i64 100, .int .i64 599] ?_
    with_reducible refine (spec_l1In.calls a0_0 100 599 true _ A2.out).mono ?_
    rintro e w' ⟨rfl, ⟨nd, rfl⟩⟩
    refine ⟨_, rfl, ?_⟩
    refine ⟨⟨xk_ BK253 0, xk_ BK253 1, xk_ BK253 2, xk_ BK253 3⟩, fun hHeld => ?_⟩
    refine mn_ 5 ?_
    refine mp_ 3 6 ?_
    refine mp_ 4 7 ?_
    refine mt_ 5 8 hHeld ?_
    refine m1_ 6 9 Tryz.func85 #[.string a0_1] ?_
    with_reducible refine (spec_l4Reason.calls k a0_1 true _ A4.out).mono ?_
    rintro e w' ⟨rfl, ⟨nd, rfl⟩⟩
    refine ⟨_, rfl, ?_⟩
    refine ⟨⟨xk_ BK253 0, xk_ BK253 1, xk_ BK253 2, xk_ BK253 3⟩, fun hHeld => ?_⟩
    refine mn_ 9 ?_
    refine mp_ 7 10 ?_
    refine mp_ 8 11 ?_
    refine mp_ 9 12 ?_
    refine mt_ 10 13 hHeld ?_
    refine m1_ 11 14 Tryz.func67 #[.slice A0_2 l0_2.length c0_2] ?_
    with_reducible refine (spec_l3Fields.calls k _ _ l0_2 false _ ?side1 ?side2 A6.out).mono ?_
    (case side1 => exact xc_ ((Kd.C_below HR0_2.out (xw_ HB))))
    (case side2 => exact HC0_2.out)
    rintro e w24 ⟨rfl, hb⟩
    refine ⟨_, rfl, ?_⟩
    replace BK253 := xbb_ BK253 hb
    replace HB := xws_ HB hb
    (try clear hb)
    refine ⟨⟨xk_ BK253 0, xk_ BK253 1, xk_ BK253 2, xk_ BK253 3⟩, fun hHeld => ?_⟩
    refine mn_ 14 ?_
    refine mp_ 12 15 ?_
    refine mp_ 13 16 ?_
    refine mu_ 14 17 ?_
    refine mu_ 15 18 ?_
    refine mu_ 16 19 ?_
    refine mu_ 17 20 ?_
    refine mu_ 18 21 ?_
    refine mp_ 19 22 ?_
    refine mp_ 20 23 ?_
    refine mu_ 21 24 ?_
    refine mu_ 22 25 ?_
    refine mu_ 23 26 ?_
    refine mu_ 24 27 ?_
    refine mu_ 25 28 ?_
    refine mu_ 26 29 ?_
    refine mu_ 27 30 ?_
    refine mp_ 28 31 ?_
    refine mp_ 29 2 ?_
    refine done_ (done_of HT_.out (by kernel_rfl)) ?_
    try go_wp2
    go_ret
    exact ⟨mf_, xw_ HB⟩
  ·replace c5 := Bool.eq_false_iff.mpr c5
   subst c5
   rw [if_neg (show ¬ (false = true) by decide)] at H
   obtain rfl := Option.some.inj H
   go_enter Tryz.func47, Tryz.ntmps47
   try go_wp2_with (first | ((with_reducible refine gd_ 1 ?_); (try (refine gate_guard (by rfl) ?_; dsimp only)); refine xbe_ (N := 1) (cs := #[.int .i64 a0_0, .string a0_1, .slice A0_2 l0_2.length c0_2, .string a0_3]) (t := 54) ?_; intro gb253 hg w25 hbox hb; have BK253 := Aside0.mk (hbox); have GE253 := xge_ HB hg; replace HB := xws_ HB hb; clear hb hbox hg))
   replace BK253 := Aside0.mk (blk_drew BK253.out)
   replace HB := Aside0.mk (below_drew1 HB.out)
   refine ms_ 30 (fun w' => w'.cell? ⟨gb253, 0, none⟩ = some (.int .i64 a0_0) ∧ w'.cell? ⟨gb253, 1, none⟩ = some (.string a0_1) ∧ w'.cell? ⟨gb253, 2, none⟩ = some (.slice A0_2 l0_2.length c0_2) ∧ w'.cell? ⟨gb253, 3, none⟩ = some (.string a0_3)) spec_GoodResponse.tab1 spec_GoodResponse.bits1 ⟨xk_ BK253 0, xk_ BK253 1, xk_ BK253 2, xk_ BK253 3⟩ (fun hHeld HT_ HW_ => ?_)
   generalize w25.drew = w26 at BK253 HB hHeld ⊢
   refine mp_ 0 3 ?_
   refine mt_ 1 4 hHeld ?_
   refine m1_ 2 5 Tryz.func62 #[.int .i64 a0_0, .int .i64 100, .int .i64 599] ?_
   with_reducible refine (spec_l1In.calls a0_0 100 599 true _ A2.out).mono ?_
   rintro e w' ⟨rfl, ⟨nd, rfl⟩⟩
   refine ⟨_, rfl, ?_⟩
   refine ⟨⟨xk_ BK253 0, xk_ BK253 1, xk_ BK253 2, xk_ BK253 3⟩, fun hHeld => ?_⟩
   refine mn_ 5 ?_
   refine mp_ 3 6 ?_
   refine mp_ 4 7 ?_
   refine mt_ 5 8 hHeld ?_
   refine m1_ 6 9 Tryz.func85 #[.string a0_1] ?_
   with_reducible refine (spec_l4Reason.calls k a0_1 false _ A4.out).mono ?_
   rintro e w' ⟨rfl, ⟨nd, rfl⟩⟩
   refine ⟨_, rfl, ?_⟩
   refine ⟨⟨xk_ BK253 0, xk_ BK253 1, xk_ BK253 2, xk_ BK253 3⟩, fun hHeld => ?_⟩
   refine mn_ 9 ?_
   refine mp_ 7 10 ?_
   refine mp_ 8 11 ?_
   refine mu_ 9 12 ?_
   refine mu_ 10 13 ?_
   refine mu_ 11 14 ?_
   refine mp_ 12 15 ?_
   refine mp_ 13 16 ?_
   refine mu_ 14 17 ?_
   refine mu_ 15 18 ?_
   refine mu_ 16 19 ?_
   refine mu_ 17 20 ?_
   refine mu_ 18 21 ?_
   refine mp_ 19 22 ?_
   refine mp_ 20 23 ?_
   refine mu_ 21 24 ?_
   refine mu_ 22 25 ?_
   refine mu_ 23 26 ?_
   refine mu_ 24 27 ?_
   refine mu_ 25 28 ?_
   refine mu_ 26 29 ?_
   refine mu_ 27 30 ?_
   refine mp_ 28 31 ?_
   refine mp_ 29 2 ?_
   refine done_ (done_of HT_.out (by kernel_rfl)) ?_
   try go_wp2
   go_ret
   exact ⟨mf_, xw_ HB⟩
 ·replace c3 := Bool.eq_false_iff.mpr c3
  subst c3
  rw [if_neg (show ¬ (false = true) by decide)] at H
  obtain rfl := Option.some.inj H
  go_enter Tryz.func47, Tryz.ntmps47
  try go_wp2_with (first | ((with_reducible refine gd_ 1 ?_); (try (refine gate_guard (by rfl) ?_; dsimp only)); refine xbe_ (N := 1) (cs := #[.int .i64 a0_0, .string a0_1, .slice A0_2 l0_2.length c0_2, .string a0_3]) (t := 54) ?_; intro gb253 hg w27 hbox hb; have BK253 := Aside0.mk (hbox); have GE253 := xge_ HB hg; replace HB := xws_ HB hb; clear hb hbox hg))
  replace BK253 := Aside0.mk (blk_drew BK253.out)
  replace HB := Aside0.mk (below_drew1 HB.out)
  refine ms_ 30 (fun w' => w'.cell? ⟨gb253, 0, none⟩ = some (.int .i64 a0_0) ∧ w'.cell? ⟨gb253, 1, none⟩ = some (.string a0_1) ∧ w'.cell? ⟨gb253, 2, none⟩ = some (.slice A0_2 l0_2.length c0_2) ∧ w'.cell? ⟨gb253, 3, none⟩ = some (.string a0_3)) spec_GoodResponse.tab1 spec_GoodResponse.bits1 ⟨xk_ BK253 0, xk_ BK253 1, xk_ BK253 2, xk_ BK253 3⟩ (fun hHeld HT_ HW_ => ?_)
  generalize w27.drew = w28 at BK253 HB hHeld ⊢
  refine mp_ 0 3 ?_
  refine mt_ 1 4 hHeld ?_
  refine m1_ 2 5 Tryz.func62 #[.int .i64 a0_0, .int .i64 100, .int .i64 599] ?_
  with_reducible refine (spec_l1In.calls a0_0 100 599 false _ A2.out).mono ?_
  rintro e w' ⟨rfl, ⟨nd, rfl⟩⟩
  refine ⟨_, rfl, ?_⟩
  refine ⟨⟨xk_ BK253 0, xk_ BK253 1, xk_ BK253 2, xk_ BK253 3⟩, fun hHeld => ?_⟩
  refine mn_ 5 ?_
  refine mp_ 3 6 ?_
  refine mu_ 4 7 ?_
  refine mu_ 5 8 ?_
  refine mu_ 6 9 ?_
  refine mp_ 7 10 ?_
  refine mp_ 8 11 ?_
  refine mu_ 9 12 ?_
  refine mu_ 10 13 ?_
  refine mu_ 11 14 ?_
  refine mp_ 12 15 ?_
  refine mp_ 13 16 ?_
  refine mu_ 14 17 ?_
  refine mu_ 15 18 ?_
  refine mu_ 16 19 ?_
  refine mu_ 17 20 ?_
  refine mu_ 18 21 ?_
  refine mp_ 19 22 ?_
  refine mp_ 20 23 ?_
  refine mu_ 21 24 ?_
  refine mu_ 22 25 ?_
  refine mu_ 23 26 ?_
  refine mu_ 24 27 ?_
  refine mu_ 25 28 ?_
  refine mu_ 26 29 ?_
  refine mu_ 27 30 ?_
  refine mp_ 28 31 ?_
  refine mp_ 29 2 ?_
  refine done_ (done_of HT_.out (by kernel_rfl)) ?_
  try go_wp2
  go_ret
  exact ⟨mf_, xw_ HB⟩

end Go.Proofs.YtpggepjfhgalkaaGreatDoor.PFnExactPickItem
