-- Written by a program of this project (xprint.py) out of the translation; Lean checks it.
import Derived.Test.YtpggepjfhgalkaaGreatDoorPFnExactMatchesx0
import Derived.Test.YtpggepjfhgalkaaGreatDoorPFnExactMatchesx1
import Derived.Test.YtpggepjfhgalkaaGreatDoorPFnExactMatchesx14
import Derived.Test.YtpggepjfhgalkaaGreatDoorPFnExactMatchesx15
import Derived.Test.YtpggepjfhgalkaaGreatDoorPFnExactMatchesx16
namespace Go.Proofs.YtpggepjfhgalkaaGreatDoor.PFnExactMatches
open Go.RowKit Go.Proofs.YtpggepjfhgalkaaGreatDoorW.PrintWords Go.Proofs.YtpggepjfhgalkaaGreatDoorW.PrintLast Go.Proofs.YtpggepjfhgalkaaGreatDoorW.PrintMore
attribute [local go_sem] max2_int min2_int max_two min_two max_three min_three max_four min_four   -- for this text's walks alone
set_option linter.unusedVariables false
set_option linter.unusedSimpArgs false

/-! ### impl_Matches: function 31 -/
def impl_Matches.f (k : Nat) (a0_0 : ByteArray) (l0_1 : List (S105)) (a0_2 : Int) (a0_3 : ByteArray) (l0_4 : List (S105)) (a0_5 : ByteArray) (a0_6 : Int) (a0_7 : Int) (a1_0 : ByteArray) (a1_1 : ByteArray) (l1_2 : List (S105)) (a1_3 : ByteArray) : Option (Bool × Bool) := (impl_isItem.f k a0_0 l0_1 a0_2 a0_3 l0_4 a0_5 a0_6 a0_7).bind fun t414 => (if t414 = true then ((impl_GoodRequest.f k a1_0 a1_1 l1_2 a1_3).bind fun t415 => (if t415 = true then ((impl_Item_matches.f k a0_0 l0_1 a0_2 a0_3 l0_4 a0_5 a0_6 a0_7 l1_2).bind fun t416 => (some (t416, true))) else (some (false, false)))) else (some (false, false)))
set_option maxHeartbeats 8000000 in
set_option maxRecDepth 100000 in
theorem impl_Matches.calls (k : Nat) (a0_0 : ByteArray) (A0_1 : Option Addr) (c0_1 : Nat) (l0_1 : List (S105)) (a0_2 : Int) (a0_3 : ByteArray) (A0_4 : Option Addr) (c0_4 : Nat) (l0_4 : List (S105)) (a0_5 : ByteArray) (a0_6 : Int) (a0_7 : Int) (a1_0 : ByteArray) (a1_1 : ByteArray) (A1_2 : Option Addr) (c1_2 : Nat) (l1_2 : List (S105)) (a1_3 : ByteArray) (r1 : Bool) (r2 : Bool) (w : World) (hr0_1 : Kd.C k105 w A0_1 l0_1.length l0_1) (hc0_1 : l0_1.length ≤ c0_1) (hr0_4 : Kd.C k105 w A0_4 l0_4.length l0_4) (hc0_4 : l0_4.length ≤ c0_4) (hr1_2 : Kd.C k105 w A1_2 l1_2.length l1_2) (hc1_2 : l1_2.length ≤ c1_2) (h : impl_Matches.f k a0_0 l0_1 a0_2 a0_3 l0_4 a0_5 a0_6 a0_7 a1_0 a1_1 l1_2 a1_3 = some (r1, r2)) (hT_ : TabOk w) :
  Calls Tryz.prog 31 #[.agg #[.string a0_0, .slice A0_1 l0_1.length c0_1, .int .i64 a0_2, .string a0_3, .slice A0_4 l0_4.length c0_4, .string a0_5, .int .i64 a0_6, .int .i64 a0_7], .agg #[.string a1_0, .string a1_1, .slice A1_2 l1_2.length c1_2, .string a1_3]] w fun e w' => e = .returned (.tuple #[.bool r1, .bool r2]) ∧ Below w.heap.size w w' := by
 have HTB_ := Aside0.mk hT_
 clear hT_
 have hu71 := Tryz.underlying71
 have hu35 := Tryz.underlying35
 have HR0_1 := Aside0.mk hr0_1
 have HC0_1 := Aside0.mk hc0_1
 clear hr0_1 hc0_1
 have HR0_4 := Aside0.mk hr0_4
 have HC0_4 := Aside0.mk hc0_4
 clear hr0_4 hc0_4
 have HR1_2 := Aside0.mk hr1_2
 have HC1_2 := Aside0.mk hc1_2
 clear hr1_2 hc1_2
 have HB := Aside0.mk (Below.refl w.heap.size w)
 have H := h
 unfold impl_Matches.f at H
 clear h
 replace H := mb_ H
 obtain ⟨t414, A3, H⟩ := H
 by_cases c4 : t414 = true
 ·subst c4
  rw [if_pos rfl] at H
  replace H := mb_ H
  obtain ⟨t415, A5, H⟩ := H
  by_cases c6 : t415 = true
  ·subst c6
   rw [if_pos rfl] at H
   replace H := mb_ H
   obtain ⟨t416, A7, H⟩ := H
   simp only [Option.some.injEq, Prod.mk.injEq] at H
   obtain ⟨rfl, rfl⟩ := H
   go_enter Tryz.func31, Tryz.ntmps31
   go_wp2_with (first | ((with_reducible refine gd_ 2 ?_); refine xbe_ (N := 2) (cs := #[.string a0_0, .slice A0_1 l0_1.length c0_1, .int .i64 a0_2, .string a0_3, .slice A0_4 l0_4.length c0_4, .string a0_5, .int .i64 a0_6, .int .i64 a0_7]) (t := 71) ?_; intro gb412 hg w8 hbox hb; have BK412 := Aside0.mk (hbox); have GE412 := xge_ HB hg; replace HB := xws_ HB hb; clear hb hbox hg) | ((with_reducible refine gd_ 3 ?_); refine xbe_ (N := 3) (cs := #[.string a1_0, .string a1_1, .slice A1_2 l1_2.length c1_2, .string a1_3]) (t := 35) ?_; intro gb413 hg w9 hbox hb; have BK413 := Aside0.mk (hbox); have GE413 := xge_ HB hg; replace HB := xws_ HB hb; have NB412_413 := xlt_ BK412 hg; have NB413_412 := xgt_ BK412 hg; replace BK412 := xbb_ BK412 hb; clear hb hbox hg; have hnb10 := NB412_413.out; have hnc10 := NB413_412.out; have ⟨_, _, _, _, _, _, _, _, _, _, _, _, _, _, _, _⟩ := c8_ BK412) | ((with_reducible refine gc_ 57 ?_); refine xgl_ (some 7) Tryz.func57 #[.agg #[.string a0_0, .slice A0_1 l0_1.length c0_1, .int .i64 a0_2, .string a0_3, .slice A0_4 l0_4.length c0_4, .string a0_5, .int .i64 a0_6, .int .i64 a0_7]] ?_; (with_reducible refine (impl_isItem.calls k a0_0 _ _ l0_1 a0_2 a0_3 _ _ l0_4 a0_5 a0_6 a0_7 true _ ?side1 ?side2 ?side3 ?side4 A3.out (HTB_.out.below (by first | (with_reducible exact Below.refl _ _) | (repeat (first | (with_reducible first | exact HB.out | exact Below.refl _ _ | apply below_alloc | apply pw_below_drewN | apply below_drew1 | refine below_set ?_ GE412.out | refine below_set ?_ GE413.out) | exact HB.out)) | (repeat (first | exact Below.refl _ _ | apply below_alloc | apply pw_below_drewN | apply below_drew1 | refine below_set ?_ GE412.out | refine below_set ?_ GE413.out))))).mono ?_); (case side1 => exact xc_ ((Kd.C_below HR0_1.out HB.out))); (case side2 => exact HC0_1.out); (case side3 => exact xc_ ((Kd.C_below HR0_4.out HB.out))); (case side4 => exact HC0_4.out); rintro e w12 ⟨rfl, hb⟩; refine ⟨_, rfl, ?_⟩; replace BK412 := xbb_ BK412 hb; replace BK413 := xbb_ BK413 hb; replace HB := xws_ HB hb; (try clear hb); have ⟨_, _, _, _, _, _, _, _⟩ := c4_ BK413) | (go_at_call 39; (with_reducible refine (impl_GoodRequest.calls k a1_0 a1_1 _ _ l1_2 a1_3 true _ ?side1 ?side2 A5.out (HTB_.out.below (by first | (with_reducible exact Below.refl _ _) | (repeat (first | (with_reducible first | exact HB.out | exact Below.refl _ _ | apply below_alloc | apply pw_below_drewN | apply below_drew1 | refine below_set ?_ GE412.out | refine below_set ?_ GE413.out) | exact HB.out)) | (repeat (first | exact Below.refl _ _ | apply below_alloc | apply pw_below_drewN | apply below_drew1 | refine below_set ?_ GE412.out | refine below_set ?_ GE413.out))))).mono ?_); (case side1 => exact xc_ ((Kd.C_below HR1_2.out HB.out))); (case side2 => exact HC1_2.out); rintro e w14 ⟨rfl, hb⟩; replace BK412 := xbb_ BK412 hb; replace BK413 := xbb_ BK413 hb; replace HB := xws_ HB hb; (try clear hb); have ⟨_, _, _, _, _, _, _, _, _, _, _, _, _, _, _, _⟩ := c8_ BK412; have ⟨_, _, _, _, _, _, _, _⟩ := c4_ BK413) | ((with_reducible refine gc_ 58 ?_); refine xgl_ (some 17) Tryz.func58 #[.agg #[.string a0_0, .slice A0_1 l0_1.length c0_1, .int .i64 a0_2, .string a0_3, .slice A0_4 l0_4.length c0_4, .string a0_5, .int .i64 a0_6, .int .i64 a0_7], .slice A1_2 l1_2.length c1_2] ?_; (with_reducible refine (impl_Item_matches.calls k a0_0 _ _ l0_1 a0_2 a0_3 _ _ l0_4 a0_5 a0_6 a0_7 _ _ l1_2 t416 _ ?side1 ?side2 ?side3 ?side4 ?side5 ?side6 A7.out).mono ?_); (case side1 => exact xc_ ((Kd.C_below HR0_1.out HB.out))); (case side2 => exact HC0_1.out); (case side3 => exact xc_ ((Kd.C_below HR0_4.out HB.out))); (case side4 => exact HC0_4.out); (case side5 => exact xc_ ((Kd.C_below HR1_2.out HB.out))); (case side6 => exact HC1_2.out); rintro e w17 ⟨rfl, hb⟩; refine ⟨_, rfl, ?_⟩; replace BK412 := xbb_ BK412 hb; replace BK413 := xbb_ BK413 hb; replace HB := xws_ HB hb; (try clear hb)))
   go_ret2
   exact ⟨mf_, xw_ HB⟩
  ·replace c6 := Bool.eq_false_iff.mpr c6
   subst c6
   rw [if_neg (show ¬ (false = true) by decide)] at H
   simp only [Option.some.injEq, Prod.mk.injEq] at H
   obtain ⟨rfl, rfl⟩ := H
   go_enter Tryz.func31, Tryz.ntmps31
   go_wp2_with (first | ((with_reducible refine gd_ 2 ?_); refine xbe_ (N := 2) (cs := #[.string a0_0, .slice A0_1 l0_1.length c0_1, .int .i64 a0_2, .string a0_3, .slice A0_4 l0_4.length c0_4, .string a0_5, .int .i64 a0_6, .int .i64 a0_7]) (t := 71) ?_; intro gb412 hg w18 hbox hb; have BK412 := Aside0.mk (hbox); have GE412 := xge_ HB hg; replace HB := xws_ HB hb; clear hb hbox hg) | ((with_reducible refine gd_ 3 ?_); refine xbe_ (N := 3) (cs := #[.string a1_0, .string a1_1, .slice A1_2 l1_2.length c1_2, .string a1_3]) (t := 35) ?_; intro gb413 hg w19 hbox hb; have BK413 := Aside0.mk (hbox); have GE413 := xge_ HB hg; replace HB := xws_ HB hb; have NB412_413 := xlt_ BK412 hg; have NB413_412 := xgt_ BK412 hg; replace BK412 := xbb_ BK412 hb; clear hb hbox hg; have hnb20 := NB412_413.out; have hnc20 := NB413_412.out; have ⟨_, _, _, _, _, _, _, _, _, _, _, _, _, _, _, _⟩ := c8_ BK412) | ((with_reducible refine gc_ 57 ?_); refine xgl_ (some 7) Tryz.func57 #[.agg #[.string a0_0, .slice A0_1 l0_1.length c0_1, .int .i64 a0_2, .string a0_3, .slice A0_4 l0_4.length c0_4, .string a0_5, .int .i64 a0_6, .int .i64 a0_7]] ?_; (with_reducible refine (impl_isItem.calls k a0_0 _ _ l0_1 a0_2 a0_3 _ _ l0_4 a0_5 a0_6 a0_7 true _ ?side1 ?side2 ?side3 ?side4 A3.out (HTB_.out.below (by first | (with_reducible exact Below.refl _ _) | (repeat (first | (with_reducible first | exact HB.out | exact Below.refl _ _ | apply below_alloc | apply pw_below_drewN | apply below_drew1 | refine below_set ?_ GE412.out | refine below_set ?_ GE413.out) | exact HB.out)) | (repeat (first | exact Below.refl _ _ | apply below_alloc | apply pw_below_drewN | apply below_drew1 | refine below_set ?_ GE412.out | refine below_set ?_ GE413.out))))).mono ?_); (case side1 => exact xc_ ((Kd.C_below HR0_1.out HB.out))); (case side2 => exact HC0_1.out); (case side3 => exact xc_ ((Kd.C_below HR0_4.out HB.out))); (case side4 => exact HC0_4.out); rintro e w22 ⟨rfl, hb⟩; refine ⟨_, rfl, ?_⟩; replace BK412 := xbb_ BK412 hb; replace BK413 := xbb_ BK413 hb; replace HB := xws_ HB hb; (try clear hb); have ⟨_, _, _, _, _, _, _, _⟩ := c4_ BK413) | (go_at_call 39; (with_reducible refine (impl_GoodRequest.calls k a1_0 a1_1 _ _ l1_2 a1_3 false _ ?side1 ?side2 A5.out (HTB_.out.below (by first | (with_reducible exact Below.refl _ _) | (repeat (first | (with_reducible first | exact HB.out | exact Below.refl _ _ | apply below_alloc | apply pw_below_drewN | apply below_drew1 | refine below_set ?_ GE412.out | refine below_set ?_ GE413.out) | exact HB.out)) | (repeat (first | exact Below.refl _ _ | apply below_alloc | apply pw_below_drewN | apply below_drew1 | refine below_set ?_ GE412.out | refine below_set ?_ GE413.out))))).mono ?_); (case side1 => exact xc_ ((Kd.C_below HR1_2.out HB.out))); (case side2 => exact HC1_2.out); rintro e w24 ⟨rfl, hb⟩; replace BK412 := xbb_ BK412 hb; replace BK413 := xbb_ BK413 hb; replace HB := xws_ HB hb; (try clear hb)))
   go_ret2
   exact ⟨mf_, xw_ HB⟩
 ·replace c4 := Bool.eq_false_iff.mpr c4
  subst c4
  rw [if_neg (show ¬ (false = true) by decide)] at H
  simp only [Option.some.injEq, Prod.mk.injEq] at H
  obtain ⟨rfl, rfl⟩ := H
  go_enter Tryz.func31, Tryz.ntmps31
  go_wp2_with (first | ((with_reducible refine gd_ 2 ?_); refine xbe_ (N := 2) (cs := #[.string a0_0, .slice A0_1 l0_1.length c0_1, .int .i64 a0_2, .string a0_3, .slice A0_4 l0_4.length c0_4, .string a0_5, .int .i64 a0_6, .int .i64 a0_7]) (t := 71) ?_; intro gb412 hg w25 hbox hb; have BK412 := Aside0.mk (hbox); have GE412 := xge_ HB hg; replace HB := xws_ HB hb; clear hb hbox hg) | ((with_reducible refine gd_ 3 ?_); refine xbe_ (N := 3) (cs := #[.string a1_0, .string a1_1, .slice A1_2 l1_2.length c1_2, .string a1_3]) (t := 35) ?_; intro gb413 hg w26 hbox hb; have BK413 := Aside0.mk (hbox); have GE413 := xge_ HB hg; replace HB := xws_ HB hb; have NB412_413 := xlt_ BK412 hg; have NB413_412 := xgt_ BK412 hg; replace BK412 := xbb_ BK412 hb; clear hb hbox hg; have hnb27 := NB412_413.out; have hnc27 := NB413_412.out; have ⟨_, _, _, _, _, _, _, _, _, _, _, _, _, _, _, _⟩ := c8_ BK412) | ((with_reducible refine gc_ 57 ?_); refine xgl_ (some 7) Tryz.func57 #[.agg #[.string a0_0, .slice A0_1 l0_1.length c0_1, .int .i64 a0_2, .string a0_3, .slice A0_4 l0_4.length c0_4, .string a0_5, .int .i64 a0_6, .int .i64 a0_7]] ?_; (with_reducible refine (impl_isItem.calls k a0_0 _ _ l0_1 a0_2 a0_3 _ _ l0_4 a0_5 a0_6 a0_7 false _ ?side1 ?side2 ?side3 ?side4 A3.out (HTB_.out.below (by first | (with_reducible exact Below.refl _ _) | (repeat (first | (with_reducible first | exact HB.out | exact Below.refl _ _ | apply below_alloc | apply pw_below_drewN | apply below_drew1 | refine below_set ?_ GE412.out | refine below_set ?_ GE413.out) | exact HB.out)) | (repeat (first | exact Below.refl _ _ | apply below_alloc | apply pw_below_drewN | apply below_drew1 | refine below_set ?_ GE412.out | refine below_set ?_ GE413.out))))).mono ?_); (case side1 => exact xc_ ((Kd.C_below HR0_1.out HB.out))); (case side2 => exact HC0_1.out); (case side3 => exact xc_ ((Kd.C_below HR0_4.out HB.out))); (case side4 => exact HC0_4.out); rintro e w29 ⟨rfl, hb⟩; refine ⟨_, rfl, ?_⟩; replace BK412 := xbb_ BK412 hb; replace BK413 := xbb_ BK413 hb; replace HB := xws_ HB hb; (try clear hb)))
  go_ret2
  exact ⟨mf_, xw_ HB⟩

/-! ### laws_eqResponse: function 24 -/
def laws_eqResponse.f (k : Nat) (a0_0 : Int) (a0_1 : ByteArray) (l0_2 : List (S105)) (a0_3 : ByteArray) (a1_0 : Int) (a1_1 : ByteArray) (l1_2 : List (S105)) (a1_3 : ByteArray) : Option (Bool) := if a0_0 = a1_0 then (if a0_1.toList = a1_1.toList then ((laws_eqFieldS.f k l0_2 l1_2).bind fun t419 => (if t419 = true then (if a0_3.toList = a1_3.toList then (some true) else (some false)) else (some false))) else (some false)) else (some false)
set_option maxHeartbeats 8000000 in
set_option maxRecDepth 100000 in
theorem laws_eqResponse.calls (k : Nat) (a0_0 : Int) (a0_1 : ByteArray) (A0_2 : Option Addr) (c0_2 : Nat) (l0_2 : List (S105)) (a0_3 : ByteArray) (a1_0 : Int) (a1_1 : ByteArray) (A1_2 : Option Addr) (c1_2 : Nat) (l1_2 : List (S105)) (a1_3 : ByteArray) (r : Bool) (w : World) (hr0_2 : Kd.C k105 w A0_2 l0_2.length l0_2) (hc0_2 : l0_2.length ≤ c0_2) (hr1_2 : Kd.C k105 w A1_2 l1_2.length l1_2) (hc1_2 : l1_2.length ≤ c1_2) (h : laws_eqResponse.f k a0_0 a0_1 l0_2 a0_3 a1_0 a1_1 l1_2 a1_3 = some r) :
  Calls Tryz.prog 24 #[.agg #[.int .i64 a0_0, .string a0_1, .slice A0_2 l0_2.length c0_2, .string a0_3], .agg #[.int .i64 a1_0, .string a1_1, .slice A1_2 l1_2.length c1_2, .string a1_3]] w fun e w' => e = .returned (.bool r) ∧ Below w.heap.size w w' := by
 have hu54 := Tryz.underlying54
 have HR0_2 := Aside0.mk hr0_2
 have HC0_2 := Aside0.mk hc0_2
 clear hr0_2 hc0_2
 have HR1_2 := Aside0.mk hr1_2
 have HC1_2 := Aside0.mk hc1_2
 clear hr1_2 hc1_2
 have HB := Aside0.mk (Below.refl w.heap.size w)
 have H := h
 unfold laws_eqResponse.f at H
 clear h
 by_cases c3 : a0_0 = a1_0
 ·rw [if_pos c3] at H
  have c3b0 : (a0_0 == a1_0) = true := beq_iff_eq.mpr c3
  have c3b1 : (a0_0 != a1_0) = false := bne_eq_false_iff_eq.mpr c3
  clear c3
  by_cases c4 : a0_1.toList = a1_1.toList
  ·rw [if_pos c4] at H
   have c4b0 : (a0_1.toList == a1_1.toList) = true := beq_iff_eq.mpr c4
   have c4b1 : (a0_1.toList != a1_1.toList) = false := bne_eq_false_iff_eq.mpr c4
   clear c4
   replace H := mb_ H
   obtain ⟨t419, A5, H⟩ := H
   by_cases c6 : t419 = true
   ·subst c6
    rw [if_pos rfl] at H
    by_cases c7 : a0_3.toList = a1_3.toList
    ·rw [if_pos c7] at H
     have c7b0 : (a0_3.toList == a1_3.toList) = true := beq_iff_eq.mpr c7
     have c7b1 : (a0_3.toList != a1_3.toList) = false := bne_eq_false_iff_eq.mpr c7
     clear c7
     obtain rfl := Option.some.inj H
     go_enter Tryz.func24, Tryz.ntmps24
     go_wp2_with (first | ((with_reducible refine gd_ 2 ?_); refine xbe_ (N := 2) (cs := #[.int .i64 a0_0, .string a0_1, .slice A0_2 l0_2.length c0_2, .string a0_3]) (t := 54) ?_; intro gb417 hg w8 hbox hb; have BK417 := Aside0.mk (hbox); have GE417 := xge_ HB hg; replace HB := xws_ HB hb; clear hb hbox hg) | ((with_reducible refine gd_ 3 ?_); refine xbe_ (N := 3) (cs := #[.int .i64 a1_0, .string a1_1, .slice A1_2 l1_2.length c1_2, .string a1_3]) (t := 54) ?_; intro gb418 hg w9 hbox hb; have BK418 := Aside0.mk (hbox); have GE418 := xge_ HB hg; replace HB := xws_ HB hb; have NB417_418 := xlt_ BK417 hg; have NB418_417 := xgt_ BK417 hg; replace BK417 := xbb_ BK417 hb; clear hb hbox hg; have hnb10 := NB417_418.out; have hnc10 := NB418_417.out; have ⟨_, _, _, _, _, _, _, _⟩ := c4_ BK417; have ⟨_, _, _, _, _, _, _, _⟩ := c4_ BK418) | ((with_reducible refine gc_ 42 ?_); refine xgl_ (some 19) Tryz.func42 #[.slice A0_2 l0_2.length c0_2, .slice A1_2 l1_2.length c1_2] ?_; (with_reducible refine (laws_eqFieldS.calls k _ _ l0_2 _ _ l1_2 true _ ?side1 ?side2 ?side3 ?side4 A5.out).mono ?_); (case side1 => exact xc_ ((Kd.C_below HR0_2.out HB.out))); (case side2 => exact HC0_2.out); (case side3 => exact xc_ ((Kd.C_below HR1_2.out HB.out))); (case side4 => exact HC1_2.out); rintro e w13 ⟨rfl, hb⟩; refine ⟨_, rfl, ?_⟩; replace BK417 := xbb_ BK417 hb; replace BK418 := xbb_ BK418 hb; replace HB := xws_ HB hb; (try clear hb); have ⟨_, _, _, _, _, _, _, _⟩ := c4_ BK417; have ⟨_, _, _, _, _, _, _, _⟩ := c4_ BK418))
     go_ret
     exact ⟨mf_, xw_ HB⟩
    ·rw [if_neg c7] at H
     have c7b0 : (a0_3.toList == a1_3.toList) = false := beq_eq_false_iff_ne.mpr c7
     have c7b1 : (a0_3.toList != a1_3.toList) = true := bne_iff_ne.mpr c7
     obtain rfl := Option.some.inj H
     go_enter Tryz.func24, Tryz.ntmps24
     go_wp2_with (first | ((with_reducible refine gd_ 2 ?_); refine xbe_ (N := 2) (cs := #[.int .i64 a0_0, .string a0_1, .slice A0_2 l0_2.length c0_2, .string a0_3]) (t := 54) ?_; intro gb417 hg w16 hbox hb; have BK417 := Aside0.mk (hbox); have GE417 := xge_ HB hg; replace HB := xws_ HB hb; clear hb hbox hg) | ((with_reducible refine gd_ 3 ?_); refine xbe_ (N := 3) (cs := #[.int .i64 a1_0, .string a1_1, .slice A1_2 l1_2.length c1_2, .string a1_3]) (t := 54) ?_; intro gb418 hg w17 hbox hb; have BK418 := Aside0.mk (hbox); have GE418 := xge_ HB hg; replace HB := xws_ HB hb; have NB417_418 := xlt_ BK417 hg; have NB418_417 := xgt_ BK417 hg; replace BK417 := xbb_ BK417 hb; clear hb hbox hg; have hnb18 := NB417_418.out; have hnc18 := NB418_417.out; have ⟨_, _, _, _, _, _, _, _⟩ := c4_ BK417; have ⟨_, _, _, _, _, _, _, _⟩ := c4_ BK418) | ((with_reducible refine gc_ 42 ?_); refine xgl_ (some 19) Tryz.func42 #[.slice A0_2 l0_2.length c0_2, .slice A1_2 l1_2.length c1_2] ?_; (with_reducible refine (laws_eqFieldS.calls k _ _ l0_2 _ _ l1_2 true _ ?side1 ?side2 ?side3 ?side4 A5.out).mono ?_); (case side1 => exact xc_ ((Kd.C_below HR0_2.out HB.out))); (case side2 => exact HC0_2.out); (case side3 => exact xc_ ((Kd.C_below HR1_2.out HB.out))); (case side4 => exact HC1_2.out); rintro e w21 ⟨rfl, hb⟩; refine ⟨_, rfl, ?_⟩; replace BK417 := xbb_ BK417 hb; replace BK418 := xbb_ BK418 hb; replace HB := xws_ HB hb; (try clear hb); have ⟨_, _, _, _, _, _, _, _⟩ := c4_ BK417; have ⟨_, _, _, _, _, _, _, _⟩ := c4_ BK418))
     go_ret
     exact ⟨mf_, xw_ HB⟩
   ·replace c6 := Bool.eq_false_iff.mpr c6
    subst c6
    rw [if_neg (show ¬ (false = true) by decide)] at H
    obtain rfl := Option.some.inj H
    go_enter Tryz.func24, Tryz.ntmps24
    go_wp2_with (first | ((with_reducible refine gd_ 2 ?_); refine xbe_ (N := 2) (cs := #[.int .i64 a0_0, .string a0_1, .slice A0_2 l0_2.length c0_2, .string a0_3]) (t := 54) ?_; intro gb417 hg w24 hbox hb; have BK417 := Aside0.mk (hbox); have GE417 := xge_ HB hg; replace HB := xws_ HB hb; clear hb hbox hg) | ((with_reducible refine gd_ 3 ?_); refine xbe_ (N := 3) (cs := #[.int .i64 a1_0, .string a1_1, .slice A1_2 l1_2.length c1_2, .string a1_3]) (t := 54) ?_; intro gb418 hg w25 hbox hb; have BK418 := Aside0.mk (hbox); have GE418 := xge_ HB hg; replace HB := xws_ HB hb; have NB417_418 := xlt_ BK417 hg; have NB418_417 := xgt_ BK417 hg; replace BK417 := xbb_ BK417 hb; clear hb hbox hg; have hnb26 := NB417_418.out; have hnc26 := NB418_417.out; have ⟨_, _, _, _, _, _, _, _⟩ := c4_ BK417; have ⟨_, _, _, _, _, _, _, _⟩ := c4_ BK418) | ((with_reducible refine gc_ 42 ?_); refine xgl_ (some 19) Tryz.func42 #[.slice A0_2 l0_2.length c0_2, .slice A1_2 l1_2.length c1_2] ?_; (with_reducible refine (laws_eqFieldS.calls k _ _ l0_2 _ _ l1_2 false _ ?side1 ?side2 ?side3 ?side4 A5.out).mono ?_); (case side1 => exact xc_ ((Kd.C_below HR0_2.out HB.out))); (case side2 => exact HC0_2.out); (case side3 => exact xc_ ((Kd.C_below HR1_2.out HB.out))); (case side4 => exact HC1_2.out); rintro e w29 ⟨rfl, hb⟩; refine ⟨_, rfl, ?_⟩; replace BK417 := xbb_ BK417 hb; replace BK418 := xbb_ BK418 hb; replace HB := xws_ HB hb; (try clear hb)))
    go_ret
    exact ⟨mf_, xw_ HB⟩
  ·rw [if_neg c4] at H
   have c4b0 : (a0_1.toList == a1_1.toList) = false := beq_eq_false_iff_ne.mpr c4
   have c4b1 : (a0_1.toList != a1_1.toList) = true := bne_iff_ne.mpr c4
   obtain rfl := Option.some.inj H
   go_enter Tryz.func24, Tryz.ntmps24
   go_wp2_with (first | ((with_reducible refine gd_ 2 ?_); refine xbe_ (N := 2) (cs := #[.int .i64 a0_0, .string a0_1, .slice A0_2 l0_2.length c0_2, .string a0_3]) (t := 54) ?_; intro gb417 hg w30 hbox hb; have BK417 := Aside0.mk (hbox); have GE417 := xge_ HB hg; replace HB := xws_ HB hb; clear hb hbox hg) | ((with_reducible refine gd_ 3 ?_); refine xbe_ (N := 3) (cs := #[.int .i64 a1_0, .string a1_1, .slice A1_2 l1_2.length c1_2, .string a1_3]) (t := 54) ?_; intro gb418 hg w31 hbox hb; have BK418 := Aside0.mk (hbox); have GE418 := xge_ HB hg; replace HB := xws_ HB hb; have NB417_418 := xlt_ BK417 hg; have NB418_417 := xgt_ BK417 hg; replace BK417 := xbb_ BK417 hb; clear hb hbox hg; have hnb32 := NB417_418.out; have hnc32 := NB418_417.out; have ⟨_, _, _, _, _, _, _, _⟩ := c4_ BK417; have ⟨_, _, _, _, _, _, _, _⟩ := c4_ BK418))
   go_ret
   exact ⟨mf_, xw_ HB⟩
 ·rw [if_neg c3] at H
  have c3b0 : (a0_0 == a1_0) = false := beq_eq_false_iff_ne.mpr c3
  have c3b1 : (a0_0 != a1_0) = true := bne_iff_ne.mpr c3
  obtain rfl := Option.some.inj H
  go_enter Tryz.func24, Tryz.ntmps24
  go_wp2_with (first | ((with_reducible refine gd_ 2 ?_); refine xbe_ (N := 2) (cs := #[.int .i64 a0_0, .string a0_1, .slice A0_2 l0_2.length c0_2, .string a0_3]) (t := 54) ?_; intro gb417 hg w35 hbox hb; have BK417 := Aside0.mk (hbox); have GE417 := xge_ HB hg; replace HB := xws_ HB hb; clear hb hbox hg) | ((with_reducible refine gd_ 3 ?_); refine xbe_ (N := 3) (cs := #[.int .i64 a1_0, .string a1_1, .slice A1_2 l1_2.length c1_2, .string a1_3]) (t := 54) ?_; intro gb418 hg w36 hbox hb; have BK418 := Aside0.mk (hbox); have GE418 := xge_ HB hg; replace HB := xws_ HB hb; have NB417_418 := xlt_ BK417 hg; have NB418_417 := xgt_ BK417 hg; replace BK417 := xbb_ BK417 hb; clear hb hbox hg; have hnb37 := NB417_418.out; have hnc37 := NB418_417.out; have ⟨_, _, _, _, _, _, _, _⟩ := c4_ BK417; have ⟨_, _, _, _, _, _, _, _⟩ := c4_ BK418))
  go_ret
  exact ⟨mf_, xw_ HB⟩

/-! ### laws_eqKept: function 59 -/
def laws_eqKept.f (k : Nat) (a0_0 : Int) (a0_1 : ByteArray) (l0_2 : List (S105)) (a0_3 : ByteArray) (a0_4 : Int) (a0_5 : Int) (a1_0 : Int) (a1_1 : ByteArray) (l1_2 : List (S105)) (a1_3 : ByteArray) (a1_4 : Int) (a1_5 : Int) : Option (Bool) := (laws_eqResponse.f k a0_0 a0_1 l0_2 a0_3 a1_0 a1_1 l1_2 a1_3).bind fun t422 => (if t422 = true then (if a0_4 = a1_4 then (if a0_5 = a1_5 then (some true) else (some false)) else (some false)) else (some false))
set_option maxHeartbeats 8000000 in
set_option maxRecDepth 100000 in
theorem laws_eqKept.calls (k : Nat) (a0_0 : Int) (a0_1 : ByteArray) (A0_2 : Option Addr) (c0_2 : Nat) (l0_2 : List (S105)) (a0_3 : ByteArray) (a0_4 : Int) (a0_5 : Int) (a1_0 : Int) (a1_1 : ByteArray) (A1_2 : Option Addr) (c1_2 : Nat) (l1_2 : List (S105)) (a1_3 : ByteArray) (a1_4 : Int) (a1_5 : Int) (r : Bool) (w : World) (hr0_2 : Kd.C k105 w A0_2 l0_2.length l0_2) (hc0_2 : l0_2.length ≤ c0_2) (hr1_2 : Kd.C k105 w A1_2 l1_2.length l1_2) (hc1_2 : l1_2.length ≤ c1_2) (h : laws_eqKept.f k a0_0 a0_1 l0_2 a0_3 a0_4 a0_5 a1_0 a1_1 l1_2 a1_3 a1_4 a1_5 = some r) :
  Calls Tryz.prog 59 #[.agg #[.int .i64 a0_0, .string a0_1, .slice A0_2 l0_2.length c0_2, .string a0_3, .int .i64 a0_4, .int .i64 a0_5], .agg #[.int .i64 a1_0, .string a1_1, .slice A1_2 l1_2.length c1_2, .string a1_3, .int .i64 a1_4, .int .i64 a1_5]] w fun e w' => e = .returned (.bool r) ∧ Below w.heap.size w w' := by
 have hu69 := Tryz.underlying69
 have hu54 := Tryz.underlying54
 have HR0_2 := Aside0.mk hr0_2
 have HC0_2 := Aside0.mk hc0_2
 clear hr0_2 hc0_2
 have HR1_2 := Aside0.mk hr1_2
 have HC1_2 := Aside0.mk hc1_2
 clear hr1_2 hc1_2
 have HB := Aside0.mk (Below.refl w.heap.size w)
 have H := h
 unfold laws_eqKept.f at H
 clear h
 replace H := mb_ H
 obtain ⟨t422, A3, H⟩ := H
 by_cases c4 : t422 = true
 ·subst c4
  rw [if_pos rfl] at H
  by_cases c5 : a0_4 = a1_4
  ·rw [if_pos c5] at H
   have c5b0 : (a0_4 == a1_4) = true := beq_iff_eq.mpr c5
   have c5b1 : (a0_4 != a1_4) = false := bne_eq_false_iff_eq.mpr c5
   clear c5
   by_cases c6 : a0_5 = a1_5
   ·rw [if_pos c6] at H
    have c6b0 : (a0_5 == a1_5) = true := beq_iff_eq.mpr c6
    have c6b1 : (a0_5 != a1_5) = false := bne_eq_false_iff_eq.mpr c6
    clear c6
    obtain rfl := Option.some.inj H
    go_enter Tryz.func59, Tryz.ntmps59
    go_wp2_with (first | ((with_reducible refine gd_ 2 ?_); refine xbe_ (N := 2) (cs := #[.int .i64 a0_0, .string a0_1, .slice A0_2 l0_2.length c0_2, .string a0_3, .int .i64 a0_4, .int .i64 a0_5]) (t := 69) ?_; intro gb420 hg w7 hbox hb; have BK420 := Aside0.mk (hbox); have GE420 := xge_ HB hg; replace HB := xws_ HB hb; clear hb hbox hg) | ((with_reducible refine gd_ 3 ?_); refine xbe_ (N := 3) (cs := #[.int .i64 a1_0, .string a1_1, .slice A1_2 l1_2.length c1_2, .string a1_3, .int .i64 a1_4, .int .i64 a1_5]) (t := 69) ?_; intro gb421 hg w8 hbox hb; have BK421 := Aside0.mk (hbox); have GE421 := xge_ HB hg; replace HB := xws_ HB hb; have NB420_421 := xlt_ BK420 hg; have NB421_420 := xgt_ BK420 hg; replace BK420 := xbb_ BK420 hb; clear hb hbox hg; have hnb9 := NB420_421.out; have hnc9 := NB421_420.out; have ⟨_, _, _, _, _, _, _, _, _, _, _, _⟩ := c6_ BK420; have ⟨_, _, _, _, _, _, _, _, _, _, _, _⟩ := c6_ BK421) | ((with_reducible refine gc_ 24 ?_); refine xgl_ (some 9) Tryz.func24 #[.agg #[.int .i64 a0_0, .string a0_1, .slice A0_2 l0_2.length c0_2, .string a0_3], .agg #[.int .i64 a1_0, .string a1_1, .slice A1_2 l1_2.length c1_2, .string a1_3]] ?_; (with_reducible refine (laws_eqResponse.calls k a0_0 a0_1 _ _ l0_2 a0_3 a1_0 a1_1 _ _ l1_2 a1_3 true _ ?side1 ?side2 ?side3 ?side4 A3.out).mono ?_); (case side1 => exact xc_ ((Kd.C_below HR0_2.out HB.out))); (case side2 => exact HC0_2.out); (case side3 => exact xc_ ((Kd.C_below HR1_2.out HB.out))); (case side4 => exact HC1_2.out); rintro e w12 ⟨rfl, hb⟩; refine ⟨_, rfl, ?_⟩; replace BK420 := xbb_ BK420 hb; replace BK421 := xbb_ BK421 hb; replace HB := xws_ HB hb; (try clear hb); have ⟨_, _, _, _, _, _, _, _, _, _, _, _⟩ := c6_ BK420; have ⟨_, _, _, _, _, _, _, _, _, _, _, _⟩ := c6_ BK421))
    go_ret
    exact ⟨mf_, xw_ HB⟩
   ·rw [if_neg c6] at H
    have c6b0 : (a0_5 == a1_5) = false := beq_eq_false_iff_ne.mpr c6
    have c6b1 : (a0_5 != a1_5) = true := bne_iff_ne.mpr c6
    obtain rfl := Option.some.inj H
    go_enter Tryz.func59, Tryz.ntmps59
    go_wp2_with (first | ((with_reducible refine gd_ 2 ?_); refine xbe_ (N := 2) (cs := #[.int .i64 a0_0, .string a0_1, .slice A0_2 l0_2.length c0_2, .string a0_3, .int .i64 a0_4, .int .i64 a0_5]) (t := 69) ?_; intro gb420 hg w15 hbox hb; have BK420 := Aside0.mk (hbox); have GE420 := xge_ HB hg; replace HB := xws_ HB hb; clear hb hbox hg) | ((with_reducible refine gd_ 3 ?_); refine xbe_ (N := 3) (cs := #[.int .i64 a1_0, .string a1_1, .slice A1_2 l1_2.length c1_2, .string a1_3, .int .i64 a1_4, .int .i64 a1_5]) (t := 69) ?_; intro gb421 hg w16 hbox hb; have BK421 := Aside0.mk (hbox); have GE421 := xge_ HB hg; replace HB := xws_ HB hb; have NB420_421 := xlt_ BK420 hg; have NB421_420 := xgt_ BK420 hg; replace BK420 := xbb_ BK420 hb; clear hb hbox hg; have hnb17 := NB420_421.out; have hnc17 := NB421_420.out; have ⟨_, _, _, _, _, _, _, _, _, _, _, _⟩ := c6_ BK420; have ⟨_, _, _, _, _, _, _, _, _, _, _, _⟩ := c6_ BK421) | ((with_reducible refine gc_ 24 ?_); refine xgl_ (some 9) Tryz.func24 #[.agg #[.int .i64 a0_0, .string a0_1, .slice A0_2 l0_2.length c0_2, .string a0_3], .agg #[.int .i64 a1_0, .string a1_1, .slice A1_2 l1_2.length c1_2, .string a1_3]] ?_; (with_reducible refine (laws_eqResponse.calls k a0_0 a0_1 _ _ l0_2 a0_3 a1_0 a1_1 _ _ l1_2 a1_3 true _ ?side1 ?side2 ?side3 ?side4 A3.out).mono ?_); (case side1 => exact xc_ ((Kd.C_below HR0_2.out HB.out))); (case side2 => exact HC0_2.out); (case side3 => exact xc_ ((Kd.C_below HR1_2.out HB.out))); (case side4 => exact HC1_2.out); rintro e w20 ⟨rfl, hb⟩; refine ⟨_, rfl, ?_⟩; replace BK420 := xbb_ BK420 hb; replace BK421 := xbb_ BK421 hb; replace HB := xws_ HB hb; (try clear hb); have ⟨_, _, _, _, _, _, _, _, _, _, _, _⟩ := c6_ BK420; have ⟨_, _, _, _, _, _, _, _, _, _, _, _⟩ := c6_ BK421))
    go_ret
    exact ⟨mf_, xw_ HB⟩
  ·rw [if_neg c5] at H
   have c5b0 : (a0_4 == a1_4) = false := beq_eq_false_iff_ne.mpr c5
   have c5b1 : (a0_4 != a1_4) = true := bne_iff_ne.mpr c5
   obtain rfl := Option.some.inj H
   go_enter Tryz.func59, Tryz.ntmps59
   go_wp2_with (first | ((with_reducible refine gd_ 2 ?_); refine xbe_ (N := 2) (cs := #[.int .i64 a0_0, .string a0_1, .slice A0_2 l0_2.length c0_2, .string a0_3, .int .i64 a0_4, .int .i64 a0_5]) (t := 69) ?_; intro gb420 hg w23 hbox hb; have BK420 := Aside0.mk (hbox); have GE420 := xge_ HB hg; replace HB := xws_ HB hb; clear hb hbox hg) | ((with_reducible refine gd_ 3 ?_); refine xbe_ (N := 3) (cs := #[.int .i64 a1_0, .string a1_1, .slice A1_2 l1_2.length c1_2, .string a1_3, .int .i64 a1_4, .int .i64 a1_5]) (t := 69) ?_; intro gb421 hg w24 hbox hb; have BK421 := Aside0.mk (hbox); have GE421 := xge_ HB hg; replace HB := xws_ HB hb; have NB420_421 := xlt_ BK420 hg; have NB421_420 := xgt_ BK420 hg; replace BK420 := xbb_ BK420 hb; clear hb hbox hg; have hnb25 := NB420_421.out; have hnc25 := NB421_420.out; have ⟨_, _, _, _, _, _, _, _, _, _, _, _⟩ := c6_ BK420; have ⟨_, _, _, _, _, _, _, _, _, _, _, _⟩ := c6_ BK421) | ((with_reducible refine gc_ 24 ?_); refine xgl_ (some 9) Tryz.func24 #[.agg #[.int .i64 a0_0, .string a0_1, .slice A0_2 l0_2.length c0_2, .string a0_3], .agg #[.int .i64 a1_0, .string a1_1, .slice A1_2 l1_2.length c1_2, .string a1_3]] ?_; (with_reducible refine (laws_eqResponse.calls k a0_0 a0_1 _ _ l0_2 a0_3 a1_0 a1_1 _ _ l1_2 a1_3 true _ ?side1 ?side2 ?side3 ?side4 A3.out).mono ?_); (case side1 => exact xc_ ((Kd.C_below HR0_2.out HB.out))); (case side2 => exact HC0_2.out); (case side3 => exact xc_ ((Kd.C_below HR1_2.out HB.out))); (case side4 => exact HC1_2.out); rintro e w28 ⟨rfl, hb⟩; refine ⟨_, rfl, ?_⟩; replace BK420 := xbb_ BK420 hb; replace BK421 := xbb_ BK421 hb; replace HB := xws_ HB hb; (try clear hb); have ⟨_, _, _, _, _, _, _, _, _, _, _, _⟩ := c6_ BK420; have ⟨_, _, _, _, _, _, _, _, _, _, _, _⟩ := c6_ BK421))
   go_ret
   exact ⟨mf_, xw_ HB⟩
 ·replace c4 := Bool.eq_false_iff.mpr c4
  subst c4
  rw [if_neg (show ¬ (false = true) by decide)] at H
  obtain rfl := Option.some.inj H
  go_enter Tryz.func59, Tryz.ntmps59
  go_wp2_with (first | ((with_reducible refine gd_ 2 ?_); refine xbe_ (N := 2) (cs := #[.int .i64 a0_0, .string a0_1, .slice A0_2 l0_2.length c0_2, .string a0_3, .int .i64 a0_4, .int .i64 a0_5]) (t := 69) ?_; intro gb420 hg w31 hbox hb; have BK420 := Aside0.mk (hbox); have GE420 := xge_ HB hg; replace HB := xws_ HB hb; clear hb hbox hg) | ((with_reducible refine gd_ 3 ?_); refine xbe_ (N := 3) (cs := #[.int .i64 a1_0, .string a1_1, .slice A1_2 l1_2.length c1_2, .string a1_3, .int .i64 a1_4, .int .i64 a1_5]) (t := 69) ?_; intro gb421 hg w32 hbox hb; have BK421 := Aside0.mk (hbox); have GE421 := xge_ HB hg; replace HB := xws_ HB hb; have NB420_421 := xlt_ BK420 hg; have NB421_420 := xgt_ BK420 hg; replace BK420 := xbb_ BK420 hb; clear hb hbox hg; have hnb33 := NB420_421.out; have hnc33 := NB421_420.out; have ⟨_, _, _, _, _, _, _, _, _, _, _, _⟩ := c6_ BK420; have ⟨_, _, _, _, _, _, _, _, _, _, _, _⟩ := c6_ BK421) | ((with_reducible refine gc_ 24 ?_); refine xgl_ (some 9) Tryz.func24 #[.agg #[.int .i64 a0_0, .string a0_1, .slice A0_2 l0_2.length c0_2, .string a0_3], .agg #[.int .i64 a1_0, .string a1_1, .slice A1_2 l1_2.length c1_2, .string a1_3]] ?_; (with_reducible refine (laws_eqResponse.calls k a0_0 a0_1 _ _ l0_2 a0_3 a1_0 a1_1 _ _ l1_2 a1_3 false _ ?side1 ?side2 ?side3 ?side4 A3.out).mono ?_); (case side1 => exact xc_ ((Kd.C_below HR0_2.out HB.out))); (case side2 => exact HC0_2.out); (case side3 => exact xc_ ((Kd.C_below HR1_2.out HB.out))); (case side4 => exact HC1_2.out); rintro e w36 ⟨rfl, hb⟩; refine ⟨_, rfl, ?_⟩; replace BK420 := xbb_ BK420 hb; replace BK421 := xbb_ BK421 hb; replace HB := xws_ HB hb; (try clear hb)))
  go_ret
  exact ⟨mf_, xw_ HB⟩

/-! ### laws_eqItem: function 32 -/
def laws_eqItem.f (k : Nat) (a0_0 : ByteArray) (l0_1 : List (S105)) (a0_2 : Int) (a0_3 : ByteArray) (l0_4 : List (S105)) (a0_5 : ByteArray) (a0_6 : Int) (a0_7 : Int) (a1_0 : ByteArray) (l1_1 : List (S105)) (a1_2 : Int) (a1_3 : ByteArray) (l1_4 : List (S105)) (a1_5 : ByteArray) (a1_6 : Int) (a1_7 : Int) : Option (Bool) := if a0_0.toList = a1_0.toList then ((laws_eqFieldS.f k l0_1 l1_1).bind fun t425 => (if t425 = true then ((laws_eqKept.f k a0_2 a0_3 l0_4 a0_5 a0_6 a0_7 a1_2 a1_3 l1_4 a1_5 a1_6 a1_7).bind fun t426 => (if t426 = true then (some true) else (some false))) else (some false))) else (some false)
set_option maxHeartbeats 8000000 in
set_option maxRecDepth 100000 in
theorem laws_eqItem.calls (k : Nat) (a0_0 : ByteArray) (A0_1 : Option Addr) (c0_1 : Nat) (l0_1 : List (S105)) (a0_2 : Int) (a0_3 : ByteArray) (A0_4 : Option Addr) (c0_4 : Nat) (l0_4 : List (S105)) (a0_5 : ByteArray) (a0_6 : Int) (a0_7 : Int) (a1_0 : ByteArray) (A1_1 : Option Addr) (c1_1 : Nat) (l1_1 : List (S105)) (a1_2 : Int) (a1_3 : ByteArray) (A1_4 : Option Addr) (c1_4 : Nat) (l1_4 : List (S105)) (a1_5 : ByteArray) (a1_6 : Int) (a1_7 : Int) (r : Bool) (w : World) (hr0_1 : Kd.C k105 w A0_1 l0_1.length l0_1) (hc0_1 : l0_1.length ≤ c0_1) (hr0_4 : Kd.C k105 w A0_4 l0_4.length l0_4) (hc0_4 : l0_4.length ≤ c0_4) (hr1_1 : Kd.C k105 w A1_1 l1_1.length l1_1) (hc1_1 : l1_1.length ≤ c1_1) (hr1_4 : Kd.C k105 w A1_4 l1_4.length l1_4) (hc1_4 : l1_4.length ≤ c1_4) (h : laws_eqItem.f k a0_0 l0_1 a0_2 a0_3 l0_4 a0_5 a0_6 a0_7 a1_0 l1_1 a1_2 a1_3 l1_4 a1_5 a1_6 a1_7 = some r) :
  Calls Tryz.prog 32 #[.agg #[.string a0_0, .slice A0_1 l0_1.length c0_1, .int .i64 a0_2, .string a0_3, .slice A0_4 l0_4.length c0_4, .string a0_5, .int .i64 a0_6, .int .i64 a0_7], .agg #[.string a1_0, .slice A1_1 l1_1.length c1_1, .int .i64 a1_2, .string a1_3, .slice A1_4 l1_4.length c1_4, .string a1_5, .int .i64 a1_6, .int .i64 a1_7]] w fun e w' => e = .returned (.bool r) ∧ Below w.heap.size w w' := by
 have hu71 := Tryz.underlying71
 have hu69 := Tryz.underlying69
 have HR0_1 := Aside0.mk hr0_1
 have HC0_1 := Aside0.mk hc0_1
 clear hr0_1 hc0_1
 have HR0_4 := Aside0.mk hr0_4
 have HC0_4 := Aside0.mk hc0_4
 clear hr0_4 hc0_4
 have HR1_1 := Aside0.mk hr1_1
 have HC1_1 := Aside0.mk hc1_1
 clear hr1_1 hc1_1
 have HR1_4 := Aside0.mk hr1_4
 have HC1_4 := Aside0.mk hc1_4
 clear hr1_4 hc1_4
 have HB := Aside0.mk (Below.refl w.heap.size w)
 have H := h
 unfold laws_eqItem.f at H
 clear h
 by_cases c3 : a0_0.toList = a1_0.toList
 ·rw [if_pos c3] at H
  have c3b0 : (a0_0.toList == a1_0.toList) = true := beq_iff_eq.mpr c3
  have c3b1 : (a0_0.toList != a1_0.toList) = false := bne_eq_false_iff_eq.mpr c3
  clear c3
  replace H := mb_ H
  obtain ⟨t425, A4, H⟩ := H
  by_cases c5 : t425 = true
  ·subst c5
   rw [if_pos rfl] at H
   replace H := mb_ H
   obtain ⟨t426, A6, H⟩ := H
   by_cases c7 : t426 = true
   ·subst c7
    rw [if_pos rfl] at H
    obtain rfl := Option.some.inj H
    go_enter Tryz.func32, Tryz.ntmps32
    go_wp2_with (first | ((with_reducible refine gd_ 2 ?_); refine xbe_ (N := 2) (cs := #[.string a0_0, .slice A0_1 l0_1.length c0_1, .int .i64 a0_2, .string a0_3, .slice A0_4 l0_4.length c0_4, .string a0_5, .int .i64 a0_6, .int .i64 a0_7]) (t := 71) ?_; intro gb423 hg w8 hbox hb; have BK423 := Aside0.mk (hbox); have GE423 := xge_ HB hg; replace HB := xws_ HB hb; clear hb hbox hg) | ((with_reducible refine gd_ 3 ?_); refine xbe_ (N := 3) (cs := #[.string a1_0, .slice A1_1 l1_1.length c1_1, .int .i64 a1_2, .string a1_3, .slice A1_4 l1_4.length c1_4, .string a1_5, .int .i64 a1_6, .int .i64 a1_7]) (t := 71) ?_; intro gb424 hg w9 hbox hb; have BK424 := Aside0.mk (hbox); have GE424 := xge_ HB hg; replace HB := xws_ HB hb; have NB423_424 := xlt_ BK423 hg; have NB424_423 := xgt_ BK423 hg; replace BK423 := xbb_ BK423 hb; clear hb hbox hg; have hnb10 := NB423_424.out; have hnc10 := NB424_423.out; have ⟨_, _, _, _, _, _, _, _, _, _, _, _, _, _, _, _⟩ := c8_ BK423; have ⟨_, _, _, _, _, _, _, _, _, _, _, _, _, _, _, _⟩ := c8_ BK424) | ((with_reducible refine gc_ 42 ?_); refine xgl_ (some 14) Tryz.func42 #[.slice A0_1 l0_1.length c0_1, .slice A1_1 l1_1.length c1_1] ?_; (with_reducible refine (laws_eqFieldS.calls k _ _ l0_1 _ _ l1_1 true _ ?side1 ?side2 ?side3 ?side4 A4.out).mono ?_); (case side1 => exact xc_ ((Kd.C_below HR0_1.out HB.out))); (case side2 => exact HC0_1.out); (case side3 => exact xc_ ((Kd.C_below HR1_1.out HB.out))); (case side4 => exact HC1_1.out); rintro e w13 ⟨rfl, hb⟩; refine ⟨_, rfl, ?_⟩; replace BK423 := xbb_ BK423 hb; replace BK424 := xbb_ BK424 hb; replace HB := xws_ HB hb; (try clear hb); have ⟨_, _, _, _, _, _, _, _, _, _, _, _, _, _, _, _⟩ := c8_ BK423; have ⟨_, _, _, _, _, _, _, _, _, _, _, _, _, _, _, _⟩ := c8_ BK424) | ((with_reducible refine gc_ 59 ?_); refine xgl_ (some 20) Tryz.func59 #[.agg #[.int .i64 a0_2, .string a0_3, .slice A0_4 l0_4.length c0_4, .string a0_5, .int .i64 a0_6, .int .i64 a0_7], .agg #[.int .i64 a1_2, .string a1_3, .slice A1_4 l1_4.length c1_4, .string a1_5, .int .i64 a1_6, .int .i64 a1_7]] ?_; (with_reducible refine (laws_eqKept.calls k a0_2 a0_3 _ _ l0_4 a0_5 a0_6 a0_7 a1_2 a1_3 _ _ l1_4 a1_5 a1_6 a1_7 true _ ?side1 ?side2 ?side3 ?side4 A6.out).mono ?_); (case side1 => exact xc_ ((Kd.C_below HR0_4.out HB.out))); (case side2 => exact HC0_4.out); (case side3 => exact xc_ ((Kd.C_below HR1_4.out HB.out))); (case side4 => exact HC1_4.out); rintro e w16 ⟨rfl, hb⟩; refine ⟨_, rfl, ?_⟩; replace BK423 := xbb_ BK423 hb; replace BK424 := xbb_ BK424 hb; replace HB := xws_ HB hb; (try clear hb)))
    go_ret
    exact ⟨mf_, xw_ HB⟩
   ·replace c7 := Bool.eq_false_iff.mpr c7
    subst c7
    rw [if_neg (show ¬ (false = true) by decide)] at H
    obtain rfl := Option.some.inj H
    go_enter Tryz.func32, Tryz.ntmps32
    go_wp2_with (first | ((with_reducible refine gd_ 2 ?_); refine xbe_ (N := 2) (cs := #[.string a0_0, .slice A0_1 l0_1.length c0_1, .int .i64 a0_2, .string a0_3, .slice A0_4 l0_4.length c0_4, .string a0_5, .int .i64 a0_6, .int .i64 a0_7]) (t := 71) ?_; intro gb423 hg w17 hbox hb; have BK423 := Aside0.mk (hbox); have GE423 := xge_ HB hg; replace HB := xws_ HB hb; clear hb hbox hg) | ((with_reducible refine gd_ 3 ?_); refine xbe_ (N := 3) (cs := #[.string a1_0, .slice A1_1 l1_1.length c1_1, .int .i64 a1_2, .string a1_3, .slice A1_4 l1_4.length c1_4, .string a1_5, .int .i64 a1_6, .int .i64 a1_7]) (t := 71) ?_; intro gb424 hg w18 hbox hb; have BK424 := Aside0.mk (hbox); have GE424 := xge_ HB hg; replace HB := xws_ HB hb; have NB423_424 := xlt_ BK423 hg; have NB424_423 := xgt_ BK423 hg; replace BK423 := xbb_ BK423 hb; clear hb hbox hg; have hnb19 := NB423_424.out; have hnc19 := NB424_423.out; have ⟨_, _, _, _, _, _, _, _, _, _, _, _, _, _, _, _⟩ := c8_ BK423; have ⟨_, _, _, _, _, _, _, _, _, _, _, _, _, _, _, _⟩ := c8_ BK424) | ((with_reducible refine gc_ 42 ?_); refine xgl_ (some 14) Tryz.func42 #[.slice A0_1 l0_1.length c0_1, .slice A1_1 l1_1.length c1_1] ?_; (with_reducible refine (laws_eqFieldS.calls k _ _ l0_1 _ _ l1_1 true _ ?side1 ?side2 ?side3 ?side4 A4.out).mono ?_); (case side1 => exact xc_ ((Kd.C_below HR0_1.out HB.out))); (case side2 => exact HC0_1.out); (case side3 => exact xc_ ((Kd.C_below HR1_1.out HB.out))); (case side4 => exact HC1_1.out); rintro e w22 ⟨rfl, hb⟩; refine ⟨_, rfl, ?_⟩; replace BK423 := xbb_ BK423 hb; replace BK424 := xbb_ BK424 hb; replace HB := xws_ HB hb; (try clear hb); have ⟨_, _, _, _, _, _, _, _, _, _, _, _, _, _, _, _⟩ := c8_ BK423; have ⟨_, _, _, _, _, _, _, _, _, _, _, _, _, _, _, _⟩ := c8_ BK424) | ((with_reducible refine gc_ 59 ?_); refine xgl_ (some 20) Tryz.func59 #[.agg #[.int .i64 a0_2, .string a0_3, .slice A0_4 l0_4.length c0_4, .string a0_5, .int .i64 a0_6, .int .i64 a0_7], .agg #[.int .i64 a1_2, .string a1_3, .slice A1_4 l1_4.length c1_4, .string a1_5, .int .i64 a1_6, .int .i64 a1_7]] ?_; (with_reducible refine (laws_eqKept.calls k a0_2 a0_3 _ _ l0_4 a0_5 a0_6 a0_7 a1_2 a1_3 _ _ l1_4 a1_5 a1_6 a1_7 false _ ?side1 ?side2 ?side3 ?side4 A6.out).mono ?_); (case side1 => exact xc_ ((Kd.C_below HR0_4.out HB.out))); (case side2 => exact HC0_4.out); (case side3 => exact xc_ ((Kd.C_below HR1_4.out HB.out))); (case side4 => exact HC1_4.out); rintro e w25 ⟨rfl, hb⟩; refine ⟨_, rfl, ?_⟩; replace BK423 := xbb_ BK423 hb; replace BK424 := xbb_ BK424 hb; replace HB := xws_ HB hb; (try clear hb)))
    go_ret
    exact ⟨mf_, xw_ HB⟩
  ·replace c5 := Bool.eq_false_iff.mpr c5
   subst c5
   rw [if_neg (show ¬ (false = true) by decide)] at H
   obtain rfl := Option.some.inj H
   go_enter Tryz.func32, Tryz.ntmps32
   go_wp2_with (first | ((with_reducible refine gd_ 2 ?_); refine xbe_ (N := 2) (cs := #[.string a0_0, .slice A0_1 l0_1.length c0_1, .int .i64 a0_2, .string a0_3, .slice A0_4 l0_4.length c0_4, .string a0_5, .int .i64 a0_6, .int .i64 a0_7]) (t := 71) ?_; intro gb423 hg w26 hbox hb; have BK423 := Aside0.mk (hbox); have GE423 := xge_ HB hg; replace HB := xws_ HB hb; clear hb hbox hg) | ((with_reducible refine gd_ 3 ?_); refine xbe_ (N := 3) (cs := #[.string a1_0, .slice A1_1 l1_1.length c1_1, .int .i64 a1_2, .string a1_3, .slice A1_4 l1_4.length c1_4, .string a1_5, .int .i64 a1_6, .int .i64 a1_7]) (t := 71) ?_; intro gb424 hg w27 hbox hb; have BK424 := Aside0.mk (hbox); have GE424 := xge_ HB hg; replace HB := xws_ HB hb; have NB423_424 := xlt_ BK423 hg; have NB424_423 := xgt_ BK423 hg; replace BK423 := xbb_ BK423 hb; clear hb hbox hg; have hnb28 := NB423_424.out; have hnc28 := NB424_423.out; have ⟨_, _, _, _, _, _, _, _, _, _, _, _, _, _, _, _⟩ := c8_ BK423; have ⟨_, _, _, _, _, _, _, _, _, _, _, _, _, _, _, _⟩ := c8_ BK424) | ((with_reducible refine gc_ 42 ?_); refine xgl_ (some 14) Tryz.func42 #[.slice A0_1 l0_1.length c0_1, .slice A1_1 l1_1.length c1_1] ?_; (with_reducible refine (laws_eqFieldS.calls k _ _ l0_1 _ _ l1_1 false _ ?side1 ?side2 ?side3 ?side4 A4.out).mono ?_); (case side1 => exact xc_ ((Kd.C_below HR0_1.out HB.out))); (case side2 => exact HC0_1.out); (case side3 => exact xc_ ((Kd.C_below HR1_1.out HB.out))); (case side4 => exact HC1_1.out); rintro e w31 ⟨rfl, hb⟩; refine ⟨_, rfl, ?_⟩; replace BK423 := xbb_ BK423 hb; replace BK424 := xbb_ BK424 hb; replace HB := xws_ HB hb; (try clear hb)))
   go_ret
   exact ⟨mf_, xw_ HB⟩
 ·rw [if_neg c3] at H
  have c3b0 : (a0_0.toList == a1_0.toList) = false := beq_eq_false_iff_ne.mpr c3
  have c3b1 : (a0_0.toList != a1_0.toList) = true := bne_iff_ne.mpr c3
  obtain rfl := Option.some.inj H
  go_enter Tryz.func32, Tryz.ntmps32
  go_wp2_with (first | ((with_reducible refine gd_ 2 ?_); refine xbe_ (N := 2) (cs := #[.string a0_0, .slice A0_1 l0_1.length c0_1, .int .i64 a0_2, .string a0_3, .slice A0_4 l0_4.length c0_4, .string a0_5, .int .i64 a0_6, .int .i64 a0_7]) (t := 71) ?_; intro gb423 hg w32 hbox hb; have BK423 := Aside0.mk (hbox); have GE423 := xge_ HB hg; replace HB := xws_ HB hb; clear hb hbox hg) | ((with_reducible refine gd_ 3 ?_); refine xbe_ (N := 3) (cs := #[.string a1_0, .slice A1_1 l1_1.length c1_1, .int .i64 a1_2, .string a1_3, .slice A1_4 l1_4.length c1_4, .string a1_5, .int .i64 a1_6, .int .i64 a1_7]) (t := 71) ?_; intro gb424 hg w33 hbox hb; have BK424 := Aside0.mk (hbox); have GE424 := xge_ HB hg; replace HB := xws_ HB hb; have NB423_424 := xlt_ BK423 hg; have NB424_423 := xgt_ BK423 hg; replace BK423 := xbb_ BK423 hb; clear hb hbox hg; have hnb34 := NB423_424.out; have hnc34 := NB424_423.out; have ⟨_, _, _, _, _, _, _, _, _, _, _, _, _, _, _, _⟩ := c8_ BK423; have ⟨_, _, _, _, _, _, _, _, _, _, _, _, _, _, _, _⟩ := c8_ BK424))
  go_ret
  exact ⟨mf_, xw_ HB⟩

end Go.Proofs.YtpggepjfhgalkaaGreatDoor.PFnExactMatches
