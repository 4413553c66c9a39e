-- Written by a program of this project (xprint.py) out of the translation; Lean checks it.
import Derived.Test.YtpggepjfhgalkaaGreatDoorPFnExactPickItemx0
import Derived.Test.YtpggepjfhgalkaaGreatDoorPFnExactPickItemx1
import Derived.Test.YtpggepjfhgalkaaGreatDoorPFnExactPickItemx15
import Derived.Test.YtpggepjfhgalkaaGreatDoorPFnExactPickItemx17
import Derived.Test.YtpggepjfhgalkaaGreatDoorPFnExactPickItemx18
import Derived.Test.YtpggepjfhgalkaaGreatDoorPFnExactPickItemx20
namespace Go.Proofs.YtpggepjfhgalkaaGreatDoor.PFnExactPickItem
open Go.RowKit Go.Proofs.YtpggepjfhgalkaaGreatDoorW.PrintWords Go.Proofs.YtpggepjfhgalkaaGreatDoorW.PrintLast Go.Proofs.YtpggepjfhgalkaaGreatDoorW.PrintMore
attribute [local go_sem] max2_int min2_int max_two min_two max_three min_three max_four min_four   -- for this text's walks alone
set_option linter.unusedVariables false
set_option linter.unusedSimpArgs false

/-! ### impl_PickItem: function 17 -/
def impl_PickItem.j0 : Nat → List (S71) → ByteArray → Bool → ByteArray → ByteArray → List (S105) → ByteArray → Option (Int × Bool)
 | 0, _, _, _, _, _, _, _ => none
 | k + 1, x0, x1, x16, x445000, x445001, x445002, x445003 => if x16 = true then (some (0, false)) else ((impl_pick.f k x0 x1 x445002).bind fun t447 => (if t447 < 0 then (some (0, false)) else (some (t447, true))))
def impl_PickItem.f (k : Nat) (l0 : List (S71)) (a1 : ByteArray) (a2_0 : ByteArray) (a2_1 : ByteArray) (l2_2 : List (S105)) (a2_3 : ByteArray) : Option (Int × Bool) := (impl_areItems.f k l0).bind fun t445 => (if t445 = true then ((impl_GoodRequest.f k a2_0 a2_1 l2_2 a2_3).bind fun t446 => (impl_PickItem.j0 k l0 a1 (!t446) a2_0 a2_1 l2_2 a2_3)) else (impl_PickItem.j0 k l0 a1 true a2_0 a2_1 l2_2 a2_3))
set_option maxHeartbeats 8000000 in
set_option maxRecDepth 100000 in
theorem impl_PickItem.calls (k : Nat) (A0 : Option Addr) (c0 : Nat) (l0 : List (S71)) (a1 : ByteArray) (a2_0 : ByteArray) (a2_1 : ByteArray) (A2_2 : Option Addr) (c2_2 : Nat) (l2_2 : List (S105)) (a2_3 : ByteArray) (r1 : Int) (r2 : Bool) (w : World) (hr0 : Kd.C k71 w A0 l0.length l0) (hc0 : l0.length ≤ c0) (hr2_2 : Kd.C k105 w A2_2 l2_2.length l2_2) (hc2_2 : l2_2.length ≤ c2_2) (h : impl_PickItem.f k l0 a1 a2_0 a2_1 l2_2 a2_3 = some (r1, r2)) (hT_ : TabOk w) :
  Calls Tryz.prog 17 #[.slice A0 l0.length c0, .string a1, .agg #[.string a2_0, .string a2_1, .slice A2_2 l2_2.length c2_2, .string a2_3]] w fun e w' => e = .returned (.tuple #[.int .i64 r1, .bool r2]) ∧ Below w.heap.size w w' := by
 have HTB_ := Aside0.mk hT_
 clear hT_
 have hu35 := Tryz.underlying35
 have HR0 := Aside0.mk hr0
 have HC0 := Aside0.mk hc0
 clear hr0 hc0
 have HR2_2 := Aside0.mk hr2_2
 have HC2_2 := Aside0.mk hc2_2
 clear hr2_2 hc2_2
 have HB := Aside0.mk (Below.refl w.heap.size w)
 have H := h
 unfold impl_PickItem.f at H
 clear h
 have HC4 := Aside0.mk H
 clear H
 go_enter Tryz.func17, Tryz.ntmps17
 go_upto_region 1 with (first | ((with_reducible refine gd_ 5 ?_); refine xbe_ (N := 5) (cs := #[.string a2_0, .string a2_1, .slice A2_2 l2_2.length c2_2, .string a2_3]) (t := 35) ?_; intro gb444 hg w5 hbox hb; have BK444 := Aside0.mk (hbox); have GE444 := xge_ HB hg; replace HB := xws_ HB hb; clear hb hbox hg))
 (try simp only [Act.put, List.setIfInBounds_toArray, List.set_cons_zero, List.set_cons_succ])
 go_cut [16] (fun v16 wc => ∃ (kq : Nat) (x16_3 : Bool), v16 = .bool x16_3 ∧ Aside0 (impl_PickItem.j0 kq l0 a1 x16_3 a2_0 a2_1 l2_2 a2_3 = some (r1, r2)) ∧ Aside0 (kq ≤ k) ∧ Aside0 (wc.heap[gb444]? = some (.cells #[.string a2_0, .string a2_1, (.slice A2_2 l2_2.length c2_2), .string a2_3] 35 (0, 0))) ∧ Aside0 (Below w.heap.size w wc))
 case first =>
  have H := HC4.out
  clear HC4
  replace H := mb_ H
  obtain ⟨t445, A6, H⟩ := H
  by_cases c7 : t445 = true
  ·subst c7
   rw [if_pos rfl] at H
   replace H := mb_ H
   obtain ⟨t446, A8, H⟩ := H
   have H' := Aside0.mk H
   clear H
   go_wp2_with (first | ((with_reducible refine gc_ 45 ?_); refine xgl_ (some 10) Tryz.func45 #[.slice A0 l0.length c0] ?_; (with_reducible refine (impl_areItems.calls k _ _ l0 true _ ?side1 ?side2 A6.out (HTB_.out.below (by first | (with_reducible exact Below.refl _ _) | (repeat (first | (with_reducible first | exact HB.out | exact Below.refl _ _ | apply below_alloc | apply pw_below_drewN | apply below_drew1 | refine below_set ?_ GE444.out) | exact HB.out)) | (repeat (first | exact Below.refl _ _ | apply below_alloc | apply pw_below_drewN | apply below_drew1 | refine below_set ?_ GE444.out))))).mono ?_); (case side1 => exact xc_ ((Kd.C_below HR0.out HB.out))); (case side2 => exact HC0.out); rintro e w9 ⟨rfl, hb⟩; refine ⟨_, rfl, ?_⟩; replace BK444 := xbb_ BK444 hb; replace HB := xws_ HB hb; (try clear hb); have ⟨_, _, _, _, _, _, _, _⟩ := c4_ BK444) | (go_at_call 39; (with_reducible refine (impl_GoodRequest.calls k a2_0 a2_1 _ _ l2_2 a2_3 t446 _ ?side1 ?side2 A8.out (HTB_.out.below (by first | (with_reducible exact Below.refl _ _) | (repeat (first | (with_reducible first | exact HB.out | exact Below.refl _ _ | apply below_alloc | apply pw_below_drewN | apply below_drew1 | refine below_set ?_ GE444.out) | exact HB.out)) | (repeat (first | exact Below.refl _ _ | apply below_alloc | apply pw_below_drewN | apply below_drew1 | refine below_set ?_ GE444.out))))).mono ?_); (case side1 => exact xc_ ((Kd.C_below HR2_2.out HB.out))); (case side2 => exact HC2_2.out); rintro e w11 ⟨rfl, hb⟩; replace BK444 := xbb_ BK444 hb; replace HB := xws_ HB hb; (try clear hb)))
   go_meet
   case rel => exact ⟨_, (!t446), me_, H', ⟨by first | omega | exact Nat.le_refl _⟩, ⟨xb_ BK444⟩, ⟨xw_ HB⟩⟩
  ·replace c7 := Bool.eq_false_iff.mpr c7
   subst c7
   rw [if_neg (show ¬ (false = true) by decide)] at H
   have H' := Aside0.mk H
   clear H
   go_wp2_with (first | ((with_reducible refine gc_ 45 ?_); refine xgl_ (some 10) Tryz.func45 #[.slice A0 l0.length c0] ?_; (with_reducible refine (impl_areItems.calls k _ _ l0 false _ ?side1 ?side2 A6.out (HTB_.out.below (by first | (with_reducible exact Below.refl _ _) | (repeat (first | (with_reducible first | exact HB.out | exact Below.refl _ _ | apply below_alloc | apply pw_below_drewN | apply below_drew1 | refine below_set ?_ GE444.out) | exact HB.out)) | (repeat (first | exact Below.refl _ _ | apply below_alloc | apply pw_below_drewN | apply below_drew1 | refine below_set ?_ GE444.out))))).mono ?_); (case side1 => exact xc_ ((Kd.C_below HR0.out HB.out))); (case side2 => exact HC0.out); rintro e w12 ⟨rfl, hb⟩; refine ⟨_, rfl, ?_⟩; replace BK444 := xbb_ BK444 hb; replace HB := xws_ HB hb; (try clear hb)))
   go_meet
   case rel => exact ⟨_, (true), me_, H', ⟨by first | omega | exact Nat.le_refl _⟩, ⟨xb_ BK444⟩, ⟨xw_ HB⟩⟩
 case rest =>
  clear HC4
  obtain ⟨kq, x16_3, rfl, HA, HJ3, BK444, HB⟩ := hcut
  cases kq with
  | zero => exact absurd HA.out (by simp [impl_PickItem.j0])
  | succ kj3 =>
   have H := HA.out
   clear HA
   simp only [impl_PickItem.j0] at H
   by_cases c13 : x16_3 = true
   ·subst c13
    rw [if_pos rfl] at H
    simp only [Option.some.injEq, Prod.mk.injEq] at H
    obtain ⟨rfl, rfl⟩ := H
    go_wp2
    go_ret2
    exact ⟨mf_, xw_ HB⟩
   ·replace c13 := Bool.eq_false_iff.mpr c13
    subst c13
    rw [if_neg (show ¬ (false = true) by decide)] at H
    replace H := mb_ H
    obtain ⟨t447, A14, H⟩ := H
    by_cases c15 : t447 < 0
    ·rw [if_pos c15] at H
     have c15b0 := decide_eq_true c15
     clear c15
     simp only [Option.some.injEq, Prod.mk.injEq] at H
     obtain ⟨rfl, rfl⟩ := H
     have ⟨_, _, _, _, _, _, _, _⟩ := c4_ BK444
     go_wp2_with (first | ((with_reducible refine gc_ 46 ?_); refine xgl_ (some 21) Tryz.func46 #[.slice A0 l0.length c0, .string a1, .slice A2_2 l2_2.length c2_2] ?_; (with_reducible refine (impl_pick.calls kj3 _ _ l0 a1 _ _ l2_2 t447 _ ?side1 ?side2 ?side3 ?side4 A14.out).mono ?_); (case side1 => exact xc_ ((Kd.C_below HR0.out HB.out))); (case side2 => exact HC0.out); (case side3 => exact xc_ ((Kd.C_below HR2_2.out HB.out))); (case side4 => exact HC2_2.out); rintro e w17 ⟨rfl, hb⟩; refine ⟨_, rfl, ?_⟩; replace BK444 := xbb_ BK444 hb; replace HB := xws_ HB hb; (try clear hb)))
     go_ret2
     exact ⟨mf_, xw_ HB⟩
    ·rw [if_neg c15] at H
     have c15b0 := decide_eq_false c15
     clear c15
     simp only [Option.some.injEq, Prod.mk.injEq] at H
     obtain ⟨rfl, rfl⟩ := H
     have ⟨_, _, _, _, _, _, _, _⟩ := c4_ BK444
     go_wp2_with (first | ((with_reducible refine gc_ 46 ?_); refine xgl_ (some 21) Tryz.func46 #[.slice A0 l0.length c0, .string a1, .slice A2_2 l2_2.length c2_2] ?_; (with_reducible refine (impl_pick.calls kj3 _ _ l0 a1 _ _ l2_2 t447 _ ?side1 ?side2 ?side3 ?side4 A14.out).mono ?_); (case side1 => exact xc_ ((Kd.C_below HR0.out HB.out))); (case side2 => exact HC0.out); (case side3 => exact xc_ ((Kd.C_below HR2_2.out HB.out))); (case side4 => exact HC2_2.out); rintro e w19 ⟨rfl, hb⟩; refine ⟨_, rfl, ?_⟩; replace BK444 := xbb_ BK444 hb; replace HB := xws_ HB hb; (try clear hb)))
     go_ret2
     exact ⟨mf_, xw_ HB⟩

/-! ### laws_eqResponse: function 24 -/
def laws_eqResponse.f (k : Nat) (a0_0 : Int) (a0_1 : ByteArray) (l0_2 : List (S105)) (a0_3 : ByteArray) (a1_0 : Int) (a1_1 : ByteArray) (l1_2 : List (S105)) (a1_3 : ByteArray) : Option (Bool) := if a0_0 = a1_0 then (if a0_1.toList = a1_1.toList then ((laws_eqFieldS.f k l0_2 l1_2).bind fun t450 => (if t450 = true then (if a0_3.toList = a1_3.toList then (some true) else (some false)) else (some false))) else (some false)) else (some false)
set_option maxHeartbeats 8000000 in
set_option maxRecDepth 100000 in
theorem laws_eqResponse.calls (k : Nat) (a0_0 : Int) (a0_1 : ByteArray) (A0_2 : Option Addr) (c0_2 : Nat) (l0_2 : List (S105)) (a0_3 : ByteArray) (a1_0 : Int) (a1_1 : ByteArray) (A1_2 : Option Addr) (c1_2 : Nat) (l1_2 : List (S105)) (a1_3 : ByteArray) (r : Bool) (w : World) (hr0_2 : Kd.C k105 w A0_2 l0_2.length l0_2) (hc0_2 : l0_2.length ≤ c0_2) (hr1_2 : Kd.C k105 w A1_2 l1_2.length l1_2) (hc1_2 : l1_2.length ≤ c1_2) (h : laws_eqResponse.f k a0_0 a0_1 l0_2 a0_3 a1_0 a1_1 l1_2 a1_3 = some r) :
  Calls Tryz.prog 24 #[.agg #[.int .i64 a0_0, .string a0_1, .slice A0_2 l0_2.length c0_2, .string a0_3], .agg #[.int .i64 a1_0, .string a1_1, .slice A1_2 l1_2.length c1_2, .string a1_3]] w fun e w' => e = .returned (.bool r) ∧ Below w.heap.size w w' := by
 have hu54 := Tryz.underlying54
 have HR0_2 := Aside0.mk hr0_2
 have HC0_2 := Aside0.mk hc0_2
 clear hr0_2 hc0_2
 have HR1_2 := Aside0.mk hr1_2
 have HC1_2 := Aside0.mk hc1_2
 clear hr1_2 hc1_2
 have HB := Aside0.mk (Below.refl w.heap.size w)
 have H := h
 unfold laws_eqResponse.f at H
 clear h
 by_cases c3 : a0_0 = a1_0
 ·rw [if_pos c3] at H
  have c3b0 : (a0_0 == a1_0) = true := beq_iff_eq.mpr c3
  have c3b1 : (a0_0 != a1_0) = false := bne_eq_false_iff_eq.mpr c3
  clear c3
  by_cases c4 : a0_1.toList = a1_1.toList
  ·rw [if_pos c4] at H
   have c4b0 : (a0_1.toList == a1_1.toList) = true := beq_iff_eq.mpr c4
   have c4b1 : (a0_1.toList != a1_1.toList) = false := bne_eq_false_iff_eq.mpr c4
   clear c4
   replace H := mb_ H
   obtain ⟨t450, A5, H⟩ := H
   by_cases c6 : t450 = true
   ·subst c6
    rw [if_pos rfl] at H
    by_cases c7 : a0_3.toList = a1_3.toList
    ·rw [if_pos c7] at H
     have c7b0 : (a0_3.toList == a1_3.toList) = true := beq_iff_eq.mpr c7
     have c7b1 : (a0_3.toList != a1_3.toList) = false := bne_eq_false_iff_eq.mpr c7
     clear c7
     obtain rfl := Option.some.inj H
     go_enter Tryz.func24, Tryz.ntmps24
     go_wp2_with (first | ((with_reducible refine gd_ 2 ?_); refine xbe_ (N := 2) (cs := #[.int .i64 a0_0, .string a0_1, .slice A0_2 l0_2.length c0_2, .string a0_3]) (t := 54) ?_; intro gb448 hg w8 hbox hb; have BK448 := Aside0.mk (hbox); have GE448 := xge_ HB hg; replace HB := xws_ HB hb; clear hb hbox hg) | ((with_reducible refine gd_ 3 ?_); refine xbe_ (N := 3) (cs := #[.int .i64 a1_0, .string a1_1, .slice A1_2 l1_2.length c1_2, .string a1_3]) (t := 54) ?_; intro gb449 hg w9 hbox hb; have BK449 := Aside0.mk (hbox); have GE449 := xge_ HB hg; replace HB := xws_ HB hb; have NB448_449 := xlt_ BK448 hg; have NB449_448 := xgt_ BK448 hg; replace BK448 := xbb_ BK448 hb; clear hb hbox hg; have hnb10 := NB448_449.out; have hnc10 := NB449_448.out; have ⟨_, _, _, _, _, _, _, _⟩ := c4_ BK448; have ⟨_, _, _, _, _, _, _, _⟩ := c4_ BK449) | ((with_reducible refine gc_ 42 ?_); refine xgl_ (some 19) Tryz.func42 #[.slice A0_2 l0_2.length c0_2, .slice A1_2 l1_2.length c1_2] ?_; (with_reducible refine (laws_eqFieldS.calls k _ _ l0_2 _ _ l1_2 true _ ?side1 ?side2 ?side3 ?side4 A5.out).mono ?_); (case side1 => exact xc_ ((Kd.C_below HR0_2.out HB.out))); (case side2 => exact HC0_2.out); (case side3 => exact xc_ ((Kd.C_below HR1_2.out HB.out))); (case side4 => exact HC1_2.out); rintro e w13 ⟨rfl, hb⟩; refine ⟨_, rfl, ?_⟩; replace BK448 := xbb_ BK448 hb; replace BK449 := xbb_ BK449 hb; replace HB := xws_ HB hb; (try clear hb); have ⟨_, _, _, _, _, _, _, _⟩ := c4_ BK448; have ⟨_, _, _, _, _, _, _, _⟩ := c4_ BK449))
     go_ret
     exact ⟨mf_, xw_ HB⟩
    ·rw [if_neg c7] at H
     have c7b0 : (a0_3.toList == a1_3.toList) = false := beq_eq_false_iff_ne.mpr c7
     have c7b1 : (a0_3.toList != a1_3.toList) = true := bne_iff_ne.mpr c7
     obtain rfl := Option.some.inj H
     go_enter Tryz.func24, Tryz.ntmps24
     go_wp2_with (first | ((with_reducible refine gd_ 2 ?_); refine xbe_ (N := 2) (cs := #[.int .i64 a0_0, .string a0_1, .slice A0_2 l0_2.length c0_2, .string a0_3]) (t := 54) ?_; intro gb448 hg w16 hbox hb; have BK448 := Aside0.mk (hbox); have GE448 := xge_ HB hg; replace HB := xws_ HB hb; clear hb hbox hg) | ((with_reducible refine gd_ 3 ?_); refine xbe_ (N := 3) (cs := #[.int .i64 a1_0, .string a1_1, .slice A1_2 l1_2.length c1_2, .string a1_3]) (t := 54) ?_; intro gb449 hg w17 hbox hb; have BK449 := Aside0.mk (hbox); have GE449 := xge_ HB hg; replace HB := xws_ HB hb; have NB448_449 := xlt_ BK448 hg; have NB449_448 := xgt_ BK448 hg; replace BK448 := xbb_ BK448 hb; clear hb hbox hg; have hnb18 := NB448_449.out; have hnc18 := NB449_448.out; have ⟨_, _, _, _, _, _, _, _⟩ := c4_ BK448; have ⟨_, _, _, _, _, _, _, _⟩ := c4_ BK449) | ((with_reducible refine gc_ 42 ?_); refine xgl_ (some 19) Tryz.func42 #[.slice A0_2 l0_2.length c0_2, .slice A1_2 l1_2.length c1_2] ?_; (with_reducible refine (laws_eqFieldS.calls k _ _ l0_2 _ _ l1_2 true _ ?side1 ?side2 ?side3 ?side4 A5.out).mono ?_); (case side1 => exact xc_ ((Kd.C_below HR0_2.out HB.out))); (case side2 => exact HC0_2.out); (case side3 => exact xc_ ((Kd.C_below HR1_2.out HB.out))); (case side4 => exact HC1_2.out); rintro e w21 ⟨rfl, hb⟩; refine ⟨_, rfl, ?_⟩; replace BK448 := xbb_ BK448 hb; replace BK449 := xbb_ BK449 hb; replace HB := xws_ HB hb; (try clear hb); have ⟨_, _, _, _, _, _, _, _⟩ := c4_ BK448; have ⟨_, _, _, _, _, _, _, _⟩ := c4_ BK449))
     go_ret
     exact ⟨mf_, xw_ HB⟩
   ·replace c6 := Bool.eq_false_iff.mpr c6
    subst c6
    rw [if_neg (show ¬ (false = true) by decide)] at H
    obtain rfl := Option.some.inj H
    go_enter Tryz.func24, Tryz.ntmps24
    go_wp2_with (first | ((with_reducible refine gd_ 2 ?_); refine xbe_ (N := 2) (cs := #[.int .i64 a0_0, .string a0_1, .slice A0_2 l0_2.length c0_2, .string a0_3]) (t := 54) ?_; intro gb448 hg w24 hbox hb; have BK448 := Aside0.mk (hbox); have GE448 := xge_ HB hg; replace HB := xws_ HB hb; clear hb hbox hg) | ((with_reducible refine gd_ 3 ?_); refine xbe_ (N := 3) (cs := #[.int .i64 a1_0, .string a1_1, .slice A1_2 l1_2.length c1_2, .string a1_3]) (t := 54) ?_; intro gb449 hg w25 hbox hb; have BK449 := Aside0.mk (hbox); have GE449 := xge_ HB hg; replace HB := xws_ HB hb; have NB448_449 := xlt_ BK448 hg; have NB449_448 := xgt_ BK448 hg; replace BK448 := xbb_ BK448 hb; clear hb hbox hg; have hnb26 := NB448_449.out; have hnc26 := NB449_448.out; have ⟨_, _, _, _, _, _, _, _⟩ := c4_ BK448; have ⟨_, _, _, _, _, _, _, _⟩ := c4_ BK449) | ((with_reducible refine gc_ 42 ?_); refine xgl_ (some 19) Tryz.func42 #[.slice A0_2 l0_2.length c0_2, .slice A1_2 l1_2.length c1_2] ?_; (with_reducible refine (laws_eqFieldS.calls k _ _ l0_2 _ _ l1_2 false _ ?side1 ?side2 ?side3 ?side4 A5.out).mono ?_); (case side1 => exact xc_ ((Kd.C_below HR0_2.out HB.out))); (case side2 => exact HC0_2.out); (case side3 => exact xc_ ((Kd.C_below HR1_2.out HB.out))); (case side4 => exact HC1_2.out); rintro e w29 ⟨rfl, hb⟩; refine ⟨_, rfl, ?_⟩; replace BK448 := xbb_ BK448 hb; replace BK449 := xbb_ BK449 hb; replace HB := xws_ HB hb; (try clear hb)))
    go_ret
    exact ⟨mf_, xw_ HB⟩
  ·rw [if_neg c4] at H
   have c4b0 : (a0_1.toList == a1_1.toList) = false := beq_eq_false_iff_ne.mpr c4
   have c4b1 : (a0_1.toList != a1_1.toList) = true := bne_iff_ne.mpr c4
   obtain rfl := Option.some.inj H
   go_enter Tryz.func24, Tryz.ntmps24
   go_wp2_with (first | ((with_reducible refine gd_ 2 ?_); refine xbe_ (N := 2) (cs := #[.int .i64 a0_0, .string a0_1, .slice A0_2 l0_2.length c0_2, .string a0_3]) (t := 54) ?_; intro gb448 hg w30 hbox hb; have BK448 := Aside0.mk (hbox); have GE448 := xge_ HB hg; replace HB := xws_ HB hb; clear hb hbox hg) | ((with_reducible refine gd_ 3 ?_); refine xbe_ (N := 3) (cs := #[.int .i64 a1_0, .string a1_1, .slice A1_2 l1_2.length c1_2, .string a1_3]) (t := 54) ?_; intro gb449 hg w31 hbox hb; have BK449 := Aside0.mk (hbox); have GE449 := xge_ HB hg; replace HB := xws_ HB hb; have NB448_449 := xlt_ BK448 hg; have NB449_448 := xgt_ BK448 hg; replace BK448 := xbb_ BK448 hb; clear hb hbox hg; have hnb32 := NB448_449.out; have hnc32 := NB449_448.out; have ⟨_, _, _, _, _, _, _, _⟩ := c4_ BK448; have ⟨_, _, _, _, _, _, _, _⟩ := c4_ BK449))
   go_ret
   exact ⟨mf_, xw_ HB⟩
 ·rw [if_neg c3] at H
  have c3b0 : (a0_0 == a1_0) = false := beq_eq_false_iff_ne.mpr c3
  have c3b1 : (a0_0 != a1_0) = true := bne_iff_ne.mpr c3
  obtain rfl := Option.some.inj H
  go_enter Tryz.func24, Tryz.ntmps24
  go_wp2_with (first | ((with_reducible refine gd_ 2 ?_); refine xbe_ (N := 2) (cs := #[.int .i64 a0_0, .string a0_1, .slice A0_2 l0_2.length c0_2, .string a0_3]) (t := 54) ?_; intro gb448 hg w35 hbox hb; have BK448 := Aside0.mk (hbox); have GE448 := xge_ HB hg; replace HB := xws_ HB hb; clear hb hbox hg) | ((with_reducible refine gd_ 3 ?_); refine xbe_ (N := 3) (cs := #[.int .i64 a1_0, .string a1_1, .slice A1_2 l1_2.length c1_2, .string a1_3]) (t := 54) ?_; intro gb449 hg w36 hbox hb; have BK449 := Aside0.mk (hbox); have GE449 := xge_ HB hg; replace HB := xws_ HB hb; have NB448_449 := xlt_ BK448 hg; have NB449_448 := xgt_ BK448 hg; replace BK448 := xbb_ BK448 hb; clear hb hbox hg; have hnb37 := NB448_449.out; have hnc37 := NB449_448.out; have ⟨_, _, _, _, _, _, _, _⟩ := c4_ BK448; have ⟨_, _, _, _, _, _, _, _⟩ := c4_ BK449))
  go_ret
  exact ⟨mf_, xw_ HB⟩

/-! ### laws_eqKept: function 59 -/
def laws_eqKept.f (k : Nat) (a0_0 : Int) (a0_1 : ByteArray) (l0_2 : List (S105)) (a0_3 : ByteArray) (a0_4 : Int) (a0_5 : Int) (a1_0 : Int) (a1_1 : ByteArray) (l1_2 : List (S105)) (a1_3 : ByteArray) (a1_4 : Int) (a1_5 : Int) : Option (Bool) := (laws_eqResponse.f k a0_0 a0_1 l0_2 a0_3 a1_0 a1_1 l1_2 a1_3).bind fun t453 => (if t453 = true then (if a0_4 = a1_4 then (if a0_5 = a1_5 then (some true) else (some false)) else (some false)) else (some false))
set_option maxHeartbeats 8000000 in
set_option maxRecDepth 100000 in
theorem laws_eqKept.calls (k : Nat) (a0_0 : Int) (a0_1 : ByteArray) (A0_2 : Option Addr) (c0_2 : Nat) (l0_2 : List (S105)) (a0_3 : ByteArray) (a0_4 : Int) (a0_5 : Int) (a1_0 : Int) (a1_1 : ByteArray) (A1_2 : Option Addr) (c1_2 : Nat) (l1_2 : List (S105)) (a1_3 : ByteArray) (a1_4 : Int) (a1_5 : Int) (r : Bool) (w : World) (hr0_2 : Kd.C k105 w A0_2 l0_2.length l0_2) (hc0_2 : l0_2.length ≤ c0_2) (hr1_2 : Kd.C k105 w A1_2 l1_2.length l1_2) (hc1_2 : l1_2.length ≤ c1_2) (h : laws_eqKept.f k a0_0 a0_1 l0_2 a0_3 a0_4 a0_5 a1_0 a1_1 l1_2 a1_3 a1_4 a1_5 = some r) :
  Calls Tryz.prog 59 #[.agg #[.int .i64 a0_0, .string a0_1, .slice A0_2 l0_2.length c0_2, .string a0_3, .int .i64 a0_4, .int .i64 a0_5], .agg #[.int .i64 a1_0, .string a1_1, .slice A1_2 l1_2.length c1_2, .string a1_3, .int .i64 a1_4, .int .i64 a1_5]] w fun e w' => e = .returned (.bool r) ∧ Below w.heap.size w w' := by
 have hu69 := Tryz.underlying69
 have hu54 := Tryz.underlying54
 have HR0_2 := Aside0.mk hr0_2
 have HC0_2 := Aside0.mk hc0_2
 clear hr0_2 hc0_2
 have HR1_2 := Aside0.mk hr1_2
 have HC1_2 := Aside0.mk hc1_2
 clear hr1_2 hc1_2
 have HB := Aside0.mk (Below.refl w.heap.size w)
 have H := h
 unfold laws_eqKept.f at H
 clear h
 replace H := mb_ H
 obtain ⟨t453, A3, H⟩ := H
 by_cases c4 : t453 = true
 ·subst c4
  rw [if_pos rfl] at H
  by_cases c5 : a0_4 = a1_4
  ·rw [if_pos c5] at H
   have c5b0 : (a0_4 == a1_4) = true := beq_iff_eq.mpr c5
   have c5b1 : (a0_4 != a1_4) = false := bne_eq_false_iff_eq.mpr c5
   clear c5
   by_cases c6 : a0_5 = a1_5
   ·rw [if_pos c6] at H
    have c6b0 : (a0_5 == a1_5) = true := beq_iff_eq.mpr c6
    have c6b1 : (a0_5 != a1_5) = false := bne_eq_false_iff_eq.mpr c6
    clear c6
    obtain rfl := Option.some.inj H
    go_enter Tryz.func59, Tryz.ntmps59
    go_wp2_with (first | ((with_reducible refine gd_ 2 ?_); refine xbe_ (N := 2) (cs := #[.int .i64 a0_0, .string a0_1, .slice A0_2 l0_2.length c0_2, .string a0_3, .int .i64 a0_4, .int .i64 a0_5]) (t := 69) ?_; intro gb451 hg w7 hbox hb; have BK451 := Aside0.mk (hbox); have GE451 := xge_ HB hg; replace HB := xws_ HB hb; clear hb hbox hg) | ((with_reducible refine gd_ 3 ?_); refine xbe_ (N := 3) (cs := #[.int .i64 a1_0, .string a1_1, .slice A1_2 l1_2.length c1_2, .string a1_3, .int .i64 a1_4, .int .i64 a1_5]) (t := 69) ?_; intro gb452 hg w8 hbox hb; have BK452 := Aside0.mk (hbox); have GE452 := xge_ HB hg; replace HB := xws_ HB hb; have NB451_452 := xlt_ BK451 hg; have NB452_451 := xgt_ BK451 hg; replace BK451 := xbb_ BK451 hb; clear hb hbox hg; have hnb9 := NB451_452.out; have hnc9 := NB452_451.out; have ⟨_, _, _, _, _, _, _, _, _, _, _, _⟩ := c6_ BK451; have ⟨_, _, _, _, _, _, _, _, _, _, _, _⟩ := c6_ BK452) | ((with_reducible refine gc_ 24 ?_); refine xgl_ (some 9) Tryz.func24 #[.agg #[.int .i64 a0_0, .string a0_1, .slice A0_2 l0_2.length c0_2, .string a0_3], .agg #[.int .i64 a1_0, .string a1_1, .slice A1_2 l1_2.length c1_2, .string a1_3]] ?_; (with_reducible refine (laws_eqResponse.calls k a0_0 a0_1 _ _ l0_2 a0_3 a1_0 a1_1 _ _ l1_2 a1_3 true _ ?side1 ?side2 ?side3 ?side4 A3.out).mono ?_); (case side1 => exact xc_ ((Kd.C_below HR0_2.out HB.out))); (case side2 => exact HC0_2.out); (case side3 => exact xc_ ((Kd.C_below HR1_2.out HB.out))); (case side4 => exact HC1_2.out); rintro e w12 ⟨rfl, hb⟩; refine ⟨_, rfl, ?_⟩; replace BK451 := xbb_ BK451 hb; replace BK452 := xbb_ BK452 hb; replace HB := xws_ HB hb; (try clear hb); have ⟨_, _, _, _, _, _, _, _, _, _, _, _⟩ := c6_ BK451; have ⟨_, _, _, _, _, _, _, _, _, _, _, _⟩ := c6_ BK452))
    go_ret
    exact ⟨mf_, xw_ HB⟩
   ·rw [if_neg c6] at H
    have c6b0 : (a0_5 == a1_5) = false := beq_eq_false_iff_ne.mpr c6
    have c6b1 : (a0_5 != a1_5) = true := bne_iff_ne.mpr c6
    obtain rfl := Option.some.inj H
    go_enter Tryz.func59, Tryz.ntmps59
    go_wp2_with (first | ((with_reducible refine gd_ 2 ?_); refine xbe_ (N := 2) (cs := #[.int .i64 a0_0, .string a0_1, .slice A0_2 l0_2.length c0_2, .string a0_3, .int .i64 a0_4, .int .i64 a0_5]) (t := 69) ?_; intro gb451 hg w15 hbox hb; have BK451 := Aside0.mk (hbox); have GE451 := xge_ HB hg; replace HB := xws_ HB hb; clear hb hbox hg) | ((with_reducible refine gd_ 3 ?_); refine xbe_ (N := 3) (cs := #[.int .i64 a1_0, .string a1_1, .slice A1_2 l1_2.length c1_2, .string a1_3, .int .i64 a1_4, .int .i64 a1_5]) (t := 69) ?_; intro gb452 hg w16 hbox hb; have BK452 := Aside0.mk (hbox); have GE452 := xge_ HB hg; replace HB := xws_ HB hb; have NB451_452 := xlt_ BK451 hg; have NB452_451 := xgt_ BK451 hg; replace BK451 := xbb_ BK451 hb; clear hb hbox hg; have hnb17 := NB451_452.out; have hnc17 := NB452_451.out; have ⟨_, _, _, _, _, _, _, _, _, _, _, _⟩ := c6_ BK451; have ⟨_, _, _, _, _, _, _, _, _, _, _, _⟩ := c6_ BK452) | ((with_reducible refine gc_ 24 ?_); refine xgl_ (some 9) Tryz.func24 #[.agg #[.int .i64 a0_0, .string a0_1, .slice A0_2 l0_2.length c0_2, .string a0_3], .agg #[.int .i64 a1_0, .string a1_1, .slice A1_2 l1_2.length c1_2, .string a1_3]] ?_; (with_reducible refine (laws_eqResponse.calls k a0_0 a0_1 _ _ l0_2 a0_3 a1_0 a1_1 _ _ l1_2 a1_3 true _ ?side1 ?side2 ?side3 ?side4 A3.out).mono ?_); (case side1 => exact xc_ ((Kd.C_below HR0_2.out HB.out))); (case side2 => exact HC0_2.out); (case side3 => exact xc_ ((Kd.C_below HR1_2.out HB.out))); (case side4 => exact HC1_2.out); rintro e w20 ⟨rfl, hb⟩; refine ⟨_, rfl, ?_⟩; replace BK451 := xbb_ BK451 hb; replace BK452 := xbb_ BK452 hb; replace HB := xws_ HB hb; (try clear hb); have ⟨_, _, _, _, _, _, _, _, _, _, _, _⟩ := c6_ BK451; have ⟨_, _, _, _, _, _, _, _, _, _, _, _⟩ := c6_ BK452))
    go_ret
    exact ⟨mf_, xw_ HB⟩
  ·rw [if_neg c5] at H
   have c5b0 : (a0_4 == a1_4) = false := beq_eq_false_iff_ne.mpr c5
   have c5b1 : (a0_4 != a1_4) = true := bne_iff_ne.mpr c5
   obtain rfl := Option.some.inj H
   go_enter Tryz.func59, Tryz.ntmps59
   go_wp2_with (first | ((with_reducible refine gd_ 2 ?_); refine xbe_ (N := 2) (cs := #[.int .i64 a0_0, .string a0_1, .slice A0_2 l0_2.length c0_2, .string a0_3, .int .i64 a0_4, .int .i64 a0_5]) (t := 69) ?_; intro gb451 hg w23 hbox hb; have BK451 := Aside0.mk (hbox); have GE451 := xge_ HB hg; replace HB := xws_ HB hb; clear hb hbox hg) | ((with_reducible refine gd_ 3 ?_); refine xbe_ (N := 3) (cs := #[.int .i64 a1_0, .string a1_1, .slice A1_2 l1_2.length c1_2, .string a1_3, .int .i64 a1_4, .int .i64 a1_5]) (t := 69) ?_; intro gb452 hg w24 hbox hb; have BK452 := Aside0.mk (hbox); have GE452 := xge_ HB hg; replace HB := xws_ HB hb; have NB451_452 := xlt_ BK451 hg; have NB452_451 := xgt_ BK451 hg; replace BK451 := xbb_ BK451 hb; clear hb hbox hg; have hnb25 := NB451_452.out; have hnc25 := NB452_451.out; have ⟨_, _, _, _, _, _, _, _, _, _, _, _⟩ := c6_ BK451; have ⟨_, _, _, _, _, _, _, _, _, _, _, _⟩ := c6_ BK452) | ((with_reducible refine gc_ 24 ?_); refine xgl_ (some 9) Tryz.func24 #[.agg #[.int .i64 a0_0, .string a0_1, .slice A0_2 l0_2.length c0_2, .string a0_3], .agg #[.int .i64 a1_0, .string a1_1, .slice A1_2 l1_2.length c1_2, .string a1_3]] ?_; (with_reducible refine (laws_eqResponse.calls k a0_0 a0_1 _ _ l0_2 a0_3 a1_0 a1_1 _ _ l1_2 a1_3 true _ ?side1 ?side2 ?side3 ?side4 A3.out).mono ?_); (case side1 => exact xc_ ((Kd.C_below HR0_2.out HB.out))); (case side2 => exact HC0_2.out); (case side3 => exact xc_ ((Kd.C_below HR1_2.out HB.out))); (case side4 => exact HC1_2.out); rintro e w28 ⟨rfl, hb⟩; refine ⟨_, rfl, ?_⟩; replace BK451 := xbb_ BK451 hb; replace BK452 := xbb_ BK452 hb; replace HB := xws_ HB hb; (try clear hb); have ⟨_, _, _, _, _, _, _, _, _, _, _, _⟩ := c6_ BK451; have ⟨_, _, _, _, _, _, _, _, _, _, _, _⟩ := c6_ BK452))
   go_ret
   exact ⟨mf_, xw_ HB⟩
 ·replace c4 := Bool.eq_false_iff.mpr c4
  subst c4
  rw [if_neg (show ¬ (false = true) by decide)] at H
  obtain rfl := Option.some.inj H
  go_enter Tryz.func59, Tryz.ntmps59
  go_wp2_with (first | ((with_reducible refine gd_ 2 ?_); refine xbe_ (N := 2) (cs := #[.int .i64 a0_0, .string a0_1, .slice A0_2 l0_2.length c0_2, .string a0_3, .int .i64 a0_4, .int .i64 a0_5]) (t := 69) ?_; intro gb451 hg w31 hbox hb; have BK451 := Aside0.mk (hbox); have GE451 := xge_ HB hg; replace HB := xws_ HB hb; clear hb hbox hg) | ((with_reducible refine gd_ 3 ?_); refine xbe_ (N := 3) (cs := #[.int .i64 a1_0, .string a1_1, .slice A1_2 l1_2.length c1_2, .string a1_3, .int .i64 a1_4, .int .i64 a1_5]) (t := 69) ?_; intro gb452 hg w32 hbox hb; have BK452 := Aside0.mk (hbox); have GE452 := xge_ HB hg; replace HB := xws_ HB hb; have NB451_452 := xlt_ BK451 hg; have NB452_451 := xgt_ BK451 hg; replace BK451 := xbb_ BK451 hb; clear hb hbox hg; have hnb33 := NB451_452.out; have hnc33 := NB452_451.out; have ⟨_, _, _, _, _, _, _, _, _, _, _, _⟩ := c6_ BK451; have ⟨_, _, _, _, _, _, _, _, _, _, _, _⟩ := c6_ BK452) | ((with_reducible refine gc_ 24 ?_); refine xgl_ (some 9) Tryz.func24 #[.agg #[.int .i64 a0_0, .string a0_1, .slice A0_2 l0_2.length c0_2, .string a0_3], .agg #[.int .i64 a1_0, .string a1_1, .slice A1_2 l1_2.length c1_2, .string a1_3]] ?_; (with_reducible refine (laws_eqResponse.calls k a0_0 a0_1 _ _ l0_2 a0_3 a1_0 a1_1 _ _ l1_2 a1_3 false _ ?side1 ?side2 ?side3 ?side4 A3.out).mono ?_); (case side1 => exact xc_ ((Kd.C_below HR0_2.out HB.out))); (case side2 => exact HC0_2.out); (case side3 => exact xc_ ((Kd.C_below HR1_2.out HB.out))); (case side4 => exact HC1_2.out); rintro e w36 ⟨rfl, hb⟩; refine ⟨_, rfl, ?_⟩; replace BK451 := xbb_ BK451 hb; replace BK452 := xbb_ BK452 hb; replace HB := xws_ HB hb; (try clear hb)))
  go_ret
  exact ⟨mf_, xw_ HB⟩

/-! ### laws_eqItem: function 32 -/
def laws_eqItem.f (k : Nat) (a0_0 : ByteArray) (l0_1 : List (S105)) (a0_2 : Int) (a0_3 : ByteArray) (l0_4 : List (S105)) (a0_5 : ByteArray) (a0_6 : Int) (a0_7 : Int) (a1_0 : ByteArray) (l1_1 : List (S105)) (a1_2 : Int) (a1_3 : ByteArray) (l1_4 : List (S105)) (a1_5 : ByteArray) (a1_6 : Int) (a1_7 : Int) : Option (Bool) := if a0_0.toList = a1_0.toList then ((laws_eqFieldS.f k l0_1 l1_1).bind fun t456 => (if t456 = true then ((laws_eqKept.f k a0_2 a0_3 l0_4 a0_5 a0_6 a0_7 a1_2 a1_3 l1_4 a1_5 a1_6 a1_7).bind fun t457 => (if t457 = true then (some true) else (some false))) else (some false))) else (some false)
set_option maxHeartbeats 8000000 in
set_option maxRecDepth 100000 in
theorem laws_eqItem.calls (k : Nat) (a0_0 : ByteArray) (A0_1 : Option Addr) (c0_1 : Nat) (l0_1 : List (S105)) (a0_2 : Int) (a0_3 : ByteArray) (A0_4 : Option Addr) (c0_4 : Nat) (l0_4 : List (S105)) (a0_5 : ByteArray) (a0_6 : Int) (a0_7 : Int) (a1_0 : ByteArray) (A1_1 : Option Addr) (c1_1 : Nat) (l1_1 : List (S105)) (a1_2 : Int) (a1_3 : ByteArray) (A1_4 : Option Addr) (c1_4 : Nat) (l1_4 : List (S105)) (a1_5 : ByteArray) (a1_6 : Int) (a1_7 : Int) (r : Bool) (w : World) (hr0_1 : Kd.C k105 w A0_1 l0_1.length l0_1) (hc0_1 : l0_1.length ≤ c0_1) (hr0_4 : Kd.C k105 w A0_4 l0_4.length l0_4) (hc0_4 : l0_4.length ≤ c0_4) (hr1_1 : Kd.C k105 w A1_1 l1_1.length l1_1) (hc1_1 : l1_1.length ≤ c1_1) (hr1_4 : Kd.C k105 w A1_4 l1_4.length l1_4) (hc1_4 : l1_4.length ≤ c1_4) (h : laws_eqItem.f k a0_0 l0_1 a0_2 a0_3 l0_4 a0_5 a0_6 a0_7 a1_0 l1_1 a1_2 a1_3 l1_4 a1_5 a1_6 a1_7 = some r) :
  Calls Tryz.prog 32 #[.agg #[.string a0_0, .slice A0_1 l0_1.length c0_1, .int .i64 a0_2, .string a0_3, .slice A0_4 l0_4.length c0_4, .string a0_5, .int .i64 a0_6, .int .i64 a0_7], .agg #[.string a1_0, .slice A1_1 l1_1.length c1_1, .int .i64 a1_2, .string a1_3, .slice A1_4 l1_4.length c1_4, .string a1_5, .int .i64 a1_6, .int .i64 a1_7]] w fun e w' => e = .returned (.bool r) ∧ Below w.heap.size w w' := by
 have hu71 := Tryz.underlying71
 have hu69 := Tryz.underlying69
 have HR0_1 := Aside0.mk hr0_1
 have HC0_1 := Aside0.mk hc0_1
 clear hr0_1 hc0_1
 have HR0_4 := Aside0.mk hr0_4
 have HC0_4 := Aside0.mk hc0_4
 clear hr0_4 hc0_4
 have HR1_1 := Aside0.mk hr1_1
 have HC1_1 := Aside0.mk hc1_1
 clear hr1_1 hc1_1
 have HR1_4 := Aside0.mk hr1_4
 have HC1_4 := Aside0.mk hc1_4
 clear hr1_4 hc1_4
 have HB := Aside0.mk (Below.refl w.heap.size w)
 have H := h
 unfold laws_eqItem.f at H
 clear h
 by_cases c3 : a0_0.toList = a1_0.toList
 ·rw [if_pos c3] at H
  have c3b0 : (a0_0.toList == a1_0.toList) = true := beq_iff_eq.mpr c3
  have c3b1 : (a0_0.toList != a1_0.toList) = false := bne_eq_false_iff_eq.mpr c3
  clear c3
  replace H := mb_ H
  obtain ⟨t456, A4, H⟩ := H
  by_cases c5 : t456 = true
  ·subst c5
   rw [if_pos rfl] at H
   replace H := mb_ H
   obtain ⟨t457, A6, H⟩ := H
   by_cases c7 : t457 = true
   ·subst c7
    rw [if_pos rfl] at H
    obtain rfl := Option.some.inj H
    go_enter Tryz.func32, Tryz.ntmps32
    go_wp2_with (first | ((with_reducible refine gd_ 2 ?_); refine xbe_ (N := 2) (cs := #[.string a0_0, .slice A0_1 l0_1.length c0_1, .int .i64 a0_2, .string a0_3, .slice A0_4 l0_4.length c0_4, .string a0_5, .int .i64 a0_6, .int .i64 a0_7]) (t := 71) ?_; intro gb454 hg w8 hbox hb; have BK454 := Aside0.mk (hbox); have GE454 := xge_ HB hg; replace HB := xws_ HB hb; clear hb hbox hg) | ((with_reducible refine gd_ 3 ?_); refine xbe_ (N := 3) (cs := #[.string a1_0, .slice A1_1 l1_1.length c1_1, .int .i64 a1_2, .string a1_3, .slice A1_4 l1_4.length c1_4, .string a1_5, .int .i64 a1_6, .int .i64 a1_7]) (t := 71) ?_; intro gb455 hg w9 hbox hb; have BK455 := Aside0.mk (hbox); have GE455 := xge_ HB hg; replace HB := xws_ HB hb; have NB454_455 := xlt_ BK454 hg; have NB455_454 := xgt_ BK454 hg; replace BK454 := xbb_ BK454 hb; clear hb hbox hg; have hnb10 := NB454_455.out; have hnc10 := NB455_454.out; have ⟨_, _, _, _, _, _, _, _, _, _, _, _, _, _, _, _⟩ := c8_ BK454; have ⟨_, _, _, _, _, _, _, _, _, _, _, _, _, _, _, _⟩ := c8_ BK455) | ((with_reducible refine gc_ 42 ?_); refine xgl_ (some 14) Tryz.func42 #[.slice A0_1 l0_1.length c0_1, .slice A1_1 l1_1.length c1_1] ?_; (with_reducible refine (laws_eqFieldS.calls k _ _ l0_1 _ _ l1_1 true _ ?side1 ?side2 ?side3 ?side4 A4.out).mono ?_); (case side1 => exact xc_ ((Kd.C_below HR0_1.out HB.out))); (case side2 => exact HC0_1.out); (case side3 => exact xc_ ((Kd.C_below HR1_1.out HB.out))); (case side4 => exact HC1_1.out); rintro e w13 ⟨rfl, hb⟩; refine ⟨_, rfl, ?_⟩; replace BK454 := xbb_ BK454 hb; replace BK455 := xbb_ BK455 hb; replace HB := xws_ HB hb; (try clear hb); have ⟨_, _, _, _, _, _, _, _, _, _, _, _, _, _, _, _⟩ := c8_ BK454; have ⟨_, _, _, _, _, _, _, _, _, _, _, _, _, _, _, _⟩ := c8_ BK455) | ((with_reducible refine gc_ 59 ?_); refine xgl_ (some 20) Tryz.func59 #[.agg #[.int .i64 a0_2, .string a0_3, .slice A0_4 l0_4.length c0_4, .string a0_5, .int .i64 a0_6, .int .i64 a0_7], .agg #[.int .i64 a1_2, .string a1_3, .slice A1_4 l1_4.length c1_4, .string a1_5, .int .i64 a1_6, .int .i64 a1_7]] ?_; (with_reducible refine (laws_eqKept.calls k a0_2 a0_3 _ _ l0_4 a0_5 a0_6 a0_7 a1_2 a1_3 _ _ l1_4 a1_5 a1_6 a1_7 true _ ?side1 ?side2 ?side3 ?side4 A6.out).mono ?_); (case side1 => exact xc_ ((Kd.C_below HR0_4.out HB.out))); (case side2 => exact HC0_4.out); (case side3 => exact xc_ ((Kd.C_below HR1_4.out HB.out))); (case side4 => exact HC1_4.out); rintro e w16 ⟨rfl, hb⟩; refine ⟨_, rfl, ?_⟩; replace BK454 := xbb_ BK454 hb; replace BK455 := xbb_ BK455 hb; replace HB := xws_ HB hb; (try clear hb)))
    go_ret
    exact ⟨mf_, xw_ HB⟩
   ·replace c7 := Bool.eq_false_iff.mpr c7
    subst c7
    rw [if_neg (show ¬ (false = true) by decide)] at H
    obtain rfl := Option.some.inj H
    go_enter Tryz.func32, Tryz.ntmps32
    go_wp2_with (first | ((with_reducible refine gd_ 2 ?_); refine xbe_ (N := 2) (cs := #[.string a0_0, .slice A0_1 l0_1.length c0_1, .int .i64 a0_2, .string a0_3, .slice A0_4 l0_4.length c0_4, .string a0_5, .int .i64 a0_6, .int .i64 a0_7]) (t := 71) ?_; intro gb454 hg w17 hbox hb; have BK454 := Aside0.mk (hbox); have GE454 := xge_ HB hg; replace HB := xws_ HB hb; clear hb hbox hg) | ((with_reducible refine gd_ 3 ?_); refine xbe_ (N := 3) (cs := #[.string a1_0, .slice A1_1 l1_1.length c1_1, .int .i64 a1_2, .string a1_3, .slice A1_4 l1_4.length c1_4, .string a1_5, .int .i64 a1_6, .int .i64 a1_7]) (t := 71) ?_; intro gb455 hg w18 hbox hb; have BK455 := Aside0.mk (hbox); have GE455 := xge_ HB hg; replace HB := xws_ HB hb; have NB454_455 := xlt_ BK454 hg; have NB455_454 := xgt_ BK454 hg; replace BK454 := xbb_ BK454 hb; clear hb hbox hg; have hnb19 := NB454_455.out; have hnc19 := NB455_454.out; have ⟨_, _, _, _, _, _, _, _, _, _, _, _, _, _, _, _⟩ := c8_ BK454; have ⟨_, _, _, _, _, _, _, _, _, _, _, _, _, _, _, _⟩ := c8_ BK455) | ((with_reducible refine gc_ 42 ?_); refine xgl_ (some 14) Tryz.func42 #[.slice A0_1 l0_1.length c0_1, .slice A1_1 l1_1.length c1_1] ?_; (with_reducible refine (laws_eqFieldS.calls k _ _ l0_1 _ _ l1_1 true _ ?side1 ?side2 ?side3 ?side4 A4.out).mono ?_); (case side1 => exact xc_ ((Kd.C_below HR0_1.out HB.out))); (case side2 => exact HC0_1.out); (case side3 => exact xc_ ((Kd.C_below HR1_1.out HB.out))); (case side4 => exact HC1_1.out); rintro e w22 ⟨rfl, hb⟩; refine ⟨_, rfl, ?_⟩; replace BK454 := xbb_ BK454 hb; replace BK455 := xbb_ BK455 hb; replace HB := xws_ HB hb; (try clear hb); have ⟨_, _, _, _, _, _, _, _, _, _, _, _, _, _, _, _⟩ := c8_ BK454; have ⟨_, _, _, _, _, _, _, _, _, _, _, _, _, _, _, _⟩ := c8_ BK455) | ((with_reducible refine gc_ 59 ?_); refine xgl_ (some 20) Tryz.func59 #[.agg #[.int .i64 a0_2, .string a0_3, .slice A0_4 l0_4.length c0_4, .string a0_5, .int .i64 a0_6, .int .i64 a0_7], .agg #[.int .i64 a1_2, .string a1_3, .slice A1_4 l1_4.length c1_4, .string a1_5, .int .i64 a1_6, .int .i64 a1_7]] ?_; (with_reducible refine (laws_eqKept.calls k a0_2 a0_3 _ _ l0_4 a0_5 a0_6 a0_7 a1_2 a1_3 _ _ l1_4 a1_5 a1_6 a1_7 false _ ?side1 ?side2 ?side3 ?side4 A6.out).mono ?_); (case side1 => exact xc_ ((Kd.C_below HR0_4.out HB.out))); (case side2 => exact HC0_4.out); (case side3 => exact xc_ ((Kd.C_below HR1_4.out HB.out))); (case side4 => exact HC1_4.out); rintro e w25 ⟨rfl, hb⟩; refine ⟨_, rfl, ?_⟩; replace BK454 := xbb_ BK454 hb; replace BK455 := xbb_ BK455 hb; replace HB := xws_ HB hb; (try clear hb)))
    go_ret
    exact ⟨mf_, xw_ HB⟩
  ·replace c5 := Bool.eq_false_iff.mpr c5
   subst c5
   rw [if_neg (show ¬ (false = true) by decide)] at H
   obtain rfl := Option.some.inj H
   go_enter Tryz.func32, Tryz.ntmps32
   go_wp2_with (first | ((with_reducible refine gd_ 2 ?_); refine xbe_ (N := 2) (cs := #[.string a0_0, .slice A0_1 l0_1.length c0_1, .int .i64 a0_2, .string a0_3, .slice A0_4 l0_4.length c0_4, .string a0_5, .int .i64 a0_6, .int .i64 a0_7]) (t := 71) ?_; intro gb454 hg w26 hbox hb; have BK454 := Aside0.mk (hbox); have GE454 := xge_ HB hg; replace HB := xws_ HB hb; clear hb hbox hg) | ((with_reducible refine gd_ 3 ?_); refine xbe_ (N := 3) (cs := #[.string a1_0, .slice A1_1 l1_1.length c1_1, .int .i64 a1_2, .string a1_3, .slice A1_4 l1_4.length c1_4, .string a1_5, .int .i64 a1_6, .int .i64 a1_7]) (t := 71) ?_; intro gb455 hg w27 hbox hb; have BK455 := Aside0.mk (hbox); have GE455 := xge_ HB hg; replace HB := xws_ HB hb; have NB454_455 := xlt_ BK454 hg; have NB455_454 := xgt_ BK454 hg; replace BK454 := xbb_ BK454 hb; clear hb hbox hg; have hnb28 := NB454_455.out; have hnc28 := NB455_454.out; have ⟨_, _, _, _, _, _, _, _, _, _, _, _, _, _, _, _⟩ := c8_ BK454; have ⟨_, _, _, _, _, _, _, _, _, _, _, _, _, _, _, _⟩ := c8_ BK455) | ((with_reducible refine gc_ 42 ?_); refine xgl_ (some 14) Tryz.func42 #[.slice A0_1 l0_1.length c0_1, .slice A1_1 l1_1.length c1_1] ?_; (with_reducible refine (laws_eqFieldS.calls k _ _ l0_1 _ _ l1_1 false _ ?side1 ?side2 ?side3 ?side4 A4.out).mono ?_); (case side1 => exact xc_ ((Kd.C_below HR0_1.out HB.out))); (case side2 => exact HC0_1.out); (case side3 => exact xc_ ((Kd.C_below HR1_1.out HB.out))); (case side4 => exact HC1_1.out); rintro e w31 ⟨rfl, hb⟩; refine ⟨_, rfl, ?_⟩; replace BK454 := xbb_ BK454 hb; replace BK455 := xbb_ BK455 hb; replace HB := xws_ HB hb; (try clear hb)))
   go_ret
   exact ⟨mf_, xw_ HB⟩
 ·rw [if_neg c3] at H
  have c3b0 : (a0_0.toList == a1_0.toList) = false := beq_eq_false_iff_ne.mpr c3
  have c3b1 : (a0_0.toList != a1_0.toList) = true := bne_iff_ne.mpr c3
  obtain rfl := Option.some.inj H
  go_enter Tryz.func32, Tryz.ntmps32
  go_wp2_with (first | ((with_reducible refine gd_ 2 ?_); refine xbe_ (N := 2) (cs := #[.string a0_0, .slice A0_1 l0_1.length c0_1, .int .i64 a0_2, .string a0_3, .slice A0_4 l0_4.length c0_4, .string a0_5, .int .i64 a0_6, .int .i64 a0_7]) (t := 71) ?_; intro gb454 hg w32 hbox hb; have BK454 := Aside0.mk (hbox); have GE454 := xge_ HB hg; replace HB := xws_ HB hb; clear hb hbox hg) | ((with_reducible refine gd_ 3 ?_); refine xbe_ (N := 3) (cs := #[.string a1_0, .slice A1_1 l1_1.length c1_1, .int .i64 a1_2, .string a1_3, .slice A1_4 l1_4.length c1_4, .string a1_5, .int .i64 a1_6, .int .i64 a1_7]) (t := 71) ?_; intro gb455 hg w33 hbox hb; have BK455 := Aside0.mk (hbox); have GE455 := xge_ HB hg; replace HB := xws_ HB hb; have NB454_455 := xlt_ BK454 hg; have NB455_454 := xgt_ BK454 hg; replace BK454 := xbb_ BK454 hb; clear hb hbox hg; have hnb34 := NB454_455.out; have hnc34 := NB455_454.out; have ⟨_, _, _, _, _, _, _, _, _, _, _, _, _, _, _, _⟩ := c8_ BK454; have ⟨_, _, _, _, _, _, _, _, _, _, _, _, _, _, _, _⟩ := c8_ BK455))
  go_ret
  exact ⟨mf_, xw_ HB⟩

end Go.Proofs.YtpggepjfhgalkaaGreatDoor.PFnExactPickItem
