-- Written by a program of this project (xprint.py) out of the translation; Lean checks it.
import Derived.Test.YtpggepjfhgalkaaGreatDoorPFnExactPickItemx0
import Derived.Test.YtpggepjfhgalkaaGreatDoorPFnExactPickItemx3
import Derived.Test.YtpggepjfhgalkaaGreatDoorPFnExactPickItemx7
import Derived.Test.YtpggepjfhgalkaaGreatDoorPFnExactPickItemx9
namespace Go.Proofs.YtpggepjfhgalkaaGreatDoor.PFnExactPickItem
open Go.RowKit Go.Proofs.YtpggepjfhgalkaaGreatDoorW.PrintWords Go.Proofs.YtpggepjfhgalkaaGreatDoorW.PrintLast Go.Proofs.YtpggepjfhgalkaaGreatDoorW.PrintMore
attribute [local go_sem] max2_int min2_int max_two min_two max_three min_three max_four min_four   -- for this text's walks alone
set_option linter.unusedVariables false
set_option linter.unusedSimpArgs false

/-! ### spec_GoodKept: function 100 -/
def spec_GoodKept.f (k : Nat) (a0_0 : Int) (a0_1 : ByteArray) (l0_2 : List (S105)) (a0_3 : ByteArray) (a0_4 : Int) (a0_5 : Int) : Option (Bool) := (spec_GoodResponse.f k a0_0 a0_1 l0_2 a0_3).bind fun t261 => (if t261 = true then (if a0_4 ≥ 0 then (if a0_4 ≤ a0_5 then (some (decide (a0_5 ≤ 253402300799))) else (some false)) else (some false)) else (some false))
set_option maxHeartbeats 8000000 in
set_option maxRecDepth 100000 in
theorem spec_GoodKept.calls (k : Nat) (a0_0 : Int) (a0_1 : ByteArray) (A0_2 : Option Addr) (c0_2 : Nat) (l0_2 : List (S105)) (a0_3 : ByteArray) (a0_4 : Int) (a0_5 : Int) (r : Bool) (w : World) (hr0_2 : Kd.C k105 w A0_2 l0_2.length l0_2) (hc0_2 : l0_2.length ≤ c0_2) (h : spec_GoodKept.f k a0_0 a0_1 l0_2 a0_3 a0_4 a0_5 = some r) :
  Calls Tryz.prog 100 #[.agg #[.int .i64 a0_0, .string a0_1, .slice A0_2 l0_2.length c0_2, .string a0_3, .int .i64 a0_4, .int .i64 a0_5]] w fun e w' => e = .returned (.bool r) ∧ Below w.heap.size w w' := by
 have hu69 := Tryz.underlying69
 have hu54 := Tryz.underlying54
 have HR0_2 := Aside0.mk hr0_2
 have HC0_2 := Aside0.mk hc0_2
 clear hr0_2 hc0_2
 have HB := Aside0.mk (Below.refl w.heap.size w)
 have H := h
 unfold spec_GoodKept.f at H
 clear h
 replace H := mb_ H
 obtain ⟨t261, A2, H⟩ := H
 by_cases c3 : t261 = true
 ·subst c3
  rw [if_pos rfl] at H
  by_cases c4 : a0_4 ≥ 0
  ·rw [if_pos c4] at H
   have c4b0 : decide (0 ≤ a0_4) = true := decide_eq_true c4
   clear c4
   by_cases c5 : a0_4 ≤ a0_5
   ·rw [if_pos c5] at H
    have c5b0 := decide_eq_true c5
    clear c5
    obtain rfl := Option.some.inj H
    go_enter Tryz.func100, Tryz.ntmps100
    go_wp2_with (first | ((with_reducible refine gd_ 1 ?_); refine xbe_ (N := 1) (cs := #[.int .i64 a0_0, .string a0_1, .slice A0_2 l0_2.length c0_2, .string a0_3, .int .i64 a0_4, .int .i64 a0_5]) (t := 69) ?_; intro gb260 hg w6 hbox hb; have BK260 := Aside0.mk (hbox); have GE260 := xge_ HB hg; replace HB := xws_ HB hb; clear hb hbox hg; have ⟨_, _, _, _, _, _, _, _, _, _, _, _⟩ := c6_ BK260) | ((with_reducible refine gc_ 47 ?_); refine xgl_ (some 5) Tryz.func47 #[.agg #[.int .i64 a0_0, .string a0_1, .slice A0_2 l0_2.length c0_2, .string a0_3]] ?_; (with_reducible refine (spec_GoodResponse.calls k a0_0 a0_1 _ _ l0_2 a0_3 true _ ?side1 ?side2 A2.out).mono ?_); (case side1 => exact xc_ ((Kd.C_below HR0_2.out HB.out))); (case side2 => exact HC0_2.out); rintro e w8 ⟨rfl, hb⟩; refine ⟨_, rfl, ?_⟩; replace BK260 := xbb_ BK260 hb; replace HB := xws_ HB hb; (try clear hb); have ⟨_, _, _, _, _, _, _, _, _, _, _, _⟩ := c6_ BK260))
    go_ret
    exact ⟨mf_, xw_ HB⟩
   ·rw [if_neg c5] at H
    have c5b0 := decide_eq_false c5
    clear c5
    obtain rfl := Option.some.inj H
    go_enter Tryz.func100, Tryz.ntmps100
    go_wp2_with (first | ((with_reducible refine gd_ 1 ?_); refine xbe_ (N := 1) (cs := #[.int .i64 a0_0, .string a0_1, .slice A0_2 l0_2.length c0_2, .string a0_3, .int .i64 a0_4, .int .i64 a0_5]) (t := 69) ?_; intro gb260 hg w10 hbox hb; have BK260 := Aside0.mk (hbox); have GE260 := xge_ HB hg; replace HB := xws_ HB hb; clear hb hbox hg; have ⟨_, _, _, _, _, _, _, _, _, _, _, _⟩ := c6_ BK260) | ((with_reducible refine gc_ 47 ?_); refine xgl_ (some 5) Tryz.func47 #[.agg #[.int .i64 a0_0, .string a0_1, .slice A0_2 l0_2.length c0_2, .string a0_3]] ?_; (with_reducible refine (spec_GoodResponse.calls k a0_0 a0_1 _ _ l0_2 a0_3 true _ ?side1 ?side2 A2.out).mono ?_); (case side1 => exact xc_ ((Kd.C_below HR0_2.out HB.out))); (case side2 => exact HC0_2.out); rintro e w12 ⟨rfl, hb⟩; refine ⟨_, rfl, ?_⟩; replace BK260 := xbb_ BK260 hb; replace HB := xws_ HB hb; (try clear hb); have ⟨_, _, _, _, _, _, _, _, _, _, _, _⟩ := c6_ BK260))
    go_ret
    exact ⟨mf_, xw_ HB⟩
  ·rw [if_neg c4] at H
   have c4b0 : decide (0 ≤ a0_4) = false := decide_eq_false c4
   clear c4
   obtain rfl := Option.some.inj H
   go_enter Tryz.func100, Tryz.ntmps100
   go_wp2_with (first | ((with_reducible refine gd_ 1 ?_); refine xbe_ (N := 1) (cs := #[.int .i64 a0_0, .string a0_1, .slice A0_2 l0_2.length c0_2, .string a0_3, .int .i64 a0_4, .int .i64 a0_5]) (t := 69) ?_; intro gb260 hg w14 hbox hb; have BK260 := Aside0.mk (hbox); have GE260 := xge_ HB hg; replace HB := xws_ HB hb; clear hb hbox hg; have ⟨_, _, _, _, _, _, _, _, _, _, _, _⟩ := c6_ BK260) | ((with_reducible refine gc_ 47 ?_); refine xgl_ (some 5) Tryz.func47 #[.agg #[.int .i64 a0_0, .string a0_1, .slice A0_2 l0_2.length c0_2, .string a0_3]] ?_; (with_reducible refine (spec_GoodResponse.calls k a0_0 a0_1 _ _ l0_2 a0_3 true _ ?side1 ?side2 A2.out).mono ?_); (case side1 => exact xc_ ((Kd.C_below HR0_2.out HB.out))); (case side2 => exact HC0_2.out); rintro e w16 ⟨rfl, hb⟩; refine ⟨_, rfl, ?_⟩; replace BK260 := xbb_ BK260 hb; replace HB := xws_ HB hb; (try clear hb); have ⟨_, _, _, _, _, _, _, _, _, _, _, _⟩ := c6_ BK260))
   go_ret
   exact ⟨mf_, xw_ HB⟩
 ·replace c3 := Bool.eq_false_iff.mpr c3
  subst c3
  rw [if_neg (show ¬ (false = true) by decide)] at H
  obtain rfl := Option.some.inj H
  go_enter Tryz.func100, Tryz.ntmps100
  go_wp2_with (first | ((with_reducible refine gd_ 1 ?_); refine xbe_ (N := 1) (cs := #[.int .i64 a0_0, .string a0_1, .slice A0_2 l0_2.length c0_2, .string a0_3, .int .i64 a0_4, .int .i64 a0_5]) (t := 69) ?_; intro gb260 hg w18 hbox hb; have BK260 := Aside0.mk (hbox); have GE260 := xge_ HB hg; replace HB := xws_ HB hb; clear hb hbox hg; have ⟨_, _, _, _, _, _, _, _, _, _, _, _⟩ := c6_ BK260) | ((with_reducible refine gc_ 47 ?_); refine xgl_ (some 5) Tryz.func47 #[.agg #[.int .i64 a0_0, .string a0_1, .slice A0_2 l0_2.length c0_2, .string a0_3]] ?_; (with_reducible refine (spec_GoodResponse.calls k a0_0 a0_1 _ _ l0_2 a0_3 false _ ?side1 ?side2 A2.out).mono ?_); (case side1 => exact xc_ ((Kd.C_below HR0_2.out HB.out))); (case side2 => exact HC0_2.out); rintro e w20 ⟨rfl, hb⟩; refine ⟨_, rfl, ?_⟩; replace BK260 := xbb_ BK260 hb; replace HB := xws_ HB hb; (try clear hb)))
  go_ret
  exact ⟨mf_, xw_ HB⟩

/-! ### spec_l9Item: function 54 -/
def spec_l9Item.f (k : Nat) (a0_0 : ByteArray) (l0_1 : List (S105)) (a0_2 : Int) (a0_3 : ByteArray) (l0_4 : List (S105)) (a0_5 : ByteArray) (a0_6 : Int) (a0_7 : Int) : Option (Bool) := (spec_l9Vary.f k a0_2 a0_3 l0_4 a0_5).bind fun bt263 => (if (a0_0.size : Int) ≤ 200 then ((spec_l3Fields.f k l0_1).bind fun t268 => (if t268 = true then ((spec_GoodKept.f k a0_2 a0_3 l0_4 a0_5 a0_6 a0_7).bind fun t269 => (if t269 = true then (if bt263.2.2 = true then (some (!bt263.2.1)) else (some false)) else (some false))) else (some false))) else (some false))
set_option maxHeartbeats 8000000 in
set_option maxRecDepth 100000 in
theorem spec_l9Item.calls (k : Nat) (a0_0 : ByteArray) (A0_1 : Option Addr) (c0_1 : Nat) (l0_1 : List (S105)) (a0_2 : Int) (a0_3 : ByteArray) (A0_4 : Option Addr) (c0_4 : Nat) (l0_4 : List (S105)) (a0_5 : ByteArray) (a0_6 : Int) (a0_7 : Int) (r : Bool) (w : World) (hr0_1 : Kd.C k105 w A0_1 l0_1.length l0_1) (hc0_1 : l0_1.length ≤ c0_1) (hr0_4 : Kd.C k105 w A0_4 l0_4.length l0_4) (hc0_4 : l0_4.length ≤ c0_4) (h : spec_l9Item.f k a0_0 l0_1 a0_2 a0_3 l0_4 a0_5 a0_6 a0_7 = some r) :
  Calls Tryz.prog 54 #[.agg #[.string a0_0, .slice A0_1 l0_1.length c0_1, .int .i64 a0_2, .string a0_3, .slice A0_4 l0_4.length c0_4, .string a0_5, .int .i64 a0_6, .int .i64 a0_7]] w fun e w' => e = .returned (.bool r) ∧ Below w.heap.size w w' := by
 have hu71 := Tryz.underlying71
 have hu54 := Tryz.underlying54
 have hu69 := Tryz.underlying69
 have HR0_1 := Aside0.mk hr0_1
 have HC0_1 := Aside0.mk hc0_1
 clear hr0_1 hc0_1
 have HR0_4 := Aside0.mk hr0_4
 have HC0_4 := Aside0.mk hc0_4
 clear hr0_4 hc0_4
 have HB := Aside0.mk (Below.refl w.heap.size w)
 have H := h
 unfold spec_l9Item.f at H
 clear h
 replace H := mb_ H
 obtain ⟨⟨t263, t266, t267⟩, A2, H⟩ := H
 dsimp only at H
 by_cases c3 : (a0_0.size : Int) ≤ 200
 ·rw [if_pos c3] at H
  have c3b0 := decide_eq_true c3
  have c3b1 : decide (a0_0.size ≤ 200) = true := decide_eq_true (by omega)
  clear c3
  replace H := mb_ H
  obtain ⟨t268, A4, H⟩ := H
  by_cases c5 : t268 = true
  ·subst c5
   rw [if_pos rfl] at H
   replace H := mb_ H
   obtain ⟨t269, A6, H⟩ := H
   by_cases c7 : t269 = true
   ·subst c7
    rw [if_pos rfl] at H
    by_cases c8 : t267 = true
    ·subst c8
     rw [if_pos rfl] at H
     obtain rfl := Option.some.inj H
     go_enter Tryz.func54, Tryz.ntmps54
     go_wp2_with (first | ((with_reducible refine gd_ 1 ?_); refine xbe_ (N := 1) (cs := #[.string a0_0, .slice A0_1 l0_1.length c0_1, .int .i64 a0_2, .string a0_3, .slice A0_4 l0_4.length c0_4, .string a0_5, .int .i64 a0_6, .int .i64 a0_7]) (t := 71) ?_; intro gb262 hg w9 hbox hb; have BK262 := Aside0.mk (hbox); have GE262 := xge_ HB hg; replace HB := xws_ HB hb; clear hb hbox hg; have ⟨_, _, _, _, _, _, _, _, _, _, _, _, _, _, _, _⟩ := c8_ BK262) | ((with_reducible refine gc_ 48 ?_); refine xgl_ (some 10) Tryz.func48 #[.agg #[.int .i64 a0_2, .string a0_3, .slice A0_4 l0_4.length c0_4, .string a0_5]] ?_; (with_reducible refine (spec_l9Vary.calls k a0_2 a0_3 _ _ l0_4 a0_5 t263 t266 true _ ?side1 ?side2 A2.out).mono ?_); (case side1 => exact xc_ ((Kd.C_below HR0_4.out HB.out))); (case side2 => exact HC0_4.out); rintro e w11 ⟨v264, rfl, ho0, hb⟩; refine ⟨_, rfl, ?_⟩; have HO265 := Aside0.mk (Kd.R_lower ho0 (below_size (xw_ HB))); replace BK262 := xbb_ BK262 hb; replace HB := xws_ HB hb; (try clear hb); (try clear ho0); have ⟨_, _, _, _, _, _, _, _, _, _, _, _, _, _, _, _⟩ := c8_ BK262) | (go_at_call 67; (with_reducible refine (spec_l3Fields.calls k _ _ l0_1 true _ ?side1 ?side2 A4.out).mono ?_); (case side1 => exact xc_ ((Kd.C_below HR0_1.out HB.out))); (case side2 => exact HC0_1.out); rintro e w13 ⟨rfl, hb⟩; replace HO265 := xrb_ HO265 hb; replace BK262 := xbb_ BK262 hb; replace HB := xws_ HB hb; (try clear hb); have ⟨_, _, _, _, _, _, _, _, _, _, _, _, _, _, _, _⟩ := c8_ BK262) | (go_at_call 100; (with_reducible refine (spec_GoodKept.calls k a0_2 a0_3 _ _ l0_4 a0_5 a0_6 a0_7 true _ ?side1 ?side2 A6.out).mono ?_); (case side1 => exact xc_ ((Kd.C_below HR0_4.out HB.out))); (case side2 => exact HC0_4.out); rintro e w15 ⟨rfl, hb⟩; replace HO265 := xrb_ HO265 hb; replace BK262 := xbb_ BK262 hb; replace HB := xws_ HB hb; (try clear hb)))
     go_ret
     exact ⟨mf_, xw_ HB⟩
    ·replace c8 := Bool.eq_false_iff.mpr c8
     subst c8
     rw [if_neg (show ¬ (false = true) by decide)] at H
     obtain rfl := Option.some.inj H
     go_enter Tryz.func54, Tryz.ntmps54
     go_wp2_with (first | ((with_reducible refine gd_ 1 ?_); refine xbe_ (N := 1) (cs := #[.string a0_0, .slice A0_1 l0_1.length c0_1, .int .i64 a0_2, .string a0_3, .slice A0_4 l0_4.length c0_4, .string a0_5, .int .i64 a0_6, .int .i64 a0_7]) (t := 71) ?_; intro gb262 hg w16 hbox hb; have BK262 := Aside0.mk (hbox); have GE262 := xge_ HB hg; replace HB := xws_ HB hb; clear hb hbox hg; have ⟨_, _, _, _, _, _, _, _, _, _, _, _, _, _, _, _⟩ := c8_ BK262) | ((with_reducible refine gc_ 48 ?_); refine xgl_ (some 10) Tryz.func48 #[.agg #[.int .i64 a0_2, .string a0_3, .slice A0_4 l0_4.length c0_4, .string a0_5]] ?_; (with_reducible refine (spec_l9Vary.calls k a0_2 a0_3 _ _ l0_4 a0_5 t263 t266 false _ ?side1 ?side2 A2.out).mono ?_); (case side1 => exact xc_ ((Kd.C_below HR0_4.out HB.out))); (case side2 => exact HC0_4.out); rintro e w18 ⟨v264, rfl, ho0, hb⟩; refine ⟨_, rfl, ?_⟩; have HO265 := Aside0.mk (Kd.R_lower ho0 (below_size (xw_ HB))); replace BK262 := xbb_ BK262 hb; replace HB := xws_ HB hb; (try clear hb); (try clear ho0); have ⟨_, _, _, _, _, _, _, _, _, _, _, _, _, _, _, _⟩ := c8_ BK262) | (go_at_call 67; (with_reducible refine (spec_l3Fields.calls k _ _ l0_1 true _ ?side1 ?side2 A4.out).mono ?_); (case side1 => exact xc_ ((Kd.C_below HR0_1.out HB.out))); (case side2 => exact HC0_1.out); rintro e w20 ⟨rfl, hb⟩; replace HO265 := xrb_ HO265 hb; replace BK262 := xbb_ BK262 hb; replace HB := xws_ HB hb; (try clear hb); have ⟨_, _, _, _, _, _, _, _, _, _, _, _, _, _, _, _⟩ := c8_ BK262) | (go_at_call 100; (with_reducible refine (spec_GoodKept.calls k a0_2 a0_3 _ _ l0_4 a0_5 a0_6 a0_7 true _ ?side1 ?side2 A6.out).mono ?_); (case side1 => exact xc_ ((Kd.C_below HR0_4.out HB.out))); (case side2 => exact HC0_4.out); rintro e w22 ⟨rfl, hb⟩; replace HO265 := xrb_ HO265 hb; replace BK262 := xbb_ BK262 hb; replace HB := xws_ HB hb; (try clear hb)))
     go_ret
     exact ⟨mf_, xw_ HB⟩
   ·replace c7 := Bool.eq_false_iff.mpr c7
    subst c7
    rw [if_neg (show ¬ (false = true) by decide)] at H
    obtain rfl := Option.some.inj H
    go_enter Tryz.func54, Tryz.ntmps54
    go_wp2_with (first | ((with_reducible refine gd_ 1 ?_); refine xbe_ (N := 1) (cs := #[.string a0_0, .slice A0_1 l0_1.length c0_1, .int .i64 a0_2, .string a0_3, .slice A0_4 l0_4.length c0_4, .string a0_5, .int .i64 a0_6, .int .i64 a0_7]) (t := 71) ?_; intro gb262 hg w23 hbox hb; have BK262 := Aside0.mk (hbox); have GE262 := xge_ HB hg; replace HB := xws_ HB hb; clear hb hbox hg; have ⟨_, _, _, _, _, _, _, _, _, _, _, _, _, _, _, _⟩ := c8_ BK262) | ((with_reducible refine gc_ 48 ?_); refine xgl_ (some 10) Tryz.func48 #[.agg #[.int .i64 a0_2, .string a0_3, .slice A0_4 l0_4.length c0_4, .string a0_5]] ?_; (with_reducible refine (spec_l9Vary.calls k a0_2 a0_3 _ _ l0_4 a0_5 t263 t266 t267 _ ?side1 ?side2 A2.out).mono ?_); (case side1 => exact xc_ ((Kd.C_below HR0_4.out HB.out))); (case side2 => exact HC0_4.out); rintro e w25 ⟨v264, rfl, ho0, hb⟩; refine ⟨_, rfl, ?_⟩; have HO265 := Aside0.mk (Kd.R_lower ho0 (below_size (xw_ HB))); replace BK262 := xbb_ BK262 hb; replace HB := xws_ HB hb; (try clear hb); (try clear ho0); have ⟨_, _, _, _, _, _, _, _, _, _, _, _, _, _, _, _⟩ := c8_ BK262) | (go_at_call 67; (with_reducible refine (spec_l3Fields.calls k _ _ l0_1 true _ ?side1 ?side2 A4.out).mono ?_); (case side1 => exact xc_ ((Kd.C_below HR0_1.out HB.out))); (case side2 => exact HC0_1.out); rintro e w27 ⟨rfl, hb⟩; replace HO265 := xrb_ HO265 hb; replace BK262 := xbb_ BK262 hb; replace HB := xws_ HB hb; (try clear hb); have ⟨_, _, _, _, _, _, _, _, _, _, _, _, _, _, _, _⟩ := c8_ BK262) | (go_at_call 100; (with_reducible refine (spec_GoodKept.calls k a0_2 a0_3 _ _ l0_4 a0_5 a0_6 a0_7 false _ ?side1 ?side2 A6.out).mono ?_); (case side1 => exact xc_ ((Kd.C_below HR0_4.out HB.out))); (case side2 => exact HC0_4.out); rintro e w29 ⟨rfl, hb⟩; replace HO265 := xrb_ HO265 hb; replace BK262 := xbb_ BK262 hb; replace HB := xws_ HB hb; (try clear hb)))
    go_ret
    exact ⟨mf_, xw_ HB⟩
  ·replace c5 := Bool.eq_false_iff.mpr c5
   subst c5
   rw [if_neg (show ¬ (false = true) by decide)] at H
   obtain rfl := Option.some.inj H
   go_enter Tryz.func54, Tryz.ntmps54
   go_wp2_with (first | ((with_reducible refine gd_ 1 ?_); refine xbe_ (N := 1) (cs := #[.string a0_0, .slice A0_1 l0_1.length c0_1, .int .i64 a0_2, .string a0_3, .slice A0_4 l0_4.length c0_4, .string a0_5, .int .i64 a0_6, .int .i64 a0_7]) (t := 71) ?_; intro gb262 hg w30 hbox hb; have BK262 := Aside0.mk (hbox); have GE262 := xge_ HB hg; replace HB := xws_ HB hb; clear hb hbox hg; have ⟨_, _, _, _, _, _, _, _, _, _, _, _, _, _, _, _⟩ := c8_ BK262) | ((with_reducible refine gc_ 48 ?_); refine xgl_ (some 10) Tryz.func48 #[.agg #[.int .i64 a0_2, .string a0_3, .slice A0_4 l0_4.length c0_4, .string a0_5]] ?_; (with_reducible refine (spec_l9Vary.calls k a0_2 a0_3 _ _ l0_4 a0_5 t263 t266 t267 _ ?side1 ?side2 A2.out).mono ?_); (case side1 => exact xc_ ((Kd.C_below HR0_4.out HB.out))); (case side2 => exact HC0_4.out); rintro e w32 ⟨v264, rfl, ho0, hb⟩; refine ⟨_, rfl, ?_⟩; have HO265 := Aside0.mk (Kd.R_lower ho0 (below_size (xw_ HB))); replace BK262 := xbb_ BK262 hb; replace HB := xws_ HB hb; (try clear hb); (try clear ho0); have ⟨_, _, _, _, _, _, _, _, _, _, _, _, _, _, _, _⟩ := c8_ BK262) | (go_at_call 67; (with_reducible refine (spec_l3Fields.calls k _ _ l0_1 false _ ?side1 ?side2 A4.out).mono ?_); (case side1 => exact xc_ ((Kd.C_below HR0_1.out HB.out))); (case side2 => exact HC0_1.out); rintro e w34 ⟨rfl, hb⟩; replace HO265 := xrb_ HO265 hb; replace BK262 := xbb_ BK262 hb; replace HB := xws_ HB hb; (try clear hb)))
   go_ret
   exact ⟨mf_, xw_ HB⟩
 ·rw [if_neg c3] at H
  have c3b0 := decide_eq_false c3
  have c3b1 : decide (a0_0.size ≤ 200) = false := decide_eq_false (by omega)
  clear c3
  obtain rfl := Option.some.inj H
  go_enter Tryz.func54, Tryz.ntmps54
  go_wp2_with (first | ((with_reducible refine gd_ 1 ?_); refine xbe_ (N := 1) (cs := #[.string a0_0, .slice A0_1 l0_1.length c0_1, .int .i64 a0_2, .string a0_3, .slice A0_4 l0_4.length c0_4, .string a0_5, .int .i64 a0_6, .int .i64 a0_7]) (t := 71) ?_; intro gb262 hg w35 hbox hb; have BK262 := Aside0.mk (hbox); have GE262 := xge_ HB hg; replace HB := xws_ HB hb; clear hb hbox hg; have ⟨_, _, _, _, _, _, _, _, _, _, _, _, _, _, _, _⟩ := c8_ BK262) | ((with_reducible refine gc_ 48 ?_); refine xgl_ (some 10) Tryz.func48 #[.agg #[.int .i64 a0_2, .string a0_3, .slice A0_4 l0_4.length c0_4, .string a0_5]] ?_; (with_reducible refine (spec_l9Vary.calls k a0_2 a0_3 _ _ l0_4 a0_5 t263 t266 t267 _ ?side1 ?side2 A2.out).mono ?_); (case side1 => exact xc_ ((Kd.C_below HR0_4.out HB.out))); (case side2 => exact HC0_4.out); rintro e w37 ⟨v264, rfl, ho0, hb⟩; refine ⟨_, rfl, ?_⟩; have HO265 := Aside0.mk (Kd.R_lower ho0 (below_size (xw_ HB))); replace BK262 := xbb_ BK262 hb; replace HB := xws_ HB hb; (try clear hb); (try clear ho0); have ⟨_, _, _, _, _, _, _, _, _, _, _, _, _, _, _, _⟩ := c8_ BK262))
  go_ret
  exact ⟨mf_, xw_ HB⟩

/-! ### spec_l9Items: function 43 -/
def spec_l9Items.l0 : Nat → List (S71) → List (S71) → Int → Int → Option (Bool)
 | 0, _, _, _, _ => none
 | k + 1, x0, x5, x6, x7 => if x7 < x6 then (if 0 ≤ x7 then (if x7 < (x5.length : Int) then ((spec_l9Item.f k ((rd_T71 x5 x7).f0) ((rd_T71 x5 x7).f1) ((rd_T71 x5 x7).f2.f0.f0) ((rd_T71 x5 x7).f2.f0.f1) ((rd_T71 x5 x7).f2.f0.f2) ((rd_T71 x5 x7).f2.f0.f3) ((rd_T71 x5 x7).f2.f1) ((rd_T71 x5 x7).f2.f2)).bind fun t272 => (if t272 = true then (spec_l9Items.l0 k x0 x5 x6 (wrap64 (x7 + 1))) else (some false))) else (none)) else (none)) else (some (decide ((x0.length : Int) ≤ 30)))
def spec_l9Items.f (k : Nat) (l0 : List (S71)) : Option (Bool) := spec_l9Items.l0 k l0 l0 (l0.length : Int) 0
set_option maxHeartbeats 8000000 in
set_option maxRecDepth 100000 in
theorem spec_l9Items.calls (k : Nat) (A0 : Option Addr) (c0 : Nat) (l0 : List (S71)) (r : Bool) (w : World) (hr0 : Kd.C k71 w A0 l0.length l0) (hc0 : l0.length ≤ c0) (h : spec_l9Items.f k l0 = some r) :
  Calls Tryz.prog 43 #[.slice A0 l0.length c0] w fun e w' => e = .returned (.bool r) ∧ Below w.heap.size w w' := by
 have hu71 := Tryz.underlying71
 have HR0 := Aside0.mk hr0
 have HC0 := Aside0.mk hc0
 clear hr0 hc0
 have HB := Aside0.mk (Below.refl w.heap.size w)
 have H := h
 unfold spec_l9Items.f at H
 clear h
 have H' := Aside0.mk H
 clear H
 go_enter Tryz.func43, Tryz.ntmps43
 go_wp2
 go_loopg [7] k (fun kq v7 w' => ∃ (x7_1 : Int), v7 = .int .i64 x7_1 ∧ Aside0 (spec_l9Items.l0 kq l0 l0 (l0.length : Int) x7_1 = some r) ∧ Aside0 (kq ≤ k) ∧ Aside0 (Below w.heap.size w w'))
 case atStart => exact ⟨(0), me_, H', ⟨Nat.le_refl _⟩, ⟨xw_ HB⟩⟩
 case round =>
  clear H'
  obtain ⟨x7_1, rfl, HA, HK1, HB⟩ := hrel
  cases gk with
  | zero => exact absurd HA.out (by simp [spec_l9Items.l0])
  | succ k1 =>
   have H := HA.out
   clear HA
   simp only [spec_l9Items.l0] at H
   by_cases c2 : x7_1 < (l0.length : Int)
   ·rw [if_pos c2] at H
    have c2b0 := decide_eq_true c2
    clear c2
    replace H := mi_ H
    obtain ⟨c3, H⟩ := H
    have c3b0 := decide_eq_true c3
    clear c3
    replace H := mi_ H
    obtain ⟨c4, H⟩ := H
    have c4b0 := decide_eq_true c4
    clear c4
    replace H := mb_ H
    obtain ⟨t272, A5, H⟩ := H
    by_cases c6 : t272 = true
    ·subst c6
     rw [if_pos rfl] at H
     have H' := Aside0.mk H
     clear H
     have p270 : 0 ≤ (x7_1 : Int) := md_
     have q270 : x7_1 < (l0.length : Int) := md_
     obtain ⟨ad270, A270_1, c270_1, A270_4, c270_4, e270, hx270_0, hx270_1, hx270_2, hx270_3, hx270_4, hx270_5, hx270_6, hx270_7, hl270_1, hi270_1, hl270_4, hi270_4⟩ := at_T71 HR0.out x7_1 p270 q270
     cases e270
     (try replace hx270_0 := (HB.out.cell (World.block_lt_of_cell? w _ hx270_0)).trans hx270_0)
     (try replace hx270_1 := (HB.out.cell (World.block_lt_of_cell? w _ hx270_1)).trans hx270_1)
     (try replace hx270_2 := (HB.out.cell (World.block_lt_of_cell? w _ hx270_2)).trans hx270_2)
     (try replace hx270_3 := (HB.out.cell (World.block_lt_of_cell? w _ hx270_3)).trans hx270_3)
     (try replace hx270_4 := (HB.out.cell (World.block_lt_of_cell? w _ hx270_4)).trans hx270_4)
     (try replace hx270_5 := (HB.out.cell (World.block_lt_of_cell? w _ hx270_5)).trans hx270_5)
     (try replace hx270_6 := (HB.out.cell (World.block_lt_of_cell? w _ hx270_6)).trans hx270_6)
     (try replace hx270_7 := (HB.out.cell (World.block_lt_of_cell? w _ hx270_7)).trans hx270_7)
     have HR270_1 := Aside0.mk hi270_1
     have HC270_1 := Aside0.mk hl270_1
     clear hi270_1 hl270_1
     have HR270_4 := Aside0.mk hi270_4
     have HC270_4 := Aside0.mk hl270_4
     clear hi270_4 hl270_4
     replace p270 := eq_true p270
     replace q270 := eq_true q270
     go_wp2_with (first | ((with_reducible refine gd_ 4 ?_); refine xbe_ (N := 4) (cs := #[.string (⟨#[]⟩ : ByteArray), .slice none 0 0, .int .i64 0, .string (⟨#[]⟩ : ByteArray), .slice none 0 0, .string (⟨#[]⟩ : ByteArray), .int .i64 0, .int .i64 0]) (t := 71) ?_; intro gb271 hg w7 hbox hb; have BK271 := Aside0.mk (hbox); have GE271 := xge_ HB hg; replace HB := xws_ HB hb; clear hb hbox hg; have ⟨_, _, _, _, _, _, _, _, _, _, _, _, _, _, _, _⟩ := c8_ BK271) | ((with_reducible refine gc_ 54 ?_); refine xgl_ (some 12) Tryz.func54 #[.agg #[.string ((rd_T71 l0 x7_1).f0), .slice A270_1 ((rd_T71 l0 x7_1).f1).length c270_1, .int .i64 ((rd_T71 l0 x7_1).f2.f0.f0), .string ((rd_T71 l0 x7_1).f2.f0.f1), .slice A270_4 ((rd_T71 l0 x7_1).f2.f0.f2).length c270_4, .string ((rd_T71 l0 x7_1).f2.f0.f3), .int .i64 ((rd_T71 l0 x7_1).f2.f1), .int .i64 ((rd_T71 l0 x7_1).f2.f2)]] ?_; (with_reducible refine (spec_l9Item.calls k1 ((rd_T71 l0 x7_1).f0) _ _ ((rd_T71 l0 x7_1).f1) ((rd_T71 l0 x7_1).f2.f0.f0) ((rd_T71 l0 x7_1).f2.f0.f1) _ _ ((rd_T71 l0 x7_1).f2.f0.f2) ((rd_T71 l0 x7_1).f2.f0.f3) ((rd_T71 l0 x7_1).f2.f1) ((rd_T71 l0 x7_1).f2.f2) true _ ?side1 ?side2 ?side3 ?side4 A5.out).mono ?_); (case side1 => exact Kd.C_below HR270_1.out (xw_ HB)); (case side2 => exact HC270_1.out); (case side3 => exact Kd.C_below HR270_4.out (xw_ HB)); (case side4 => exact HC270_4.out); rintro e w9 ⟨rfl, hb⟩; refine ⟨_, rfl, ?_⟩; replace BK271 := mxb_ (o' := .cells #[.string ((rd_T71 l0 x7_1).f0), .slice A270_1 ((rd_T71 l0 x7_1).f1).length c270_1, .int .i64 ((rd_T71 l0 x7_1).f2.f0.f0), .string ((rd_T71 l0 x7_1).f2.f0.f1), .slice A270_4 ((rd_T71 l0 x7_1).f2.f0.f2).length c270_4, .string ((rd_T71 l0 x7_1).f2.f0.f3), .int .i64 ((rd_T71 l0 x7_1).f2.f1), .int .i64 ((rd_T71 l0 x7_1).f2.f2)] 71 (0, 0)) BK271 hb; replace HB := xws_ HB hb; (try clear hb)))
     go_roundg k1
     case measure => have := HK1.out; omega
     case rel => exact ⟨(wrap64 (x7_1 + 1)), me_, H', ⟨by have := HK1.out; omega⟩, ⟨xw_ HB⟩⟩
    ·replace c6 := Bool.eq_false_iff.mpr c6
     subst c6
     rw [if_neg (show ¬ (false = true) by decide)] at H
     obtain rfl := Option.some.inj H
     have p270 : 0 ≤ (x7_1 : Int) := md_
     have q270 : x7_1 < (l0.length : Int) := md_
     obtain ⟨ad270, A270_1, c270_1, A270_4, c270_4, e270, hx270_0, hx270_1, hx270_2, hx270_3, hx270_4, hx270_5, hx270_6, hx270_7, hl270_1, hi270_1, hl270_4, hi270_4⟩ := at_T71 HR0.out x7_1 p270 q270
     cases e270
     (try replace hx270_0 := (HB.out.cell (World.block_lt_of_cell? w _ hx270_0)).trans hx270_0)
     (try replace hx270_1 := (HB.out.cell (World.block_lt_of_cell? w _ hx270_1)).trans hx270_1)
     (try replace hx270_2 := (HB.out.cell (World.block_lt_of_cell? w _ hx270_2)).trans hx270_2)
     (try replace hx270_3 := (HB.out.cell (World.block_lt_of_cell? w _ hx270_3)).trans hx270_3)
     (try replace hx270_4 := (HB.out.cell (World.block_lt_of_cell? w _ hx270_4)).trans hx270_4)
     (try replace hx270_5 := (HB.out.cell (World.block_lt_of_cell? w _ hx270_5)).trans hx270_5)
     (try replace hx270_6 := (HB.out.cell (World.block_lt_of_cell? w _ hx270_6)).trans hx270_6)
     (try replace hx270_7 := (HB.out.cell (World.block_lt_of_cell? w _ hx270_7)).trans hx270_7)
     have HR270_1 := Aside0.mk hi270_1
     have HC270_1 := Aside0.mk hl270_1
     clear hi270_1 hl270_1
     have HR270_4 := Aside0.mk hi270_4
     have HC270_4 := Aside0.mk hl270_4
     clear hi270_4 hl270_4
     replace p270 := eq_true p270
     replace q270 := eq_true q270
     go_wp2_with (first | ((with_reducible refine gd_ 4 ?_); refine xbe_ (N := 4) (cs := #[.string (⟨#[]⟩ : ByteArray), .slice none 0 0, .int .i64 0, .string (⟨#[]⟩ : ByteArray), .slice none 0 0, .string (⟨#[]⟩ : ByteArray), .int .i64 0, .int .i64 0]) (t := 71) ?_; intro gb271 hg w10 hbox hb; have BK271 := Aside0.mk (hbox); have GE271 := xge_ HB hg; replace HB := xws_ HB hb; clear hb hbox hg; have ⟨_, _, _, _, _, _, _, _, _, _, _, _, _, _, _, _⟩ := c8_ BK271) | ((with_reducible refine gc_ 54 ?_); refine xgl_ (some 12) Tryz.func54 #[.agg #[.string ((rd_T71 l0 x7_1).f0), .slice A270_1 ((rd_T71 l0 x7_1).f1).length c270_1, .int .i64 ((rd_T71 l0 x7_1).f2.f0.f0), .string ((rd_T71 l0 x7_1).f2.f0.f1), .slice A270_4 ((rd_T71 l0 x7_1).f2.f0.f2).length c270_4, .string ((rd_T71 l0 x7_1).f2.f0.f3), .int .i64 ((rd_T71 l0 x7_1).f2.f1), .int .i64 ((rd_T71 l0 x7_1).f2.f2)]] ?_; (with_reducible refine (spec_l9Item.calls k1 ((rd_T71 l0 x7_1).f0) _ _ ((rd_T71 l0 x7_1).f1) ((rd_T71 l0 x7_1).f2.f0.f0) ((rd_T71 l0 x7_1).f2.f0.f1) _ _ ((rd_T71 l0 x7_1).f2.f0.f2) ((rd_T71 l0 x7_1).f2.f0.f3) ((rd_T71 l0 x7_1).f2.f1) ((rd_T71 l0 x7_1).f2.f2) false _ ?side1 ?side2 ?side3 ?side4 A5.out).mono ?_); (case side1 => exact Kd.C_below HR270_1.out (xw_ HB)); (case side2 => exact HC270_1.out); (case side3 => exact Kd.C_below HR270_4.out (xw_ HB)); (case side4 => exact HC270_4.out); rintro e w12 ⟨rfl, hb⟩; refine ⟨_, rfl, ?_⟩; replace BK271 := mxb_ (o' := .cells #[.string ((rd_T71 l0 x7_1).f0), .slice A270_1 ((rd_T71 l0 x7_1).f1).length c270_1, .int .i64 ((rd_T71 l0 x7_1).f2.f0.f0), .string ((rd_T71 l0 x7_1).f2.f0.f1), .slice A270_4 ((rd_T71 l0 x7_1).f2.f0.f2).length c270_4, .string ((rd_T71 l0 x7_1).f2.f0.f3), .int .i64 ((rd_T71 l0 x7_1).f2.f1), .int .i64 ((rd_T71 l0 x7_1).f2.f2)] 71 (0, 0)) BK271 hb; replace HB := xws_ HB hb; (try clear hb)))
     go_ret
     exact ⟨mf_, xw_ HB⟩
   ·rw [if_neg c2] at H
    have c2b0 := decide_eq_false c2
    clear c2
    obtain rfl := Option.some.inj H
    go_wp2
    go_ret
    exact ⟨mf_, xw_ HB⟩

/-! ### spec_l9Same: function 101 -/
def spec_l9Same.l0 : Nat → List (S105) → List (S105) → List ByteArray → Int → Int → Option (Bool)
 | 0, _, _, _, _, _ => none
 | k + 1, x1, x2, x13, x14, x15 => if x15 < x14 then (if 0 ≤ x15 then (if x15 < (x13.length : Int) then ((spec_l3Joined.f k x1 (rdOf ByteArray.empty x13 x15)).bind fun bt274 => ((spec_l3Joined.f k x2 (rdOf ByteArray.empty x13 x15)).bind fun bt276 => (if (bt274.2 != bt276.2) = true then (some false) else (if bt274.1.toList = bt276.1.toList then (spec_l9Same.l0 k x1 x2 x13 x14 (wrap64 (x15 + 1))) else (some false))))) else (none)) else (none)) else (some true)
def spec_l9Same.f (k : Nat) (l0 : List ByteArray) (l1 : List (S105)) (l2 : List (S105)) : Option (Bool) := spec_l9Same.l0 k l1 l2 l0 (l0.length : Int) 0
set_option maxHeartbeats 8000000 in
set_option maxRecDepth 100000 in
theorem spec_l9Same.calls (k : Nat) (A0 : Option Addr) (c0 : Nat) (l0 : List ByteArray) (A1 : Option Addr) (c1 : Nat) (l1 : List (S105)) (A2 : Option Addr) (c2 : Nat) (l2 : List (S105)) (r : Bool) (w : World) (hr0 : Kd.C Kd.string w A0 l0.length l0) (hc0 : l0.length ≤ c0) (hr1 : Kd.C k105 w A1 l1.length l1) (hc1 : l1.length ≤ c1) (hr2 : Kd.C k105 w A2 l2.length l2) (hc2 : l2.length ≤ c2) (h : spec_l9Same.f k l0 l1 l2 = some r) :
  Calls Tryz.prog 101 #[.slice A0 l0.length c0, .slice A1 l1.length c1, .slice A2 l2.length c2] w fun e w' => e = .returned (.bool r) ∧ Below w.heap.size w w' := by
 have HR0 := Aside0.mk hr0
 have HC0 := Aside0.mk hc0
 clear hr0 hc0
 have HR1 := Aside0.mk hr1
 have HC1 := Aside0.mk hc1
 clear hr1 hc1
 have HR2 := Aside0.mk hr2
 have HC2 := Aside0.mk hc2
 clear hr2 hc2
 have HB := Aside0.mk (Below.refl w.heap.size w)
 have H := h
 unfold spec_l9Same.f at H
 clear h
 have H' := Aside0.mk H
 clear H
 go_enter Tryz.func101, Tryz.ntmps101
 go_wp2
 go_loopg [15] k (fun kq v15 w' => ∃ (x15_1 : Int), v15 = .int .i64 x15_1 ∧ Aside0 (spec_l9Same.l0 kq l1 l2 l0 (l0.length : Int) x15_1 = some r) ∧ Aside0 (kq ≤ k) ∧ Aside0 (Below w.heap.size w w'))
 case atStart => exact ⟨(0), me_, H', ⟨Nat.le_refl _⟩, ⟨xw_ HB⟩⟩
 case round =>
  clear H'
  obtain ⟨x15_1, rfl, HA, HK1, HB⟩ := hrel
  cases gk with
  | zero => exact absurd HA.out (by simp [spec_l9Same.l0])
  | succ k1 =>
   have H := HA.out
   clear HA
   simp only [spec_l9Same.l0] at H
   by_cases c4 : x15_1 < (l0.length : Int)
   ·rw [if_pos c4] at H
    have c4b0 := decide_eq_true c4
    clear c4
    replace H := mi_ H
    obtain ⟨c5, H⟩ := H
    have c5b0 := decide_eq_true c5
    clear c5
    replace H := mi_ H
    obtain ⟨c6, H⟩ := H
    have c6b0 := decide_eq_true c6
    clear c6
    replace H := mb_ H
    obtain ⟨⟨t274, t275⟩, A7, H⟩ := H
    dsimp only at H
    replace H := mb_ H
    obtain ⟨⟨t276, t277⟩, A8, H⟩ := H
    dsimp only at H
    by_cases c9 : (t275 != t277) = true
    ·rw [if_pos c9] at H
     have c9b0 : (t275 != t277) = true := c9
     (try (have c9b1 : decide (t275 = t277) = false := by simpa using c9))
     (try (have c9b2 : (t275 == t277) = false := by simpa using c9))
     (try (have c9b3 : ¬ (t275 = t277) := by simpa using c9))
     clear c9
     obtain rfl := Option.some.inj H
     have p273 : 0 ≤ (x15_1 : Int) := md_
     have q273 : x15_1 < (l0.length : Int) := md_
     obtain ⟨ad273, e273, hx273_0⟩ := Kd.at_string HR0.out x15_1 p273 q273
     cases e273
     (try replace hx273_0 := (HB.out.cell (World.block_lt_of_cell? w _ hx273_0)).trans hx273_0)
     replace p273 := eq_true p273
     replace q273 := eq_true q273
     go_wp2_with (first | ((with_reducible refine gc_ 87 ?_); refine xgl_ (some 22) Tryz.func87 #[.slice A1 l1.length c1, .string (rdOf ByteArray.empty l0 x15_1)] ?_; (with_reducible refine (spec_l3Joined.calls k1 _ _ l1 (rdOf ByteArray.empty l0 x15_1) t274 t275 _ ?side1 ?side2 A7.out).mono ?_); (case side1 => exact xc_ ((Kd.C_below HR1.out HB.out))); (case side2 => exact HC1.out); rintro e w10 ⟨rfl, hb⟩; refine ⟨_, rfl, ?_⟩; replace HB := xws_ HB hb; (try clear hb)) | ((with_reducible refine gc_ 87 ?_); refine xgl_ (some 28) Tryz.func87 #[.slice A2 l2.length c2, .string (rdOf ByteArray.empty l0 x15_1)] ?_; (with_reducible refine (spec_l3Joined.calls k1 _ _ l2 (rdOf ByteArray.empty l0 x15_1) t276 t277 _ ?side1 ?side2 A8.out).mono ?_); (case side1 => exact xc_ ((Kd.C_below HR2.out HB.out))); (case side2 => exact HC2.out); rintro e w11 ⟨rfl, hb⟩; refine ⟨_, rfl, ?_⟩; replace HB := xws_ HB hb; (try clear hb)))
     go_ret
     exact ⟨mf_, xw_ HB⟩
    ·rw [if_neg c9] at H
     have c9b0 : (t275 != t277) = false := by simpa using c9
     (try (have c9b1 : decide (t275 = t277) = true := by simpa using c9))
     (try (have c9b2 : (t275 == t277) = true := by simpa using c9))
     clear c9
     by_cases c12 : t274.toList = t276.toList
     ·rw [if_pos c12] at H
      have c12b0 : (t274.toList == t276.toList) = true := beq_iff_eq.mpr c12
      have c12b1 : (t274.toList != t276.toList) = false := bne_eq_false_iff_eq.mpr c12
      clear c12
      have H' := Aside0.mk H
      clear H
      have p273 : 0 ≤ (x15_1 : Int) := md_
      have q273 : x15_1 < (l0.length : Int) := md_
      obtain ⟨ad273, e273, hx273_0⟩ := Kd.at_string HR0.out x15_1 p273 q273
      cases e273
      (try replace hx273_0 := (HB.out.cell (World.block_lt_of_cell? w _ hx273_0)).trans hx273_0)
      replace p273 := eq_true p273
      replace q273 := eq_true q273
      go_wp2_with (first | ((with_reducible refine gc_ 87 ?_); refine xgl_ (some 22) Tryz.func87 #[.slice A1 l1.length c1, .string (rdOf ByteArray.empty l0 x15_1)] ?_; (with_reducible refine (spec_l3Joined.calls k1 _ _ l1 (rdOf ByteArray.empty l0 x15_1) t274 t275 _ ?side1 ?side2 A7.out).mono ?_); (case side1 => exact xc_ ((Kd.C_below HR1.out HB.out))); (case side2 => exact HC1.out); rintro e w13 ⟨rfl, hb⟩; refine ⟨_, rfl, ?_⟩; replace HB := xws_ HB hb; (try clear hb)) | ((with_reducible refine gc_ 87 ?_); refine xgl_ (some 28) Tryz.func87 #[.slice A2 l2.length c2, .string (rdOf ByteArray.empty l0 x15_1)] ?_; (with_reducible refine (spec_l3Joined.calls k1 _ _ l2 (rdOf ByteArray.empty l0 x15_1) t276 t277 _ ?side1 ?side2 A8.out).mono ?_); (case side1 => exact xc_ ((Kd.C_below HR2.out HB.out))); (case side2 => exact HC2.out); rintro e w14 ⟨rfl, hb⟩; refine ⟨_, rfl, ?_⟩; replace HB := xws_ HB hb; (try clear hb)))
      go_roundg k1
      case measure => have := HK1.out; omega
      case rel => exact ⟨(wrap64 (x15_1 + 1)), me_, H', ⟨by have := HK1.out; omega⟩, ⟨xw_ HB⟩⟩
     ·rw [if_neg c12] at H
      have c12b0 : (t274.toList == t276.toList) = false := beq_eq_false_iff_ne.mpr c12
      have c12b1 : (t274.toList != t276.toList) = true := bne_iff_ne.mpr c12
      obtain rfl := Option.some.inj H
      have p273 : 0 ≤ (x15_1 : Int) := md_
      have q273 : x15_1 < (l0.length : Int) := md_
      obtain ⟨ad273, e273, hx273_0⟩ := Kd.at_string HR0.out x15_1 p273 q273
      cases e273
      (try replace hx273_0 := (HB.out.cell (World.block_lt_of_cell? w _ hx273_0)).trans hx273_0)
      replace p273 := eq_true p273
      replace q273 := eq_true q273
      go_wp2_with (first | ((with_reducible refine gc_ 87 ?_); refine xgl_ (some 22) Tryz.func87 #[.slice A1 l1.length c1, .string (rdOf ByteArray.empty l0 x15_1)] ?_; (with_reducible refine (spec_l3Joined.calls k1 _ _ l1 (rdOf ByteArray.empty l0 x15_1) t274 t275 _ ?side1 ?side2 A7.out).mono ?_); (case side1 => exact xc_ ((Kd.C_below HR1.out HB.out))); (case side2 => exact HC1.out); rintro e w15 ⟨rfl, hb⟩; refine ⟨_, rfl, ?_⟩; replace HB := xws_ HB hb; (try clear hb)) | ((with_reducible refine gc_ 87 ?_); refine xgl_ (some 28) Tryz.func87 #[.slice A2 l2.length c2, .string (rdOf ByteArray.empty l0 x15_1)] ?_; (with_reducible refine (spec_l3Joined.calls k1 _ _ l2 (rdOf ByteArray.empty l0 x15_1) t276 t277 _ ?side1 ?side2 A8.out).mono ?_); (case side1 => exact xc_ ((Kd.C_below HR2.out HB.out))); (case side2 => exact HC2.out); rintro e w16 ⟨rfl, hb⟩; refine ⟨_, rfl, ?_⟩; replace HB := xws_ HB hb; (try clear hb)))
      go_ret
      exact ⟨mf_, xw_ HB⟩
   ·rw [if_neg c4] at H
    have c4b0 := decide_eq_false c4
    clear c4
    obtain rfl := Option.some.inj H
    go_wp2
    go_ret
    exact ⟨mf_, xw_ HB⟩

/-! ### spec_l9Matches: function 55 -/
def spec_l9Matches.f (k : Nat) (a0_0 : ByteArray) (l0_1 : List (S105)) (a0_2 : Int) (a0_3 : ByteArray) (l0_4 : List (S105)) (a0_5 : ByteArray) (a0_6 : Int) (a0_7 : Int) (l1 : List (S105)) : Option (Bool) := (spec_l9Vary.f k a0_2 a0_3 l0_4 a0_5).bind fun bt279 => ((spec_l9Same.f k bt279.1 l0_1 l1).bind fun t284 => (some t284))
set_option maxHeartbeats 8000000 in
set_option maxRecDepth 100000 in
theorem spec_l9Matches.calls (k : Nat) (a0_0 : ByteArray) (A0_1 : Option Addr) (c0_1 : Nat) (l0_1 : List (S105)) (a0_2 : Int) (a0_3 : ByteArray) (A0_4 : Option Addr) (c0_4 : Nat) (l0_4 : List (S105)) (a0_5 : ByteArray) (a0_6 : Int) (a0_7 : Int) (A1 : Option Addr) (c1 : Nat) (l1 : List (S105)) (r : Bool) (w : World) (hr0_1 : Kd.C k105 w A0_1 l0_1.length l0_1) (hc0_1 : l0_1.length ≤ c0_1) (hr0_4 : Kd.C k105 w A0_4 l0_4.length l0_4) (hc0_4 : l0_4.length ≤ c0_4) (hr1 : Kd.C k105 w A1 l1.length l1) (hc1 : l1.length ≤ c1) (h : spec_l9Matches.f k a0_0 l0_1 a0_2 a0_3 l0_4 a0_5 a0_6 a0_7 l1 = some r) :
  Calls Tryz.prog 55 #[.agg #[.string a0_0, .slice A0_1 l0_1.length c0_1, .int .i64 a0_2, .string a0_3, .slice A0_4 l0_4.length c0_4, .string a0_5, .int .i64 a0_6, .int .i64 a0_7], .slice A1 l1.length c1] w fun e w' => e = .returned (.bool r) ∧ Below w.heap.size w w' := by
 have hu71 := Tryz.underlying71
 have hu54 := Tryz.underlying54
 have HR0_1 := Aside0.mk hr0_1
 have HC0_1 := Aside0.mk hc0_1
 clear hr0_1 hc0_1
 have HR0_4 := Aside0.mk hr0_4
 have HC0_4 := Aside0.mk hc0_4
 clear hr0_4 hc0_4
 have HR1 := Aside0.mk hr1
 have HC1 := Aside0.mk hc1
 clear hr1 hc1
 have HB := Aside0.mk (Below.refl w.heap.size w)
 have H := h
 unfold spec_l9Matches.f at H
 clear h
 replace H := mb_ H
 obtain ⟨⟨t279, t282, t283⟩, A3, H⟩ := H
 dsimp only at H
 replace H := mb_ H
 obtain ⟨t284, A4, H⟩ := H
 obtain rfl := Option.some.inj H
 go_enter Tryz.func55, Tryz.ntmps55
 go_wp2_with (first | ((with_reducible refine gd_ 2 ?_); refine xbe_ (N := 2) (cs := #[.string a0_0, .slice A0_1 l0_1.length c0_1, .int .i64 a0_2, .string a0_3, .slice A0_4 l0_4.length c0_4, .string a0_5, .int .i64 a0_6, .int .i64 a0_7]) (t := 71) ?_; intro gb278 hg w5 hbox hb; have BK278 := Aside0.mk (hbox); have GE278 := xge_ HB hg; replace HB := xws_ HB hb; clear hb hbox hg; have ⟨_, _, _, _, _, _, _, _, _, _, _, _, _, _, _, _⟩ := c8_ BK278) | ((with_reducible refine gc_ 48 ?_); refine xgl_ (some 12) Tryz.func48 #[.agg #[.int .i64 a0_2, .string a0_3, .slice A0_4 l0_4.length c0_4, .string a0_5]] ?_; (with_reducible refine (spec_l9Vary.calls k a0_2 a0_3 _ _ l0_4 a0_5 t279 t282 t283 _ ?side1 ?side2 A3.out).mono ?_); (case side1 => exact xc_ ((Kd.C_below HR0_4.out HB.out))); (case side2 => exact HC0_4.out); rintro e w7 ⟨v280, rfl, ho0, hb⟩; refine ⟨_, rfl, ?_⟩; have HO281 := Aside0.mk (Kd.R_lower ho0 (below_size (xw_ HB))); replace BK278 := xbb_ BK278 hb; replace HB := xws_ HB hb; (try clear hb); (try clear ho0); have ⟨_, _, _, _, _, _, _, _, _, _, _, _, _, _, _, _⟩ := c8_ BK278; obtain ⟨Ao9, co9, eo9⟩ := Kd.R_slice HO281.out; subst eo9) | ((with_reducible refine gc_ 101 ?_); refine xgl_ (some 20) Tryz.func101 #[.slice Ao9 t279.length co9, .slice A0_1 l0_1.length c0_1, .slice A1 l1.length c1] ?_; (with_reducible refine (spec_l9Same.calls k _ _ t279 _ _ l0_1 _ _ l1 t284 _ ?side1 ?side2 ?side3 ?side4 ?side5 ?side6 A4.out).mono ?_); (case side1 => exact xc_ ((Kd.R_reads' HO281.out).2.2)); (case side2 => exact (Kd.R_reads' HO281.out).2.1); (case side3 => exact xc_ ((Kd.C_below HR0_1.out HB.out))); (case side4 => exact HC0_1.out); (case side5 => exact xc_ ((Kd.C_below HR1.out HB.out))); (case side6 => exact HC1.out); rintro e w10 ⟨rfl, hb⟩; refine ⟨_, rfl, ?_⟩; replace HO281 := xrb_ HO281 hb; replace BK278 := xbb_ BK278 hb; replace HB := xws_ HB hb; (try clear hb)))
 go_ret
 exact ⟨mf_, xw_ HB⟩

end Go.Proofs.YtpggepjfhgalkaaGreatDoor.PFnExactPickItem
