-- Written by a program of this project (xprint.py) out of the translation; Lean checks it.
import Derived.Test.YtpggepjfhgalkaaGreatDoorPFnExactMatchesx0
import Derived.Test.YtpggepjfhgalkaaGreatDoorPFnExactMatchesx1
import Derived.Test.YtpggepjfhgalkaaGreatDoorPFnExactMatchesx3
import Derived.Test.YtpggepjfhgalkaaGreatDoorPFnExactMatchesx6
import Derived.Test.YtpggepjfhgalkaaGreatDoorPFnExactMatchesx7
import Derived.Test.YtpggepjfhgalkaaGreatDoorPFnExactMatchesx9
namespace Go.Proofs.YtpggepjfhgalkaaGreatDoor.PFnExactMatches
open Go.RowKit Go.Proofs.YtpggepjfhgalkaaGreatDoorW.PrintWords Go.Proofs.YtpggepjfhgalkaaGreatDoorW.PrintLast Go.Proofs.YtpggepjfhgalkaaGreatDoorW.PrintMore
attribute [local go_sem] max2_int min2_int max_two min_two max_three min_three max_four min_four   -- for this text's walks alone
set_option linter.unusedVariables false
set_option linter.unusedSimpArgs false

/-! ### spec_GoodKept: function 100 -/
def spec_GoodKept.f (k : Nat) (a0_0 : Int) (a0_1 : ByteArray) (l0_2 : List (S105)) (a0_3 : ByteArray) (a0_4 : Int) (a0_5 : Int) : Option (Bool) := (spec_GoodResponse.f k a0_0 a0_1 l0_2 a0_3).bind fun t259 => (if t259 = true then (if a0_4 ≥ 0 then (if a0_4 ≤ a0_5 then (some (decide (a0_5 ≤ 253402300799))) else (some false)) else (some false)) else (some false))
set_option maxHeartbeats 8000000 in
set_option maxRecDepth 100000 in
theorem spec_GoodKept.calls (k : Nat) (a0_0 : Int) (a0_1 : ByteArray) (A0_2 : Option Addr) (c0_2 : Nat) (l0_2 : List (S105)) (a0_3 : ByteArray) (a0_4 : Int) (a0_5 : Int) (r : Bool) (w : World) (hr0_2 : Kd.C k105 w A0_2 l0_2.length l0_2) (hc0_2 : l0_2.length ≤ c0_2) (h : spec_GoodKept.f k a0_0 a0_1 l0_2 a0_3 a0_4 a0_5 = some r) :
  Calls Tryz.prog 100 #[.agg #[.int .i64 a0_0, .string a0_1, .slice A0_2 l0_2.length c0_2, .string a0_3, .int .i64 a0_4, .int .i64 a0_5]] w fun e w' => e = .returned (.bool r) ∧ Below w.heap.size w w' := by
 have hu69 := Tryz.underlying69
 have hu54 := Tryz.underlying54
 have HR0_2 := Aside0.mk hr0_2
 have HC0_2 := Aside0.mk hc0_2
 clear hr0_2 hc0_2
 have HB := Aside0.mk (Below.refl w.heap.size w)
 have H := h
 unfold spec_GoodKept.f at H
 clear h
 replace H := mb_ H
 obtain ⟨t259, A2, H⟩ := H
 by_cases c3 : t259 = true
 ·subst c3
  rw [if_pos rfl] at H
  by_cases c4 : a0_4 ≥ 0
  ·rw [if_pos c4] at H
   have c4b0 : decide (0 ≤ a0_4) = true := decide_eq_true c4
   clear c4
   by_cases c5 : a0_4 ≤ a0_5
   ·rw [if_pos c5] at H
    have c5b0 := decide_eq_true c5
    clear c5
    obtain rfl := Option.some.inj H
    go_enter Tryz.func100, Tryz.ntmps100
    go_wp2_with (first | ((with_reducible refine gd_ 1 ?_); refine xbe_ (N := 1) (cs := #[.int .i64 a0_0, .string a0_1, .slice A0_2 l0_2.length c0_2, .string a0_3, .int .i64 a0_4, .int .i64 a0_5]) (t := 69) ?_; intro gb258 hg w6 hbox hb; have BK258 := Aside0.mk (hbox); have GE258 := xge_ HB hg; replace HB := xws_ HB hb; clear hb hbox hg; have ⟨_, _, _, _, _, _, _, _, _, _, _, _⟩ := c6_ BK258) | ((with_reducible refine gc_ 47 ?_); refine xgl_ (some 5) Tryz.func47 #[.agg #[.int .i64 a0_0, .string a0_1, .slice A0_2 l0_2.length c0_2, .string a0_3]] ?_; (with_reducible refine (spec_GoodResponse.calls k a0_0 a0_1 _ _ l0_2 a0_3 true _ ?side1 ?side2 A2.out).mono ?_); (case side1 => exact xc_ ((Kd.C_below HR0_2.out HB.out))); (case side2 => exact HC0_2.out); rintro e w8 ⟨rfl, hb⟩; refine ⟨_, rfl, ?_⟩; replace BK258 := xbb_ BK258 hb; replace HB := xws_ HB hb; (try clear hb); have ⟨_, _, _, _, _, _, _, _, _, _, _, _⟩ := c6_ BK258))
    go_ret
    exact ⟨mf_, xw_ HB⟩
   ·rw [if_neg c5] at H
    have c5b0 := decide_eq_false c5
    clear c5
    obtain rfl := Option.some.inj H
    go_enter Tryz.func100, Tryz.ntmps100
    go_wp2_with (first | ((with_reducible refine gd_ 1 ?_); refine xbe_ (N := 1) (cs := #[.int .i64 a0_0, .string a0_1, .slice A0_2 l0_2.length c0_2, .string a0_3, .int .i64 a0_4, .int .i64 a0_5]) (t := 69) ?_; intro gb258 hg w10 hbox hb; have BK258 := Aside0.mk (hbox); have GE258 := xge_ HB hg; replace HB := xws_ HB hb; clear hb hbox hg; have ⟨_, _, _, _, _, _, _, _, _, _, _, _⟩ := c6_ BK258) | ((with_reducible refine gc_ 47 ?_); refine xgl_ (some 5) Tryz.func47 #[.agg #[.int .i64 a0_0, .string a0_1, .slice A0_2 l0_2.length c0_2, .string a0_3]] ?_; (with_reducible refine (spec_GoodResponse.calls k a0_0 a0_1 _ _ l0_2 a0_3 true _ ?side1 ?side2 A2.out).mono ?_); (case side1 => exact xc_ ((Kd.C_below HR0_2.out HB.out))); (case side2 => exact HC0_2.out); rintro e w12 ⟨rfl, hb⟩; refine ⟨_, rfl, ?_⟩; replace BK258 := xbb_ BK258 hb; replace HB := xws_ HB hb; (try clear hb); have ⟨_, _, _, _, _, _, _, _, _, _, _, _⟩ := c6_ BK258))
    go_ret
    exact ⟨mf_, xw_ HB⟩
  ·rw [if_neg c4] at H
   have c4b0 : decide (0 ≤ a0_4) = false := decide_eq_false c4
   clear c4
   obtain rfl := Option.some.inj H
   go_enter Tryz.func100, Tryz.ntmps100
   go_wp2_with (first | ((with_reducible refine gd_ 1 ?_); refine xbe_ (N := 1) (cs := #[.int .i64 a0_0, .string a0_1, .slice A0_2 l0_2.length c0_2, .string a0_3, .int .i64 a0_4, .int .i64 a0_5]) (t := 69) ?_; intro gb258 hg w14 hbox hb; have BK258 := Aside0.mk (hbox); have GE258 := xge_ HB hg; replace HB := xws_ HB hb; clear hb hbox hg; have ⟨_, _, _, _, _, _, _, _, _, _, _, _⟩ := c6_ BK258) | ((with_reducible refine gc_ 47 ?_); refine xgl_ (some 5) Tryz.func47 #[.agg #[.int .i64 a0_0, .string a0_1, .slice A0_2 l0_2.length c0_2, .string a0_3]] ?_; (with_reducible refine (spec_GoodResponse.calls k a0_0 a0_1 _ _ l0_2 a0_3 true _ ?side1 ?side2 A2.out).mono ?_); (case side1 => exact xc_ ((Kd.C_below HR0_2.out HB.out))); (case side2 => exact HC0_2.out); rintro e w16 ⟨rfl, hb⟩; refine ⟨_, rfl, ?_⟩; replace BK258 := xbb_ BK258 hb; replace HB := xws_ HB hb; (try clear hb); have ⟨_, _, _, _, _, _, _, _, _, _, _, _⟩ := c6_ BK258))
   go_ret
   exact ⟨mf_, xw_ HB⟩
 ·replace c3 := Bool.eq_false_iff.mpr c3
  subst c3
  rw [if_neg (show ¬ (false = true) by decide)] at H
  obtain rfl := Option.some.inj H
  go_enter Tryz.func100, Tryz.ntmps100
  go_wp2_with (first | ((with_reducible refine gd_ 1 ?_); refine xbe_ (N := 1) (cs := #[.int .i64 a0_0, .string a0_1, .slice A0_2 l0_2.length c0_2, .string a0_3, .int .i64 a0_4, .int .i64 a0_5]) (t := 69) ?_; intro gb258 hg w18 hbox hb; have BK258 := Aside0.mk (hbox); have GE258 := xge_ HB hg; replace HB := xws_ HB hb; clear hb hbox hg; have ⟨_, _, _, _, _, _, _, _, _, _, _, _⟩ := c6_ BK258) | ((with_reducible refine gc_ 47 ?_); refine xgl_ (some 5) Tryz.func47 #[.agg #[.int .i64 a0_0, .string a0_1, .slice A0_2 l0_2.length c0_2, .string a0_3]] ?_; (with_reducible refine (spec_GoodResponse.calls k a0_0 a0_1 _ _ l0_2 a0_3 false _ ?side1 ?side2 A2.out).mono ?_); (case side1 => exact xc_ ((Kd.C_below HR0_2.out HB.out))); (case side2 => exact HC0_2.out); rintro e w20 ⟨rfl, hb⟩; refine ⟨_, rfl, ?_⟩; replace BK258 := xbb_ BK258 hb; replace HB := xws_ HB hb; (try clear hb)))
  go_ret
  exact ⟨mf_, xw_ HB⟩

/-! ### spec_l9Item: function 54 -/
def spec_l9Item.f (k : Nat) (a0_0 : ByteArray) (l0_1 : List (S105)) (a0_2 : Int) (a0_3 : ByteArray) (l0_4 : List (S105)) (a0_5 : ByteArray) (a0_6 : Int) (a0_7 : Int) : Option (Bool) := (spec_l9Vary.f k a0_2 a0_3 l0_4 a0_5).bind fun bt261 => (if (a0_0.size : Int) ≤ 200 then ((spec_l3Fields.f k l0_1).bind fun t266 => (if t266 = true then ((spec_GoodKept.f k a0_2 a0_3 l0_4 a0_5 a0_6 a0_7).bind fun t267 => (if t267 = true then (if bt261.2.2 = true then (some (!bt261.2.1)) else (some false)) else (some false))) else (some false))) else (some false))
set_option maxHeartbeats 8000000 in
set_option maxRecDepth 100000 in
theorem spec_l9Item.calls (k : Nat) (a0_0 : ByteArray) (A0_1 : Option Addr) (c0_1 : Nat) (l0_1 : List (S105)) (a0_2 : Int) (a0_3 : ByteArray) (A0_4 : Option Addr) (c0_4 : Nat) (l0_4 : List (S105)) (a0_5 : ByteArray) (a0_6 : Int) (a0_7 : Int) (r : Bool) (w : World) (hr0_1 : Kd.C k105 w A0_1 l0_1.length l0_1) (hc0_1 : l0_1.length ≤ c0_1) (hr0_4 : Kd.C k105 w A0_4 l0_4.length l0_4) (hc0_4 : l0_4.length ≤ c0_4) (h : spec_l9Item.f k a0_0 l0_1 a0_2 a0_3 l0_4 a0_5 a0_6 a0_7 = some r) :
  Calls Tryz.prog 54 #[.agg #[.string a0_0, .slice A0_1 l0_1.length c0_1, .int .i64 a0_2, .string a0_3, .slice A0_4 l0_4.length c0_4, .string a0_5, .int .i64 a0_6, .int .i64 a0_7]] w fun e w' => e = .returned (.bool r) ∧ Below w.heap.size w w' := by
 have hu71 := Tryz.underlying71
 have hu54 := Tryz.underlying54
 have hu69 := Tryz.underlying69
 have HR0_1 := Aside0.mk hr0_1
 have HC0_1 := Aside0.mk hc0_1
 clear hr0_1 hc0_1
 have HR0_4 := Aside0.mk hr0_4
 have HC0_4 := Aside0.mk hc0_4
 clear hr0_4 hc0_4
 have HB := Aside0.mk (Below.refl w.heap.size w)
 have H := h
 unfold spec_l9Item.f at H
 clear h
 replace H := mb_ H
 obtain ⟨⟨t261, t264, t265⟩, A2, H⟩ := H
 dsimp only at H
 by_cases c3 : (a0_0.size : Int) ≤ 200
 ·rw [if_pos c3] at H
  have c3b0 := decide_eq_true c3
  have c3b1 : decide (a0_0.size ≤ 200) = true := decide_eq_true (by omega)
  clear c3
  replace H := mb_ H
  obtain ⟨t266, A4, H⟩ := H
  by_cases c5 : t266 = true
  ·subst c5
   rw [if_pos rfl] at H
   replace H := mb_ H
   obtain ⟨t267, A6, H⟩ := H
   by_cases c7 : t267 = true
   ·subst c7
    rw [if_pos rfl] at H
    by_cases c8 : t265 = true
    ·subst c8
     rw [if_pos rfl] at H
     obtain rfl := Option.some.inj H
     go_enter Tryz.func54, Tryz.ntmps54
     go_wp2_with (first | ((with_reducible refine gd_ 1 ?_); refine xbe_ (N := 1) (cs := #[.string a0_0, .slice A0_1 l0_1.length c0_1, .int .i64 a0_2, .string a0_3, .slice A0_4 l0_4.length c0_4, .string a0_5, .int .i64 a0_6, .int .i64 a0_7]) (t := 71) ?_; intro gb260 hg w9 hbox hb; have BK260 := Aside0.mk (hbox); have GE260 := xge_ HB hg; replace HB := xws_ HB hb; clear hb hbox hg; have ⟨_, _, _, _, _, _, _, _, _, _, _, _, _, _, _, _⟩ := c8_ BK260) | ((with_reducible refine gc_ 48 ?_); refine xgl_ (some 10) Tryz.func48 #[.agg #[.int .i64 a0_2, .string a0_3, .slice A0_4 l0_4.length c0_4, .string a0_5]] ?_; (with_reducible refine (spec_l9Vary.calls k a0_2 a0_3 _ _ l0_4 a0_5 t261 t264 true _ ?side1 ?side2 A2.out).mono ?_); (case side1 => exact xc_ ((Kd.C_below HR0_4.out HB.out))); (case side2 => exact HC0_4.out); rintro e w11 ⟨v262, rfl, ho0, hb⟩; refine ⟨_, rfl, ?_⟩; have HO263 := Aside0.mk (Kd.R_lower ho0 (below_size (xw_ HB))); replace BK260 := xbb_ BK260 hb; replace HB := xws_ HB hb; (try clear hb); (try clear ho0); have ⟨_, _, _, _, _, _, _, _, _, _, _, _, _, _, _, _⟩ := c8_ BK260) | (go_at_call 67; (with_reducible refine (spec_l3Fields.calls k _ _ l0_1 true _ ?side1 ?side2 A4.out).mono ?_); (case side1 => exact xc_ ((Kd.C_below HR0_1.out HB.out))); (case side2 => exact HC0_1.out); rintro e w13 ⟨rfl, hb⟩; replace HO263 := xrb_ HO263 hb; replace BK260 := xbb_ BK260 hb; replace HB := xws_ HB hb; (try clear hb); have ⟨_, _, _, _, _, _, _, _, _, _, _, _, _, _, _, _⟩ := c8_ BK260) | (go_at_call 100; (with_reducible refine (spec_GoodKept.calls k a0_2 a0_3 _ _ l0_4 a0_5 a0_6 a0_7 true _ ?side1 ?side2 A6.out).mono ?_); (case side1 => exact xc_ ((Kd.C_below HR0_4.out HB.out))); (case side2 => exact HC0_4.out); rintro e w15 ⟨rfl, hb⟩; replace HO263 := xrb_ HO263 hb; replace BK260 := xbb_ BK260 hb; replace HB := xws_ HB hb; (try clear hb)))
     go_ret
     exact ⟨mf_, xw_ HB⟩
    ·replace c8 := Bool.eq_false_iff.mpr c8
     subst c8
     rw [if_neg (show ¬ (false = true) by decide)] at H
     obtain rfl := Option.some.inj H
     go_enter Tryz.func54, Tryz.ntmps54
     go_wp2_with (first | ((with_reducible refine gd_ 1 ?_); refine xbe_ (N := 1) (cs := #[.string a0_0, .slice A0_1 l0_1.length c0_1, .int .i64 a0_2, .string a0_3, .slice A0_4 l0_4.length c0_4, .string a0_5, .int .i64 a0_6, .int .i64 a0_7]) (t := 71) ?_; intro gb260 hg w16 hbox hb; have BK260 := Aside0.mk (hbox); have GE260 := xge_ HB hg; replace HB := xws_ HB hb; clear hb hbox hg; have ⟨_, _, _, _, _, _, _, _, _, _, _, _, _, _, _, _⟩ := c8_ BK260) | ((with_reducible refine gc_ 48 ?_); refine xgl_ (some 10) Tryz.func48 #[.agg #[.int .i64 a0_2, .string a0_3, .slice A0_4 l0_4.length c0_4, .string a0_5]] ?_; (with_reducible refine (spec_l9Vary.calls k a0_2 a0_3 _ _ l0_4 a0_5 t261 t264 false _ ?side1 ?side2 A2.out).mono ?_); (case side1 => exact xc_ ((Kd.C_below HR0_4.out HB.out))); (case side2 => exact HC0_4.out); rintro e w18 ⟨v262, rfl, ho0, hb⟩; refine ⟨_, rfl, ?_⟩; have HO263 := Aside0.mk (Kd.R_lower ho0 (below_size (xw_ HB))); replace BK260 := xbb_ BK260 hb; replace HB := xws_ HB hb; (try clear hb); (try clear ho0); have ⟨_, _, _, _, _, _, _, _, _, _, _, _, _, _, _, _⟩ := c8_ BK260) | (go_at_call 67; (with_reducible refine (spec_l3Fields.calls k _ _ l0_1 true _ ?side1 ?side2 A4.out).mono ?_); (case side1 => exact xc_ ((Kd.C_below HR0_1.out HB.out))); (case side2 => exact HC0_1.out); rintro e w20 ⟨rfl, hb⟩; replace HO263 := xrb_ HO263 hb; replace BK260 := xbb_ BK260 hb; replace HB := xws_ HB hb; (try clear hb); have ⟨_, _, _, _, _, _, _, _, _, _, _, _, _, _, _, _⟩ := c8_ BK260) | (go_at_call 100; (with_reducible refine (spec_GoodKept.calls k a0_2 a0_3 _ _ l0_4 a0_5 a0_6 a0_7 true _ ?side1 ?side2 A6.out).mono ?_); (case side1 => exact xc_ ((Kd.C_below HR0_4.out HB.out))); (case side2 => exact HC0_4.out); rintro e w22 ⟨rfl, hb⟩; replace HO263 := xrb_ HO263 hb; replace BK260 := xbb_ BK260 hb; replace HB := xws_ HB hb; (try clear hb)))
     go_ret
     exact ⟨mf_, xw_ HB⟩
   ·replace c7 := Bool.eq_false_iff.mpr c7
    subst c7
    rw [if_neg (show ¬ (false = true) by decide)] at H
    obtain rfl := Option.some.inj H
    go_enter Tryz.func54, Tryz.ntmps54
    go_wp2_with (first | ((with_reducible refine gd_ 1 ?_); refine xbe_ (N := 1) (cs := #[.string a0_0, .slice A0_1 l0_1.length c0_1, .int .i64 a0_2, .string a0_3, .slice A0_4 l0_4.length c0_4, .string a0_5, .int .i64 a0_6, .int .i64 a0_7]) (t := 71) ?_; intro gb260 hg w23 hbox hb; have BK260 := Aside0.mk (hbox); have GE260 := xge_ HB hg; replace HB := xws_ HB hb; clear hb hbox hg; have ⟨_, _, _, _, _, _, _, _, _, _, _, _, _, _, _, _⟩ := c8_ BK260) | ((with_reducible refine gc_ 48 ?_); refine xgl_ (some 10) Tryz.func48 #[.agg #[.int .i64 a0_2, .string a0_3, .slice A0_4 l0_4.length c0_4, .string a0_5]] ?_; (with_reducible refine (spec_l9Vary.calls k a0_2 a0_3 _ _ l0_4 a0_5 t261 t264 t265 _ ?side1 ?side2 A2.out).mono ?_); (case side1 => exact xc_ ((Kd.C_below HR0_4.out HB.out))); (case side2 => exact HC0_4.out); rintro e w25 ⟨v262, rfl, ho0, hb⟩; refine ⟨_, rfl, ?_⟩; have HO263 := Aside0.mk (Kd.R_lower ho0 (below_size (xw_ HB))); replace BK260 := xbb_ BK260 hb; replace HB := xws_ HB hb; (try clear hb); (try clear ho0); have ⟨_, _, _, _, _, _, _, _, _, _, _, _, _, _, _, _⟩ := c8_ BK260) | (go_at_call 67; (with_reducible refine (spec_l3Fields.calls k _ _ l0_1 true _ ?side1 ?side2 A4.out).mono ?_); (case side1 => exact xc_ ((Kd.C_below HR0_1.out HB.out))); (case side2 => exact HC0_1.out); rintro e w27 ⟨rfl, hb⟩; replace HO263 := xrb_ HO263 hb; replace BK260 := xbb_ BK260 hb; replace HB := xws_ HB hb; (try clear hb); have ⟨_, _, _, _, _, _, _, _, _, _, _, _, _, _, _, _⟩ := c8_ BK260) | (go_at_call 100; (with_reducible refine (spec_GoodKept.calls k a0_2 a0_3 _ _ l0_4 a0_5 a0_6 a0_7 false _ ?side1 ?side2 A6.out).mono ?_); (case side1 => exact xc_ ((Kd.C_below HR0_4.out HB.out))); (case side2 => exact HC0_4.out); rintro e w29 ⟨rfl, hb⟩; replace HO263 := xrb_ HO263 hb; replace BK260 := xbb_ BK260 hb; replace HB := xws_ HB hb; (try clear hb)))
    go_ret
    exact ⟨mf_, xw_ HB⟩
  ·replace c5 := Bool.eq_false_iff.mpr c5
   subst c5
   rw [if_neg (show ¬ (false = true) by decide)] at H
   obtain rfl := Option.some.inj H
   go_enter Tryz.func54, Tryz.ntmps54
   go_wp2_with (first | ((with_reducible refine gd_ 1 ?_); refine xbe_ (N := 1) (cs := #[.string a0_0, .slice A0_1 l0_1.length c0_1, .int .i64 a0_2, .string a0_3, .slice A0_4 l0_4.length c0_4, .string a0_5, .int .i64 a0_6, .int .i64 a0_7]) (t := 71) ?_; intro gb260 hg w30 hbox hb; have BK260 := Aside0.mk (hbox); have GE260 := xge_ HB hg; replace HB := xws_ HB hb; clear hb hbox hg; have ⟨_, _, _, _, _, _, _, _, _, _, _, _, _, _, _, _⟩ := c8_ BK260) | ((with_reducible refine gc_ 48 ?_); refine xgl_ (some 10) Tryz.func48 #[.agg #[.int .i64 a0_2, .string a0_3, .slice A0_4 l0_4.length c0_4, .string a0_5]] ?_; (with_reducible refine (spec_l9Vary.calls k a0_2 a0_3 _ _ l0_4 a0_5 t261 t264 t265 _ ?side1 ?side2 A2.out).mono ?_); (case side1 => exact xc_ ((Kd.C_below HR0_4.out HB.out))); (case side2 => exact HC0_4.out); rintro e w32 ⟨v262, rfl, ho0, hb⟩; refine ⟨_, rfl, ?_⟩; have HO263 := Aside0.mk (Kd.R_lower ho0 (below_size (xw_ HB))); replace BK260 := xbb_ BK260 hb; replace HB := xws_ HB hb; (try clear hb); (try clear ho0); have ⟨_, _, _, _, _, _, _, _, _, _, _, _, _, _, _, _⟩ := c8_ BK260) | (go_at_call 67; (with_reducible refine (spec_l3Fields.calls k _ _ l0_1 false _ ?side1 ?side2 A4.out).mono ?_); (case side1 => exact xc_ ((Kd.C_below HR0_1.out HB.out))); (case side2 => exact HC0_1.out); rintro e w34 ⟨rfl, hb⟩; replace HO263 := xrb_ HO263 hb; replace BK260 := xbb_ BK260 hb; replace HB := xws_ HB hb; (try clear hb)))
   go_ret
   exact ⟨mf_, xw_ HB⟩
 ·rw [if_neg c3] at H
  have c3b0 := decide_eq_false c3
  have c3b1 : decide (a0_0.size ≤ 200) = false := decide_eq_false (by omega)
  clear c3
  obtain rfl := Option.some.inj H
  go_enter Tryz.func54, Tryz.ntmps54
  go_wp2_with (first | ((with_reducible refine gd_ 1 ?_); refine xbe_ (N := 1) (cs := #[.string a0_0, .slice A0_1 l0_1.length c0_1, .int .i64 a0_2, .string a0_3, .slice A0_4 l0_4.length c0_4, .string a0_5, .int .i64 a0_6, .int .i64 a0_7]) (t := 71) ?_; intro gb260 hg w35 hbox hb; have BK260 := Aside0.mk (hbox); have GE260 := xge_ HB hg; replace HB := xws_ HB hb; clear hb hbox hg; have ⟨_, _, _, _, _, _, _, _, _, _, _, _, _, _, _, _⟩ := c8_ BK260) | ((with_reducible refine gc_ 48 ?_); refine xgl_ (some 10) Tryz.func48 #[.agg #[.int .i64 a0_2, .string a0_3, .slice A0_4 l0_4.length c0_4, .string a0_5]] ?_; (with_reducible refine (spec_l9Vary.calls k a0_2 a0_3 _ _ l0_4 a0_5 t261 t264 t265 _ ?side1 ?side2 A2.out).mono ?_); (case side1 => exact xc_ ((Kd.C_below HR0_4.out HB.out))); (case side2 => exact HC0_4.out); rintro e w37 ⟨v262, rfl, ho0, hb⟩; refine ⟨_, rfl, ?_⟩; have HO263 := Aside0.mk (Kd.R_lower ho0 (below_size (xw_ HB))); replace BK260 := xbb_ BK260 hb; replace HB := xws_ HB hb; (try clear hb); (try clear ho0); have ⟨_, _, _, _, _, _, _, _, _, _, _, _, _, _, _, _⟩ := c8_ BK260))
  go_ret
  exact ⟨mf_, xw_ HB⟩

/-! ### spec_l9Same: function 101 -/
def spec_l9Same.l0 : Nat → List (S105) → List (S105) → List ByteArray → Int → Int → Option (Bool)
 | 0, _, _, _, _, _ => none
 | k + 1, x1, x2, x13, x14, x15 => if x15 < x14 then (if 0 ≤ x15 then (if x15 < (x13.length : Int) then ((spec_l3Joined.f k x1 (rdOf ByteArray.empty x13 x15)).bind fun bt269 => ((spec_l3Joined.f k x2 (rdOf ByteArray.empty x13 x15)).bind fun bt271 => (if (bt269.2 != bt271.2) = true then (some false) else (if bt269.1.toList = bt271.1.toList then (spec_l9Same.l0 k x1 x2 x13 x14 (wrap64 (x15 + 1))) else (some false))))) else (none)) else (none)) else (some true)
def spec_l9Same.f (k : Nat) (l0 : List ByteArray) (l1 : List (S105)) (l2 : List (S105)) : Option (Bool) := spec_l9Same.l0 k l1 l2 l0 (l0.length : Int) 0
set_option maxHeartbeats 8000000 in
set_option maxRecDepth 100000 in
theorem spec_l9Same.calls (k : Nat) (A0 : Option Addr) (c0 : Nat) (l0 : List ByteArray) (A1 : Option Addr) (c1 : Nat) (l1 : List (S105)) (A2 : Option Addr) (c2 : Nat) (l2 : List (S105)) (r : Bool) (w : World) (hr0 : Kd.C Kd.string w A0 l0.length l0) (hc0 : l0.length ≤ c0) (hr1 : Kd.C k105 w A1 l1.length l1) (hc1 : l1.length ≤ c1) (hr2 : Kd.C k105 w A2 l2.length l2) (hc2 : l2.length ≤ c2) (h : spec_l9Same.f k l0 l1 l2 = some r) :
  Calls Tryz.prog 101 #[.slice A0 l0.length c0, .slice A1 l1.length c1, .slice A2 l2.length c2] w fun e w' => e = .returned (.bool r) ∧ Below w.heap.size w w' := by
 have HR0 := Aside0.mk hr0
 have HC0 := Aside0.mk hc0
 clear hr0 hc0
 have HR1 := Aside0.mk hr1
 have HC1 := Aside0.mk hc1
 clear hr1 hc1
 have HR2 := Aside0.mk hr2
 have HC2 := Aside0.mk hc2
 clear hr2 hc2
 have HB := Aside0.mk (Below.refl w.heap.size w)
 have H := h
 unfold spec_l9Same.f at H
 clear h
 have H' := Aside0.mk H
 clear H
 go_enter Tryz.func101, Tryz.ntmps101
 go_wp2
 go_loopg [15] k (fun kq v15 w' => ∃ (x15_1 : Int), v15 = .int .i64 x15_1 ∧ Aside0 (spec_l9Same.l0 kq l1 l2 l0 (l0.length : Int) x15_1 = some r) ∧ Aside0 (kq ≤ k) ∧ Aside0 (Below w.heap.size w w'))
 case atStart => exact ⟨(0), me_, H', ⟨Nat.le_refl _⟩, ⟨xw_ HB⟩⟩
 case round =>
  clear H'
  obtain ⟨x15_1, rfl, HA, HK1, HB⟩ := hrel
  cases gk with
  | zero => exact absurd HA.out (by simp [spec_l9Same.l0])
  | succ k1 =>
   have H := HA.out
   clear HA
   simp only [spec_l9Same.l0] at H
   by_cases c4 : x15_1 < (l0.length : Int)
   ·rw [if_pos c4] at H
    have c4b0 := decide_eq_true c4
    clear c4
    replace H := mi_ H
    obtain ⟨c5, H⟩ := H
    have c5b0 := decide_eq_true c5
    clear c5
    replace H := mi_ H
    obtain ⟨c6, H⟩ := H
    have c6b0 := decide_eq_true c6
    clear c6
    replace H := mb_ H
    obtain ⟨⟨t269, t270⟩, A7, H⟩ := H
    dsimp only at H
    replace H := mb_ H
    obtain ⟨⟨t271, t272⟩, A8, H⟩ := H
    dsimp only at H
    by_cases c9 : (t270 != t272) = true
    ·rw [if_pos c9] at H
     have c9b0 : (t270 != t272) = true := c9
     (try (have c9b1 : decide (t270 = t272) = false := by simpa using c9))
     (try (have c9b2 : (t270 == t272) = false := by simpa using c9))
     (try (have c9b3 : ¬ (t270 = t272) := by simpa using c9))
     clear c9
     obtain rfl := Option.some.inj H
     have p268 : 0 ≤ (x15_1 : Int) := md_
     have q268 : x15_1 < (l0.length : Int) := md_
     obtain ⟨ad268, e268, hx268_0⟩ := Kd.at_string HR0.out x15_1 p268 q268
     cases e268
     (try replace hx268_0 := (HB.out.cell (World.block_lt_of_cell? w _ hx268_0)).trans hx268_0)
     replace p268 := eq_true p268
     replace q268 := eq_true q268
     go_wp2_with (first | ((with_reducible refine gc_ 87 ?_); refine xgl_ (some 22) Tryz.func87 #[.slice A1 l1.length c1, .string (rdOf ByteArray.empty l0 x15_1)] ?_; (with_reducible refine (spec_l3Joined.calls k1 _ _ l1 (rdOf ByteArray.empty l0 x15_1) t269 t270 _ ?side1 ?side2 A7.out).mono ?_); (case side1 => exact xc_ ((Kd.C_below HR1.out HB.out))); (case side2 => exact HC1.out); rintro e w10 ⟨rfl, hb⟩; refine ⟨_, rfl, ?_⟩; replace HB := xws_ HB hb; (try clear hb)) | ((with_reducible refine gc_ 87 ?_); refine xgl_ (some 28) Tryz.func87 #[.slice A2 l2.length c2, .string (rdOf ByteArray.empty l0 x15_1)] ?_; (with_reducible refine (spec_l3Joined.calls k1 _ _ l2 (rdOf ByteArray.empty l0 x15_1) t271 t272 _ ?side1 ?side2 A8.out).mono ?_); (case side1 => exact xc_ ((Kd.C_below HR2.out HB.out))); (case side2 => exact HC2.out); rintro e w11 ⟨rfl, hb⟩; refine ⟨_, rfl, ?_⟩; replace HB := xws_ HB hb; (try clear hb)))
     go_ret
     exact ⟨mf_, xw_ HB⟩
    ·rw [if_neg c9] at H
     have c9b0 : (t270 != t272) = false := by simpa using c9
     (try (have c9b1 : decide (t270 = t272) = true := by simpa using c9))
     (try (have c9b2 : (t270 == t272) = true := by simpa using c9))
     clear c9
     by_cases c12 : t269.toList = t271.toList
     ·rw [if_pos c12] at H
      have c12b0 : (t269.toList == t271.toList) = true := beq_iff_eq.mpr c12
      have c12b1 : (t269.toList != t271.toList) = false := bne_eq_false_iff_eq.mpr c12
      clear c12
      have H' := Aside0.mk H
      clear H
      have p268 : 0 ≤ (x15_1 : Int) := md_
      have q268 : x15_1 < (l0.length : Int) := md_
      obtain ⟨ad268, e268, hx268_0⟩ := Kd.at_string HR0.out x15_1 p268 q268
      cases e268
      (try replace hx268_0 := (HB.out.cell (World.block_lt_of_cell? w _ hx268_0)).trans hx268_0)
      replace p268 := eq_true p268
      replace q268 := eq_true q268
      go_wp2_with (first | ((with_reducible refine gc_ 87 ?_); refine xgl_ (some 22) Tryz.func87 #[.slice A1 l1.length c1, .string (rdOf ByteArray.empty l0 x15_1)] ?_; (with_reducible refine (spec_l3Joined.calls k1 _ _ l1 (rdOf ByteArray.empty l0 x15_1) t269 t270 _ ?side1 ?side2 A7.out).mono ?_); (case side1 => exact xc_ ((Kd.C_below HR1.out HB.out))); (case side2 => exact HC1.out); rintro e w13 ⟨rfl, hb⟩; refine ⟨_, rfl, ?_⟩; replace HB := xws_ HB hb; (try clear hb)) | ((with_reducible refine gc_ 87 ?_); refine xgl_ (some 28) Tryz.func87 #[.slice A2 l2.length c2, .string (rdOf ByteArray.empty l0 x15_1)] ?_; (with_reducible refine (spec_l3Joined.calls k1 _ _ l2 (rdOf ByteArray.empty l0 x15_1) t271 t272 _ ?side1 ?side2 A8.out).mono ?_); (case side1 => exact xc_ ((Kd.C_below HR2.out HB.out))); (case side2 => exact HC2.out); rintro e w14 ⟨rfl, hb⟩; refine ⟨_, rfl, ?_⟩; replace HB := xws_ HB hb; (try clear hb)))
      go_roundg k1
      case measure => have := HK1.out; omega
      case rel => exact ⟨(wrap64 (x15_1 + 1)), me_, H', ⟨by have := HK1.out; omega⟩, ⟨xw_ HB⟩⟩
     ·rw [if_neg c12] at H
      have c12b0 : (t269.toList == t271.toList) = false := beq_eq_false_iff_ne.mpr c12
      have c12b1 : (t269.toList != t271.toList) = true := bne_iff_ne.mpr c12
      obtain rfl := Option.some.inj H
      have p268 : 0 ≤ (x15_1 : Int) := md_
      have q268 : x15_1 < (l0.length : Int) := md_
      obtain ⟨ad268, e268, hx268_0⟩ := Kd.at_string HR0.out x15_1 p268 q268
      cases e268
      (try replace hx268_0 := (HB.out.cell (World.block_lt_of_cell? w _ hx268_0)).trans hx268_0)
      replace p268 := eq_true p268
      replace q268 := eq_true q268
      go_wp2_with (first | ((with_reducible refine gc_ 87 ?_); refine xgl_ (some 22) Tryz.func87 #[.slice A1 l1.length c1, .string (rdOf ByteArray.empty l0 x15_1)] ?_; (with_reducible refine (spec_l3Joined.calls k1 _ _ l1 (rdOf ByteArray.empty l0 x15_1) t269 t270 _ ?side1 ?side2 A7.out).mono ?_); (case side1 => exact xc_ ((Kd.C_below HR1.out HB.out))); (case side2 => exact HC1.out); rintro e w15 ⟨rfl, hb⟩; refine ⟨_, rfl, ?_⟩; replace HB := xws_ HB hb; (try clear hb)) | ((with_reducible refine gc_ 87 ?_); refine xgl_ (some 28) Tryz.func87 #[.slice A2 l2.length c2, .string (rdOf ByteArray.empty l0 x15_1)] ?_; (with_reducible refine (spec_l3Joined.calls k1 _ _ l2 (rdOf ByteArray.empty l0 x15_1) t271 t272 _ ?side1 ?side2 A8.out).mono ?_); (case side1 => exact xc_ ((Kd.C_below HR2.out HB.out))); (case side2 => exact HC2.out); rintro e w16 ⟨rfl, hb⟩; refine ⟨_, rfl, ?_⟩; replace HB := xws_ HB hb; (try clear hb)))
      go_ret
      exact ⟨mf_, xw_ HB⟩
   ·rw [if_neg c4] at H
    have c4b0 := decide_eq_false c4
    clear c4
    obtain rfl := Option.some.inj H
    go_wp2
    go_ret
    exact ⟨mf_, xw_ HB⟩

/-! ### spec_l9Matches: function 55 -/
def spec_l9Matches.f (k : Nat) (a0_0 : ByteArray) (l0_1 : List (S105)) (a0_2 : Int) (a0_3 : ByteArray) (l0_4 : List (S105)) (a0_5 : ByteArray) (a0_6 : Int) (a0_7 : Int) (l1 : List (S105)) : Option (Bool) := (spec_l9Vary.f k a0_2 a0_3 l0_4 a0_5).bind fun bt274 => ((spec_l9Same.f k bt274.1 l0_1 l1).bind fun t279 => (some t279))
set_option maxHeartbeats 8000000 in
set_option maxRecDepth 100000 in
theorem spec_l9Matches.calls (k : Nat) (a0_0 : ByteArray) (A0_1 : Option Addr) (c0_1 : Nat) (l0_1 : List (S105)) (a0_2 : Int) (a0_3 : ByteArray) (A0_4 : Option Addr) (c0_4 : Nat) (l0_4 : List (S105)) (a0_5 : ByteArray) (a0_6 : Int) (a0_7 : Int) (A1 : Option Addr) (c1 : Nat) (l1 : List (S105)) (r : Bool) (w : World) (hr0_1 : Kd.C k105 w A0_1 l0_1.length l0_1) (hc0_1 : l0_1.length ≤ c0_1) (hr0_4 : Kd.C k105 w A0_4 l0_4.length l0_4) (hc0_4 : l0_4.length ≤ c0_4) (hr1 : Kd.C k105 w A1 l1.length l1) (hc1 : l1.length ≤ c1) (h : spec_l9Matches.f k a0_0 l0_1 a0_2 a0_3 l0_4 a0_5 a0_6 a0_7 l1 = some r) :
  Calls Tryz.prog 55 #[.agg #[.string a0_0, .slice A0_1 l0_1.length c0_1, .int .i64 a0_2, .string a0_3, .slice A0_4 l0_4.length c0_4, .string a0_5, .int .i64 a0_6, .int .i64 a0_7], .slice A1 l1.length c1] w fun e w' => e = .returned (.bool r) ∧ Below w.heap.size w w' := by
 have hu71 := Tryz.underlying71
 have hu54 := Tryz.underlying54
 have HR0_1 := Aside0.mk hr0_1
 have HC0_1 := Aside0.mk hc0_1
 clear hr0_1 hc0_1
 have HR0_4 := Aside0.mk hr0_4
 have HC0_4 := Aside0.mk hc0_4
 clear hr0_4 hc0_4
 have HR1 := Aside0.mk hr1
 have HC1 := Aside0.mk hc1
 clear hr1 hc1
 have HB := Aside0.mk (Below.refl w.heap.size w)
 have H := h
 unfold spec_l9Matches.f at H
 clear h
 replace H := mb_ H
 obtain ⟨⟨t274, t277, t278⟩, A3, H⟩ := H
 dsimp only at H
 replace H := mb_ H
 obtain ⟨t279, A4, H⟩ := H
 obtain rfl := Option.some.inj H
 go_enter Tryz.func55, Tryz.ntmps55
 go_wp2_with (first | ((with_reducible refine gd_ 2 ?_); refine xbe_ (N := 2) (cs := #[.string a0_0, .slice A0_1 l0_1.length c0_1, .int .i64 a0_2, .string a0_3, .slice A0_4 l0_4.length c0_4, .string a0_5, .int .i64 a0_6, .int .i64 a0_7]) (t := 71) ?_; intro gb273 hg w5 hbox hb; have BK273 := Aside0.mk (hbox); have GE273 := xge_ HB hg; replace HB := xws_ HB hb; clear hb hbox hg; have ⟨_, _, _, _, _, _, _, _, _, _, _, _, _, _, _, _⟩ := c8_ BK273) | ((with_reducible refine gc_ 48 ?_); refine xgl_ (some 12) Tryz.func48 #[.agg #[.int .i64 a0_2, .string a0_3, .slice A0_4 l0_4.length c0_4, .string a0_5]] ?_; (with_reducible refine (spec_l9Vary.calls k a0_2 a0_3 _ _ l0_4 a0_5 t274 t277 t278 _ ?side1 ?side2 A3.out).mono ?_); (case side1 => exact xc_ ((Kd.C_below HR0_4.out HB.out))); (case side2 => exact HC0_4.out); rintro e w7 ⟨v275, rfl, ho0, hb⟩; refine ⟨_, rfl, ?_⟩; have HO276 := Aside0.mk (Kd.R_lower ho0 (below_size (xw_ HB))); replace BK273 := xbb_ BK273 hb; replace HB := xws_ HB hb; (try clear hb); (try clear ho0); have ⟨_, _, _, _, _, _, _, _, _, _, _, _, _, _, _, _⟩ := c8_ BK273; obtain ⟨Ao9, co9, eo9⟩ := Kd.R_slice HO276.out; subst eo9) | ((with_reducible refine gc_ 101 ?_); refine xgl_ (some 20) Tryz.func101 #[.slice Ao9 t274.length co9, .slice A0_1 l0_1.length c0_1, .slice A1 l1.length c1] ?_; (with_reducible refine (spec_l9Same.calls k _ _ t274 _ _ l0_1 _ _ l1 t279 _ ?side1 ?side2 ?side3 ?side4 ?side5 ?side6 A4.out).mono ?_); (case side1 => exact xc_ ((Kd.R_reads' HO276.out).2.2)); (case side2 => exact (Kd.R_reads' HO276.out).2.1); (case side3 => exact xc_ ((Kd.C_below HR0_1.out HB.out))); (case side4 => exact HC0_1.out); (case side5 => exact xc_ ((Kd.C_below HR1.out HB.out))); (case side6 => exact HC1.out); rintro e w10 ⟨rfl, hb⟩; refine ⟨_, rfl, ?_⟩; replace HO276 := xrb_ HO276 hb; replace BK273 := xbb_ BK273 hb; replace HB := xws_ HB hb; (try clear hb)))
 go_ret
 exact ⟨mf_, xw_ HB⟩

/-! ### spec_Matches: function 29 -/
def spec_Matches.f (k : Nat) (a0_0 : ByteArray) (l0_1 : List (S105)) (a0_2 : Int) (a0_3 : ByteArray) (l0_4 : List (S105)) (a0_5 : ByteArray) (a0_6 : Int) (a0_7 : Int) (a1_0 : ByteArray) (a1_1 : ByteArray) (l1_2 : List (S105)) (a1_3 : ByteArray) : Option (Bool × Bool) := (spec_l9Item.f k a0_0 l0_1 a0_2 a0_3 l0_4 a0_5 a0_6 a0_7).bind fun t282 => (if t282 = true then ((spec_GoodRequest.f k a1_0 a1_1 l1_2 a1_3).bind fun t283 => (if t283 = true then ((spec_l9Matches.f k a0_0 l0_1 a0_2 a0_3 l0_4 a0_5 a0_6 a0_7 l1_2).bind fun t284 => (some (t284, true))) else (some (false, false)))) else (some (false, false)))
set_option maxHeartbeats 8000000 in
set_option maxRecDepth 100000 in
theorem spec_Matches.calls (k : Nat) (a0_0 : ByteArray) (A0_1 : Option Addr) (c0_1 : Nat) (l0_1 : List (S105)) (a0_2 : Int) (a0_3 : ByteArray) (A0_4 : Option Addr) (c0_4 : Nat) (l0_4 : List (S105)) (a0_5 : ByteArray) (a0_6 : Int) (a0_7 : Int) (a1_0 : ByteArray) (a1_1 : ByteArray) (A1_2 : Option Addr) (c1_2 : Nat) (l1_2 : List (S105)) (a1_3 : ByteArray) (r1 : Bool) (r2 : Bool) (w : World) (hr0_1 : Kd.C k105 w A0_1 l0_1.length l0_1) (hc0_1 : l0_1.length ≤ c0_1) (hr0_4 : Kd.C k105 w A0_4 l0_4.length l0_4) (hc0_4 : l0_4.length ≤ c0_4) (hr1_2 : Kd.C k105 w A1_2 l1_2.length l1_2) (hc1_2 : l1_2.length ≤ c1_2) (h : spec_Matches.f k a0_0 l0_1 a0_2 a0_3 l0_4 a0_5 a0_6 a0_7 a1_0 a1_1 l1_2 a1_3 = some (r1, r2)) :
  Calls Tryz.prog 29 #[.agg #[.string a0_0, .slice A0_1 l0_1.length c0_1, .int .i64 a0_2, .string a0_3, .slice A0_4 l0_4.length c0_4, .string a0_5, .int .i64 a0_6, .int .i64 a0_7], .agg #[.string a1_0, .string a1_1, .slice A1_2 l1_2.length c1_2, .string a1_3]] w fun e w' => e = .returned (.tuple #[.bool r1, .bool r2]) ∧ Below w.heap.size w w' := by
 have hu71 := Tryz.underlying71
 have hu35 := Tryz.underlying35
 have HR0_1 := Aside0.mk hr0_1
 have HC0_1 := Aside0.mk hc0_1
 clear hr0_1 hc0_1
 have HR0_4 := Aside0.mk hr0_4
 have HC0_4 := Aside0.mk hc0_4
 clear hr0_4 hc0_4
 have HR1_2 := Aside0.mk hr1_2
 have HC1_2 := Aside0.mk hc1_2
 clear hr1_2 hc1_2
 have HB := Aside0.mk (Below.refl w.heap.size w)
 have H := h
 unfold spec_Matches.f at H
 clear h
 replace H := mb_ H
 obtain ⟨t282, A3, H⟩ := H
 by_cases c4 : t282 = true
 ·subst c4
  rw [if_pos rfl] at H
  replace H := mb_ H
  obtain ⟨t283, A5, H⟩ := H
  by_cases c6 : t283 = true
  ·subst c6
   rw [if_pos rfl] at H
   replace H := mb_ H
   obtain ⟨t284, A7, H⟩ := H
   simp only [Option.some.injEq, Prod.mk.injEq] at H
   obtain ⟨rfl, rfl⟩ := H
   go_enter Tryz.func29, Tryz.ntmps29
   go_wp2_with (first | ((with_reducible refine gd_ 2 ?_); refine xbe_ (N := 2) (cs := #[.string a0_0, .slice A0_1 l0_1.length c0_1, .int .i64 a0_2, .string a0_3, .slice A0_4 l0_4.length c0_4, .string a0_5, .int .i64 a0_6, .int .i64 a0_7]) (t := 71) ?_; intro gb280 hg w8 hbox hb; have BK280 := Aside0.mk (hbox); have GE280 := xge_ HB hg; replace HB := xws_ HB hb; clear hb hbox hg) | ((with_reducible refine gd_ 3 ?_); refine xbe_ (N := 3) (cs := #[.string a1_0, .string a1_1, .slice A1_2 l1_2.length c1_2, .string a1_3]) (t := 35) ?_; intro gb281 hg w9 hbox hb; have BK281 := Aside0.mk (hbox); have GE281 := xge_ HB hg; replace HB := xws_ HB hb; have NB280_281 := xlt_ BK280 hg; have NB281_280 := xgt_ BK280 hg; replace BK280 := xbb_ BK280 hb; clear hb hbox hg; have hnb10 := NB280_281.out; have hnc10 := NB281_280.out; have ⟨_, _, _, _, _, _, _, _, _, _, _, _, _, _, _, _⟩ := c8_ BK280) | ((with_reducible refine gc_ 54 ?_); refine xgl_ (some 7) Tryz.func54 #[.agg #[.string a0_0, .slice A0_1 l0_1.length c0_1, .int .i64 a0_2, .string a0_3, .slice A0_4 l0_4.length c0_4, .string a0_5, .int .i64 a0_6, .int .i64 a0_7]] ?_; (with_reducible refine (spec_l9Item.calls k a0_0 _ _ l0_1 a0_2 a0_3 _ _ l0_4 a0_5 a0_6 a0_7 true _ ?side1 ?side2 ?side3 ?side4 A3.out).mono ?_); (case side1 => exact xc_ ((Kd.C_below HR0_1.out HB.out))); (case side2 => exact HC0_1.out); (case side3 => exact xc_ ((Kd.C_below HR0_4.out HB.out))); (case side4 => exact HC0_4.out); rintro e w12 ⟨rfl, hb⟩; refine ⟨_, rfl, ?_⟩; replace BK280 := xbb_ BK280 hb; replace BK281 := xbb_ BK281 hb; replace HB := xws_ HB hb; (try clear hb); have ⟨_, _, _, _, _, _, _, _⟩ := c4_ BK281) | (go_at_call 35; (with_reducible refine (spec_GoodRequest.calls k a1_0 a1_1 _ _ l1_2 a1_3 true _ ?side1 ?side2 A5.out).mono ?_); (case side1 => exact xc_ ((Kd.C_below HR1_2.out HB.out))); (case side2 => exact HC1_2.out); rintro e w14 ⟨rfl, hb⟩; replace BK280 := xbb_ BK280 hb; replace BK281 := xbb_ BK281 hb; replace HB := xws_ HB hb; (try clear hb); have ⟨_, _, _, _, _, _, _, _, _, _, _, _, _, _, _, _⟩ := c8_ BK280; have ⟨_, _, _, _, _, _, _, _⟩ := c4_ BK281) | ((with_reducible refine gc_ 55 ?_); refine xgl_ (some 17) Tryz.func55 #[.agg #[.string a0_0, .slice A0_1 l0_1.length c0_1, .int .i64 a0_2, .string a0_3, .slice A0_4 l0_4.length c0_4, .string a0_5, .int .i64 a0_6, .int .i64 a0_7], .slice A1_2 l1_2.length c1_2] ?_; (with_reducible refine (spec_l9Matches.calls k a0_0 _ _ l0_1 a0_2 a0_3 _ _ l0_4 a0_5 a0_6 a0_7 _ _ l1_2 t284 _ ?side1 ?side2 ?side3 ?side4 ?side5 ?side6 A7.out).mono ?_); (case side1 => exact xc_ ((Kd.C_below HR0_1.out HB.out))); (case side2 => exact HC0_1.out); (case side3 => exact xc_ ((Kd.C_below HR0_4.out HB.out))); (case side4 => exact HC0_4.out); (case side5 => exact xc_ ((Kd.C_below HR1_2.out HB.out))); (case side6 => exact HC1_2.out); rintro e w17 ⟨rfl, hb⟩; refine ⟨_, rfl, ?_⟩; replace BK280 := xbb_ BK280 hb; replace BK281 := xbb_ BK281 hb; replace HB := xws_ HB hb; (try clear hb)))
   go_ret2
   exact ⟨mf_, xw_ HB⟩
  ·replace c6 := Bool.eq_false_iff.mpr c6
   subst c6
   rw [if_neg (show ¬ (false = true) by decide)] at H
   simp only [Option.some.injEq, Prod.mk.injEq] at H
   obtain ⟨rfl, rfl⟩ := H
   go_enter Tryz.func29, Tryz.ntmps29
   go_wp2_with (first | ((with_reducible refine gd_ 2 ?_); refine xbe_ (N := 2) (cs := #[.string a0_0, .slice A0_1 l0_1.length c0_1, .int .i64 a0_2, .string a0_3, .slice A0_4 l0_4.length c0_4, .string a0_5, .int .i64 a0_6, .int .i64 a0_7]) (t := 71) ?_; intro gb280 hg w18 hbox hb; have BK280 := Aside0.mk (hbox); have GE280 := xge_ HB hg; replace HB := xws_ HB hb; clear hb hbox hg) | ((with_reducible refine gd_ 3 ?_); refine xbe_ (N := 3) (cs := #[.string a1_0, .string a1_1, .slice A1_2 l1_2.length c1_2, .string a1_3]) (t := 35) ?_; intro gb281 hg w19 hbox hb; have BK281 := Aside0.mk (hbox); have GE281 := xge_ HB hg; replace HB := xws_ HB hb; have NB280_281 := xlt_ BK280 hg; have NB281_280 := xgt_ BK280 hg; replace BK280 := xbb_ BK280 hb; clear hb hbox hg; have hnb20 := NB280_281.out; have hnc20 := NB281_280.out; have ⟨_, _, _, _, _, _, _, _, _, _, _, _, _, _, _, _⟩ := c8_ BK280) | ((with_reducible refine gc_ 54 ?_); refine xgl_ (some 7) Tryz.func54 #[.agg #[.string a0_0, .slice A0_1 l0_1.length c0_1, .int .i64 a0_2, .string a0_3, .slice A0_4 l0_4.length c0_4, .string a0_5, .int .i64 a0_6, .int .i64 a0_7]] ?_; (with_reducible refine (spec_l9Item.calls k a0_0 _ _ l0_1 a0_2 a0_3 _ _ l0_4 a0_5 a0_6 a0_7 true _ ?side1 ?side2 ?side3 ?side4 A3.out).mono ?_); (case side1 => exact xc_ ((Kd.C_below HR0_1.out HB.out))); (case side2 => exact HC0_1.out); (case side3 => exact xc_ ((Kd.C_below HR0_4.out HB.out))); (case side4 => exact HC0_4.out); rintro e w22 ⟨rfl, hb⟩; refine ⟨_, rfl, ?_⟩; replace BK280 := xbb_ BK280 hb; replace BK281 := xbb_ BK281 hb; replace HB := xws_ HB hb; (try clear hb); have ⟨_, _, _, _, _, _, _, _⟩ := c4_ BK281) | (go_at_call 35; (with_reducible refine (spec_GoodRequest.calls k a1_0 a1_1 _ _ l1_2 a1_3 false _ ?side1 ?side2 A5.out).mono ?_); (case side1 => exact xc_ ((Kd.C_below HR1_2.out HB.out))); (case side2 => exact HC1_2.out); rintro e w24 ⟨rfl, hb⟩; replace BK280 := xbb_ BK280 hb; replace BK281 := xbb_ BK281 hb; replace HB := xws_ HB hb; (try clear hb)))
   go_ret2
   exact ⟨mf_, xw_ HB⟩
 ·replace c4 := Bool.eq_false_iff.mpr c4
  subst c4
  rw [if_neg (show ¬ (false = true) by decide)] at H
  simp only [Option.some.injEq, Prod.mk.injEq] at H
  obtain ⟨rfl, rfl⟩ := H
  go_enter Tryz.func29, Tryz.ntmps29
  go_wp2_with (first | ((with_reducible refine gd_ 2 ?_); refine xbe_ (N := 2) (cs := #[.string a0_0, .slice A0_1 l0_1.length c0_1, .int .i64 a0_2, .string a0_3, .slice A0_4 l0_4.length c0_4, .string a0_5, .int .i64 a0_6, .int .i64 a0_7]) (t := 71) ?_; intro gb280 hg w25 hbox hb; have BK280 := Aside0.mk (hbox); have GE280 := xge_ HB hg; replace HB := xws_ HB hb; clear hb hbox hg) | ((with_reducible refine gd_ 3 ?_); refine xbe_ (N := 3) (cs := #[.string a1_0, .string a1_1, .slice A1_2 l1_2.length c1_2, .string a1_3]) (t := 35) ?_; intro gb281 hg w26 hbox hb; have BK281 := Aside0.mk (hbox); have GE281 := xge_ HB hg; replace HB := xws_ HB hb; have NB280_281 := xlt_ BK280 hg; have NB281_280 := xgt_ BK280 hg; replace BK280 := xbb_ BK280 hb; clear hb hbox hg; have hnb27 := NB280_281.out; have hnc27 := NB281_280.out; have ⟨_, _, _, _, _, _, _, _, _, _, _, _, _, _, _, _⟩ := c8_ BK280) | ((with_reducible refine gc_ 54 ?_); refine xgl_ (some 7) Tryz.func54 #[.agg #[.string a0_0, .slice A0_1 l0_1.length c0_1, .int .i64 a0_2, .string a0_3, .slice A0_4 l0_4.length c0_4, .string a0_5, .int .i64 a0_6, .int .i64 a0_7]] ?_; (with_reducible refine (spec_l9Item.calls k a0_0 _ _ l0_1 a0_2 a0_3 _ _ l0_4 a0_5 a0_6 a0_7 false _ ?side1 ?side2 ?side3 ?side4 A3.out).mono ?_); (case side1 => exact xc_ ((Kd.C_below HR0_1.out HB.out))); (case side2 => exact HC0_1.out); (case side3 => exact xc_ ((Kd.C_below HR0_4.out HB.out))); (case side4 => exact HC0_4.out); rintro e w29 ⟨rfl, hb⟩; refine ⟨_, rfl, ?_⟩; replace BK280 := xbb_ BK280 hb; replace BK281 := xbb_ BK281 hb; replace HB := xws_ HB hb; (try clear hb)))
  go_ret2
  exact ⟨mf_, xw_ HB⟩

/-! ### laws_toResponse: function 21 -/
def laws_toResponse.f (k : Nat) (a0_0 : Int) (a0_1 : ByteArray) (l0_2 : List (S97)) (a0_3 : ByteArray) : Option (Int × ByteArray × (List (S105)) × ByteArray) := (laws_toFieldS.f k l0_2).bind fun t288 => (some (a0_0, a0_1, t288, a0_3))
set_option maxHeartbeats 8000000 in
set_option maxRecDepth 100000 in
theorem laws_toResponse.calls (k : Nat) (a0_0 : Int) (a0_1 : ByteArray) (A0_2 : Option Addr) (c0_2 : Nat) (l0_2 : List (S97)) (a0_3 : ByteArray) (r1 : Int) (r2 : ByteArray) (r3 : List (S105)) (r4 : ByteArray) (w : World) (hr0_2 : Kd.C k97 w A0_2 l0_2.length l0_2) (hc0_2 : l0_2.length ≤ c0_2) (h : laws_toResponse.f k a0_0 a0_1 l0_2 a0_3 = some (r1, r2, r3, r4)) :
  Calls Tryz.prog 21 #[.agg #[.int .i64 a0_0, .string a0_1, .slice A0_2 l0_2.length c0_2, .string a0_3]] w fun e w' => ∃ v2_ : Value, e = .returned (.agg #[.int .i64 r1, .string r2, v2_, .string r4]) ∧ Kd.R k105 105 w' w.heap.size (fun _ => True) v2_ r3 ∧ Below w.heap.size w w' := by
 have hu48 := Tryz.underlying48
 have hu54 := Tryz.underlying54
 have HR0_2 := Aside0.mk hr0_2
 have HC0_2 := Aside0.mk hc0_2
 clear hr0_2 hc0_2
 have HB := Aside0.mk (Below.refl w.heap.size w)
 have H := h
 unfold laws_toResponse.f at H
 clear h
 replace H := mb_ H
 obtain ⟨t288, A2, H⟩ := H
 simp only [Option.some.injEq, Prod.mk.injEq] at H
 obtain ⟨rfl, rfl, rfl, rfl⟩ := H
 go_enter Tryz.func21, Tryz.ntmps21
 go_wp2_with (first | ((with_reducible refine gd_ 1 ?_); refine xbe_ (N := 1) (cs := #[.int .i64 a0_0, .string a0_1, .slice A0_2 l0_2.length c0_2, .string a0_3]) (t := 48) ?_; intro gb285 hg w3 hbox hb; have BK285 := Aside0.mk (hbox); have GE285 := xge_ HB hg; replace HB := xws_ HB hb; clear hb hbox hg) | ((with_reducible refine gd_ 2 ?_); refine xbe_ (N := 2) (cs := #[.int .i64 0, .string (⟨#[]⟩ : ByteArray), .slice none 0 0, .string (⟨#[]⟩ : ByteArray)]) (t := 54) ?_; intro gb286 hg w4 hbox hb; have BK286 := Aside0.mk (hbox); have GE286 := xge_ HB hg; replace HB := xws_ HB hb; have NB285_286 := xlt_ BK285 hg; have NB286_285 := xgt_ BK285 hg; replace BK285 := xbb_ BK285 hb; clear hb hbox hg) | ((with_reducible refine gd_ 3 ?_); refine xbe_ (N := 3) (cs := #[.int .i64 0, .string (⟨#[]⟩ : ByteArray), .slice none 0 0, .string (⟨#[]⟩ : ByteArray)]) (t := 54) ?_; intro gb287 hg w5 hbox hb; have BK287 := Aside0.mk (hbox); have GE287 := xge_ HB hg; replace HB := xws_ HB hb; have NB285_287 := xlt_ BK285 hg; have NB287_285 := xgt_ BK285 hg; replace BK285 := xbb_ BK285 hb; have NB286_287 := xlt_ BK286 hg; have NB287_286 := xgt_ BK286 hg; replace BK286 := xbb_ BK286 hb; clear hb hbox hg; have hnb6 := NB285_286.out; have hnc6 := NB286_285.out; have hnb7 := NB285_287.out; have hnc7 := NB287_285.out; have ⟨_, _, _, _, _, _, _, _⟩ := c4_ BK285; have hnb9 := NB287_286.out; have hnc9 := NB286_287.out; have ⟨_, _, _, _, _, _, _, _⟩ := c4_ BK287) | ((with_reducible refine gc_ 37 ?_); refine xgl_ (some 12) Tryz.func37 #[.slice A0_2 l0_2.length c0_2] ?_; (with_reducible refine (laws_toFieldS.calls k _ _ l0_2 t288 _ ?side1 ?side2 A2.out).mono ?_); (case side1 => exact Kd.C_below HR0_2.out (xw_ HB)); (case side2 => exact HC0_2.out); rintro e w11 ⟨v289, rfl, ho0, hb⟩; refine ⟨_, rfl, ?_⟩; have HO290 := Aside0.mk (Kd.R_lower ho0 (below_size (xw_ HB))); replace BK285 := mxb_ (o' := .cells #[.int .i64 a0_0, .string a0_1, .slice A0_2 l0_2.length c0_2, .string a0_3] 48 (0, 0)) BK285 hb; replace BK286 := mxb_ (o' := .cells #[.int .i64 0, .string (⟨#[]⟩ : ByteArray), .slice none 0 0, .string (⟨#[]⟩ : ByteArray)] 54 (0, 0)) BK286 hb; replace BK287 := mxb_ (o' := .cells #[.int .i64 a0_0, .string a0_1, .slice none 0 0, .string (⟨#[]⟩ : ByteArray)] 54 (0, 0)) BK287 hb; replace HB := xws_ HB hb; (try clear hb); (try clear ho0); obtain ⟨Ao12, co12, eo12⟩ := Kd.R_slice HO290.out; subst eo12; have ⟨_, _, _, _, _, _, _, _⟩ := c4_ BK287; have ⟨_, _, _, _, _, _, _, _⟩ := c4_ BK285; have ⟨_, _, _, _, _, _, _, _⟩ := c4_ BK286))
 refine bodyPost_ret (results_cell_row rfl _ _ gb286 54 #[.int .i64 a0_0, .string a0_1, .slice Ao12 t288.length co12, .string a0_3] (0, 0) _ rfl (mx_ BK286) Tryz.underlying54 rfl (by kernel_rfl)) rfl ?_
 exact ⟨_, mf_, by (with_reducible repeat (first | apply Kd.R_alloc | apply Kd.R_drewN | apply Kd.R_drew)); exact Kd.R_mono (Kd.R_far (p := ⟨gb286, 3, none⟩) (Kd.R_far (p := ⟨gb286, 2, none⟩) (Kd.R_far (p := ⟨gb286, 1, none⟩) (Kd.R_far (p := ⟨gb286, 0, none⟩) (Kd.R_far (p := ⟨gb287, 3, none⟩) (Kd.R_far (p := ⟨gb287, 2, none⟩) (Kd.R_types (Kd.R_types HO290.out BK287.out (by decide)) BK286.out (by decide)) (fun _ hk => hk.1.2) (.slice Ao12 t288.length co12)) (fun _ hk => hk.1.2) (.string a0_3)) (fun _ hk => hk.2) (.int .i64 a0_0)) (fun _ hk => hk.2) (.string a0_1)) (fun _ hk => hk.2) (.slice Ao12 t288.length co12)) (fun _ hk => hk.2) (.string a0_3)) (fun _ hk => trivial), xw_ HB⟩

/-! ### laws_toKept: function 56 -/
def laws_toKept.f (k : Nat) (a0_0 : Int) (a0_1 : ByteArray) (l0_2 : List (S97)) (a0_3 : ByteArray) (a0_4 : Int) (a0_5 : Int) : Option (Int × ByteArray × (List (S105)) × ByteArray × Int × Int) := (laws_toResponse.f k a0_0 a0_1 l0_2 a0_3).bind fun bt294 => (some (bt294.1, bt294.2.1, bt294.2.2.1, bt294.2.2.2, a0_4, a0_5))
set_option maxHeartbeats 8000000 in
set_option maxRecDepth 100000 in
theorem laws_toKept.calls (k : Nat) (a0_0 : Int) (a0_1 : ByteArray) (A0_2 : Option Addr) (c0_2 : Nat) (l0_2 : List (S97)) (a0_3 : ByteArray) (a0_4 : Int) (a0_5 : Int) (r1 : Int) (r2 : ByteArray) (r3 : List (S105)) (r4 : ByteArray) (r5 : Int) (r6 : Int) (w : World) (hr0_2 : Kd.C k97 w A0_2 l0_2.length l0_2) (hc0_2 : l0_2.length ≤ c0_2) (h : laws_toKept.f k a0_0 a0_1 l0_2 a0_3 a0_4 a0_5 = some (r1, r2, r3, r4, r5, r6)) :
  Calls Tryz.prog 56 #[.agg #[.int .i64 a0_0, .string a0_1, .slice A0_2 l0_2.length c0_2, .string a0_3, .int .i64 a0_4, .int .i64 a0_5]] w fun e w' => ∃ v2_ : Value, e = .returned (.agg #[.int .i64 r1, .string r2, v2_, .string r4, .int .i64 r5, .int .i64 r6]) ∧ Kd.R k105 105 w' w.heap.size (fun _ => True) v2_ r3 ∧ Below w.heap.size w w' := by
 have hu62 := Tryz.underlying62
 have hu69 := Tryz.underlying69
 have hu48 := Tryz.underlying48
 have hu54 := Tryz.underlying54
 have HR0_2 := Aside0.mk hr0_2
 have HC0_2 := Aside0.mk hc0_2
 clear hr0_2 hc0_2
 have HB := Aside0.mk (Below.refl w.heap.size w)
 have H := h
 unfold laws_toKept.f at H
 clear h
 replace H := mb_ H
 obtain ⟨⟨t294, t295, t296, t299⟩, A2, H⟩ := H
 dsimp only at H
 simp only [Option.some.injEq, Prod.mk.injEq] at H
 obtain ⟨rfl, rfl, rfl, rfl, rfl, rfl⟩ := H
 go_enter Tryz.func56, Tryz.ntmps56
 go_wp2_with (first | ((with_reducible refine gd_ 1 ?_); refine xbe_ (N := 1) (cs := #[.int .i64 a0_0, .string a0_1, .slice A0_2 l0_2.length c0_2, .string a0_3, .int .i64 a0_4, .int .i64 a0_5]) (t := 62) ?_; intro gb291 hg w3 hbox hb; have BK291 := Aside0.mk (hbox); have GE291 := xge_ HB hg; replace HB := xws_ HB hb; clear hb hbox hg) | ((with_reducible refine gd_ 2 ?_); refine xbe_ (N := 2) (cs := #[.int .i64 0, .string (⟨#[]⟩ : ByteArray), .slice none 0 0, .string (⟨#[]⟩ : ByteArray), .int .i64 0, .int .i64 0]) (t := 69) ?_; intro gb292 hg w4 hbox hb; have BK292 := Aside0.mk (hbox); have GE292 := xge_ HB hg; replace HB := xws_ HB hb; have NB291_292 := xlt_ BK291 hg; have NB292_291 := xgt_ BK291 hg; replace BK291 := xbb_ BK291 hb; clear hb hbox hg) | ((with_reducible refine gd_ 3 ?_); refine xbe_ (N := 3) (cs := #[.int .i64 0, .string (⟨#[]⟩ : ByteArray), .slice none 0 0, .string (⟨#[]⟩ : ByteArray), .int .i64 0, .int .i64 0]) (t := 69) ?_; intro gb293 hg w5 hbox hb; have BK293 := Aside0.mk (hbox); have GE293 := xge_ HB hg; replace HB := xws_ HB hb; have NB291_293 := xlt_ BK291 hg; have NB293_291 := xgt_ BK291 hg; replace BK291 := xbb_ BK291 hb; have NB292_293 := xlt_ BK292 hg; have NB293_292 := xgt_ BK292 hg; replace BK292 := xbb_ BK292 hb; clear hb hbox hg; have hnb6 := NB291_292.out; have hnc6 := NB292_291.out; have hnb7 := NB291_293.out; have hnc7 := NB293_291.out; have ⟨_, _, _, _, _, _, _, _, _, _, _, _⟩ := c6_ BK291) | ((with_reducible refine gc_ 21 ?_); refine xgl_ (some 6) Tryz.func21 #[.agg #[.int .i64 a0_0, .string a0_1, .slice A0_2 l0_2.length c0_2, .string a0_3]] ?_; (with_reducible refine (laws_toResponse.calls k a0_0 a0_1 _ _ l0_2 a0_3 t294 t295 t296 t299 _ ?side1 ?side2 A2.out).mono ?_); (case side1 => exact xc_ ((Kd.C_below HR0_2.out HB.out))); (case side2 => exact HC0_2.out); rintro e w9 ⟨v297, rfl, ho0, hb⟩; refine ⟨_, rfl, ?_⟩; have HO298 := Aside0.mk (Kd.R_lower ho0 (below_size (xw_ HB))); replace BK291 := xbb_ BK291 hb; replace BK292 := xbb_ BK292 hb; replace BK293 := xbb_ BK293 hb; replace HB := xws_ HB hb; (try clear hb); (try clear ho0); have hnb10 := NB293_292.out; have hnc10 := NB292_293.out; have ⟨_, _, _, _, _, _, _, _, _, _, _, _⟩ := c6_ BK293; obtain ⟨Ao12, co12, eo12⟩ := Kd.R_slice HO298.out; subst eo12; have ⟨_, _, _, _, _, _, _, _, _, _, _, _⟩ := c6_ BK291; have ⟨_, _, _, _, _, _, _, _, _, _, _, _⟩ := c6_ BK292))
 refine bodyPost_ret (results_cell_row rfl _ _ gb292 69 #[.int .i64 t294, .string t295, .slice Ao12 t296.length co12, .string t299, .int .i64 a0_4, .int .i64 a0_5] (0, 0) _ rfl (mx_ BK292) Tryz.underlying69 rfl (by kernel_rfl)) rfl ?_
 exact ⟨_, mf_, by (with_reducible repeat (first | apply Kd.R_alloc | apply Kd.R_drewN | apply Kd.R_drew)); exact Kd.R_mono (Kd.R_far (p := ⟨gb292, 5, none⟩) (Kd.R_far (p := ⟨gb292, 4, none⟩) (Kd.R_far (p := ⟨gb292, 3, none⟩) (Kd.R_far (p := ⟨gb292, 2, none⟩) (Kd.R_far (p := ⟨gb292, 1, none⟩) (Kd.R_far (p := ⟨gb292, 0, none⟩) (Kd.R_far (p := ⟨gb293, 5, none⟩) (Kd.R_far (p := ⟨gb293, 4, none⟩) (Kd.R_far (p := ⟨gb293, 3, none⟩) (Kd.R_far (p := ⟨gb293, 2, none⟩) (Kd.R_far (p := ⟨gb293, 1, none⟩) (Kd.R_far (p := ⟨gb293, 0, none⟩) (Kd.R_types (Kd.R_types HO298.out BK293.out (by decide)) BK292.out (by decide)) (fun _ hk => hk.1.2) (.int .i64 t294)) (fun _ hk => hk.1.2) (.string t295)) (fun _ hk => hk.1.2) (.slice Ao12 t296.length co12)) (fun _ hk => hk.1.2) (.string t299)) (fun _ hk => hk.1.2) (.int .i64 a0_4)) (fun _ hk => hk.1.2) (.int .i64 a0_5)) (fun _ hk => hk.2) (.int .i64 t294)) (fun _ hk => hk.2) (.string t295)) (fun _ hk => hk.2) (.slice Ao12 t296.length co12)) (fun _ hk => hk.2) (.string t299)) (fun _ hk => hk.2) (.int .i64 a0_4)) (fun _ hk => hk.2) (.int .i64 a0_5)) (fun _ hk => trivial), xw_ HB⟩

/-! ### laws_toItem: function 30 -/
def laws_toItem.f (k : Nat) (a0_0 : ByteArray) (l0_1 : List (S97)) (a0_2 : Int) (a0_3 : ByteArray) (l0_4 : List (S97)) (a0_5 : ByteArray) (a0_6 : Int) (a0_7 : Int) : Option (ByteArray × (List (S105)) × Int × ByteArray × (List (S105)) × ByteArray × Int × Int) := (laws_toFieldS.f k l0_1).bind fun t303 => ((laws_toKept.f k a0_2 a0_3 l0_4 a0_5 a0_6 a0_7).bind fun bt306 => (some (a0_0, t303, bt306.1, bt306.2.1, bt306.2.2.1, bt306.2.2.2.1, bt306.2.2.2.2.1, bt306.2.2.2.2.2)))
set_option maxHeartbeats 8000000 in
set_option maxRecDepth 100000 in
theorem laws_toItem.calls (k : Nat) (a0_0 : ByteArray) (A0_1 : Option Addr) (c0_1 : Nat) (l0_1 : List (S97)) (a0_2 : Int) (a0_3 : ByteArray) (A0_4 : Option Addr) (c0_4 : Nat) (l0_4 : List (S97)) (a0_5 : ByteArray) (a0_6 : Int) (a0_7 : Int) (r1 : ByteArray) (r2 : List (S105)) (r3 : Int) (r4 : ByteArray) (r5 : List (S105)) (r6 : ByteArray) (r7 : Int) (r8 : Int) (w : World) (hr0_1 : Kd.C k97 w A0_1 l0_1.length l0_1) (hc0_1 : l0_1.length ≤ c0_1) (hr0_4 : Kd.C k97 w A0_4 l0_4.length l0_4) (hc0_4 : l0_4.length ≤ c0_4) (h : laws_toItem.f k a0_0 l0_1 a0_2 a0_3 l0_4 a0_5 a0_6 a0_7 = some (r1, r2, r3, r4, r5, r6, r7, r8)) :
  Calls Tryz.prog 30 #[.agg #[.string a0_0, .slice A0_1 l0_1.length c0_1, .int .i64 a0_2, .string a0_3, .slice A0_4 l0_4.length c0_4, .string a0_5, .int .i64 a0_6, .int .i64 a0_7]] w fun e w' => ∃ v1_ v4_ : Value, e = .returned (.agg #[.string r1, v1_, .int .i64 r3, .string r4, v4_, .string r6, .int .i64 r7, .int .i64 r8]) ∧ Kd.R k105 105 w' w.heap.size (fun k_ => some k_ ≠ (v4_ : Value).ownBlock) v1_ r2 ∧ Kd.R k105 105 w' w.heap.size (fun k_ => some k_ ≠ (v1_ : Value).ownBlock) v4_ r5 ∧ Below w.heap.size w w' := by
 have hu64 := Tryz.underlying64
 have hu71 := Tryz.underlying71
 have hu62 := Tryz.underlying62
 have hu69 := Tryz.underlying69
 have HR0_1 := Aside0.mk hr0_1
 have HC0_1 := Aside0.mk hc0_1
 clear hr0_1 hc0_1
 have HR0_4 := Aside0.mk hr0_4
 have HC0_4 := Aside0.mk hc0_4
 clear hr0_4 hc0_4
 have HB := Aside0.mk (Below.refl w.heap.size w)
 have H := h
 unfold laws_toItem.f at H
 clear h
 replace H := mb_ H
 obtain ⟨t303, A2, H⟩ := H
 replace H := mb_ H
 obtain ⟨⟨t306, t307, t308, t311, t312, t313⟩, A3, H⟩ := H
 dsimp only at H
 simp only [Option.some.injEq, Prod.mk.injEq] at H
 obtain ⟨rfl, rfl, rfl, rfl, rfl, rfl, rfl, rfl⟩ := H
 go_enter Tryz.func30, Tryz.ntmps30
 go_wp2_with (first | ((with_reducible refine gd_ 1 ?_); refine xbe_ (N := 1) (cs := #[.string a0_0, .slice A0_1 l0_1.length c0_1, .int .i64 a0_2, .string a0_3, .slice A0_4 l0_4.length c0_4, .string a0_5, .int .i64 a0_6, .int .i64 a0_7]) (t := 64) ?_; intro gb300 hg w4 hbox hb; have BK300 := Aside0.mk (hbox); have GE300 := xge_ HB hg; replace HB := xws_ HB hb; clear hb hbox hg) | ((with_reducible refine gd_ 2 ?_); refine xbe_ (N := 2) (cs := #[.string (⟨#[]⟩ : ByteArray), .slice none 0 0, .int .i64 0, .string (⟨#[]⟩ : ByteArray), .slice none 0 0, .string (⟨#[]⟩ : ByteArray), .int .i64 0, .int .i64 0]) (t := 71) ?_; intro gb301 hg w5 hbox hb; have BK301 := Aside0.mk (hbox); have GE301 := xge_ HB hg; replace HB := xws_ HB hb; have NB300_301 := xlt_ BK300 hg; have NB301_300 := xgt_ BK300 hg; replace BK300 := xbb_ BK300 hb; clear hb hbox hg) | ((with_reducible refine gd_ 3 ?_); refine xbe_ (N := 3) (cs := #[.string (⟨#[]⟩ : ByteArray), .slice none 0 0, .int .i64 0, .string (⟨#[]⟩ : ByteArray), .slice none 0 0, .string (⟨#[]⟩ : ByteArray), .int .i64 0, .int .i64 0]) (t := 71) ?_; intro gb302 hg w6 hbox hb; have BK302 := Aside0.mk (hbox); have GE302 := xge_ HB hg; replace HB := xws_ HB hb; have NB300_302 := xlt_ BK300 hg; have NB302_300 := xgt_ BK300 hg; replace BK300 := xbb_ BK300 hb; have NB301_302 := xlt_ BK301 hg; have NB302_301 := xgt_ BK301 hg; replace BK301 := xbb_ BK301 hb; clear hb hbox hg; have hnb7 := NB300_301.out; have hnc7 := NB301_300.out; have hnb8 := NB300_302.out; have hnc8 := NB302_300.out; have ⟨_, _, _, _, _, _, _, _, _, _, _, _, _, _, _, _⟩ := c8_ BK300; have hnb10 := NB302_301.out; have hnc10 := NB301_302.out; have ⟨_, _, _, _, _, _, _, _, _, _, _, _, _, _, _, _⟩ := c8_ BK302) | ((with_reducible refine gc_ 37 ?_); refine xgl_ (some 9) Tryz.func37 #[.slice A0_1 l0_1.length c0_1] ?_; (with_reducible refine (laws_toFieldS.calls k _ _ l0_1 t303 _ ?side1 ?side2 A2.out).mono ?_); (case side1 => exact Kd.C_below HR0_1.out (xw_ HB)); (case side2 => exact HC0_1.out); rintro e w12 ⟨v304, rfl, ho0, hb⟩; refine ⟨_, rfl, ?_⟩; have HO305 := Aside0.mk (Kd.R_lower ho0 (below_size (xw_ HB))); replace BK300 := mxb_ (o' := .cells #[.string a0_0, .slice A0_1 l0_1.length c0_1, .int .i64 a0_2, .string a0_3, .slice A0_4 l0_4.length c0_4, .string a0_5, .int .i64 a0_6, .int .i64 a0_7] 64 (0, 0)) BK300 hb; replace BK301 := mxb_ (o' := .cells #[.string (⟨#[]⟩ : ByteArray), .slice none 0 0, .int .i64 0, .string (⟨#[]⟩ : ByteArray), .slice none 0 0, .string (⟨#[]⟩ : ByteArray), .int .i64 0, .int .i64 0] 71 (0, 0)) BK301 hb; replace BK302 := mxb_ (o' := .cells #[.string a0_0, .slice none 0 0, .int .i64 0, .string (⟨#[]⟩ : ByteArray), .slice none 0 0, .string (⟨#[]⟩ : ByteArray), .int .i64 0, .int .i64 0] 71 (0, 0)) BK302 hb; replace HB := xws_ HB hb; (try clear hb); (try clear ho0); obtain ⟨Ao13, co13, eo13⟩ := Kd.R_slice HO305.out; subst eo13; have ⟨_, _, _, _, _, _, _, _, _, _, _, _, _, _, _, _⟩ := c8_ BK302; have ⟨_, _, _, _, _, _, _, _, _, _, _, _, _, _, _, _⟩ := c8_ BK300) | ((with_reducible refine gc_ 56 ?_); refine xgl_ (some 13) Tryz.func56 #[.agg #[.int .i64 a0_2, .string a0_3, .slice A0_4 l0_4.length c0_4, .string a0_5, .int .i64 a0_6, .int .i64 a0_7]] ?_; (with_reducible refine (laws_toKept.calls k a0_2 a0_3 _ _ l0_4 a0_5 a0_6 a0_7 t306 t307 t308 t311 t312 t313 _ ?side1 ?side2 A3.out).mono ?_); (case side1 => exact Kd.C_below HR0_4.out (xw_ HB)); (case side2 => exact HC0_4.out); rintro e w16 ⟨v309, rfl, ho0, hb⟩; refine ⟨_, rfl, ?_⟩; have HO310 := Aside0.mk (Kd.R_lower (Kd.R_new' ho0 (Kd.R_lt (xrt_ ((Kd.R_mono (Kd.R_far (p := ⟨gb302, 1, none⟩) (Kd.R_types HO305.out BK302.out (by decide)) (fun _ hk => hk.2) (.slice Ao13 t303.length co13)) (fun _ h_ => h_.1)))))) (below_size (xw_ HB))); replace HO305 := Aside0.mk (Kd.R_elder' (xrt_ ((Kd.R_mono (Kd.R_far (p := ⟨gb302, 1, none⟩) (Kd.R_types HO305.out BK302.out (by decide)) (fun _ hk => hk.2) (.slice Ao13 t303.length co13)) (fun _ h_ => h_.1)))) (Kd.R_base ho0) hb); replace BK300 := mxb_ (o' := .cells #[.string a0_0, .slice A0_1 l0_1.length c0_1, .int .i64 a0_2, .string a0_3, .slice A0_4 l0_4.length c0_4, .string a0_5, .int .i64 a0_6, .int .i64 a0_7] 64 (0, 0)) BK300 hb; replace BK301 := mxb_ (o' := .cells #[.string (⟨#[]⟩ : ByteArray), .slice none 0 0, .int .i64 0, .string (⟨#[]⟩ : ByteArray), .slice none 0 0, .string (⟨#[]⟩ : ByteArray), .int .i64 0, .int .i64 0] 71 (0, 0)) BK301 hb; replace BK302 := mxb_ (o' := .cells #[.string a0_0, .slice Ao13 t303.length co13, .int .i64 0, .string (⟨#[]⟩ : ByteArray), .slice none 0 0, .string (⟨#[]⟩ : ByteArray), .int .i64 0, .int .i64 0] 71 (0, 0)) BK302 hb; replace HB := xws_ HB hb; (try clear hb); (try clear ho0); have ⟨_, _, _, _, _, _, _, _, _, _, _, _, _, _, _, _⟩ := c8_ BK302; obtain ⟨Ao18, co18, eo18⟩ := Kd.R_slice HO310.out; subst eo18; have ⟨_, _, _, _, _, _, _, _, _, _, _, _, _, _, _, _⟩ := c8_ BK301))
 refine bodyPost_ret (results_cell_row rfl _ _ gb301 71 #[.string a0_0, .slice Ao13 t303.length co13, .int .i64 t306, .string t307, .slice Ao18 t308.length co18, .string t311, .int .i64 t312, .int .i64 t313] (0, 0) _ rfl (mx_ BK301) Tryz.underlying71 rfl (by kernel_rfl)) rfl ?_
 exact ⟨_, _, mf_, by (with_reducible repeat (first | apply Kd.R_alloc | apply Kd.R_drewN | apply Kd.R_drew)); exact Kd.R_mono (Kd.R_far (p := ⟨gb301, 7, none⟩) (Kd.R_far (p := ⟨gb301, 6, none⟩) (Kd.R_far (p := ⟨gb301, 5, none⟩) (Kd.R_far (p := ⟨gb301, 4, none⟩) (Kd.R_far (p := ⟨gb301, 3, none⟩) (Kd.R_far (p := ⟨gb301, 2, none⟩) (Kd.R_far (p := ⟨gb301, 1, none⟩) (Kd.R_far (p := ⟨gb301, 0, none⟩) (Kd.R_far (p := ⟨gb302, 7, none⟩) (Kd.R_far (p := ⟨gb302, 6, none⟩) (Kd.R_far (p := ⟨gb302, 5, none⟩) (Kd.R_far (p := ⟨gb302, 4, none⟩) (Kd.R_far (p := ⟨gb302, 3, none⟩) (Kd.R_far (p := ⟨gb302, 2, none⟩) (Kd.R_types (Kd.R_types HO305.out BK302.out (by decide)) BK301.out (by decide)) (fun _ hk => hk.1.2) (.int .i64 t306)) (fun _ hk => hk.1.2) (.string t307)) (fun _ hk => hk.1.2) (.slice Ao18 t308.length co18)) (fun _ hk => hk.1.2) (.string t311)) (fun _ hk => hk.1.2) (.int .i64 t312)) (fun _ hk => hk.1.2) (.int .i64 t313)) (fun _ hk => hk.2) (.string a0_0)) (fun _ hk => hk.2) (.slice Ao13 t303.length co13)) (fun _ hk => hk.2) (.int .i64 t306)) (fun _ hk => hk.2) (.string t307)) (fun _ hk => hk.2) (.slice Ao18 t308.length co18)) (fun _ hk => hk.2) (.string t311)) (fun _ hk => hk.2) (.int .i64 t312)) (fun _ hk => hk.2) (.int .i64 t313)) (fun _ hk => hk.1.1.2), by (with_reducible repeat (first | apply Kd.R_alloc | apply Kd.R_drewN | apply Kd.R_drew)); exact Kd.R_mono (Kd.R_far (p := ⟨gb301, 7, none⟩) (Kd.R_far (p := ⟨gb301, 6, none⟩) (Kd.R_far (p := ⟨gb301, 5, none⟩) (Kd.R_far (p := ⟨gb301, 4, none⟩) (Kd.R_far (p := ⟨gb301, 3, none⟩) (Kd.R_far (p := ⟨gb301, 2, none⟩) (Kd.R_far (p := ⟨gb301, 1, none⟩) (Kd.R_far (p := ⟨gb301, 0, none⟩) (Kd.R_far (p := ⟨gb302, 7, none⟩) (Kd.R_far (p := ⟨gb302, 6, none⟩) (Kd.R_far (p := ⟨gb302, 5, none⟩) (Kd.R_far (p := ⟨gb302, 4, none⟩) (Kd.R_far (p := ⟨gb302, 3, none⟩) (Kd.R_far (p := ⟨gb302, 2, none⟩) (Kd.R_types (Kd.R_types HO310.out BK302.out (by decide)) BK301.out (by decide)) (fun _ hk => hk.1.2) (.int .i64 t306)) (fun _ hk => hk.1.2) (.string t307)) (fun _ hk => hk.1.2) (.slice Ao18 t308.length co18)) (fun _ hk => hk.1.2) (.string t311)) (fun _ hk => hk.1.2) (.int .i64 t312)) (fun _ hk => hk.1.2) (.int .i64 t313)) (fun _ hk => hk.2) (.string a0_0)) (fun _ hk => hk.2) (.slice Ao13 t303.length co13)) (fun _ hk => hk.2) (.int .i64 t306)) (fun _ hk => hk.2) (.string t307)) (fun _ hk => hk.2) (.slice Ao18 t308.length co18)) (fun _ hk => hk.2) (.string t311)) (fun _ hk => hk.2) (.int .i64 t312)) (fun _ hk => hk.2) (.int .i64 t313)) (fun _ hk => hk.1.1.2), xw_ HB⟩

/-! ### impl_within: function 119 -/
def impl_within.f (a0 : Int) (a1 : Int) (a2 : Int) : Option (Bool) := if a1 ≤ a0 then (some (decide (a0 ≤ a2))) else (some false)
set_option maxHeartbeats 8000000 in
set_option maxRecDepth 100000 in
theorem impl_within.calls (a0 : Int) (a1 : Int) (a2 : Int) (r : Bool) (w : World) (h : impl_within.f a0 a1 a2 = some r) :
  Calls Tryz.prog 119 #[.int .i64 a0, .int .i64 a1, .int .i64 a2] w fun e w' => e = .returned (.bool r) ∧ Drawn0 w w' := by
 have H := h
 unfold impl_within.f at H
 clear h
 by_cases c4 : a1 ≤ a0
 ·rw [if_pos c4] at H
  have c4b0 := decide_eq_true c4
  clear c4
  obtain rfl := Option.some.inj H
  go_enter Tryz.func119, Tryz.ntmps119
  go_wp2
  go_ret
  exact ⟨by first | rfl | (simp; done) | (simp [*]; done), by repeat (first | exact Drawn0.refl _ | apply Drawn0.step)⟩
 ·rw [if_neg c4] at H
  have c4b0 := decide_eq_false c4
  clear c4
  obtain rfl := Option.some.inj H
  go_enter Tryz.func119, Tryz.ntmps119
  go_wp2
  go_ret
  exact ⟨by first | rfl | (simp; done) | (simp [*]; done), by repeat (first | exact Drawn0.refl _ | apply Drawn0.step)⟩

/-! ### impl_isLetter: function 159 -/
def impl_isLetter.f (a0 : Int) : Option (Bool) := if (Go.bits .or .u8 a0 32) ≥ 97 then (some (decide ((Go.bits .or .u8 a0 32) ≤ 122))) else (some false)
set_option maxHeartbeats 8000000 in
set_option maxRecDepth 100000 in
theorem impl_isLetter.calls (a0 : Int) (r : Bool) (w : World) (h : impl_isLetter.f a0 = some r) :
  Calls Tryz.prog 159 #[.int .u8 a0] w fun e w' => e = .returned (.bool r) ∧ Drawn0 w w' := by
 have H := h
 unfold impl_isLetter.f at H
 clear h
 by_cases c2 : (Go.bits .or .u8 a0 32) ≥ 97
 ·rw [if_pos c2] at H
  have c2b0 : decide (97 ≤ (Go.bits .or .u8 a0 32)) = true := decide_eq_true c2
  clear c2
  obtain rfl := Option.some.inj H
  go_enter Tryz.func159, Tryz.ntmps159
  go_wp2
  go_ret
  exact ⟨by first | rfl | (simp; done) | (simp [*]; done), by repeat (first | exact Drawn0.refl _ | apply Drawn0.step)⟩
 ·rw [if_neg c2] at H
  have c2b0 : decide (97 ≤ (Go.bits .or .u8 a0 32)) = false := decide_eq_false c2
  clear c2
  obtain rfl := Option.some.inj H
  go_enter Tryz.func159, Tryz.ntmps159
  go_wp2
  go_ret
  exact ⟨by first | rfl | (simp; done) | (simp [*]; done), by repeat (first | exact Drawn0.refl _ | apply Drawn0.step)⟩

/-! ### impl_isDigit: function 160 -/
def impl_isDigit.f (a0 : Int) : Option (Bool) := if a0 ≥ 48 then (some (decide (a0 ≤ 57))) else (some false)
set_option maxHeartbeats 8000000 in
set_option maxRecDepth 100000 in
theorem impl_isDigit.calls (a0 : Int) (r : Bool) (w : World) (h : impl_isDigit.f a0 = some r) :
  Calls Tryz.prog 160 #[.int .u8 a0] w fun e w' => e = .returned (.bool r) ∧ Drawn0 w w' := by
 have H := h
 unfold impl_isDigit.f at H
 clear h
 by_cases c2 : a0 ≥ 48
 ·rw [if_pos c2] at H
  have c2b0 : decide (48 ≤ a0) = true := decide_eq_true c2
  clear c2
  obtain rfl := Option.some.inj H
  go_enter Tryz.func160, Tryz.ntmps160
  go_wp2
  go_ret
  exact ⟨by first | rfl | (simp; done) | (simp [*]; done), by repeat (first | exact Drawn0.refl _ | apply Drawn0.step)⟩
 ·rw [if_neg c2] at H
  have c2b0 : decide (48 ≤ a0) = false := decide_eq_false c2
  clear c2
  obtain rfl := Option.some.inj H
  go_enter Tryz.func160, Tryz.ntmps160
  go_wp2
  go_ret
  exact ⟨by first | rfl | (simp; done) | (simp [*]; done), by repeat (first | exact Drawn0.refl _ | apply Drawn0.step)⟩

/-! ### strings_IndexByte: function 161 -/
def strings_IndexByte.f (a0 : ByteArray) (a1 : Int) : Option (Int) := some (Lib.indexByte a0.data.toList a1.toNat.toUInt8)
theorem strings_IndexByte.calls (a0 : ByteArray) (a1 : Int) (r : Int) (w : World) (h : strings_IndexByte.f a0 a1 = some r) :
    Calls Tryz.prog 161 #[.string a0, .int .u8 a1] w fun e w' => e = .returned (.int .i64 r) ∧ Drawn0 w w' := by
  unfold strings_IndexByte.f at h
  obtain rfl := Option.some.inj h
  exact (Tryz.strings_IndexByte a0 a1 w).mono fun e w' hq => ⟨hq.1, by rw [hq.2]; exact Drawn0.refl _⟩

/-! ### impl_isAmong: function 122 -/
def impl_isAmong.f (a0 : Int) (a1 : ByteArray) : Option (Bool) := (impl_isLetter.f a0).bind fun t314 => (if t314 = true then (some true) else ((impl_isDigit.f a0).bind fun t315 => (if t315 = true then (some true) else ((strings_IndexByte.f a1 a0).bind fun t316 => (some (decide (t316 ≥ 0)))))))
set_option maxHeartbeats 8000000 in
set_option maxRecDepth 100000 in
theorem impl_isAmong.calls (a0 : Int) (a1 : ByteArray) (r : Bool) (w : World) (h : impl_isAmong.f a0 a1 = some r) :
  Calls Tryz.prog 122 #[.int .u8 a0, .string a1] w fun e w' => e = .returned (.bool r) ∧ Drawn0 w w' := by
 have H := h
 unfold impl_isAmong.f at H
 clear h
 replace H := mb_ H
 obtain ⟨t314, A3, H⟩ := H
 by_cases c4 : t314 = true
 ·subst c4
  rw [if_pos rfl] at H
  obtain rfl := Option.some.inj H
  go_enter Tryz.func122, Tryz.ntmps122
  go_wp2_with (first | ((with_reducible refine gc_ 159 ?_); refine xgl_ (some 6) Tryz.func159 #[.int .u8 a0] ?_; (with_reducible refine (impl_isLetter.calls a0 true _ A3.out).mono ?_); rintro e w' ⟨rfl, ⟨nd, rfl⟩⟩; refine ⟨_, rfl, ?_⟩))
  go_ret
  exact ⟨by first | rfl | (simp; done) | (simp [*]; done), by repeat (first | exact Drawn0.refl _ | apply Drawn0.step)⟩
 ·replace c4 := Bool.eq_false_iff.mpr c4
  subst c4
  rw [if_neg (show ¬ (false = true) by decide)] at H
  replace H := mb_ H
  obtain ⟨t315, A5, H⟩ := H
  by_cases c6 : t315 = true
  ·subst c6
   rw [if_pos rfl] at H
   obtain rfl := Option.some.inj H
   go_enter Tryz.func122, Tryz.ntmps122
   go_wp2_with (first | ((with_reducible refine gc_ 159 ?_); refine xgl_ (some 6) Tryz.func159 #[.int .u8 a0] ?_; (with_reducible refine (impl_isLetter.calls a0 false _ A3.out).mono ?_); rintro e w' ⟨rfl, ⟨nd, rfl⟩⟩; refine ⟨_, rfl, ?_⟩) | (go_at_call 160; (with_reducible refine (impl_isDigit.calls a0 true _ A5.out).mono ?_); rintro e w' ⟨rfl, ⟨nd, rfl⟩⟩))
   go_ret
   exact ⟨by first | rfl | (simp; done) | (simp [*]; done), by repeat (first | exact Drawn0.refl _ | apply Drawn0.step)⟩
  ·replace c6 := Bool.eq_false_iff.mpr c6
   subst c6
   rw [if_neg (show ¬ (false = true) by decide)] at H
   replace H := mb_ H
   obtain ⟨t316, A7, H⟩ := H
   obtain rfl := Option.some.inj H
   go_enter Tryz.func122, Tryz.ntmps122
   go_wp2_with (first | ((with_reducible refine gc_ 159 ?_); refine xgl_ (some 6) Tryz.func159 #[.int .u8 a0] ?_; (with_reducible refine (impl_isLetter.calls a0 false _ A3.out).mono ?_); rintro e w' ⟨rfl, ⟨nd, rfl⟩⟩; refine ⟨_, rfl, ?_⟩) | (go_at_call 160; (with_reducible refine (impl_isDigit.calls a0 false _ A5.out).mono ?_); rintro e w' ⟨rfl, ⟨nd, rfl⟩⟩) | (go_at_call 161; (with_reducible refine (strings_IndexByte.calls a1 a0 t316 _ A7.out).mono ?_); rintro e w' ⟨rfl, ⟨nd, rfl⟩⟩))
   go_ret
   exact ⟨by first | rfl | (simp; done) | (simp [*]; done), by repeat (first | exact Drawn0.refl _ | apply Drawn0.step)⟩

/-! ### impl_isToken_1: function 148 -/
def impl_isToken_1.f (a0 : Int) : Option (Bool) := (impl_isAmong.f a0 (⟨#[33, 35, 36, 37, 38, 39, 42, 43, 45, 46, 94, 95, 124, 126, 96]⟩ : ByteArray)).bind fun t317 => (some t317)
set_option maxHeartbeats 8000000 in
set_option maxRecDepth 100000 in
theorem impl_isToken_1.calls (a0 : Int) (r : Bool) (w : World) (h : impl_isToken_1.f a0 = some r) :
  Calls Tryz.prog 148 #[.int .u8 a0] w fun e w' => e = .returned (.bool r) ∧ Drawn0 w w' := by
 have H := h
 unfold impl_isToken_1.f at H
 clear h
 replace H := mb_ H
 obtain ⟨t317, A2, H⟩ := H
 obtain rfl := Option.some.inj H
 go_enter Tryz.func148, Tryz.ntmps148
 go_wp2_with (first | ((with_reducible refine gc_ 122 ?_); refine xgl_ (some 4) Tryz.func122 #[.int .u8 a0, .string (⟨#[33, 35, 36, 37, 38, 39, 42, 43, 45, 46, 94, 95, 124, 126, 96]⟩ : ByteArray)] ?_; (with_reducible refine (impl_isAmong.calls a0 (⟨#[33, 35, 36, 37, 38, 39, 42, 43, 45, 46, 94, 95, 124, 126, 96]⟩ : ByteArray) t317 _ A2.out).mono ?_); rintro e w' ⟨rfl, ⟨nd, rfl⟩⟩; refine ⟨_, rfl, ?_⟩))
 go_ret
 exact ⟨by first | rfl | (simp; done) | (simp [*]; done), by repeat (first | exact Drawn0.refl _ | apply Drawn0.step)⟩

end Go.Proofs.YtpggepjfhgalkaaGreatDoor.PFnExactMatches
