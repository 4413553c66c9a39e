-- Written by a program of this project (xprint.py) out of the translation; Lean checks it.
import Derived.Test.YtpggepjfhgalkaaGreatDoorPFnExactPickItemx0
import Derived.Test.YtpggepjfhgalkaaGreatDoorPFnExactPickItemx1
import Derived.Test.YtpggepjfhgalkaaGreatDoorPFnExactPickItemx6
import Derived.Test.YtpggepjfhgalkaaGreatDoorPFnExactPickItemx10
import Derived.Test.YtpggepjfhgalkaaGreatDoorPFnExactPickItemx11
namespace Go.Proofs.YtpggepjfhgalkaaGreatDoor.PFnExactPickItem
open Go.RowKit Go.Proofs.YtpggepjfhgalkaaGreatDoorW.PrintWords Go.Proofs.YtpggepjfhgalkaaGreatDoorW.PrintLast Go.Proofs.YtpggepjfhgalkaaGreatDoorW.PrintMore
attribute [local go_sem] max2_int min2_int max_two min_two max_three min_three max_four min_four   -- for this text's walks alone
set_option linter.unusedVariables false
set_option linter.unusedSimpArgs false

/-! ### spec_PickItem: function 15 -/
def spec_PickItem.f (k : Nat) (l0 : List (S71)) (a1 : ByteArray) (a2_0 : ByteArray) (a2_1 : ByteArray) (l2_2 : List (S105)) (a2_3 : ByteArray) : Option (Int × Bool) := (spec_l9Items.f k l0).bind fun t291 => (if t291 = true then ((spec_GoodRequest.f k a2_0 a2_1 l2_2 a2_3).bind fun t292 => (if t292 = true then ((spec_l9Pick.f k l0 a1 a2_0 a2_1 l2_2 a2_3).bind fun bt293 => (some (bt293.1, bt293.2))) else (some (0, false)))) else (some (0, false)))
set_option maxHeartbeats 8000000 in
set_option maxRecDepth 100000 in
theorem spec_PickItem.calls (k : Nat) (A0 : Option Addr) (c0 : Nat) (l0 : List (S71)) (a1 : ByteArray) (a2_0 : ByteArray) (a2_1 : ByteArray) (A2_2 : Option Addr) (c2_2 : Nat) (l2_2 : List (S105)) (a2_3 : ByteArray) (r1 : Int) (r2 : Bool) (w : World) (hr0 : Kd.C k71 w A0 l0.length l0) (hc0 : l0.length ≤ c0) (hr2_2 : Kd.C k105 w A2_2 l2_2.length l2_2) (hc2_2 : l2_2.length ≤ c2_2) (h : spec_PickItem.f k l0 a1 a2_0 a2_1 l2_2 a2_3 = some (r1, r2)) :
  Calls Tryz.prog 15 #[.slice A0 l0.length c0, .string a1, .agg #[.string a2_0, .string a2_1, .slice A2_2 l2_2.length c2_2, .string a2_3]] w fun e w' => e = .returned (.tuple #[.int .i64 r1, .bool r2]) ∧ Below w.heap.size w w' := by
 have hu35 := Tryz.underlying35
 have HR0 := Aside0.mk hr0
 have HC0 := Aside0.mk hc0
 clear hr0 hc0
 have HR2_2 := Aside0.mk hr2_2
 have HC2_2 := Aside0.mk hc2_2
 clear hr2_2 hc2_2
 have HB := Aside0.mk (Below.refl w.heap.size w)
 have H := h
 unfold spec_PickItem.f at H
 clear h
 replace H := mb_ H
 obtain ⟨t291, A4, H⟩ := H
 by_cases c5 : t291 = true
 ·subst c5
  rw [if_pos rfl] at H
  replace H := mb_ H
  obtain ⟨t292, A6, H⟩ := H
  by_cases c7 : t292 = true
  ·subst c7
   rw [if_pos rfl] at H
   replace H := mb_ H
   obtain ⟨⟨t293, t294⟩, A8, H⟩ := H
   dsimp only at H
   simp only [Option.some.injEq, Prod.mk.injEq] at H
   obtain ⟨rfl, rfl⟩ := H
   go_enter Tryz.func15, Tryz.ntmps15
   go_wp2_with (first | ((with_reducible refine gd_ 5 ?_); refine xbe_ (N := 5) (cs := #[.string a2_0, .string a2_1, .slice A2_2 l2_2.length c2_2, .string a2_3]) (t := 35) ?_; intro gb290 hg w9 hbox hb; have BK290 := Aside0.mk (hbox); have GE290 := xge_ HB hg; replace HB := xws_ HB hb; clear hb hbox hg) | ((with_reducible refine gc_ 43 ?_); refine xgl_ (some 9) Tryz.func43 #[.slice A0 l0.length c0] ?_; (with_reducible refine (spec_l9Items.calls k _ _ l0 true _ ?side1 ?side2 A4.out).mono ?_); (case side1 => exact xc_ ((Kd.C_below HR0.out HB.out))); (case side2 => exact HC0.out); rintro e w10 ⟨rfl, hb⟩; refine ⟨_, rfl, ?_⟩; replace BK290 := xbb_ BK290 hb; replace HB := xws_ HB hb; (try clear hb); have ⟨_, _, _, _, _, _, _, _⟩ := c4_ BK290) | (go_at_call 35; (with_reducible refine (spec_GoodRequest.calls k a2_0 a2_1 _ _ l2_2 a2_3 true _ ?side1 ?side2 A6.out).mono ?_); (case side1 => exact xc_ ((Kd.C_below HR2_2.out HB.out))); (case side2 => exact HC2_2.out); rintro e w12 ⟨rfl, hb⟩; replace BK290 := xbb_ BK290 hb; replace HB := xws_ HB hb; (try clear hb); have ⟨_, _, _, _, _, _, _, _⟩ := c4_ BK290) | ((with_reducible refine gc_ 44 ?_); refine xgl_ (some 19) Tryz.func44 #[.slice A0 l0.length c0, .string a1, .agg #[.string a2_0, .string a2_1, .slice A2_2 l2_2.length c2_2, .string a2_3]] ?_; (with_reducible refine (spec_l9Pick.calls k _ _ l0 a1 a2_0 a2_1 _ _ l2_2 a2_3 t293 t294 _ ?side1 ?side2 ?side3 ?side4 A8.out).mono ?_); (case side1 => exact xc_ ((Kd.C_below HR0.out HB.out))); (case side2 => exact HC0.out); (case side3 => exact xc_ ((Kd.C_below HR2_2.out HB.out))); (case side4 => exact HC2_2.out); rintro e w14 ⟨rfl, hb⟩; refine ⟨_, rfl, ?_⟩; replace BK290 := xbb_ BK290 hb; replace HB := xws_ HB hb; (try clear hb)))
   go_ret2
   exact ⟨mf_, xw_ HB⟩
  ·replace c7 := Bool.eq_false_iff.mpr c7
   subst c7
   rw [if_neg (show ¬ (false = true) by decide)] at H
   simp only [Option.some.injEq, Prod.mk.injEq] at H
   obtain ⟨rfl, rfl⟩ := H
   go_enter Tryz.func15, Tryz.ntmps15
   go_wp2_with (first | ((with_reducible refine gd_ 5 ?_); refine xbe_ (N := 5) (cs := #[.string a2_0, .string a2_1, .slice A2_2 l2_2.length c2_2, .string a2_3]) (t := 35) ?_; intro gb290 hg w15 hbox hb; have BK290 := Aside0.mk (hbox); have GE290 := xge_ HB hg; replace HB := xws_ HB hb; clear hb hbox hg) | ((with_reducible refine gc_ 43 ?_); refine xgl_ (some 9) Tryz.func43 #[.slice A0 l0.length c0] ?_; (with_reducible refine (spec_l9Items.calls k _ _ l0 true _ ?side1 ?side2 A4.out).mono ?_); (case side1 => exact xc_ ((Kd.C_below HR0.out HB.out))); (case side2 => exact HC0.out); rintro e w16 ⟨rfl, hb⟩; refine ⟨_, rfl, ?_⟩; replace BK290 := xbb_ BK290 hb; replace HB := xws_ HB hb; (try clear hb); have ⟨_, _, _, _, _, _, _, _⟩ := c4_ BK290) | (go_at_call 35; (with_reducible refine (spec_GoodRequest.calls k a2_0 a2_1 _ _ l2_2 a2_3 false _ ?side1 ?side2 A6.out).mono ?_); (case side1 => exact xc_ ((Kd.C_below HR2_2.out HB.out))); (case side2 => exact HC2_2.out); rintro e w18 ⟨rfl, hb⟩; replace BK290 := xbb_ BK290 hb; replace HB := xws_ HB hb; (try clear hb)))
   go_ret2
   exact ⟨mf_, xw_ HB⟩
 ·replace c5 := Bool.eq_false_iff.mpr c5
  subst c5
  rw [if_neg (show ¬ (false = true) by decide)] at H
  simp only [Option.some.injEq, Prod.mk.injEq] at H
  obtain ⟨rfl, rfl⟩ := H
  go_enter Tryz.func15, Tryz.ntmps15
  go_wp2_with (first | ((with_reducible refine gd_ 5 ?_); refine xbe_ (N := 5) (cs := #[.string a2_0, .string a2_1, .slice A2_2 l2_2.length c2_2, .string a2_3]) (t := 35) ?_; intro gb290 hg w19 hbox hb; have BK290 := Aside0.mk (hbox); have GE290 := xge_ HB hg; replace HB := xws_ HB hb; clear hb hbox hg) | ((with_reducible refine gc_ 43 ?_); refine xgl_ (some 9) Tryz.func43 #[.slice A0 l0.length c0] ?_; (with_reducible refine (spec_l9Items.calls k _ _ l0 false _ ?side1 ?side2 A4.out).mono ?_); (case side1 => exact xc_ ((Kd.C_below HR0.out HB.out))); (case side2 => exact HC0.out); rintro e w20 ⟨rfl, hb⟩; refine ⟨_, rfl, ?_⟩; replace BK290 := xbb_ BK290 hb; replace HB := xws_ HB hb; (try clear hb)))
  go_ret2
  exact ⟨mf_, xw_ HB⟩

/-! ### laws_toResponse: function 21 -/
def laws_toResponse.f (k : Nat) (a0_0 : Int) (a0_1 : ByteArray) (l0_2 : List (S97)) (a0_3 : ByteArray) : Option (Int × ByteArray × (List (S105)) × ByteArray) := (laws_toFieldS.f k l0_2).bind fun t298 => (some (a0_0, a0_1, t298, a0_3))
set_option maxHeartbeats 8000000 in
set_option maxRecDepth 100000 in
theorem laws_toResponse.calls (k : Nat) (a0_0 : Int) (a0_1 : ByteArray) (A0_2 : Option Addr) (c0_2 : Nat) (l0_2 : List (S97)) (a0_3 : ByteArray) (r1 : Int) (r2 : ByteArray) (r3 : List (S105)) (r4 : ByteArray) (w : World) (hr0_2 : Kd.C k97 w A0_2 l0_2.length l0_2) (hc0_2 : l0_2.length ≤ c0_2) (h : laws_toResponse.f k a0_0 a0_1 l0_2 a0_3 = some (r1, r2, r3, r4)) :
  Calls Tryz.prog 21 #[.agg #[.int .i64 a0_0, .string a0_1, .slice A0_2 l0_2.length c0_2, .string a0_3]] w fun e w' => ∃ v2_ : Value, e = .returned (.agg #[.int .i64 r1, .string r2, v2_, .string r4]) ∧ Kd.R k105 105 w' w.heap.size (fun _ => True) v2_ r3 ∧ Below w.heap.size w w' := by
 have hu48 := Tryz.underlying48
 have hu54 := Tryz.underlying54
 have HR0_2 := Aside0.mk hr0_2
 have HC0_2 := Aside0.mk hc0_2
 clear hr0_2 hc0_2
 have HB := Aside0.mk (Below.refl w.heap.size w)
 have H := h
 unfold laws_toResponse.f at H
 clear h
 replace H := mb_ H
 obtain ⟨t298, A2, H⟩ := H
 simp only [Option.some.injEq, Prod.mk.injEq] at H
 obtain ⟨rfl, rfl, rfl, rfl⟩ := H
 go_enter Tryz.func21, Tryz.ntmps21
 go_wp2_with (first | ((with_reducible refine gd_ 1 ?_); refine xbe_ (N := 1) (cs := #[.int .i64 a0_0, .string a0_1, .slice A0_2 l0_2.length c0_2, .string a0_3]) (t := 48) ?_; intro gb295 hg w3 hbox hb; have BK295 := Aside0.mk (hbox); have GE295 := xge_ HB hg; replace HB := xws_ HB hb; clear hb hbox hg) | ((with_reducible refine gd_ 2 ?_); refine xbe_ (N := 2) (cs := #[.int .i64 0, .string (⟨#[]⟩ : ByteArray), .slice none 0 0, .string (⟨#[]⟩ : ByteArray)]) (t := 54) ?_; intro gb296 hg w4 hbox hb; have BK296 := Aside0.mk (hbox); have GE296 := xge_ HB hg; replace HB := xws_ HB hb; have NB295_296 := xlt_ BK295 hg; have NB296_295 := xgt_ BK295 hg; replace BK295 := xbb_ BK295 hb; clear hb hbox hg) | ((with_reducible refine gd_ 3 ?_); refine xbe_ (N := 3) (cs := #[.int .i64 0, .string (⟨#[]⟩ : ByteArray), .slice none 0 0, .string (⟨#[]⟩ : ByteArray)]) (t := 54) ?_; intro gb297 hg w5 hbox hb; have BK297 := Aside0.mk (hbox); have GE297 := xge_ HB hg; replace HB := xws_ HB hb; have NB295_297 := xlt_ BK295 hg; have NB297_295 := xgt_ BK295 hg; replace BK295 := xbb_ BK295 hb; have NB296_297 := xlt_ BK296 hg; have NB297_296 := xgt_ BK296 hg; replace BK296 := xbb_ BK296 hb; clear hb hbox hg; have hnb6 := NB295_296.out; have hnc6 := NB296_295.out; have hnb7 := NB295_297.out; have hnc7 := NB297_295.out; have ⟨_, _, _, _, _, _, _, _⟩ := c4_ BK295; have hnb9 := NB297_296.out; have hnc9 := NB296_297.out; have ⟨_, _, _, _, _, _, _, _⟩ := c4_ BK297) | ((with_reducible refine gc_ 37 ?_); refine xgl_ (some 12) Tryz.func37 #[.slice A0_2 l0_2.length c0_2] ?_; (with_reducible refine (laws_toFieldS.calls k _ _ l0_2 t298 _ ?side1 ?side2 A2.out).mono ?_); (case side1 => exact Kd.C_below HR0_2.out (xw_ HB)); (case side2 => exact HC0_2.out); rintro e w11 ⟨v299, rfl, ho0, hb⟩; refine ⟨_, rfl, ?_⟩; have HO300 := Aside0.mk (Kd.R_lower ho0 (below_size (xw_ HB))); replace BK295 := mxb_ (o' := .cells #[.int .i64 a0_0, .string a0_1, .slice A0_2 l0_2.length c0_2, .string a0_3] 48 (0, 0)) BK295 hb; replace BK296 := mxb_ (o' := .cells #[.int .i64 0, .string (⟨#[]⟩ : ByteArray), .slice none 0 0, .string (⟨#[]⟩ : ByteArray)] 54 (0, 0)) BK296 hb; replace BK297 := mxb_ (o' := .cells #[.int .i64 a0_0, .string a0_1, .slice none 0 0, .string (⟨#[]⟩ : ByteArray)] 54 (0, 0)) BK297 hb; replace HB := xws_ HB hb; (try clear hb); (try clear ho0); obtain ⟨Ao12, co12, eo12⟩ := Kd.R_slice HO300.out; subst eo12; have ⟨_, _, _, _, _, _, _, _⟩ := c4_ BK297; have ⟨_, _, _, _, _, _, _, _⟩ := c4_ BK295; have ⟨_, _, _, _, _, _, _, _⟩ := c4_ BK296))
 refine bodyPost_ret (results_cell_row rfl _ _ gb296 54 #[.int .i64 a0_0, .string a0_1, .slice Ao12 t298.length co12, .string a0_3] (0, 0) _ rfl (mx_ BK296) Tryz.underlying54 rfl (by kernel_rfl)) rfl ?_
 exact ⟨_, mf_, by (with_reducible repeat (first | apply Kd.R_alloc | apply Kd.R_drewN | apply Kd.R_drew)); exact Kd.R_mono (Kd.R_far (p := ⟨gb296, 3, none⟩) (Kd.R_far (p := ⟨gb296, 2, none⟩) (Kd.R_far (p := ⟨gb296, 1, none⟩) (Kd.R_far (p := ⟨gb296, 0, none⟩) (Kd.R_far (p := ⟨gb297, 3, none⟩) (Kd.R_far (p := ⟨gb297, 2, none⟩) (Kd.R_types (Kd.R_types HO300.out BK297.out (by decide)) BK296.out (by decide)) (fun _ hk => hk.1.2) (.slice Ao12 t298.length co12)) (fun _ hk => hk.1.2) (.string a0_3)) (fun _ hk => hk.2) (.int .i64 a0_0)) (fun _ hk => hk.2) (.string a0_1)) (fun _ hk => hk.2) (.slice Ao12 t298.length co12)) (fun _ hk => hk.2) (.string a0_3)) (fun _ hk => trivial), xw_ HB⟩

/-! ### laws_toKept: function 56 -/
def laws_toKept.f (k : Nat) (a0_0 : Int) (a0_1 : ByteArray) (l0_2 : List (S97)) (a0_3 : ByteArray) (a0_4 : Int) (a0_5 : Int) : Option (Int × ByteArray × (List (S105)) × ByteArray × Int × Int) := (laws_toResponse.f k a0_0 a0_1 l0_2 a0_3).bind fun bt304 => (some (bt304.1, bt304.2.1, bt304.2.2.1, bt304.2.2.2, a0_4, a0_5))
set_option maxHeartbeats 8000000 in
set_option maxRecDepth 100000 in
theorem laws_toKept.calls (k : Nat) (a0_0 : Int) (a0_1 : ByteArray) (A0_2 : Option Addr) (c0_2 : Nat) (l0_2 : List (S97)) (a0_3 : ByteArray) (a0_4 : Int) (a0_5 : Int) (r1 : Int) (r2 : ByteArray) (r3 : List (S105)) (r4 : ByteArray) (r5 : Int) (r6 : Int) (w : World) (hr0_2 : Kd.C k97 w A0_2 l0_2.length l0_2) (hc0_2 : l0_2.length ≤ c0_2) (h : laws_toKept.f k a0_0 a0_1 l0_2 a0_3 a0_4 a0_5 = some (r1, r2, r3, r4, r5, r6)) :
  Calls Tryz.prog 56 #[.agg #[.int .i64 a0_0, .string a0_1, .slice A0_2 l0_2.length c0_2, .string a0_3, .int .i64 a0_4, .int .i64 a0_5]] w fun e w' => ∃ v2_ : Value, e = .returned (.agg #[.int .i64 r1, .string r2, v2_, .string r4, .int .i64 r5, .int .i64 r6]) ∧ Kd.R k105 105 w' w.heap.size (fun _ => True) v2_ r3 ∧ Below w.heap.size w w' := by
 have hu62 := Tryz.underlying62
 have hu69 := Tryz.underlying69
 have hu48 := Tryz.underlying48
 have hu54 := Tryz.underlying54
 have HR0_2 := Aside0.mk hr0_2
 have HC0_2 := Aside0.mk hc0_2
 clear hr0_2 hc0_2
 have HB := Aside0.mk (Below.refl w.heap.size w)
 have H := h
 unfold laws_toKept.f at H
 clear h
 replace H := mb_ H
 obtain ⟨⟨t304, t305, t306, t309⟩, A2, H⟩ := H
 dsimp only at H
 simp only [Option.some.injEq, Prod.mk.injEq] at H
 obtain ⟨rfl, rfl, rfl, rfl, rfl, rfl⟩ := H
 go_enter Tryz.func56, Tryz.ntmps56
 go_wp2_with (first | ((with_reducible refine gd_ 1 ?_); refine xbe_ (N := 1) (cs := #[.int .i64 a0_0, .string a0_1, .slice A0_2 l0_2.length c0_2, .string a0_3, .int .i64 a0_4, .int .i64 a0_5]) (t := 62) ?_; intro gb301 hg w3 hbox hb; have BK301 := Aside0.mk (hbox); have GE301 := xge_ HB hg; replace HB := xws_ HB hb; clear hb hbox hg) | ((with_reducible refine gd_ 2 ?_); refine xbe_ (N := 2) (cs := #[.int .i64 0, .string (⟨#[]⟩ : ByteArray), .slice none 0 0, .string (⟨#[]⟩ : ByteArray), .int .i64 0, .int .i64 0]) (t := 69) ?_; intro gb302 hg w4 hbox hb; have BK302 := Aside0.mk (hbox); have GE302 := xge_ HB hg; replace HB := xws_ HB hb; have NB301_302 := xlt_ BK301 hg; have NB302_301 := xgt_ BK301 hg; replace BK301 := xbb_ BK301 hb; clear hb hbox hg) | ((with_reducible refine gd_ 3 ?_); refine xbe_ (N := 3) (cs := #[.int .i64 0, .string (⟨#[]⟩ : ByteArray), .slice none 0 0, .string (⟨#[]⟩ : ByteArray), .int .i64 0, .int .i64 0]) (t := 69) ?_; intro gb303 hg w5 hbox hb; have BK303 := Aside0.mk (hbox); have GE303 := xge_ HB hg; replace HB := xws_ HB hb; have NB301_303 := xlt_ BK301 hg; have NB303_301 := xgt_ BK301 hg; replace BK301 := xbb_ BK301 hb; have NB302_303 := xlt_ BK302 hg; have NB303_302 := xgt_ BK302 hg; replace BK302 := xbb_ BK302 hb; clear hb hbox hg; have hnb6 := NB301_302.out; have hnc6 := NB302_301.out; have hnb7 := NB301_303.out; have hnc7 := NB303_301.out; have ⟨_, _, _, _, _, _, _, _, _, _, _, _⟩ := c6_ BK301) | ((with_reducible refine gc_ 21 ?_); refine xgl_ (some 6) Tryz.func21 #[.agg #[.int .i64 a0_0, .string a0_1, .slice A0_2 l0_2.length c0_2, .string a0_3]] ?_; (with_reducible refine (laws_toResponse.calls k a0_0 a0_1 _ _ l0_2 a0_3 t304 t305 t306 t309 _ ?side1 ?side2 A2.out).mono ?_); (case side1 => exact xc_ ((Kd.C_below HR0_2.out HB.out))); (case side2 => exact HC0_2.out); rintro e w9 ⟨v307, rfl, ho0, hb⟩; refine ⟨_, rfl, ?_⟩; have HO308 := Aside0.mk (Kd.R_lower ho0 (below_size (xw_ HB))); replace BK301 := xbb_ BK301 hb; replace BK302 := xbb_ BK302 hb; replace BK303 := xbb_ BK303 hb; replace HB := xws_ HB hb; (try clear hb); (try clear ho0); have hnb10 := NB303_302.out; have hnc10 := NB302_303.out; have ⟨_, _, _, _, _, _, _, _, _, _, _, _⟩ := c6_ BK303; obtain ⟨Ao12, co12, eo12⟩ := Kd.R_slice HO308.out; subst eo12; have ⟨_, _, _, _, _, _, _, _, _, _, _, _⟩ := c6_ BK301; have ⟨_, _, _, _, _, _, _, _, _, _, _, _⟩ := c6_ BK302))
 refine bodyPost_ret (results_cell_row rfl _ _ gb302 69 #[.int .i64 t304, .string t305, .slice Ao12 t306.length co12, .string t309, .int .i64 a0_4, .int .i64 a0_5] (0, 0) _ rfl (mx_ BK302) Tryz.underlying69 rfl (by kernel_rfl)) rfl ?_
 exact ⟨_, mf_, by (with_reducible repeat (first | apply Kd.R_alloc | apply Kd.R_drewN | apply Kd.R_drew)); exact Kd.R_mono (Kd.R_far (p := ⟨gb302, 5, none⟩) (Kd.R_far (p := ⟨gb302, 4, none⟩) (Kd.R_far (p := ⟨gb302, 3, none⟩) (Kd.R_far (p := ⟨gb302, 2, none⟩) (Kd.R_far (p := ⟨gb302, 1, none⟩) (Kd.R_far (p := ⟨gb302, 0, none⟩) (Kd.R_far (p := ⟨gb303, 5, none⟩) (Kd.R_far (p := ⟨gb303, 4, none⟩) (Kd.R_far (p := ⟨gb303, 3, none⟩) (Kd.R_far (p := ⟨gb303, 2, none⟩) (Kd.R_far (p := ⟨gb303, 1, none⟩) (Kd.R_far (p := ⟨gb303, 0, none⟩) (Kd.R_types (Kd.R_types HO308.out BK303.out (by decide)) BK302.out (by decide)) (fun _ hk => hk.1.2) (.int .i64 t304)) (fun _ hk => hk.1.2) (.string t305)) (fun _ hk => hk.1.2) (.slice Ao12 t306.length co12)) (fun _ hk => hk.1.2) (.string t309)) (fun _ hk => hk.1.2) (.int .i64 a0_4)) (fun _ hk => hk.1.2) (.int .i64 a0_5)) (fun _ hk => hk.2) (.int .i64 t304)) (fun _ hk => hk.2) (.string t305)) (fun _ hk => hk.2) (.slice Ao12 t306.length co12)) (fun _ hk => hk.2) (.string t309)) (fun _ hk => hk.2) (.int .i64 a0_4)) (fun _ hk => hk.2) (.int .i64 a0_5)) (fun _ hk => trivial), xw_ HB⟩

/-! ### laws_toItem: function 30 -/
def laws_toItem.f (k : Nat) (a0_0 : ByteArray) (l0_1 : List (S97)) (a0_2 : Int) (a0_3 : ByteArray) (l0_4 : List (S97)) (a0_5 : ByteArray) (a0_6 : Int) (a0_7 : Int) : Option (ByteArray × (List (S105)) × Int × ByteArray × (List (S105)) × ByteArray × Int × Int) := (laws_toFieldS.f k l0_1).bind fun t313 => ((laws_toKept.f k a0_2 a0_3 l0_4 a0_5 a0_6 a0_7).bind fun bt316 => (some (a0_0, t313, bt316.1, bt316.2.1, bt316.2.2.1, bt316.2.2.2.1, bt316.2.2.2.2.1, bt316.2.2.2.2.2)))
set_option maxHeartbeats 8000000 in
set_option maxRecDepth 100000 in
theorem laws_toItem.calls (k : Nat) (a0_0 : ByteArray) (A0_1 : Option Addr) (c0_1 : Nat) (l0_1 : List (S97)) (a0_2 : Int) (a0_3 : ByteArray) (A0_4 : Option Addr) (c0_4 : Nat) (l0_4 : List (S97)) (a0_5 : ByteArray) (a0_6 : Int) (a0_7 : Int) (r1 : ByteArray) (r2 : List (S105)) (r3 : Int) (r4 : ByteArray) (r5 : List (S105)) (r6 : ByteArray) (r7 : Int) (r8 : Int) (w : World) (hr0_1 : Kd.C k97 w A0_1 l0_1.length l0_1) (hc0_1 : l0_1.length ≤ c0_1) (hr0_4 : Kd.C k97 w A0_4 l0_4.length l0_4) (hc0_4 : l0_4.length ≤ c0_4) (h : laws_toItem.f k a0_0 l0_1 a0_2 a0_3 l0_4 a0_5 a0_6 a0_7 = some (r1, r2, r3, r4, r5, r6, r7, r8)) :
  Calls Tryz.prog 30 #[.agg #[.string a0_0, .slice A0_1 l0_1.length c0_1, .int .i64 a0_2, .string a0_3, .slice A0_4 l0_4.length c0_4, .string a0_5, .int .i64 a0_6, .int .i64 a0_7]] w fun e w' => ∃ v1_ v4_ : Value, e = .returned (.agg #[.string r1, v1_, .int .i64 r3, .string r4, v4_, .string r6, .int .i64 r7, .int .i64 r8]) ∧ Kd.R k105 105 w' w.heap.size (fun k_ => some k_ ≠ (v4_ : Value).ownBlock) v1_ r2 ∧ Kd.R k105 105 w' w.heap.size (fun k_ => some k_ ≠ (v1_ : Value).ownBlock) v4_ r5 ∧ Below w.heap.size w w' := by
 have hu64 := Tryz.underlying64
 have hu71 := Tryz.underlying71
 have hu62 := Tryz.underlying62
 have hu69 := Tryz.underlying69
 have HR0_1 := Aside0.mk hr0_1
 have HC0_1 := Aside0.mk hc0_1
 clear hr0_1 hc0_1
 have HR0_4 := Aside0.mk hr0_4
 have HC0_4 := Aside0.mk hc0_4
 clear hr0_4 hc0_4
 have HB := Aside0.mk (Below.refl w.heap.size w)
 have H := h
 unfold laws_toItem.f at H
 clear h
 replace H := mb_ H
 obtain ⟨t313, A2, H⟩ := H
 replace H := mb_ H
 obtain ⟨⟨t316, t317, t318, t321, t322, t323⟩, A3, H⟩ := H
 dsimp only at H
 simp only [Option.some.injEq, Prod.mk.injEq] at H
 obtain ⟨rfl, rfl, rfl, rfl, rfl, rfl, rfl, rfl⟩ := H
 go_enter Tryz.func30, Tryz.ntmps30
 go_wp2_with (first | ((with_reducible refine gd_ 1 ?_); refine xbe_ (N := 1) (cs := #[.string a0_0, .slice A0_1 l0_1.length c0_1, .int .i64 a0_2, .string a0_3, .slice A0_4 l0_4.length c0_4, .string a0_5, .int .i64 a0_6, .int .i64 a0_7]) (t := 64) ?_; intro gb310 hg w4 hbox hb; have BK310 := Aside0.mk (hbox); have GE310 := xge_ HB hg; replace HB := xws_ HB hb; clear hb hbox hg) | ((with_reducible refine gd_ 2 ?_); refine xbe_ (N := 2) (cs := #[.string (⟨#[]⟩ : ByteArray), .slice none 0 0, .int .i64 0, .string (⟨#[]⟩ : ByteArray), .slice none 0 0, .string (⟨#[]⟩ : ByteArray), .int .i64 0, .int .i64 0]) (t := 71) ?_; intro gb311 hg w5 hbox hb; have BK311 := Aside0.mk (hbox); have GE311 := xge_ HB hg; replace HB := xws_ HB hb; have NB310_311 := xlt_ BK310 hg; have NB311_310 := xgt_ BK310 hg; replace BK310 := xbb_ BK310 hb; clear hb hbox hg) | ((with_reducible refine gd_ 3 ?_); refine xbe_ (N := 3) (cs := #[.string (⟨#[]⟩ : ByteArray), .slice none 0 0, .int .i64 0, .string (⟨#[]⟩ : ByteArray), .slice none 0 0, .string (⟨#[]⟩ : ByteArray), .int .i64 0, .int .i64 0]) (t := 71) ?_; intro gb312 hg w6 hbox hb; have BK312 := Aside0.mk (hbox); have GE312 := xge_ HB hg; replace HB := xws_ HB hb; have NB310_312 := xlt_ BK310 hg; have NB312_310 := xgt_ BK310 hg; replace BK310 := xbb_ BK310 hb; have NB311_312 := xlt_ BK311 hg; have NB312_311 := xgt_ BK311 hg; replace BK311 := xbb_ BK311 hb; clear hb hbox hg; have hnb7 := NB310_311.out; have hnc7 := NB311_310.out; have hnb8 := NB310_312.out; have hnc8 := NB312_310.out; have ⟨_, _, _, _, _, _, _, _, _, _, _, _, _, _, _, _⟩ := c8_ BK310; have hnb10 := NB312_311.out; have hnc10 := NB311_312.out; have ⟨_, _, _, _, _, _, _, _, _, _, _, _, _, _, _, _⟩ := c8_ BK312) | ((with_reducible refine gc_ 37 ?_); refine xgl_ (some 9) Tryz.func37 #[.slice A0_1 l0_1.length c0_1] ?_; (with_reducible refine (laws_toFieldS.calls k _ _ l0_1 t313 _ ?side1 ?side2 A2.out).mono ?_); (case side1 => exact Kd.C_below HR0_1.out (xw_ HB)); (case side2 => exact HC0_1.out); rintro e w12 ⟨v314, rfl, ho0, hb⟩; refine ⟨_, rfl, ?_⟩; have HO315 := Aside0.mk (Kd.R_lower ho0 (below_size (xw_ HB))); replace BK310 := mxb_ (o' := .cells #[.string a0_0, .slice A0_1 l0_1.length c0_1, .int .i64 a0_2, .string a0_3, .slice A0_4 l0_4.length c0_4, .string a0_5, .int .i64 a0_6, .int .i64 a0_7] 64 (0, 0)) BK310 hb; replace BK311 := mxb_ (o' := .cells #[.string (⟨#[]⟩ : ByteArray), .slice none 0 0, .int .i64 0, .string (⟨#[]⟩ : ByteArray), .slice none 0 0, .string (⟨#[]⟩ : ByteArray), .int .i64 0, .int .i64 0] 71 (0, 0)) BK311 hb; replace BK312 := mxb_ (o' := .cells #[.string a0_0, .slice none 0 0, .int .i64 0, .string (⟨#[]⟩ : ByteArray), .slice none 0 0, .string (⟨#[]⟩ : ByteArray), .int .i64 0, .int .i64 0] 71 (0, 0)) BK312 hb; replace HB := xws_ HB hb; (try clear hb); (try clear ho0); obtain ⟨Ao13, co13, eo13⟩ := Kd.R_slice HO315.out; subst eo13; have ⟨_, _, _, _, _, _, _, _, _, _, _, _, _, _, _, _⟩ := c8_ BK312; have ⟨_, _, _, _, _, _, _, _, _, _, _, _, _, _, _, _⟩ := c8_ BK310) | ((with_reducible refine gc_ 56 ?_); refine xgl_ (some 13) Tryz.func56 #[.agg #[.int .i64 a0_2, .string a0_3, .slice A0_4 l0_4.length c0_4, .string a0_5, .int .i64 a0_6, .int .i64 a0_7]] ?_; (with_reducible refine (laws_toKept.calls k a0_2 a0_3 _ _ l0_4 a0_5 a0_6 a0_7 t316 t317 t318 t321 t322 t323 _ ?side1 ?side2 A3.out).mono ?_); (case side1 => exact Kd.C_below HR0_4.out (xw_ HB)); (case side2 => exact HC0_4.out); rintro e w16 ⟨v319, rfl, ho0, hb⟩; refine ⟨_, rfl, ?_⟩; have HO320 := Aside0.mk (Kd.R_lower (Kd.R_new' ho0 (Kd.R_lt (xrt_ ((Kd.R_mono (Kd.R_far (p := ⟨gb312, 1, none⟩) (Kd.R_types HO315.out BK312.out (by decide)) (fun _ hk => hk.2) (.slice Ao13 t313.length co13)) (fun _ h_ => h_.1)))))) (below_size (xw_ HB))); replace HO315 := Aside0.mk (Kd.R_elder' (xrt_ ((Kd.R_mono (Kd.R_far (p := ⟨gb312, 1, none⟩) (Kd.R_types HO315.out BK312.out (by decide)) (fun _ hk => hk.2) (.slice Ao13 t313.length co13)) (fun _ h_ => h_.1)))) (Kd.R_base ho0) hb); replace BK310 := mxb_ (o' := .cells #[.string a0_0, .slice A0_1 l0_1.length c0_1, .int .i64 a0_2, .string a0_3, .slice A0_4 l0_4.length c0_4, .string a0_5, .int .i64 a0_6, .int .i64 a0_7] 64 (0, 0)) BK310 hb; replace BK311 := mxb_ (o' := .cells #[.string (⟨#[]⟩ : ByteArray), .slice none 0 0, .int .i64 0, .string (⟨#[]⟩ : ByteArray), .slice none 0 0, .string (⟨#[]⟩ : ByteArray), .int .i64 0, .int .i64 0] 71 (0, 0)) BK311 hb; replace BK312 := mxb_ (o' := .cells #[.string a0_0, .slice Ao13 t313.length co13, .int .i64 0, .string (⟨#[]⟩ : ByteArray), .slice none 0 0, .string (⟨#[]⟩ : ByteArray), .int .i64 0, .int .i64 0] 71 (0, 0)) BK312 hb; replace HB := xws_ HB hb; (try clear hb); (try clear ho0); have ⟨_, _, _, _, _, _, _, _, _, _, _, _, _, _, _, _⟩ := c8_ BK312; obtain ⟨Ao18, co18, eo18⟩ := Kd.R_slice HO320.out; subst eo18; have ⟨_, _, _, _, _, _, _, _, _, _, _, _, _, _, _, _⟩ := c8_ BK311))
 refine bodyPost_ret (results_cell_row rfl _ _ gb311 71 #[.string a0_0, .slice Ao13 t313.length co13, .int .i64 t316, .string t317, .slice Ao18 t318.length co18, .string t321, .int .i64 t322, .int .i64 t323] (0, 0) _ rfl (mx_ BK311) Tryz.underlying71 rfl (by kernel_rfl)) rfl ?_
 exact ⟨_, _, mf_, by (with_reducible repeat (first | apply Kd.R_alloc | apply Kd.R_drewN | apply Kd.R_drew)); exact Kd.R_mono (Kd.R_far (p := ⟨gb311, 7, none⟩) (Kd.R_far (p := ⟨gb311, 6, none⟩) (Kd.R_far (p := ⟨gb311, 5, none⟩) (Kd.R_far (p := ⟨gb311, 4, none⟩) (Kd.R_far (p := ⟨gb311, 3, none⟩) (Kd.R_far (p := ⟨gb311, 2, none⟩) (Kd.R_far (p := ⟨gb311, 1, none⟩) (Kd.R_far (p := ⟨gb311, 0, none⟩) (Kd.R_far (p := ⟨gb312, 7, none⟩) (Kd.R_far (p := ⟨gb312, 6, none⟩) (Kd.R_far (p := ⟨gb312, 5, none⟩) (Kd.R_far (p := ⟨gb312, 4, none⟩) (Kd.R_far (p := ⟨gb312, 3, none⟩) (Kd.R_far (p := ⟨gb312, 2, none⟩) (Kd.R_types (Kd.R_types HO315.out BK312.out (by decide)) BK311.out (by decide)) (fun _ hk => hk.1.2) (.int .i64 t316)) (fun _ hk => hk.1.2) (.string t317)) (fun _ hk => hk.1.2) (.slice Ao18 t318.length co18)) (fun _ hk => hk.1.2) (.string t321)) (fun _ hk => hk.1.2) (.int .i64 t322)) (fun _ hk => hk.1.2) (.int .i64 t323)) (fun _ hk => hk.2) (.string a0_0)) (fun _ hk => hk.2) (.slice Ao13 t313.length co13)) (fun _ hk => hk.2) (.int .i64 t316)) (fun _ hk => hk.2) (.string t317)) (fun _ hk => hk.2) (.slice Ao18 t318.length co18)) (fun _ hk => hk.2) (.string t321)) (fun _ hk => hk.2) (.int .i64 t322)) (fun _ hk => hk.2) (.int .i64 t323)) (fun _ hk => hk.1.1.2), by (with_reducible repeat (first | apply Kd.R_alloc | apply Kd.R_drewN | apply Kd.R_drew)); exact Kd.R_mono (Kd.R_far (p := ⟨gb311, 7, none⟩) (Kd.R_far (p := ⟨gb311, 6, none⟩) (Kd.R_far (p := ⟨gb311, 5, none⟩) (Kd.R_far (p := ⟨gb311, 4, none⟩) (Kd.R_far (p := ⟨gb311, 3, none⟩) (Kd.R_far (p := ⟨gb311, 2, none⟩) (Kd.R_far (p := ⟨gb311, 1, none⟩) (Kd.R_far (p := ⟨gb311, 0, none⟩) (Kd.R_far (p := ⟨gb312, 7, none⟩) (Kd.R_far (p := ⟨gb312, 6, none⟩) (Kd.R_far (p := ⟨gb312, 5, none⟩) (Kd.R_far (p := ⟨gb312, 4, none⟩) (Kd.R_far (p := ⟨gb312, 3, none⟩) (Kd.R_far (p := ⟨gb312, 2, none⟩) (Kd.R_types (Kd.R_types HO320.out BK312.out (by decide)) BK311.out (by decide)) (fun _ hk => hk.1.2) (.int .i64 t316)) (fun _ hk => hk.1.2) (.string t317)) (fun _ hk => hk.1.2) (.slice Ao18 t318.length co18)) (fun _ hk => hk.1.2) (.string t321)) (fun _ hk => hk.1.2) (.int .i64 t322)) (fun _ hk => hk.1.2) (.int .i64 t323)) (fun _ hk => hk.2) (.string a0_0)) (fun _ hk => hk.2) (.slice Ao13 t313.length co13)) (fun _ hk => hk.2) (.int .i64 t316)) (fun _ hk => hk.2) (.string t317)) (fun _ hk => hk.2) (.slice Ao18 t318.length co18)) (fun _ hk => hk.2) (.string t321)) (fun _ hk => hk.2) (.int .i64 t322)) (fun _ hk => hk.2) (.int .i64 t323)) (fun _ hk => hk.1.1.2), xw_ HB⟩

/-! ### laws_toItemS: function 16 -/
def laws_toItemS.l0 : Nat → List (S64) → List (S71) → Int → Option ((List (S71)))
 | 0, _, _, _ => none
 | k + 1, x0, x3, x4 => if x4 < (x0.length : Int) then (if 0 ≤ x4 then ((laws_toItem.f k ((rd_T64 x0 x4).f0) ((rd_T64 x0 x4).f1) ((rd_T64 x0 x4).f2.f0.f0) ((rd_T64 x0 x4).f2.f0.f1) ((rd_T64 x0 x4).f2.f0.f2) ((rd_T64 x0 x4).f2.f0.f3) ((rd_T64 x0 x4).f2.f1) ((rd_T64 x0 x4).f2.f2)).bind fun bt328 => (if x4 < (x3.length : Int) then (laws_toItemS.l0 k x0 (x3.set (x4 : Int).toNat (⟨bt328.1, bt328.2.1, (⟨(⟨bt328.2.2.1, bt328.2.2.2.1, bt328.2.2.2.2.1, bt328.2.2.2.2.2.1⟩ : S54), bt328.2.2.2.2.2.2.1, bt328.2.2.2.2.2.2.2⟩ : S69)⟩ : S71)) (wrap64 (x4 + 1))) else (none))) else (none)) else (some x3)
def laws_toItemS.f (k : Nat) (l0 : List (S64)) : Option ((List (S71))) := if 0 ≤ (l0.length : Int) then (if ((l0.length : Int) : Int).toNat ≤ 2345624805922 then (laws_toItemS.l0 k l0 (List.replicate ((l0.length : Int) : Int).toNat z71) 0) else (none)) else (none)
set_option maxHeartbeats 8000000 in
set_option maxRecDepth 100000 in
theorem laws_toItemS.calls (k : Nat) (A0 : Option Addr) (c0 : Nat) (l0 : List (S64)) (r : List (S71)) (w : World) (hr0 : Kd.C k64 w A0 l0.length l0) (hc0 : l0.length ≤ c0) (h : laws_toItemS.f k l0 = some r) :
  Calls Tryz.prog 16 #[.slice A0 l0.length c0] w fun e w' => ∃ v0_ : Value, e = .returned (v0_) ∧ Kd.S k71 71 w' w.heap.size (fun _ => True) v0_ r ∧ Below w.heap.size w w' := by
 have hu64 := Tryz.underlying64
 have hu71 := Tryz.underlying71
 have HR0 := Aside0.mk hr0
 have HC0 := Aside0.mk hc0
 clear hr0 hc0
 have HB := Aside0.mk (Below.refl w.heap.size w)
 have H := h
 unfold laws_toItemS.f at H
 clear h
 replace H := mi_ H
 obtain ⟨c2, H⟩ := H
 have c2b0 := eq_true c2
 have c2b1 := decide_eq_true c2
 clear c2
 replace H := mi_ H
 obtain ⟨c3, H⟩ := H
 have c3b0 := eq_true c3
 have c3b1 := decide_eq_true c3
 clear c3
 obtain ⟨y324, hy324⟩ : ∃ y_ : List (S71), y_ = (List.replicate ((l0.length : Int) : Int).toNat z71) := ⟨_, rfl⟩
 replace H : (laws_toItemS.l0 k l0 y324 0) = some r := by first | (rw [hy324]; with_reducible exact H) | (have H2_ := (Option.bind_some _ _).symm.trans H; rw [hy324]; with_reducible exact H2_) | (have H2_ := (Option.bind_some _ _).symm.trans H; with_reducible exact H2_) | with_reducible exact H | (rw [hy324]; exact H) | exact H
 have Ny324 := Aside0.mk hy324
 clear hy324
 have H' := Aside0.mk H
 clear H
 go_enter Tryz.func16, Tryz.ntmps16
 go_wp2_with (first | ((with_reducible refine gd_ 7 ?_); refine Kd.S_make k71 _ 71 rfl (N := 7) rfl 43 _ _ rfl (l0.length : Int) rfl rfl Tryz.underlying43 (.agg #[(.string ⟨#[]⟩), (.slice none 0 0), (.int .i64 0), (.string ⟨#[]⟩), (.slice none 0 0), (.string ⟨#[]⟩), (.int .i64 0), (.int .i64 0)]) 120 info71 rfl (by decide) (by omega) z71 (ok := fun _ => True) (okp := fun _ => True) (k71_mkM _ _ _ z71 (Kd.R_nil _ _ _ _ _) (Kd.R_nil _ _ _ _ _)) (fun _ hk => hk) trivial (md_) (Nat.le_trans (Nat.mul_le_mul_right _ (md_ : (l0.length : Int).toNat ≤ 2345624805922)) (by omega)) (Below.refl _ _) (Nat.le_refl _) ?_; intro v325 w4 ho5 hb hg_ hnew_; clear hg_ hnew_; (first | rw [← Ny324.out] at ho5 | (simp only [Int.reduceToNat] at ho5; rw [← Ny324.out] at ho5)); have HO326 := Aside0.mk (Kd.S_lower ho5 (below_size (xw_ HB))); replace HB := xws_ HB hb; clear hb ho5))
 go_loopg [4] k (fun kq v4 w' => ∃ (x3_1 : List (S71)) (x4_1 : Int), v4 = .int .i64 x4_1 ∧ Aside0 (laws_toItemS.l0 kq l0 x3_1 x4_1 = some r) ∧ Aside0 (kq ≤ k) ∧ Aside0 (Kd.S k71 71 w' w.heap.size (fun _ => True) v325 x3_1) ∧ Aside0 (Below w.heap.size w w'))
 case atStart => exact ⟨(y324), (0), me_, H', ⟨Nat.le_refl _⟩, ⟨by (with_reducible repeat (first | apply Kd.S_alloc | apply Kd.S_drewN | apply Kd.S_drew)); exact HO326.out⟩, ⟨xw_ HB⟩⟩
 case round =>
  clear H'
  try clear c2
  try clear c2b0
  try clear c2b1
  try clear c3
  try clear c3b0
  try clear c3b1
  obtain ⟨x3_1, x4_1, rfl, HA, HK1, HO_3, HB⟩ := hrel
  cases gk with
  | zero => exact absurd HA.out (by simp [laws_toItemS.l0])
  | succ k1 =>
   have H := HA.out
   clear HA
   simp only [laws_toItemS.l0] at H
   by_cases c6 : x4_1 < (l0.length : Int)
   ·rw [if_pos c6] at H
    have c6b0 := decide_eq_true c6
    clear c6
    replace H := mi_ H
    obtain ⟨c7, H⟩ := H
    have c7b0 := decide_eq_true c7
    clear c7
    replace H := mb_ H
    obtain ⟨⟨t328, t329, t332, t333, t334, t337, t338, t339⟩, A8, H⟩ := H
    dsimp only at H
    replace H := mi_ H
    obtain ⟨c9, H⟩ := H
    have c9b0 := decide_eq_true c9
    clear c9
    obtain ⟨y340, hy340⟩ : ∃ y_ : List (S71), y_ = (x3_1.set (x4_1 : Int).toNat (⟨t328, t329, (⟨(⟨t332, t333, t334, t337⟩ : S54), t338, t339⟩ : S69)⟩ : S71)) := ⟨_, rfl⟩
    replace H : (laws_toItemS.l0 k1 l0 y340 (wrap64 (x4_1 + 1))) = some r := by first | (rw [hy340]; with_reducible exact H) | (have H2_ := (Option.bind_some _ _).symm.trans H; rw [hy340]; with_reducible exact H2_) | (have H2_ := (Option.bind_some _ _).symm.trans H; with_reducible exact H2_) | with_reducible exact H | (rw [hy340]; exact H) | exact H
    have Ny340 := Aside0.mk hy340
    clear hy340
    have H' := Aside0.mk H
    clear H
    have p327 : 0 ≤ (x4_1 : Int) := md_
    have q327 : x4_1 < (l0.length : Int) := md_
    obtain ⟨ad327, A327_1, c327_1, A327_4, c327_4, e327, hx327_0, hx327_1, hx327_2, hx327_3, hx327_4, hx327_5, hx327_6, hx327_7, hl327_1, hi327_1, hl327_4, hi327_4⟩ := at_T64 HR0.out x4_1 p327 q327
    cases e327
    (try replace hx327_0 := (HB.out.cell (World.block_lt_of_cell? w _ hx327_0)).trans hx327_0)
    (try replace hx327_1 := (HB.out.cell (World.block_lt_of_cell? w _ hx327_1)).trans hx327_1)
    (try replace hx327_2 := (HB.out.cell (World.block_lt_of_cell? w _ hx327_2)).trans hx327_2)
    (try replace hx327_3 := (HB.out.cell (World.block_lt_of_cell? w _ hx327_3)).trans hx327_3)
    (try replace hx327_4 := (HB.out.cell (World.block_lt_of_cell? w _ hx327_4)).trans hx327_4)
    (try replace hx327_5 := (HB.out.cell (World.block_lt_of_cell? w _ hx327_5)).trans hx327_5)
    (try replace hx327_6 := (HB.out.cell (World.block_lt_of_cell? w _ hx327_6)).trans hx327_6)
    (try replace hx327_7 := (HB.out.cell (World.block_lt_of_cell? w _ hx327_7)).trans hx327_7)
    have HR327_1 := Aside0.mk hi327_1
    have HC327_1 := Aside0.mk hl327_1
    clear hi327_1 hl327_1
    have HR327_4 := Aside0.mk hi327_4
    have HC327_4 := Aside0.mk hl327_4
    clear hi327_4 hl327_4
    replace p327 := eq_true p327
    replace q327 := eq_true q327
    go_wp2_with (first | ((with_reducible refine gc_ 30 ?_); refine xgl_ (some 20) Tryz.func30 #[.agg #[.string ((rd_T64 l0 x4_1).f0), .slice A327_1 ((rd_T64 l0 x4_1).f1).length c327_1, .int .i64 ((rd_T64 l0 x4_1).f2.f0.f0), .string ((rd_T64 l0 x4_1).f2.f0.f1), .slice A327_4 ((rd_T64 l0 x4_1).f2.f0.f2).length c327_4, .string ((rd_T64 l0 x4_1).f2.f0.f3), .int .i64 ((rd_T64 l0 x4_1).f2.f1), .int .i64 ((rd_T64 l0 x4_1).f2.f2)]] ?_; (with_reducible refine (laws_toItem.calls k1 ((rd_T64 l0 x4_1).f0) _ _ ((rd_T64 l0 x4_1).f1) ((rd_T64 l0 x4_1).f2.f0.f0) ((rd_T64 l0 x4_1).f2.f0.f1) _ _ ((rd_T64 l0 x4_1).f2.f0.f2) ((rd_T64 l0 x4_1).f2.f0.f3) ((rd_T64 l0 x4_1).f2.f1) ((rd_T64 l0 x4_1).f2.f2) t328 t329 t332 t333 t334 t337 t338 t339 _ ?side1 ?side2 ?side3 ?side4 A8.out).mono ?_); (case side1 => exact xc_ ((Kd.C_below HR327_1.out HB.out))); (case side2 => exact HC327_1.out); (case side3 => exact xc_ ((Kd.C_below HR327_4.out HB.out))); (case side4 => exact HC327_4.out); rintro e w11 ⟨v330, v335, rfl, ho0, ho1, hb⟩; refine ⟨_, rfl, ?_⟩; replace HO_3 := Aside0.mk (Kd.S_mono (Kd.S_told (Kd.S_told (Kd.S_old (by (with_reducible repeat (first | apply Kd.S_alloc | apply Kd.S_drewN | apply Kd.S_drew)); exact HO_3.out) hb) (Kd.R_base ho0)) (Kd.R_base ho1)) (fun _ h_ => h_.1)); have HO331 := Aside0.mk (Kd.R_lower ho0 (below_size (xw_ HB))); have HO336 := Aside0.mk (Kd.R_lower ho1 (below_size (xw_ HB))); replace HB := xws_ HB hb; (try clear hb); (try clear ho0); (try clear ho1); have p10 : 0 ≤ (x4_1 : Int) := md_; have q10 : (x4_1 : Int) < ((x3_1.length : Int) : Int) := md_; obtain ⟨go10, co10, eo10, gb10, gl10, cl10, HG10⟩ := Kd.S_form HO_3.out (by omega); (first | cases eo10 | (injection eo10 with ea_ en_ ec_; (first | subst ea_ | (injection ea_ with ea_; subst ea_)); subst ec_; clear en_)); have GB10 := Aside0.mk gb10; have GG10 := Aside0.mk HG10; clear gb10 gl10 HG10; obtain ⟨_, ce10, hcl10, hM10, hcc10, hfr10, _, _⟩ := Kd.S_elem HO_3.out z71 (x4_1 : Int) p10 q10; obtain ⟨ve10_1, ve10_4, rfl, ge10_1, ge10_4⟩ := k71_openM hM10; have hx10_0 : w11.cell? ⟨go10, (x4_1 : Int).toNat * 8, none⟩ = some (.string ((rd_T71 x3_1 x4_1).f0)) := hcc10 0 _ rfl; have hx10_1 : w11.cell? ⟨go10, (x4_1 : Int).toNat * 8 + 1, none⟩ = some (ve10_1) := hcc10 1 _ rfl; have hx10_2 : w11.cell? ⟨go10, (x4_1 : Int).toNat * 8 + 2, none⟩ = some (.int .i64 ((rd_T71 x3_1 x4_1).f2.f0.f0)) := hcc10 2 _ rfl; have hx10_3 : w11.cell? ⟨go10, (x4_1 : Int).toNat * 8 + 3, none⟩ = some (.string ((rd_T71 x3_1 x4_1).f2.f0.f1)) := hcc10 3 _ rfl; have hx10_4 : w11.cell? ⟨go10, (x4_1 : Int).toNat * 8 + 4, none⟩ = some (ve10_4) := hcc10 4 _ rfl; have hx10_5 : w11.cell? ⟨go10, (x4_1 : Int).toNat * 8 + 5, none⟩ = some (.string ((rd_T71 x3_1 x4_1).f2.f0.f3)) := hcc10 5 _ rfl; have hx10_6 : w11.cell? ⟨go10, (x4_1 : Int).toNat * 8 + 6, none⟩ = some (.int .i64 ((rd_T71 x3_1 x4_1).f2.f1)) := hcc10 6 _ rfl; have hx10_7 : w11.cell? ⟨go10, (x4_1 : Int).toNat * 8 + 7, none⟩ = some (.int .i64 ((rd_T71 x3_1 x4_1).f2.f2)) := hcc10 7 _ rfl; have hf10_0 : w11.frozen? ⟨go10, (x4_1 : Int).toNat * 8, none⟩ = false := hfr10 0; have hf10_1 : w11.frozen? ⟨go10, (x4_1 : Int).toNat * 8 + 1, none⟩ = false := hfr10 1; have hf10_2 : w11.frozen? ⟨go10, (x4_1 : Int).toNat * 8 + 2, none⟩ = false := hfr10 2; have hf10_3 : w11.frozen? ⟨go10, (x4_1 : Int).toNat * 8 + 3, none⟩ = false := hfr10 3; have hf10_4 : w11.frozen? ⟨go10, (x4_1 : Int).toNat * 8 + 4, none⟩ = false := hfr10 4; have hf10_5 : w11.frozen? ⟨go10, (x4_1 : Int).toNat * 8 + 5, none⟩ = false := hfr10 5; have hf10_6 : w11.frozen? ⟨go10, (x4_1 : Int).toNat * 8 + 6, none⟩ = false := hfr10 6; have hf10_7 : w11.frozen? ⟨go10, (x4_1 : Int).toNat * 8 + 7, none⟩ = false := hfr10 7; clear hcl10 hcc10 hfr10 hM10; replace p10 := eq_true p10; replace q10 := eq_true q10; have n_ := Aside0.mk (Kd.S_mono (ok' := (fun k_ => some k_ ≠ (v330 : Value).ownBlock ∧ some k_ ≠ (v335 : Value).ownBlock)) HO_3.out (fun k_ hk => ⟨hk.1.2, hk.2⟩)); clear HO_3; have HO_3 := n_; clear n_; have HX12 := Aside0.mk (show Kd.S k71 71 w11 w.heap.size (fun k_ => ((fun _ => True)) k_ ∧ ¬ ((fun k_ => some k_ = (v330 : Value).ownBlock ∨ some k_ = (v335 : Value).ownBlock)) k_) (.slice (some ⟨go10, 0, none⟩) x3_1.length co10) x3_1 from (by (with_reducible repeat (first | apply Kd.S_alloc | apply Kd.S_drewN | apply Kd.S_drew)); exact Kd.S_mono HO_3.out (fun k_ hk => ⟨trivial, fun e_ => e_.elim (fun h_ => hk.1 h_) (fun h_ => hk.2 h_)⟩))); obtain ⟨oki12, ce12, hcl12, hM12, hcc12, hfr12, hoki12, hH12⟩ := Kd.S_elem HX12.out z71 (x4_1 : Int) (md_) (by have h_ : (x4_1 : Int) < ((x3_1.length : Int) : Int) := md_; first | exact h_ | (have e_ := (Kd.S_reads' HO_3.out).1; omega) | simpa using h_); obtain ⟨ve12_1, ve12_4, rfl, ge12_1, ge12_4⟩ := k71_openM hM12; have HP12 := Kd.S_seg hH12 (md_) (by have h_ : (x4_1 : Int) < ((x3_1.length : Int) : Int) := md_; first | exact h_ | (have e_ := (Kd.S_reads' HO_3.out).1; omega) | simpa using h_) (seg := [.string t328, v330, .int .i64 t332, .string t333, v335, .string t337, .int .i64 t338, .int .i64 t339]) (j := 0) (show 8 ≤ 8 from by decide) (x' := (⟨t328, t329, (⟨(⟨t332, t333, t334, t337⟩ : S54), t338, t339⟩ : S69)⟩ : S71)) (k71_mkM _ _ _ (⟨t328, t329, (⟨(⟨t332, t333, t334, t337⟩ : S54), t338, t339⟩ : S69)⟩ : S71) (Kd.R_mono (Kd.R_tight rfl (Kd.R_mono (ok' := fun k_ => ((fun _ => True)) k_ ∧ k_ ≠ go10) (Kd.R_apart' (HO331.out) (Kd.S_typed HO_3.out) (by decide)) (fun k_ hk => ⟨trivial, fun e_ => (hk.2) (by rw [e_]; rfl)⟩))) (fun _ h_ => Or.inr (Or.inl h_))) (Kd.R_mono (Kd.R_tight rfl (Kd.R_mono (ok' := fun k_ => ((fun _ => True)) k_ ∧ k_ ≠ go10) (Kd.R_apart' (HO336.out) (Kd.S_typed HO_3.out) (by decide)) (fun k_ hk => ⟨trivial, fun e_ => (hk.2) (by rw [e_]; rfl)⟩))) (fun _ h_ => Or.inr (Or.inr (h_))))) (fun _ hk => hk) (fun k_ hk_ => hk_.elim (fun h_ => ((Kd.R_mono (ok' := fun k_ => ((fun _ => True)) k_ ∧ k_ ≠ go10) (Kd.R_apart' (HO331.out) (Kd.S_typed HO_3.out) (by decide)) (fun k_ hk => ⟨trivial, fun e_ => (hk.2) (by rw [e_]; rfl)⟩))).1 k_ h_.symm) (fun h_ => ((Kd.R_mono (ok' := fun k_ => ((fun _ => True)) k_ ∧ k_ ≠ go10) (Kd.R_apart' (HO336.out) (Kd.S_typed HO_3.out) (by decide)) (fun k_ hk => ⟨trivial, fun e_ => (hk.2) (by rw [e_]; rfl)⟩))).1 k_ h_.symm)); have hx12_0 := hcc12 0 _ rfl; (try simp only [show (k71).sz = 8 from rfl, Nat.mul_one, Nat.add_zero] at hx12_0); have hf12_0 := hfr12 0; (try simp only [show (k71).sz = 8 from rfl, Nat.mul_one, Nat.add_zero] at hf12_0); have hx12_1 := hcc12 1 _ rfl; (try simp only [show (k71).sz = 8 from rfl, Nat.mul_one, Nat.add_zero] at hx12_1); have hf12_1 := hfr12 1; (try simp only [show (k71).sz = 8 from rfl, Nat.mul_one, Nat.add_zero] at hf12_1); have hx12_2 := hcc12 2 _ rfl; (try simp only [show (k71).sz = 8 from rfl, Nat.mul_one, Nat.add_zero] at hx12_2); have hf12_2 := hfr12 2; (try simp only [show (k71).sz = 8 from rfl, Nat.mul_one, Nat.add_zero] at hf12_2); have hx12_3 := hcc12 3 _ rfl; (try simp only [show (k71).sz = 8 from rfl, Nat.mul_one, Nat.add_zero] at hx12_3); have hf12_3 := hfr12 3; (try simp only [show (k71).sz = 8 from rfl, Nat.mul_one, Nat.add_zero] at hf12_3); have hx12_4 := hcc12 4 _ rfl; (try simp only [show (k71).sz = 8 from rfl, Nat.mul_one, Nat.add_zero] at hx12_4); have hf12_4 := hfr12 4; (try simp only [show (k71).sz = 8 from rfl, Nat.mul_one, Nat.add_zero] at hf12_4); have hx12_5 := hcc12 5 _ rfl; (try simp only [show (k71).sz = 8 from rfl, Nat.mul_one, Nat.add_zero] at hx12_5); have hf12_5 := hfr12 5; (try simp only [show (k71).sz = 8 from rfl, Nat.mul_one, Nat.add_zero] at hf12_5); have hx12_6 := hcc12 6 _ rfl; (try simp only [show (k71).sz = 8 from rfl, Nat.mul_one, Nat.add_zero] at hx12_6); have hf12_6 := hfr12 6; (try simp only [show (k71).sz = 8 from rfl, Nat.mul_one, Nat.add_zero] at hf12_6); have hx12_7 := hcc12 7 _ rfl; (try simp only [show (k71).sz = 8 from rfl, Nat.mul_one, Nat.add_zero] at hx12_7); have hf12_7 := hfr12 7; (try simp only [show (k71).sz = 8 from rfl, Nat.mul_one, Nat.add_zero] at hf12_7); clear hcl12 hcc12 hfr12 hM12 hoki12 hH12) | ((with_reducible refine gate_store (t := 71) (p := 21) rfl ?_); refine store_event (t := 71) (p := 21) (v := ?vo_w13) (w1 := ((((((((w11.setCell ⟨go10, (x4_1 : Int).toNat * 8, none⟩ (.string t328)).setCell ⟨go10, (x4_1 : Int).toNat * 8 + 1, none⟩ (v330)).setCell ⟨go10, (x4_1 : Int).toNat * 8 + 2, none⟩ (.int .i64 t332)).setCell ⟨go10, (x4_1 : Int).toNat * 8 + 3, none⟩ (.string t333)).setCell ⟨go10, (x4_1 : Int).toNat * 8 + 4, none⟩ (v335)).setCell ⟨go10, (x4_1 : Int).toNat * 8 + 5, none⟩ (.string t337)).setCell ⟨go10, (x4_1 : Int).toNat * 8 + 6, none⟩ (.int .i64 t338)).setCell ⟨go10, (x4_1 : Int).toNat * 8 + 7, none⟩ (.int .i64 t339))) ?hg ?ho ?hn ?hr ?_; (case ho => rfl); (case hg => rfl); (case hn => rfl); (case hr => (obtain ⟨_, _, e_⟩ := Kd.R_slice HO331.out; subst e_; obtain ⟨_, _, e_⟩ := Kd.R_slice HO336.out; subst e_); first | (go_simp; done) | (go_simp; rfl)); intro w13 hw; have hg : w11.grownBy w13 (some go10) := (by rw [hw]; exact HP12.2); have hp_ : Kd.S k71 71 w13 w.heap.size (fun _ => True) (.slice (some ⟨go10, 0, none⟩) x3_1.length co10) y340 := (by rw [hw, Ny340.out]; exact HP12.1); clear HP12; replace HO_3 := Aside0.mk (hp_); replace HB := Aside0.mk ((by rw [hw]; exact below_set (below_set (below_set (below_set (below_set (below_set (below_set (below_set (HB.out) GB10.out) GB10.out) GB10.out) GB10.out) GB10.out) GB10.out) GB10.out) GB10.out : Below w.heap.size w w13)); clear HO331 HO336; clear hg hw hp_))
    go_roundg k1
    case measure => have := HK1.out; omega
    case rel => exact ⟨(y340), (wrap64 (x4_1 + 1)), me_, H', ⟨by have := HK1.out; omega⟩, ⟨by (with_reducible repeat (first | apply Kd.S_alloc | apply Kd.S_drewN | apply Kd.S_drew)); exact HO_3.out⟩, ⟨xw_ HB⟩⟩
   ·rw [if_neg c6] at H
    have c6b0 := decide_eq_false c6
    clear c6
    obtain rfl := Option.some.inj H
    go_wp2
    go_ret
    exact ⟨_, mf_, by (with_reducible repeat (first | apply Kd.S_alloc | apply Kd.S_drewN | apply Kd.S_drew)); exact HO_3.out, xw_ HB⟩

/-! ### impl_within: function 119 -/
def impl_within.f (a0 : Int) (a1 : Int) (a2 : Int) : Option (Bool) := if a1 ≤ a0 then (some (decide (a0 ≤ a2))) else (some false)
set_option maxHeartbeats 8000000 in
set_option maxRecDepth 100000 in
theorem impl_within.calls (a0 : Int) (a1 : Int) (a2 : Int) (r : Bool) (w : World) (h : impl_within.f a0 a1 a2 = some r) :
  Calls Tryz.prog 119 #[.int .i64 a0, .int .i64 a1, .int .i64 a2] w fun e w' => e = .returned (.bool r) ∧ Drawn0 w w' := by
 have H := h
 unfold impl_within.f at H
 clear h
 by_cases c4 : a1 ≤ a0
 ·rw [if_pos c4] at H
  have c4b0 := decide_eq_true c4
  clear c4
  obtain rfl := Option.some.inj H
  go_enter Tryz.func119, Tryz.ntmps119
  go_wp2
  go_ret
  exact ⟨by first | rfl | (simp; done) | (simp [*]; done), by repeat (first | exact Drawn0.refl _ | apply Drawn0.step)⟩
 ·rw [if_neg c4] at H
  have c4b0 := decide_eq_false c4
  clear c4
  obtain rfl := Option.some.inj H
  go_enter Tryz.func119, Tryz.ntmps119
  go_wp2
  go_ret
  exact ⟨by first | rfl | (simp; done) | (simp [*]; done), by repeat (first | exact Drawn0.refl _ | apply Drawn0.step)⟩

/-! ### impl_isLetter: function 159 -/
def impl_isLetter.f (a0 : Int) : Option (Bool) := if (Go.bits .or .u8 a0 32) ≥ 97 then (some (decide ((Go.bits .or .u8 a0 32) ≤ 122))) else (some false)
set_option maxHeartbeats 8000000 in
set_option maxRecDepth 100000 in
theorem impl_isLetter.calls (a0 : Int) (r : Bool) (w : World) (h : impl_isLetter.f a0 = some r) :
  Calls Tryz.prog 159 #[.int .u8 a0] w fun e w' => e = .returned (.bool r) ∧ Drawn0 w w' := by
 have H := h
 unfold impl_isLetter.f at H
 clear h
 by_cases c2 : (Go.bits .or .u8 a0 32) ≥ 97
 ·rw [if_pos c2] at H
  have c2b0 : decide (97 ≤ (Go.bits .or .u8 a0 32)) = true := decide_eq_true c2
  clear c2
  obtain rfl := Option.some.inj H
  go_enter Tryz.func159, Tryz.ntmps159
  go_wp2
  go_ret
  exact ⟨by first | rfl | (simp; done) | (simp [*]; done), by repeat (first | exact Drawn0.refl _ | apply Drawn0.step)⟩
 ·rw [if_neg c2] at H
  have c2b0 : decide (97 ≤ (Go.bits .or .u8 a0 32)) = false := decide_eq_false c2
  clear c2
  obtain rfl := Option.some.inj H
  go_enter Tryz.func159, Tryz.ntmps159
  go_wp2
  go_ret
  exact ⟨by first | rfl | (simp; done) | (simp [*]; done), by repeat (first | exact Drawn0.refl _ | apply Drawn0.step)⟩

/-! ### impl_isDigit: function 160 -/
def impl_isDigit.f (a0 : Int) : Option (Bool) := if a0 ≥ 48 then (some (decide (a0 ≤ 57))) else (some false)
set_option maxHeartbeats 8000000 in
set_option maxRecDepth 100000 in
theorem impl_isDigit.calls (a0 : Int) (r : Bool) (w : World) (h : impl_isDigit.f a0 = some r) :
  Calls Tryz.prog 160 #[.int .u8 a0] w fun e w' => e = .returned (.bool r) ∧ Drawn0 w w' := by
 have H := h
 unfold impl_isDigit.f at H
 clear h
 by_cases c2 : a0 ≥ 48
 ·rw [if_pos c2] at H
  have c2b0 : decide (48 ≤ a0) = true := decide_eq_true c2
  clear c2
  obtain rfl := Option.some.inj H
  go_enter Tryz.func160, Tryz.ntmps160
  go_wp2
  go_ret
  exact ⟨by first | rfl | (simp; done) | (simp [*]; done), by repeat (first | exact Drawn0.refl _ | apply Drawn0.step)⟩
 ·rw [if_neg c2] at H
  have c2b0 : decide (48 ≤ a0) = false := decide_eq_false c2
  clear c2
  obtain rfl := Option.some.inj H
  go_enter Tryz.func160, Tryz.ntmps160
  go_wp2
  go_ret
  exact ⟨by first | rfl | (simp; done) | (simp [*]; done), by repeat (first | exact Drawn0.refl _ | apply Drawn0.step)⟩

/-! ### strings_IndexByte: function 161 -/
def strings_IndexByte.f (a0 : ByteArray) (a1 : Int) : Option (Int) := some (Lib.indexByte a0.data.toList a1.toNat.toUInt8)
theorem strings_IndexByte.calls (a0 : ByteArray) (a1 : Int) (r : Int) (w : World) (h : strings_IndexByte.f a0 a1 = some r) :
    Calls Tryz.prog 161 #[.string a0, .int .u8 a1] w fun e w' => e = .returned (.int .i64 r) ∧ Drawn0 w w' := by
  unfold strings_IndexByte.f at h
  obtain rfl := Option.some.inj h
  exact (Tryz.strings_IndexByte a0 a1 w).mono fun e w' hq => ⟨hq.1, by rw [hq.2]; exact Drawn0.refl _⟩

/-! ### impl_isAmong: function 122 -/
def impl_isAmong.f (a0 : Int) (a1 : ByteArray) : Option (Bool) := (impl_isLetter.f a0).bind fun t341 => (if t341 = true then (some true) else ((impl_isDigit.f a0).bind fun t342 => (if t342 = true then (some true) else ((strings_IndexByte.f a1 a0).bind fun t343 => (some (decide (t343 ≥ 0)))))))
set_option maxHeartbeats 8000000 in
set_option maxRecDepth 100000 in
theorem impl_isAmong.calls (a0 : Int) (a1 : ByteArray) (r : Bool) (w : World) (h : impl_isAmong.f a0 a1 = some r) :
  Calls Tryz.prog 122 #[.int .u8 a0, .string a1] w fun e w' => e = .returned (.bool r) ∧ Drawn0 w w' := by
 have H := h
 unfold impl_isAmong.f at H
 clear h
 replace H := mb_ H
 obtain ⟨t341, A3, H⟩ := H
 by_cases c4 : t341 = true
 ·subst c4
  rw [if_pos rfl] at H
  obtain rfl := Option.some.inj H
  go_enter Tryz.func122, Tryz.ntmps122
  go_wp2_with (first | ((with_reducible refine gc_ 159 ?_); refine xgl_ (some 6) Tryz.func159 #[.int .u8 a0] ?_; (with_reducible refine (impl_isLetter.calls a0 true _ A3.out).mono ?_); rintro e w' ⟨rfl, ⟨nd, rfl⟩⟩; refine ⟨_, rfl, ?_⟩))
  go_ret
  exact ⟨by first | rfl | (simp; done) | (simp [*]; done), by repeat (first | exact Drawn0.refl _ | apply Drawn0.step)⟩
 ·replace c4 := Bool.eq_false_iff.mpr c4
  subst c4
  rw [if_neg (show ¬ (false = true) by decide)] at H
  replace H := mb_ H
  obtain ⟨t342, A5, H⟩ := H
  by_cases c6 : t342 = true
  ·subst c6
   rw [if_pos rfl] at H
   obtain rfl := Option.some.inj H
   go_enter Tryz.func122, Tryz.ntmps122
   go_wp2_with (first | ((with_reducible refine gc_ 159 ?_); refine xgl_ (some 6) Tryz.func159 #[.int .u8 a0] ?_; (with_reducible refine (impl_isLetter.calls a0 false _ A3.out).mono ?_); rintro e w' ⟨rfl, ⟨nd, rfl⟩⟩; refine ⟨_, rfl, ?_⟩) | (go_at_call 160; (with_reducible refine (impl_isDigit.calls a0 true _ A5.out).mono ?_); rintro e w' ⟨rfl, ⟨nd, rfl⟩⟩))
   go_ret
   exact ⟨by first | rfl | (simp; done) | (simp [*]; done), by repeat (first | exact Drawn0.refl _ | apply Drawn0.step)⟩
  ·replace c6 := Bool.eq_false_iff.mpr c6
   subst c6
   rw [if_neg (show ¬ (false = true) by decide)] at H
   replace H := mb_ H
   obtain ⟨t343, A7, H⟩ := H
   obtain rfl := Option.some.inj H
   go_enter Tryz.func122, Tryz.ntmps122
   go_wp2_with (first | ((with_reducible refine gc_ 159 ?_); refine xgl_ (some 6) Tryz.func159 #[.int .u8 a0] ?_; (with_reducible refine (impl_isLetter.calls a0 false _ A3.out).mono ?_); rintro e w' ⟨rfl, ⟨nd, rfl⟩⟩; refine ⟨_, rfl, ?_⟩) | (go_at_call 160; (with_reducible refine (impl_isDigit.calls a0 false _ A5.out).mono ?_); rintro e w' ⟨rfl, ⟨nd, rfl⟩⟩) | (go_at_call 161; (with_reducible refine (strings_IndexByte.calls a1 a0 t343 _ A7.out).mono ?_); rintro e w' ⟨rfl, ⟨nd, rfl⟩⟩))
   go_ret
   exact ⟨by first | rfl | (simp; done) | (simp [*]; done), by repeat (first | exact Drawn0.refl _ | apply Drawn0.step)⟩

/-! ### impl_isToken_1: function 148 -/
def impl_isToken_1.f (a0 : Int) : Option (Bool) := (impl_isAmong.f a0 (⟨#[33, 35, 36, 37, 38, 39, 42, 43, 45, 46, 94, 95, 124, 126, 96]⟩ : ByteArray)).bind fun t344 => (some t344)
set_option maxHeartbeats 8000000 in
set_option maxRecDepth 100000 in
theorem impl_isToken_1.calls (a0 : Int) (r : Bool) (w : World) (h : impl_isToken_1.f a0 = some r) :
  Calls Tryz.prog 148 #[.int .u8 a0] w fun e w' => e = .returned (.bool r) ∧ Drawn0 w w' := by
 have H := h
 unfold impl_isToken_1.f at H
 clear h
 replace H := mb_ H
 obtain ⟨t344, A2, H⟩ := H
 obtain rfl := Option.some.inj H
 go_enter Tryz.func148, Tryz.ntmps148
 go_wp2_with (first | ((with_reducible refine gc_ 122 ?_); refine xgl_ (some 4) Tryz.func122 #[.int .u8 a0, .string (⟨#[33, 35, 36, 37, 38, 39, 42, 43, 45, 46, 94, 95, 124, 126, 96]⟩ : ByteArray)] ?_; (with_reducible refine (impl_isAmong.calls a0 (⟨#[33, 35, 36, 37, 38, 39, 42, 43, 45, 46, 94, 95, 124, 126, 96]⟩ : ByteArray) t344 _ A2.out).mono ?_); rintro e w' ⟨rfl, ⟨nd, rfl⟩⟩; refine ⟨_, rfl, ?_⟩))
 go_ret
 exact ⟨by first | rfl | (simp; done) | (simp [*]; done), by repeat (first | exact Drawn0.refl _ | apply Drawn0.step)⟩

/-- the first place, counted from n, at which p holds; -1 if there is none -/
def idxO {α : Type} (p : α → Option Bool) : List α → Int → Option Int
  | [], _ => some (-1)
  | x :: xs, n => (p x).bind fun b => if b = true then some n else idxO p xs (n + 1)
theorem idxO_at {α : Type} (p : α → Option Bool) (l : List α) (n : Nat) (h : n < l.length) : idxO p (l.drop n) (n : Int) = (p l[n]).bind fun b => if b = true then some (n : Int) else idxO p (l.drop (n + 1)) ((n + 1 : Nat) : Int) := by
  rw [List.drop_eq_getElem_cons h]; rfl
theorem idxO_mono {α : Type} (p q : α → Option Bool) (h : ∀ x, LeO (p x) (q x)) (l : List α) : ∀ n, LeO (idxO p l n) (idxO q l n) := by
  induction l with
  | nil => intro n; exact LeO.refl _
  | cons x xs ih => intro n; unfold idxO; exact LeO.bind (h x) (fun b => LeO.ite (LeO.refl _) (ih _))
set_option maxHeartbeats 4000000 in
/-- slices.IndexFunc: the first place at which the predicate holds -/
theorem xIndexFunc_u8 (p : Int → Option Bool) (g : Nat) (lb : Array Value) (eg : ∀ args w, (callFunc g args).run Tryz.prog w = .ok (.enter g args) w) (A0 : Option Addr) (c0 : Nat) (l0 : List Int) (i : Int) (w : World)
    (hr0 : Kd.C (Kd.int .u8) w A0 l0.length l0) (hc0 : l0.length ≤ c0) (hbig : l0.length < 9223372036854775807)
    (hp : ∀ (W : World) (x : Int) (b : Bool), Below w.heap.size w W → p x = some b → Calls Tryz.prog g (#[.int .u8 x] ++ lb) W fun e w' => e = .returned (.bool b) ∧ Below w.heap.size w w')
    (h : idxO p l0 0 = some i) :
    Calls Tryz.prog 218 #[.slice A0 l0.length c0, .func (.func g) #[] lb] w fun e w' => e = .returned (.int .i64 i) ∧ Below w.heap.size w w' := by
  have HR0 := Aside0.mk hr0
  have HC0 := Aside0.mk hc0
  have HP := Aside0.mk hp
  have HI := Aside0.mk h
  clear hr0 hc0 hp h
  go_enter Tryz.func218, Tryz.ntmps218
  go_wp2
  go_loopg [5, 8] l0.length (fun gg _ s8 wr => ∃ kk : Nat, kk ≤ l0.length ∧ l0.length - kk ≤ gg ∧ s8 = .int .i64 kk ∧ Aside0 (Below w.heap.size w wr) ∧ Aside0 (idxO p (l0.drop kk) (kk : Int) = some i))
  case atStart => exact ⟨0, Nat.zero_le _, by omega, rfl, ⟨Below.refl _ w⟩, HI⟩
  case round =>
    obtain ⟨kk, hkk, hg, rfl, BW, A⟩ := hrel
    clear HI
    by_cases hlt : kk < l0.length
    · have hltz : (kk : Int) < (l0.length : Int) := by omega
      have H := A.out
      clear A
      rw [idxO_at p l0 kk hlt] at H
      obtain ⟨b, hb, H⟩ := Option.bind_eq_some_iff.mp H
      have hcall := HP.out wr l0[kk] b BW.out hb
      have hrd : rd l0 (kk : Int) = l0[kk] := by unfold rd; simp [List.getD_eq_getElem?_getD, hlt]
      obtain ⟨ad, he, hy0⟩ := Kd.at_int (Kd.C_below HR0.out BW.out) (kk : Int) (by omega) hltz
      cases he
      have hx0 : wr.cell? (ad.add kk) = some (.int .u8 (l0[kk])) := by rw [← hrd]; exact hy0
      clear hy0
      generalize l0[kk] = x at *
      cases b with
      | true =>
        obtain rfl : (kk : Int) = i := Option.some.inj H
        clear H hb
        go_wp2_with (go_at_fn g; refine hcall.mono ?_; rintro e w' ⟨rfl, hb'⟩)
        go_ret
        exact ⟨rfl, hb'⟩
      | false =>
        have H' := Aside0.mk H
        clear H hb
        go_wp2_with (go_at_fn g; refine hcall.mono ?_; rintro e w' ⟨rfl, hb'⟩)
        go_roundg (l0.length - (kk + 1))
        case measure => omega
        case rel => exact ⟨kk + 1, by omega, by omega, by go_num, ⟨hb'⟩, ⟨by have z := H'.out; rw [if_neg (by decide)] at z; exact z⟩⟩
    · have hltz : ¬ (kk : Int) < (l0.length : Int) := by omega
      have H := A.out
      rw [List.drop_of_length_le (by omega)] at H
      obtain rfl : (-1 : Int) = i := Option.some.inj H
      clear H A
      go_wp2
      go_ret
      exact ⟨rfl, BW.out⟩
set_option maxHeartbeats 4000000 in
theorem xContainsFunc_u8 (p : Int → Option Bool) (g : Nat) (lb : Array Value) (eg : ∀ args w, (callFunc g args).run Tryz.prog w = .ok (.enter g args) w) (A0 : Option Addr) (c0 : Nat) (l0 : List Int) (i : Int) (w : World)
    (hr0 : Kd.C (Kd.int .u8) w A0 l0.length l0) (hc0 : l0.length ≤ c0) (hbig : l0.length < 9223372036854775807)
    (hp : ∀ (W : World) (x : Int) (b : Bool), Below w.heap.size w W → p x = some b → Calls Tryz.prog g (#[.int .u8 x] ++ lb) W fun e w' => e = .returned (.bool b) ∧ Below w.heap.size w w')
    (h : idxO p l0 0 = some i) :
    Calls Tryz.prog 196 #[.slice A0 l0.length c0, .func (.func g) #[] lb] w fun e w' => e = .returned (.bool (decide (i ≥ 0))) ∧ Below w.heap.size w w' := by
  have hcall := xIndexFunc_u8 p g lb eg A0 c0 l0 i w hr0 hc0 hbig hp h
  clear hr0 hc0 hbig hp h
  go_enter Tryz.func196, Tryz.ntmps196
  go_wp2_with (go_at_call 218; refine hcall.mono ?_; rintro e w' ⟨rfl, hb'⟩)
  go_ret
  exact ⟨rfl, hb'⟩
/-! ### xAll_u8_impl_isToken_1: function 158, with function 148 -/
def xAll_u8_impl_isToken_1.z (x : Int) : Option Bool := (impl_isToken_1.f x).bind fun b => some (!b)
def xAll_u8_impl_isToken_1.f (l0 : List Int) : Option (Bool) := if l0.length < 9223372036854775807 then ((idxO (xAll_u8_impl_isToken_1.z) l0 0).bind fun i => some (!decide (i ≥ 0))) else none
set_option maxHeartbeats 8000000 in
set_option maxRecDepth 100000 in
theorem xAll_u8_impl_isToken_1.calls (A0 : Option Addr) (c0 : Nat) (l0 : List Int) (r : Bool) (w : World) (hr0 : Kd.C (Kd.int .u8) w A0 l0.length l0) (hc0 : l0.length ≤ c0) (h : xAll_u8_impl_isToken_1.f l0 = some r) :
    Calls Tryz.prog 158 #[.slice A0 l0.length c0, .func (.func 148) #[] #[]] w fun e w' => e = .returned (.bool r) ∧ Below w.heap.size w w' := by
  have hbig : l0.length < 9223372036854775807 := by
    by_cases c : l0.length < 9223372036854775807
    · exact c
    · unfold xAll_u8_impl_isToken_1.f at h; rw [if_neg c] at h; cases h
  have h1 : ((idxO (xAll_u8_impl_isToken_1.z) l0 0).bind fun i => some (!decide (i ≥ 0))) = some r := by unfold xAll_u8_impl_isToken_1.f at h; rw [if_pos hbig] at h; exact h
  clear h
  obtain ⟨i, hi1, hi2⟩ := Option.bind_eq_some_iff.mp h1
  clear h1
  obtain rfl := Option.some.inj hi2
  clear hi2
  have eg : ∀ args w, (callFunc 197 args).run Tryz.prog w = .ok (.enter 197 args) w := enters_of Tryz.func197 (by kernel_rfl) rfl
  have hb1 : Below w.heap.size w (w.alloc (.cells #[.func (.func 148) #[] #[]] 123)) := (Below.refl _ w).alloc (Nat.le_refl _) _
  have hcall := xContainsFunc_u8 (xAll_u8_impl_isToken_1.z) 197 #[.pointer (some ⟨w.heap.size, 0, none⟩)] eg A0 c0 l0 i (w.alloc (.cells #[.func (.func 148) #[] #[]] 123)) (Kd.C_below hr0 hb1) hc0 hbig
    (by
      intro W x b hb hz
      have hcell : W.cell? ⟨w.heap.size, 0, none⟩ = some (.func (.func 148) #[] #[]) := (hb.cell (p := ⟨w.heap.size, 0, none⟩) (by simp)).trans (by simp)
      obtain ⟨b2, hq, hb2⟩ := Option.bind_eq_some_iff.mp hz
      obtain rfl : (!b2) = b := Option.some.inj hb2
      have hq' := Aside0.mk hq
      have hb' := Aside0.mk hb
      clear hb hz hb2 hq
      show Calls Tryz.prog 197 #[.int .u8 x, .pointer (some ⟨w.heap.size, 0, none⟩)] W _
      go_enter Tryz.func197, Tryz.ntmps197
      go_wp2_with (go_at_call 148; refine (impl_isToken_1.calls x b2 _ hq'.out).mono ?_; rintro e w' ⟨rfl, ⟨nd, rfl⟩⟩)
      go_ret
      exact ⟨rfl, by repeat (first | (with_reducible first | exact hb'.out | apply below_alloc | apply pw_below_drewN | apply below_drew1) | exact hb'.out)⟩)
    hi1
  have hb1' := Aside0.mk hb1
  clear hr0 hc0 hbig hi1 hb1 eg
  go_enter Tryz.func158, Tryz.ntmps158
  go_wp2_with (go_at_call 196; refine hcall.mono ?_; rintro e w' ⟨rfl, hb'⟩)
  go_ret
  exact ⟨rfl, below_then hb1'.out (by simp) hb'⟩
/-! ### xBytes_impl_isToken_1: function 120, with function 148 -/
def xBytes_impl_isToken_1.f (a0 : ByteArray) : Option (Bool) := if a0.size < 100000000 then xAll_u8_impl_isToken_1.f (bytesOf a0) else none
set_option maxHeartbeats 4000000 in
theorem xBytes_impl_isToken_1.calls (a0 : ByteArray) (r : Bool) (w : World) (h : xBytes_impl_isToken_1.f a0 = some r) :
    Calls Tryz.prog 120 #[.string a0, .func (.func 148) #[] #[]] w fun e w' => e = .returned (.bool r) ∧ Below w.heap.size w w' := by
  unfold xBytes_impl_isToken_1.f at h
  by_cases c : a0.size < 100000000
  · rw [if_pos c] at h
    have hcv := Lib.run_convert_string_bytes (P := Tryz.prog) w 9 120 5 a0 Tryz.underlying9 Tryz.underlying120 Tryz.underlying5
    have hC : (Kd.int .u8).C (Lib.bytesWorld w 5 a0) (some ⟨w.heap.size, 0, none⟩) (bytesOf a0).length (bytesOf a0) := by
      rw [bytesOf_length]
      exact Kd.C_of_reads (d := (0 : Int)) (bytes_reads w 5 a0 (by omega))
    have hbe := Lib.bytesWorld_below w 5 a0
    have hcall := xAll_u8_impl_isToken_1.calls (some ⟨w.heap.size, 0, none⟩) (grownCap w a0.size 0 5) (bytesOf a0) r (Lib.bytesWorld w 5 a0) hC (by rw [bytesOf_length]; exact grownCap_ge w a0.size 0 5) h
    rw [bytesOf_length] at hcall
    obtain ⟨W0, hW0⟩ : ∃ W0, W0 = Lib.bytesWorld w 5 a0 := ⟨_, rfl⟩
    rw [← hW0] at hcv hcall hbe
    have HB0 := Aside0.mk hbe
    clear hW0 hbe c h hC
    go_enter Tryz.func120, Tryz.ntmps120
    go_wp2_with (go_at_call 158; refine hcall.mono ?_; rintro e w' ⟨rfl, hb'⟩)
    go_ret
    exact ⟨rfl, below_step HB0.out hb'⟩
  · rw [if_neg c] at h; cases h

/-! ### impl_isToken: function 97 -/
def impl_isToken.f (a0 : ByteArray) : Option (Bool) := (impl_within.f (a0.size : Int) 1 60).bind fun t345 => (if t345 = true then ((xBytes_impl_isToken_1.f a0).bind fun t346 => (some t346)) else (some false))
set_option maxHeartbeats 8000000 in
set_option maxRecDepth 100000 in
theorem impl_isToken.calls (a0 : ByteArray) (r : Bool) (w : World) (h : impl_isToken.f a0 = some r) :
  Calls Tryz.prog 97 #[.string a0] w fun e w' => e = .returned (.bool r) ∧ Below w.heap.size w w' := by
 have HB := Aside0.mk (Below.refl w.heap.size w)
 have H := h
 unfold impl_isToken.f at H
 clear h
 replace H := mb_ H
 obtain ⟨t345, A2, H⟩ := H
 by_cases c3 : t345 = true
 ·subst c3
  rw [if_pos rfl] at H
  replace H := mb_ H
  obtain ⟨t346, A4, H⟩ := H
  obtain rfl := Option.some.inj H
  go_enter Tryz.func97, Tryz.ntmps97
  go_wp2_with (first | ((with_reducible refine gc_ 119 ?_); refine xgl_ (some 5) Tryz.func119 #[.int .i64 (a0.size : Int), .int .i64 1, .int .i64 60] ?_; (with_reducible refine (impl_within.calls (a0.size : Int) 1 60 true _ A2.out).mono ?_); rintro e w' ⟨rfl, ⟨nd, rfl⟩⟩; refine ⟨_, rfl, ?_⟩) | (go_at_call 120; (with_reducible refine (xBytes_impl_isToken_1.calls a0  t346 _ A4.out).mono ?_); rintro e w5 ⟨rfl, hb⟩; replace HB := xws_ HB hb; (try clear hb)))
  go_ret
  exact ⟨mf_, xw_ HB⟩
 ·replace c3 := Bool.eq_false_iff.mpr c3
  subst c3
  rw [if_neg (show ¬ (false = true) by decide)] at H
  obtain rfl := Option.some.inj H
  go_enter Tryz.func97, Tryz.ntmps97
  go_wp2_with (first | ((with_reducible refine gc_ 119 ?_); refine xgl_ (some 5) Tryz.func119 #[.int .i64 (a0.size : Int), .int .i64 1, .int .i64 60] ?_; (with_reducible refine (impl_within.calls (a0.size : Int) 1 60 false _ A2.out).mono ?_); rintro e w' ⟨rfl, ⟨nd, rfl⟩⟩; refine ⟨_, rfl, ?_⟩))
  go_ret
  exact ⟨mf_, xw_ HB⟩

/-! ### impl_isTarget_1: function 167 -/
def impl_isTarget_1.f (a0 : Int) : Option (Bool) := if a0 ≥ 33 then (some (decide (a0 ≤ 126))) else (some false)
set_option maxHeartbeats 8000000 in
set_option maxRecDepth 100000 in
theorem impl_isTarget_1.calls (a0 : Int) (r : Bool) (w : World) (h : impl_isTarget_1.f a0 = some r) :
  Calls Tryz.prog 167 #[.int .u8 a0] w fun e w' => e = .returned (.bool r) ∧ Drawn0 w w' := by
 have H := h
 unfold impl_isTarget_1.f at H
 clear h
 by_cases c2 : a0 ≥ 33
 ·rw [if_pos c2] at H
  have c2b0 : decide (33 ≤ a0) = true := decide_eq_true c2
  clear c2
  obtain rfl := Option.some.inj H
  go_enter Tryz.func167, Tryz.ntmps167
  go_wp2
  go_ret
  exact ⟨by first | rfl | (simp; done) | (simp [*]; done), by repeat (first | exact Drawn0.refl _ | apply Drawn0.step)⟩
 ·rw [if_neg c2] at H
  have c2b0 : decide (33 ≤ a0) = false := decide_eq_false c2
  clear c2
  obtain rfl := Option.some.inj H
  go_enter Tryz.func167, Tryz.ntmps167
  go_wp2
  go_ret
  exact ⟨by first | rfl | (simp; done) | (simp [*]; done), by repeat (first | exact Drawn0.refl _ | apply Drawn0.step)⟩

/-! ### xAll_u8_impl_isTarget_1: function 158, with function 167 -/
def xAll_u8_impl_isTarget_1.z (x : Int) : Option Bool := (impl_isTarget_1.f x).bind fun b => some (!b)
def xAll_u8_impl_isTarget_1.f (l0 : List Int) : Option (Bool) := if l0.length < 9223372036854775807 then ((idxO (xAll_u8_impl_isTarget_1.z) l0 0).bind fun i => some (!decide (i ≥ 0))) else none
set_option maxHeartbeats 8000000 in
set_option maxRecDepth 100000 in
theorem xAll_u8_impl_isTarget_1.calls (A0 : Option Addr) (c0 : Nat) (l0 : List Int) (r : Bool) (w : World) (hr0 : Kd.C (Kd.int .u8) w A0 l0.length l0) (hc0 : l0.length ≤ c0) (h : xAll_u8_impl_isTarget_1.f l0 = some r) :
    Calls Tryz.prog 158 #[.slice A0 l0.length c0, .func (.func 167) #[] #[]] w fun e w' => e = .returned (.bool r) ∧ Below w.heap.size w w' := by
  have hbig : l0.length < 9223372036854775807 := by
    by_cases c : l0.length < 9223372036854775807
    · exact c
    · unfold xAll_u8_impl_isTarget_1.f at h; rw [if_neg c] at h; cases h
  have h1 : ((idxO (xAll_u8_impl_isTarget_1.z) l0 0).bind fun i => some (!decide (i ≥ 0))) = some r := by unfold xAll_u8_impl_isTarget_1.f at h; rw [if_pos hbig] at h; exact h
  clear h
  obtain ⟨i, hi1, hi2⟩ := Option.bind_eq_some_iff.mp h1
  clear h1
  obtain rfl := Option.some.inj hi2
  clear hi2
  have eg : ∀ args w, (callFunc 197 args).run Tryz.prog w = .ok (.enter 197 args) w := enters_of Tryz.func197 (by kernel_rfl) rfl
  have hb1 : Below w.heap.size w (w.alloc (.cells #[.func (.func 167) #[] #[]] 123)) := (Below.refl _ w).alloc (Nat.le_refl _) _
  have hcall := xContainsFunc_u8 (xAll_u8_impl_isTarget_1.z) 197 #[.pointer (some ⟨w.heap.size, 0, none⟩)] eg A0 c0 l0 i (w.alloc (.cells #[.func (.func 167) #[] #[]] 123)) (Kd.C_below hr0 hb1) hc0 hbig
    (by
      intro W x b hb hz
      have hcell : W.cell? ⟨w.heap.size, 0, none⟩ = some (.func (.func 167) #[] #[]) := (hb.cell (p := ⟨w.heap.size, 0, none⟩) (by simp)).trans (by simp)
      obtain ⟨b2, hq, hb2⟩ := Option.bind_eq_some_iff.mp hz
      obtain rfl : (!b2) = b := Option.some.inj hb2
      have hq' := Aside0.mk hq
      have hb' := Aside0.mk hb
      clear hb hz hb2 hq
      show Calls Tryz.prog 197 #[.int .u8 x, .pointer (some ⟨w.heap.size, 0, none⟩)] W _
      go_enter Tryz.func197, Tryz.ntmps197
      go_wp2_with (go_at_call 167; refine (impl_isTarget_1.calls x b2 _ hq'.out).mono ?_; rintro e w' ⟨rfl, ⟨nd, rfl⟩⟩)
      go_ret
      exact ⟨rfl, by repeat (first | (with_reducible first | exact hb'.out | apply below_alloc | apply pw_below_drewN | apply below_drew1) | exact hb'.out)⟩)
    hi1
  have hb1' := Aside0.mk hb1
  clear hr0 hc0 hbig hi1 hb1 eg
  go_enter Tryz.func158, Tryz.ntmps158
  go_wp2_with (go_at_call 196; refine hcall.mono ?_; rintro e w' ⟨rfl, hb'⟩)
  go_ret
  exact ⟨rfl, below_then hb1'.out (by simp) hb'⟩
/-! ### xBytes_impl_isTarget_1: function 120, with function 167 -/
def xBytes_impl_isTarget_1.f (a0 : ByteArray) : Option (Bool) := if a0.size < 100000000 then xAll_u8_impl_isTarget_1.f (bytesOf a0) else none
set_option maxHeartbeats 4000000 in
theorem xBytes_impl_isTarget_1.calls (a0 : ByteArray) (r : Bool) (w : World) (h : xBytes_impl_isTarget_1.f a0 = some r) :
    Calls Tryz.prog 120 #[.string a0, .func (.func 167) #[] #[]] w fun e w' => e = .returned (.bool r) ∧ Below w.heap.size w w' := by
  unfold xBytes_impl_isTarget_1.f at h
  by_cases c : a0.size < 100000000
  · rw [if_pos c] at h
    have hcv := Lib.run_convert_string_bytes (P := Tryz.prog) w 9 120 5 a0 Tryz.underlying9 Tryz.underlying120 Tryz.underlying5
    have hC : (Kd.int .u8).C (Lib.bytesWorld w 5 a0) (some ⟨w.heap.size, 0, none⟩) (bytesOf a0).length (bytesOf a0) := by
      rw [bytesOf_length]
      exact Kd.C_of_reads (d := (0 : Int)) (bytes_reads w 5 a0 (by omega))
    have hbe := Lib.bytesWorld_below w 5 a0
    have hcall := xAll_u8_impl_isTarget_1.calls (some ⟨w.heap.size, 0, none⟩) (grownCap w a0.size 0 5) (bytesOf a0) r (Lib.bytesWorld w 5 a0) hC (by rw [bytesOf_length]; exact grownCap_ge w a0.size 0 5) h
    rw [bytesOf_length] at hcall
    obtain ⟨W0, hW0⟩ : ∃ W0, W0 = Lib.bytesWorld w 5 a0 := ⟨_, rfl⟩
    rw [← hW0] at hcv hcall hbe
    have HB0 := Aside0.mk hbe
    clear hW0 hbe c h hC
    go_enter Tryz.func120, Tryz.ntmps120
    go_wp2_with (go_at_call 158; refine hcall.mono ?_; rintro e w' ⟨rfl, hb'⟩)
    go_ret
    exact ⟨rfl, below_step HB0.out hb'⟩
  · rw [if_neg c] at h; cases h

/-! ### impl_isTarget: function 129 -/
def impl_isTarget.f (a0 : ByteArray) : Option (Bool) := (impl_within.f (a0.size : Int) 1 200).bind fun t347 => (if t347 = true then ((xBytes_impl_isTarget_1.f a0).bind fun t348 => (some t348)) else (some false))
set_option maxHeartbeats 8000000 in
set_option maxRecDepth 100000 in
theorem impl_isTarget.calls (a0 : ByteArray) (r : Bool) (w : World) (h : impl_isTarget.f a0 = some r) :
  Calls Tryz.prog 129 #[.string a0] w fun e w' => e = .returned (.bool r) ∧ Below w.heap.size w w' := by
 have HB := Aside0.mk (Below.refl w.heap.size w)
 have H := h
 unfold impl_isTarget.f at H
 clear h
 replace H := mb_ H
 obtain ⟨t347, A2, H⟩ := H
 by_cases c3 : t347 = true
 ·subst c3
  rw [if_pos rfl] at H
  replace H := mb_ H
  obtain ⟨t348, A4, H⟩ := H
  obtain rfl := Option.some.inj H
  go_enter Tryz.func129, Tryz.ntmps129
  go_wp2_with (first | ((with_reducible refine gc_ 119 ?_); refine xgl_ (some 5) Tryz.func119 #[.int .i64 (a0.size : Int), .int .i64 1, .int .i64 200] ?_; (with_reducible refine (impl_within.calls (a0.size : Int) 1 200 true _ A2.out).mono ?_); rintro e w' ⟨rfl, ⟨nd, rfl⟩⟩; refine ⟨_, rfl, ?_⟩) | (go_at_call 120; (with_reducible refine (xBytes_impl_isTarget_1.calls a0  t348 _ A4.out).mono ?_); rintro e w5 ⟨rfl, hb⟩; replace HB := xws_ HB hb; (try clear hb)))
  go_ret
  exact ⟨mf_, xw_ HB⟩
 ·replace c3 := Bool.eq_false_iff.mpr c3
  subst c3
  rw [if_neg (show ¬ (false = true) by decide)] at H
  obtain rfl := Option.some.inj H
  go_enter Tryz.func129, Tryz.ntmps129
  go_wp2_with (first | ((with_reducible refine gc_ 119 ?_); refine xgl_ (some 5) Tryz.func119 #[.int .i64 (a0.size : Int), .int .i64 1, .int .i64 200] ?_; (with_reducible refine (impl_within.calls (a0.size : Int) 1 200 false _ A2.out).mono ?_); rintro e w' ⟨rfl, ⟨nd, rfl⟩⟩; refine ⟨_, rfl, ?_⟩))
  go_ret
  exact ⟨mf_, xw_ HB⟩

/-! ### impl_isRequestLine: function 77 -/
def impl_isRequestLine.f (a0_0 : ByteArray) (a0_1 : ByteArray) (l0_2 : List (S105)) (a0_3 : ByteArray) : Option (Bool) := (impl_isToken.f a0_0).bind fun t350 => (if t350 = true then (if (a0_0.size : Int) ≤ 10 then ((impl_isTarget.f a0_1).bind fun t351 => (some t351)) else (some false)) else (some false))
set_option maxHeartbeats 8000000 in
set_option maxRecDepth 100000 in
theorem impl_isRequestLine.calls (a0_0 : ByteArray) (a0_1 : ByteArray) (A0_2 : Option Addr) (c0_2 : Nat) (l0_2 : List (S105)) (a0_3 : ByteArray) (r : Bool) (w : World) (hr0_2 : Kd.C k105 w A0_2 l0_2.length l0_2) (hc0_2 : l0_2.length ≤ c0_2) (h : impl_isRequestLine.f a0_0 a0_1 l0_2 a0_3 = some r) :
  Calls Tryz.prog 77 #[.agg #[.string a0_0, .string a0_1, .slice A0_2 l0_2.length c0_2, .string a0_3]] w fun e w' => e = .returned (.bool r) ∧ Below w.heap.size w w' := by
 have hu35 := Tryz.underlying35
 have HR0_2 := Aside0.mk hr0_2
 have HC0_2 := Aside0.mk hc0_2
 clear hr0_2 hc0_2
 have HB := Aside0.mk (Below.refl w.heap.size w)
 have H := h
 unfold impl_isRequestLine.f at H
 clear h
 replace H := mb_ H
 obtain ⟨t350, A2, H⟩ := H
 by_cases c3 : t350 = true
 ·subst c3
  rw [if_pos rfl] at H
  by_cases c4 : (a0_0.size : Int) ≤ 10
  ·rw [if_pos c4] at H
   have c4b0 := decide_eq_true c4
   have c4b1 : decide (a0_0.size ≤ 10) = true := decide_eq_true (by omega)
   clear c4
   replace H := mb_ H
   obtain ⟨t351, A5, H⟩ := H
   obtain rfl := Option.some.inj H
   go_enter Tryz.func77, Tryz.ntmps77
   go_wp2_with (first | ((with_reducible refine gd_ 1 ?_); (try (refine gate_guard (by rfl) ?_; dsimp only)); refine xbe_ (N := 1) (cs := #[.string a0_0, .string a0_1, .slice A0_2 l0_2.length c0_2, .string a0_3]) (t := 35) ?_; intro gb349 hg w6 hbox hb; have BK349 := Aside0.mk (hbox); have GE349 := xge_ HB hg; replace HB := xws_ HB hb; clear hb hbox hg; have ⟨_, _, _, _, _, _, _, _⟩ := c4_ BK349) | ((with_reducible refine gc_ 97 ?_); refine xgl_ (some 5) Tryz.func97 #[.string a0_0] ?_; (with_reducible refine (impl_isToken.calls a0_0 true _ A2.out).mono ?_); rintro e w8 ⟨rfl, hb⟩; refine ⟨_, rfl, ?_⟩; replace BK349 := xbb_ BK349 hb; replace HB := xws_ HB hb; (try clear hb); have ⟨_, _, _, _, _, _, _, _⟩ := c4_ BK349) | (go_at_call 129; (with_reducible refine (impl_isTarget.calls a0_1 t351 _ A5.out).mono ?_); rintro e w10 ⟨rfl, hb⟩; replace BK349 := xbb_ BK349 hb; replace HB := xws_ HB hb; (try clear hb)))
   go_ret
   exact ⟨mf_, xw_ HB⟩
  ·rw [if_neg c4] at H
   have c4b0 := decide_eq_false c4
   have c4b1 : decide (a0_0.size ≤ 10) = false := decide_eq_false (by omega)
   clear c4
   obtain rfl := Option.some.inj H
   go_enter Tryz.func77, Tryz.ntmps77
   go_wp2_with (first | ((with_reducible refine gd_ 1 ?_); (try (refine gate_guard (by rfl) ?_; dsimp only)); refine xbe_ (N := 1) (cs := #[.string a0_0, .string a0_1, .slice A0_2 l0_2.length c0_2, .string a0_3]) (t := 35) ?_; intro gb349 hg w11 hbox hb; have BK349 := Aside0.mk (hbox); have GE349 := xge_ HB hg; replace HB := xws_ HB hb; clear hb hbox hg; have ⟨_, _, _, _, _, _, _, _⟩ := c4_ BK349) | ((with_reducible refine gc_ 97 ?_); refine xgl_ (some 5) Tryz.func97 #[.string a0_0] ?_; (with_reducible refine (impl_isToken.calls a0_0 true _ A2.out).mono ?_); rintro e w13 ⟨rfl, hb⟩; refine ⟨_, rfl, ?_⟩; replace BK349 := xbb_ BK349 hb; replace HB := xws_ HB hb; (try clear hb); have ⟨_, _, _, _, _, _, _, _⟩ := c4_ BK349))
   go_ret
   exact ⟨mf_, xw_ HB⟩
 ·replace c3 := Bool.eq_false_iff.mpr c3
  subst c3
  rw [if_neg (show ¬ (false = true) by decide)] at H
  obtain rfl := Option.some.inj H
  go_enter Tryz.func77, Tryz.ntmps77
  go_wp2_with (first | ((with_reducible refine gd_ 1 ?_); (try (refine gate_guard (by rfl) ?_; dsimp only)); refine xbe_ (N := 1) (cs := #[.string a0_0, .string a0_1, .slice A0_2 l0_2.length c0_2, .string a0_3]) (t := 35) ?_; intro gb349 hg w15 hbox hb; have BK349 := Aside0.mk (hbox); have GE349 := xge_ HB hg; replace HB := xws_ HB hb; clear hb hbox hg; have ⟨_, _, _, _, _, _, _, _⟩ := c4_ BK349) | ((with_reducible refine gc_ 97 ?_); refine xgl_ (some 5) Tryz.func97 #[.string a0_0] ?_; (with_reducible refine (impl_isToken.calls a0_0 false _ A2.out).mono ?_); rintro e w17 ⟨rfl, hb⟩; refine ⟨_, rfl, ?_⟩; replace BK349 := xbb_ BK349 hb; replace HB := xws_ HB hb; (try clear hb)))
  go_ret
  exact ⟨mf_, xw_ HB⟩

end Go.Proofs.YtpggepjfhgalkaaGreatDoor.PFnExactPickItem
