-- Written by a program of this project (xprint.py) out of the translation; Lean checks it.
import Derived.Test.YtpggepjfhgalkaaGreatDoorPFnExactMatchesx0
import Derived.Test.YtpggepjfhgalkaaGreatDoorPFnExactMatchesx1
import Derived.Test.YtpggepjfhgalkaaGreatDoorPFnExactMatchesx2
import Derived.Test.YtpggepjfhgalkaaGreatDoorPFnExactMatchesx10
import Derived.Test.YtpggepjfhgalkaaGreatDoorPFnExactMatchesx14
import Derived.Test.YtpggepjfhgalkaaGreatDoorPFnExactMatchesx17
namespace Go.Proofs.YtpggepjfhgalkaaGreatDoor.PFnExactMatches
open Go.RowKit Go.Proofs.YtpggepjfhgalkaaGreatDoorW.PrintWords Go.Proofs.YtpggepjfhgalkaaGreatDoorW.PrintLast Go.Proofs.YtpggepjfhgalkaaGreatDoorW.PrintMore
attribute [local go_sem] max2_int min2_int max_two min_two max_three min_three max_four min_four   -- for this text's walks alone
set_option linter.unusedVariables false
set_option linter.unusedSimpArgs false

/-! ### laws_FnExactMatches: function 6 -/
def laws_FnExactMatches.j0 : Nat → Bool → ByteArray → List (S97) → Int → ByteArray → List (S97) → ByteArray → Int → Int → ByteArray → ByteArray → List (S97) → ByteArray → ByteArray → List (S105) → Int → ByteArray → List (S105) → ByteArray → Int → Int → ByteArray → ByteArray → List (S105) → ByteArray → Option (Bool)
 | 0, _, _, _, _, _, _, _, _, _, _, _, _, _, _, _, _, _, _, _, _, _, _, _, _, _ => none
 | k + 1, x47, x428000, x428001, x428002, x428003, x428004, x428005, x428006, x428007, x429000, x429001, x429002, x429003, x464000, x464001, x464002, x464003, x464004, x464005, x464006, x464007, x471000, x471001, x471002, x471003 => if x47 = true then (some false) else ((laws_toItem.f k x428000 x428001 x428002 x428003 x428004 x428005 x428006 x428007).bind fun bt473 => ((laws_eqItem.f k x464000 x464001 x464002 x464003 x464004 x464005 x464006 x464007 bt473.1 bt473.2.1 bt473.2.2.1 bt473.2.2.2.1 bt473.2.2.2.2.1 bt473.2.2.2.2.2.1 bt473.2.2.2.2.2.2.1 bt473.2.2.2.2.2.2.2).bind fun t485 => (if t485 = true then ((laws_toRequest.f k x429000 x429001 x429002 x429003).bind fun bt486 => ((laws_eqRequest.f k x471000 x471001 x471002 x471003 bt486.1 bt486.2.1 bt486.2.2.1 bt486.2.2.2).bind fun t492 => (if t492 = true then (some true) else (some false)))) else (some false))))
def laws_FnExactMatches.f (k : Nat) (a0_0 : ByteArray) (l0_1 : List (S97)) (a0_2 : Int) (a0_3 : ByteArray) (l0_4 : List (S97)) (a0_5 : ByteArray) (a0_6 : Int) (a0_7 : Int) (a1_0 : ByteArray) (a1_1 : ByteArray) (l1_2 : List (S97)) (a1_3 : ByteArray) : Option (Bool) := (laws_szItem.f k a0_0 l0_1 a0_2 a0_3 l0_4 a0_5 a0_6 a0_7 1048576).bind fun t429 => (if t429 < 0 then (some true) else ((laws_szRequest.f k a1_0 a1_1 l1_2 a1_3 t429).bind fun t430 => (if t430 < 0 then (some true) else ((laws_toItem.f k a0_0 l0_1 a0_2 a0_3 l0_4 a0_5 a0_6 a0_7).bind fun bt431 => ((laws_toRequest.f k a1_0 a1_1 l1_2 a1_3).bind fun bt443 => ((spec_Matches.f k bt431.1 bt431.2.1 bt431.2.2.1 bt431.2.2.2.1 bt431.2.2.2.2.1 bt431.2.2.2.2.2.1 bt431.2.2.2.2.2.2.1 bt431.2.2.2.2.2.2.2 bt443.1 bt443.2.1 bt443.2.2.1 bt443.2.2.2).bind fun bt449 => ((laws_toItem.f k a0_0 l0_1 a0_2 a0_3 l0_4 a0_5 a0_6 a0_7).bind fun bt451 => ((laws_toRequest.f k a1_0 a1_1 l1_2 a1_3).bind fun bt464 => ((impl_Matches.f k bt451.1 bt451.2.1 bt451.2.2.1 bt451.2.2.2.1 bt451.2.2.2.2.1 bt451.2.2.2.2.2.1 bt451.2.2.2.2.2.2.1 bt451.2.2.2.2.2.2.2 bt464.1 bt464.2.1 bt464.2.2.1 bt464.2.2.2).bind fun bt471 => (if (bt471.1 != bt449.1) = true then (laws_FnExactMatches.j0 k true a0_0 l0_1 a0_2 a0_3 l0_4 a0_5 a0_6 a0_7 a1_0 a1_1 l1_2 a1_3 bt451.1 bt451.2.1 bt451.2.2.1 bt451.2.2.2.1 bt451.2.2.2.2.1 bt451.2.2.2.2.2.1 bt451.2.2.2.2.2.2.1 bt451.2.2.2.2.2.2.2 bt464.1 bt464.2.1 bt464.2.2.1 bt464.2.2.2) else (laws_FnExactMatches.j0 k (bt471.2 != bt449.2) a0_0 l0_1 a0_2 a0_3 l0_4 a0_5 a0_6 a0_7 a1_0 a1_1 l1_2 a1_3 bt451.1 bt451.2.1 bt451.2.2.1 bt451.2.2.2.1 bt451.2.2.2.2.1 bt451.2.2.2.2.2.1 bt451.2.2.2.2.2.2.1 bt451.2.2.2.2.2.2.2 bt464.1 bt464.2.1 bt464.2.2.1 bt464.2.2.2)))))))))))
def laws_FnExactMatches.T8 : Bool × List (List Nat × List Nat) := (true, [([], []), ([0], [0]), ([], []), ([2, 1], [2]), ([1, 3, 3], [1, 3]), ([4], [4]), ([5], [5]), ([5], [5]), ([6, 4, 0, 1, 2, 3, 4, 5, 6], [6]), ([7, 8, 0, 1, 2, 3, 4, 5, 6, 7, 8], [7])])
def laws_FnExactMatches.B8 : List Nat := [0, 1, 0, 7, 15, 31, 63, 63, 127, 511]
theorem laws_FnExactMatches.tab8 : rtab .any (opsOf Tryz.f6 8) = laws_FnExactMatches.T8 := by kernel_rfl
theorem laws_FnExactMatches.bits8 : waitsOk laws_FnExactMatches.T8.2 laws_FnExactMatches.B8 = true := by kernel_rfl
set_option maxHeartbeats 8000000 in
set_option maxRecDepth 100000 in
theorem laws_FnExactMatches.calls (k : Nat) (a0_0 : ByteArray) (A0_1 : Option Addr) (c0_1 : Nat) (l0_1 : List (S97)) (a0_2 : Int) (a0_3 : ByteArray) (A0_4 : Option Addr) (c0_4 : Nat) (l0_4 : List (S97)) (a0_5 : ByteArray) (a0_6 : Int) (a0_7 : Int) (a1_0 : ByteArray) (a1_1 : ByteArray) (A1_2 : Option Addr) (c1_2 : Nat) (l1_2 : List (S97)) (a1_3 : ByteArray) (r : Bool) (w : World) (hr0_1 : Kd.C k97 w A0_1 l0_1.length l0_1) (hc0_1 : l0_1.length ≤ c0_1) (hr0_4 : Kd.C k97 w A0_4 l0_4.length l0_4) (hc0_4 : l0_4.length ≤ c0_4) (hr1_2 : Kd.C k97 w A1_2 l1_2.length l1_2) (hc1_2 : l1_2.length ≤ c1_2) (h : laws_FnExactMatches.f k a0_0 l0_1 a0_2 a0_3 l0_4 a0_5 a0_6 a0_7 a1_0 a1_1 l1_2 a1_3 = some r) (hT_ : TabOk w) :
  Calls Tryz.prog 6 #[.agg #[.string a0_0, .slice A0_1 l0_1.length c0_1, .int .i64 a0_2, .string a0_3, .slice A0_4 l0_4.length c0_4, .string a0_5, .int .i64 a0_6, .int .i64 a0_7], .agg #[.string a1_0, .string a1_1, .slice A1_2 l1_2.length c1_2, .string a1_3]] w fun e w' => e = .returned (.bool r) ∧ Below w.heap.size w w' := by
 have HTB_ := Aside0.mk hT_
 clear hT_
 have hu64 := Tryz.underlying64
 have hu26 := Tryz.underlying26
 have hu71 := Tryz.underlying71
 have hu35 := Tryz.underlying35
 have HR0_1 := Aside0.mk hr0_1
 have HC0_1 := Aside0.mk hc0_1
 clear hr0_1 hc0_1
 have HR0_4 := Aside0.mk hr0_4
 have HC0_4 := Aside0.mk hc0_4
 clear hr0_4 hc0_4
 have HR1_2 := Aside0.mk hr1_2
 have HC1_2 := Aside0.mk hc1_2
 clear hr1_2 hc1_2
 have HB := Aside0.mk (Below.refl w.heap.size w)
 have H := h
 unfold laws_FnExactMatches.f at H
 clear h
 replace H := mb_ H
 obtain ⟨t429, A3, H⟩ := H
 by_cases c4 : t429 < 0
 ·rw [if_pos c4] at H
  have c4b0 := decide_eq_true c4
  clear c4
  obtain rfl := Option.some.inj H
  go_enter Tryz.func6, Tryz.ntmps6
  go_wp2_with (first | ((with_reducible refine gd_ 2 ?_); refine xbe_ (N := 2) (cs := #[.string a0_0, .slice A0_1 l0_1.length c0_1, .int .i64 a0_2, .string a0_3, .slice A0_4 l0_4.length c0_4, .string a0_5, .int .i64 a0_6, .int .i64 a0_7]) (t := 64) ?_; intro gb427 hg w5 hbox hb; have BK427 := Aside0.mk (hbox); have GE427 := xge_ HB hg; replace HB := xws_ HB hb; clear hb hbox hg) | ((with_reducible refine gd_ 3 ?_); refine xbe_ (N := 3) (cs := #[.string a1_0, .string a1_1, .slice A1_2 l1_2.length c1_2, .string a1_3]) (t := 26) ?_; intro gb428 hg w6 hbox hb; have BK428 := Aside0.mk (hbox); have GE428 := xge_ HB hg; replace HB := xws_ HB hb; have NB427_428 := xlt_ BK427 hg; have NB428_427 := xgt_ BK427 hg; replace BK427 := xbb_ BK427 hb; clear hb hbox hg; have hnb7 := NB427_428.out; have hnc7 := NB428_427.out; have ⟨_, _, _, _, _, _, _, _, _, _, _, _, _, _, _, _⟩ := c8_ BK427) | ((with_reducible refine gc_ 28 ?_); refine xgl_ (some 14) Tryz.func28 #[.agg #[.string a0_0, .slice A0_1 l0_1.length c0_1, .int .i64 a0_2, .string a0_3, .slice A0_4 l0_4.length c0_4, .string a0_5, .int .i64 a0_6, .int .i64 a0_7], .int .i64 1048576] ?_; (with_reducible refine (laws_szItem.calls k a0_0 _ _ l0_1 a0_2 a0_3 _ _ l0_4 a0_5 a0_6 a0_7 1048576 t429 _ ?side1 ?side2 ?side3 ?side4 A3.out).mono ?_); (case side1 => exact xc_ ((Kd.C_below HR0_1.out HB.out))); (case side2 => exact HC0_1.out); (case side3 => exact xc_ ((Kd.C_below HR0_4.out HB.out))); (case side4 => exact HC0_4.out); rintro e w9 ⟨rfl, hb⟩; refine ⟨_, rfl, ?_⟩; replace BK427 := xbb_ BK427 hb; replace BK428 := xbb_ BK428 hb; replace HB := xws_ HB hb; (try clear hb)))
  go_ret
  exact ⟨mf_, xw_ HB⟩
 ·rw [if_neg c4] at H
  have c4b0 := decide_eq_false c4
  clear c4
  replace H := mb_ H
  obtain ⟨t430, A10, H⟩ := H
  by_cases c11 : t430 < 0
  ·rw [if_pos c11] at H
   have c11b0 := decide_eq_true c11
   clear c11
   obtain rfl := Option.some.inj H
   go_enter Tryz.func6, Tryz.ntmps6
   go_wp2_with (first | ((with_reducible refine gd_ 2 ?_); refine xbe_ (N := 2) (cs := #[.string a0_0, .slice A0_1 l0_1.length c0_1, .int .i64 a0_2, .string a0_3, .slice A0_4 l0_4.length c0_4, .string a0_5, .int .i64 a0_6, .int .i64 a0_7]) (t := 64) ?_; intro gb427 hg w12 hbox hb; have BK427 := Aside0.mk (hbox); have GE427 := xge_ HB hg; replace HB := xws_ HB hb; clear hb hbox hg) | ((with_reducible refine gd_ 3 ?_); refine xbe_ (N := 3) (cs := #[.string a1_0, .string a1_1, .slice A1_2 l1_2.length c1_2, .string a1_3]) (t := 26) ?_; intro gb428 hg w13 hbox hb; have BK428 := Aside0.mk (hbox); have GE428 := xge_ HB hg; replace HB := xws_ HB hb; have NB427_428 := xlt_ BK427 hg; have NB428_427 := xgt_ BK427 hg; replace BK427 := xbb_ BK427 hb; clear hb hbox hg; have hnb14 := NB427_428.out; have hnc14 := NB428_427.out; have ⟨_, _, _, _, _, _, _, _, _, _, _, _, _, _, _, _⟩ := c8_ BK427) | ((with_reducible refine gc_ 28 ?_); refine xgl_ (some 14) Tryz.func28 #[.agg #[.string a0_0, .slice A0_1 l0_1.length c0_1, .int .i64 a0_2, .string a0_3, .slice A0_4 l0_4.length c0_4, .string a0_5, .int .i64 a0_6, .int .i64 a0_7], .int .i64 1048576] ?_; (with_reducible refine (laws_szItem.calls k a0_0 _ _ l0_1 a0_2 a0_3 _ _ l0_4 a0_5 a0_6 a0_7 1048576 t429 _ ?side1 ?side2 ?side3 ?side4 A3.out).mono ?_); (case side1 => exact xc_ ((Kd.C_below HR0_1.out HB.out))); (case side2 => exact HC0_1.out); (case side3 => exact xc_ ((Kd.C_below HR0_4.out HB.out))); (case side4 => exact HC0_4.out); rintro e w16 ⟨rfl, hb⟩; refine ⟨_, rfl, ?_⟩; replace BK427 := xbb_ BK427 hb; replace BK428 := xbb_ BK428 hb; replace HB := xws_ HB hb; (try clear hb); have ⟨_, _, _, _, _, _, _, _⟩ := c4_ BK428) | ((with_reducible refine gc_ 8 ?_); refine xgl_ (some 19) Tryz.func8 #[.agg #[.string a1_0, .string a1_1, .slice A1_2 l1_2.length c1_2, .string a1_3], .int .i64 t429] ?_; (with_reducible refine (laws_szRequest.calls k a1_0 a1_1 _ _ l1_2 a1_3 t429 t430 _ ?side1 ?side2 A10.out).mono ?_); (case side1 => exact xc_ ((Kd.C_below HR1_2.out HB.out))); (case side2 => exact HC1_2.out); rintro e w18 ⟨rfl, hb⟩; refine ⟨_, rfl, ?_⟩; replace BK427 := xbb_ BK427 hb; replace BK428 := xbb_ BK428 hb; replace HB := xws_ HB hb; (try clear hb)))
   go_ret
   exact ⟨mf_, xw_ HB⟩
  ·rw [if_neg c11] at H
   have c11b0 := decide_eq_false c11
   clear c11
   replace H := mb_ H
   obtain ⟨⟨t431, t432, t435, t436, t437, t440, t441, t442⟩, A19, H⟩ := H
   dsimp only at H
   replace H := mb_ H
   obtain ⟨⟨t443, t444, t445, t448⟩, A20, H⟩ := H
   dsimp only at H
   replace H := mb_ H
   obtain ⟨⟨t449, t450⟩, A21, H⟩ := H
   dsimp only at H
   replace H := mb_ H
   obtain ⟨⟨t451, t452, t455, t456, t457, t460, t461, t462⟩, A22, H⟩ := H
   dsimp only at H
   replace H := mb_ H
   obtain ⟨⟨t464, t465, t466, t469⟩, A23, H⟩ := H
   dsimp only at H
   replace H := mb_ H
   obtain ⟨⟨t471, t472⟩, A24, H⟩ := H
   dsimp only at H
   have HC25 := Aside0.mk H
   clear H
   go_enter Tryz.func6, Tryz.ntmps6
   try go_wp2_with (first | ((with_reducible refine gd_ 2 ?_); refine xbe_ (N := 2) (cs := #[.string a0_0, .slice A0_1 l0_1.length c0_1, .int .i64 a0_2, .string a0_3, .slice A0_4 l0_4.length c0_4, .string a0_5, .int .i64 a0_6, .int .i64 a0_7]) (t := 64) ?_; intro gb427 hg w26 hbox hb; have BK427 := Aside0.mk (hbox); have GE427 := xge_ HB hg; replace HB := xws_ HB hb; clear hb hbox hg) | ((with_reducible refine gd_ 3 ?_); refine xbe_ (N := 3) (cs := #[.string a1_0, .string a1_1, .slice A1_2 l1_2.length c1_2, .string a1_3]) (t := 26) ?_; intro gb428 hg w27 hbox hb; have BK428 := Aside0.mk (hbox); have GE428 := xge_ HB hg; replace HB := xws_ HB hb; have NB427_428 := xlt_ BK427 hg; have NB428_427 := xgt_ BK427 hg; replace BK427 := xbb_ BK427 hb; clear hb hbox hg; have hnb28 := NB427_428.out; have hnc28 := NB428_427.out; have ⟨_, _, _, _, _, _, _, _, _, _, _, _, _, _, _, _⟩ := c8_ BK427) | ((with_reducible refine gc_ 28 ?_); refine xgl_ (some 14) Tryz.func28 #[.agg #[.string a0_0, .slice A0_1 l0_1.length c0_1, .int .i64 a0_2, .string a0_3, .slice A0_4 l0_4.length c0_4, .string a0_5, .int .i64 a0_6, .int .i64 a0_7], .int .i64 1048576] ?_; (with_reducible refine (laws_szItem.calls k a0_0 _ _ l0_1 a0_2 a0_3 _ _ l0_4 a0_5 a0_6 a0_7 1048576 t429 _ ?side1 ?side2 ?side3 ?side4 A3.out).mono ?_); (case side1 => exact xc_ ((Kd.C_below HR0_1.out HB.out))); (case side2 => exact HC0_1.out); (case side3 => exact xc_ ((Kd.C_below HR0_4.out HB.out))); (case side4 => exact HC0_4.out); rintro e w30 ⟨rfl, hb⟩; refine ⟨_, rfl, ?_⟩; replace BK427 := xbb_ BK427 hb; replace BK428 := xbb_ BK428 hb; replace HB := xws_ HB hb; (try clear hb); have ⟨_, _, _, _, _, _, _, _⟩ := c4_ BK428) | ((with_reducible refine gc_ 8 ?_); refine xgl_ (some 19) Tryz.func8 #[.agg #[.string a1_0, .string a1_1, .slice A1_2 l1_2.length c1_2, .string a1_3], .int .i64 t429] ?_; (with_reducible refine (laws_szRequest.calls k a1_0 a1_1 _ _ l1_2 a1_3 t429 t430 _ ?side1 ?side2 A10.out).mono ?_); (case side1 => exact xc_ ((Kd.C_below HR1_2.out HB.out))); (case side2 => exact HC1_2.out); rintro e w32 ⟨rfl, hb⟩; refine ⟨_, rfl, ?_⟩; replace BK427 := xbb_ BK427 hb; replace BK428 := xbb_ BK428 hb; replace HB := xws_ HB hb; (try clear hb)))
   replace BK427 := Aside0.mk (blk_drew BK427.out)
   replace BK428 := Aside0.mk (blk_drew BK428.out)
   replace HB := Aside0.mk (below_drew1 HB.out)
   refine ms_ 10 (fun w' => w'.cell? ⟨gb427, 0, none⟩ = some (.string a0_0) ∧ w'.cell? ⟨gb427, 1, none⟩ = some (.slice A0_1 l0_1.length c0_1) ∧ w'.cell? ⟨gb427, 2, none⟩ = some (.int .i64 a0_2) ∧ w'.cell? ⟨gb427, 3, none⟩ = some (.string a0_3) ∧ w'.cell? ⟨gb427, 4, none⟩ = some (.slice A0_4 l0_4.length c0_4) ∧ w'.cell? ⟨gb427, 5, none⟩ = some (.string a0_5) ∧ w'.cell? ⟨gb427, 6, none⟩ = some (.int .i64 a0_6) ∧ w'.cell? ⟨gb427, 7, none⟩ = some (.int .i64 a0_7) ∧ w'.cell? ⟨gb428, 0, none⟩ = some (.string a1_0) ∧ w'.cell? ⟨gb428, 1, none⟩ = some (.string a1_1) ∧ w'.cell? ⟨gb428, 2, none⟩ = some (.slice A1_2 l1_2.length c1_2) ∧ w'.cell? ⟨gb428, 3, none⟩ = some (.string a1_3)) laws_FnExactMatches.tab8 laws_FnExactMatches.bits8 ⟨xk_ BK427 0, xk_ BK427 1, xk_ BK427 2, xk_ BK427 3, xk_ BK427 4, xk_ BK427 5, xk_ BK427 6, xk_ BK427 7, xk_ BK428 0, xk_ BK428 1, xk_ BK428 2, xk_ BK428 3⟩ (fun hHeld HT_ HW_ => ?_)
   generalize w32.drew = w33 at BK427 BK428 HB hHeld ⊢
   refine mt_ 0 23 hHeld ?_
   refine mt_ 2 25 hHeld ?_
   refine m1_ 1 24 Tryz.func30 #[.agg #[.string a0_0, .slice A0_1 l0_1.length c0_1, .int .i64 a0_2, .string a0_3, .slice A0_4 l0_4.length c0_4, .string a0_5, .int .i64 a0_6, .int .i64 a0_7]] ?_
   with_reducible refine (laws_toItem.calls k a0_0 _ _ l0_1 a0_2 a0_3 _ _ l0_4 a0_5 a0_6 a0_7 t431 t432 t435 t436 t437 t440 t441 t442 _ ?side1 ?side2 ?side3 ?side4 A19.out).mono ?_
   (case side1 => exact xc_ ((Kd.C_below HR0_1.out HB.out)))
   (case side2 => exact HC0_1.out)
   (case side3 => exact xc_ ((Kd.C_below HR0_4.out HB.out)))
   (case side4 => exact HC0_4.out)
   rintro e w34 ⟨v433, v438, rfl, ho0, ho1, hb⟩
   refine ⟨_, rfl, ?_⟩
   have HO434 := Aside0.mk (Kd.R_lower ho0 (below_size (xw_ HB)))
   have HO439 := Aside0.mk (Kd.R_lower ho1 (below_size (xw_ HB)))
   replace BK427 := xbb_ BK427 hb
   replace BK428 := xbb_ BK428 hb
   replace HB := xws_ HB hb
   (try clear hb)
   (try clear ho0)
   (try clear ho1)
   refine ⟨⟨xk_ BK427 0, xk_ BK427 1, xk_ BK427 2, xk_ BK427 3, xk_ BK427 4, xk_ BK427 5, xk_ BK427 6, xk_ BK427 7, xk_ BK428 0, xk_ BK428 1, xk_ BK428 2, xk_ BK428 3⟩, fun hHeld => ?_⟩
   refine mn_ 24 ?_
   refine m1_ 3 26 Tryz.func11 #[.agg #[.string a1_0, .string a1_1, .slice A1_2 l1_2.length c1_2, .string a1_3]] ?_
   with_reducible refine (laws_toRequest.calls k a1_0 a1_1 _ _ l1_2 a1_3 t443 t444 t445 t448 _ ?side1 ?side2 A20.out).mono ?_
   (case side1 => exact xc_ ((Kd.C_below HR1_2.out HB.out)))
   (case side2 => exact HC1_2.out)
   rintro e w35 ⟨v446, rfl, ho0, hb⟩
   refine ⟨_, rfl, ?_⟩
   have HO447 := Aside0.mk (Kd.R_lower (Kd.R_new' (Kd.R_new' ho0 (Kd.R_lt (xr_ HO434))) (Kd.R_lt (xr_ HO439))) (below_size (xw_ HB)))
   replace HO434 := xre_ HO434 ho0 hb
   replace HO439 := xre_ HO439 ho0 hb
   replace BK427 := xbb_ BK427 hb
   replace BK428 := xbb_ BK428 hb
   replace HB := xws_ HB hb
   (try clear hb)
   (try clear ho0)
   obtain ⟨Ao36, co36, eo36⟩ := Kd.R_slice HO434.out
   (first | subst eo36 | (injection eo36 with f1_ f2_ f3_; have f4_ := f1_.symm; have f5_ := f3_.symm; clear f1_ f2_ f3_; subst f4_; subst f5_))
   obtain ⟨Ao37, co37, eo37⟩ := Kd.R_slice HO439.out
   (first | subst eo37 | (injection eo37 with f1_ f2_ f3_; have f4_ := f1_.symm; have f5_ := f3_.symm; clear f1_ f2_ f3_; subst f4_; subst f5_))
   obtain ⟨Ao38, co38, eo38⟩ := Kd.R_slice HO447.out
   (first | subst eo38 | (injection eo38 with f1_ f2_ f3_; have f4_ := f1_.symm; have f5_ := f3_.symm; clear f1_ f2_ f3_; subst f4_; subst f5_))
   refine ⟨⟨xk_ BK427 0, xk_ BK427 1, xk_ BK427 2, xk_ BK427 3, xk_ BK427 4, xk_ BK427 5, xk_ BK427 6, xk_ BK427 7, xk_ BK428 0, xk_ BK428 1, xk_ BK428 2, xk_ BK428 3⟩, fun hHeld => ?_⟩
   refine mn_ 26 ?_
   refine m1_ 4 27 Tryz.func29 #[.agg #[.string t431, .slice Ao36 t432.length co36, .int .i64 t435, .string t436, .slice Ao37 t437.length co37, .string t440, .int .i64 t441, .int .i64 t442], .agg #[.string t443, .string t444, .slice Ao38 t445.length co38, .string t448]] ?_
   with_reducible refine (spec_Matches.calls k t431 _ _ t432 t435 t436 _ _ t437 t440 t441 t442 t443 t444 _ _ t445 t448 t449 t450 _ ?side1 ?side2 ?side3 ?side4 ?side5 ?side6 A21.out).mono ?_
   (case side1 => exact xc_ ((Kd.R_reads' HO434.out).2.2))
   (case side2 => exact (Kd.R_reads' HO434.out).2.1)
   (case side3 => exact xc_ ((Kd.R_reads' HO439.out).2.2))
   (case side4 => exact (Kd.R_reads' HO439.out).2.1)
   (case side5 => exact xc_ ((Kd.R_reads' HO447.out).2.2))
   (case side6 => exact (Kd.R_reads' HO447.out).2.1)
   rintro e w39 ⟨rfl, hb⟩
   refine ⟨_, rfl, ?_⟩
   replace HO434 := xrb_ HO434 hb
   replace HO439 := xrb_ HO439 hb
   replace HO447 := xrb_ HO447 hb
   replace BK427 := xbb_ BK427 hb
   replace BK428 := xbb_ BK428 hb
   replace HB := xws_ HB hb
   (try clear hb)
   refine ⟨⟨xk_ BK427 0, xk_ BK427 1, xk_ BK427 2, xk_ BK427 3, xk_ BK427 4, xk_ BK427 5, xk_ BK427 6, xk_ BK427 7, xk_ BK428 0, xk_ BK428 1, xk_ BK428 2, xk_ BK428 3⟩, fun hHeld => ?_⟩
   refine mn_ 27 ?_
   refine mp_ 5 22 ?_
   refine mp_ 6 28 ?_
   refine mp_ 7 29 ?_
   refine mp_ 8 6 ?_
   refine mp_ 9 7 ?_
   refine done_ (done_of HT_.out (by kernel_rfl)) ?_
   have ⟨_, _, _, _, _, _, _, _, _, _, _, _, _, _, _, _⟩ := c8_ BK427
   go_upto_region 12 with (first | ((with_reducible refine gc_ 30 ?_); refine xgl_ (some 31) Tryz.func30 #[.agg #[.string a0_0, .slice A0_1 l0_1.length c0_1, .int .i64 a0_2, .string a0_3, .slice A0_4 l0_4.length c0_4, .string a0_5, .int .i64 a0_6, .int .i64 a0_7]] ?_; (with_reducible refine (laws_toItem.calls k a0_0 _ _ l0_1 a0_2 a0_3 _ _ l0_4 a0_5 a0_6 a0_7 t451 t452 t455 t456 t457 t460 t461 t462 _ ?side1 ?side2 ?side3 ?side4 A22.out).mono ?_); (case side1 => exact xc_ ((Kd.C_below HR0_1.out HB.out))); (case side2 => exact HC0_1.out); (case side3 => exact xc_ ((Kd.C_below HR0_4.out HB.out))); (case side4 => exact HC0_4.out); rintro e w41 ⟨v453, v458, rfl, ho0, ho1, hb⟩; refine ⟨_, rfl, ?_⟩; have HO454 := Aside0.mk (Kd.R_lower (Kd.R_new' (Kd.R_new' (Kd.R_new' ho0 (Kd.R_lt (xr_ HO434))) (Kd.R_lt (xr_ HO439))) (Kd.R_lt (xr_ HO447))) (below_size (xw_ HB))); have HO459 := Aside0.mk (Kd.R_lower (Kd.R_new' (Kd.R_new' (Kd.R_new' ho1 (Kd.R_lt (xr_ HO434))) (Kd.R_lt (xr_ HO439))) (Kd.R_lt (xr_ HO447))) (below_size (xw_ HB))); replace HO434 := Aside0.mk (Kd.R_mono (Kd.R_told (Kd.R_told (Kd.R_old (xr_ HO434) hb) (Kd.R_base ho0)) (Kd.R_base ho1)) (fun _ h_ => h_.1)); replace HO439 := Aside0.mk (Kd.R_mono (Kd.R_told (Kd.R_told (Kd.R_old (xr_ HO439) hb) (Kd.R_base ho0)) (Kd.R_base ho1)) (fun _ h_ => h_.1)); replace HO447 := Aside0.mk (Kd.R_mono (Kd.R_told (Kd.R_told (Kd.R_old (xr_ HO447) hb) (Kd.R_base ho0)) (Kd.R_base ho1)) (fun _ h_ => h_.1)); replace BK427 := xbb_ BK427 hb; replace BK428 := xbb_ BK428 hb; replace HB := xws_ HB hb; (try clear hb); (try clear ho0); (try clear ho1)) | ((with_reducible refine gd_ 8 ?_); refine xbe_ (N := 8) (cs := #[.string (⟨#[]⟩ : ByteArray), .slice none 0 0, .int .i64 0, .string (⟨#[]⟩ : ByteArray), .slice none 0 0, .string (⟨#[]⟩ : ByteArray), .int .i64 0, .int .i64 0]) (t := 71) ?_; intro gb463 hg w42 hbox hb; replace HO434 := xrb_ HO434 hb; replace HO439 := xrb_ HO439 hb; replace HO447 := xrb_ HO447 hb; replace HO454 := xrb_ HO454 hb; replace HO459 := xrb_ HO459 hb; have BK463 := Aside0.mk (hbox); have GE463 := xge_ HB hg; replace HB := xws_ HB hb; have NB427_463 := xlt_ BK427 hg; have NB463_427 := xgt_ BK427 hg; replace BK427 := xbb_ BK427 hb; have NB428_463 := xlt_ BK428 hg; have NB463_428 := xgt_ BK428 hg; replace BK428 := xbb_ BK428 hb; clear hb hbox hg; have hnb43 := NB463_427.out; have hnc43 := NB427_463.out; have hnb44 := NB463_428.out; have hnc44 := NB428_463.out; have ⟨_, _, _, _, _, _, _, _, _, _, _, _, _, _, _, _⟩ := c8_ BK463; obtain ⟨Ao46, co46, eo46⟩ := Kd.R_slice HO454.out; subst eo46; obtain ⟨Ao47, co47, eo47⟩ := Kd.R_slice HO459.out; subst eo47; have ⟨_, _, _, _, _, _, _, _⟩ := c4_ BK428) | ((with_reducible refine gc_ 11 ?_); refine xgl_ (some 33) Tryz.func11 #[.agg #[.string a1_0, .string a1_1, .slice A1_2 l1_2.length c1_2, .string a1_3]] ?_; (with_reducible refine (laws_toRequest.calls k a1_0 a1_1 _ _ l1_2 a1_3 t464 t465 t466 t469 _ ?side1 ?side2 A23.out).mono ?_); (case side1 => exact Kd.C_below HR1_2.out (xw_ HB)); (case side2 => exact HC1_2.out); rintro e w49 ⟨v467, rfl, ho0, hb⟩; refine ⟨_, rfl, ?_⟩; have HO468 := Aside0.mk (Kd.R_lower (Kd.R_new' (Kd.R_new' (Kd.R_new' (Kd.R_new' (Kd.R_new' ho0 (Kd.R_lt (xrt_ ((Kd.R_mono (Kd.R_far (p := ⟨gb463, 7, none⟩) (Kd.R_far (p := ⟨gb463, 6, none⟩) (Kd.R_far (p := ⟨gb463, 5, none⟩) (Kd.R_far (p := ⟨gb463, 4, none⟩) (Kd.R_far (p := ⟨gb463, 3, none⟩) (Kd.R_far (p := ⟨gb463, 2, none⟩) (Kd.R_far (p := ⟨gb463, 1, none⟩) (Kd.R_far (p := ⟨gb463, 0, none⟩) (Kd.R_types HO434.out BK463.out (by decide)) (fun _ hk => hk.2) (.string t451)) (fun _ hk => hk.2) (.slice Ao46 t452.length co46)) (fun _ hk => hk.2) (.int .i64 t455)) (fun _ hk => hk.2) (.string t456)) (fun _ hk => hk.2) (.slice Ao47 t457.length co47)) (fun _ hk => hk.2) (.string t460)) (fun _ hk => hk.2) (.int .i64 t461)) (fun _ hk => hk.2) (.int .i64 t462)) (fun _ h_ => h_.1)))))) (Kd.R_lt (xrt_ ((Kd.R_mono (Kd.R_far (p := ⟨gb463, 7, none⟩) (Kd.R_far (p := ⟨gb463, 6, none⟩) (Kd.R_far (p := ⟨gb463, 5, none⟩) (Kd.R_far (p := ⟨gb463, 4, none⟩) (Kd.R_far (p := ⟨gb463, 3, none⟩) (Kd.R_far (p := ⟨gb463, 2, none⟩) (Kd.R_far (p := ⟨gb463, 1, none⟩) (Kd.R_far (p := ⟨gb463, 0, none⟩) (Kd.R_types HO439.out BK463.out (by decide)) (fun _ hk => hk.2) (.string t451)) (fun _ hk => hk.2) (.slice Ao46 t452.length co46)) (fun _ hk => hk.2) (.int .i64 t455)) (fun _ hk => hk.2) (.string t456)) (fun _ hk => hk.2) (.slice Ao47 t457.length co47)) (fun _ hk => hk.2) (.string t460)) (fun _ hk => hk.2) (.int .i64 t461)) (fun _ hk => hk.2) (.int .i64 t462)) (fun _ h_ => h_.1)))))) (Kd.R_lt (xrt_ ((Kd.R_mono (Kd.R_far (p := ⟨gb463, 7, none⟩) (Kd.R_far (p := ⟨gb463, 6, none⟩) (Kd.R_far (p := ⟨gb463, 5, none⟩) (Kd.R_far (p := ⟨gb463, 4, none⟩) (Kd.R_far (p := ⟨gb463, 3, none⟩) (Kd.R_far (p := ⟨gb463, 2, none⟩) (Kd.R_far (p := ⟨gb463, 1, none⟩) (Kd.R_far (p := ⟨gb463, 0, none⟩) (Kd.R_types HO447.out BK463.out (by decide)) (fun _ hk => hk.2) (.string t451)) (fun _ hk => hk.2) (.slice Ao46 t452.length co46)) (fun _ hk => hk.2) (.int .i64 t455)) (fun _ hk => hk.2) (.string t456)) (fun _ hk => hk.2) (.slice Ao47 t457.length co47)) (fun _ hk => hk.2) (.string t460)) (fun _ hk => hk.2) (.int .i64 t461)) (fun _ hk => hk.2) (.int .i64 t462)) (fun _ h_ => h_.1)))))) (Kd.R_lt (xrt_ ((Kd.R_mono (Kd.R_far (p := ⟨gb463, 7, none⟩) (Kd.R_far (p := ⟨gb463, 6, none⟩) (Kd.R_far (p := ⟨gb463, 5, none⟩) (Kd.R_far (p := ⟨gb463, 4, none⟩) (Kd.R_far (p := ⟨gb463, 3, none⟩) (Kd.R_far (p := ⟨gb463, 2, none⟩) (Kd.R_far (p := ⟨gb463, 1, none⟩) (Kd.R_far (p := ⟨gb463, 0, none⟩) (Kd.R_types HO454.out BK463.out (by decide)) (fun _ hk => hk.2) (.string t451)) (fun _ hk => hk.2) (.slice Ao46 t452.length co46)) (fun _ hk => hk.2) (.int .i64 t455)) (fun _ hk => hk.2) (.string t456)) (fun _ hk => hk.2) (.slice Ao47 t457.length co47)) (fun _ hk => hk.2) (.string t460)) (fun _ hk => hk.2) (.int .i64 t461)) (fun _ hk => hk.2) (.int .i64 t462)) (fun _ h_ => h_.1)))))) (Kd.R_lt (xrt_ ((Kd.R_mono (Kd.R_far (p := ⟨gb463, 7, none⟩) (Kd.R_far (p := ⟨gb463, 6, none⟩) (Kd.R_far (p := ⟨gb463, 5, none⟩) (Kd.R_far (p := ⟨gb463, 4, none⟩) (Kd.R_far (p := ⟨gb463, 3, none⟩) (Kd.R_far (p := ⟨gb463, 2, none⟩) (Kd.R_far (p := ⟨gb463, 1, none⟩) (Kd.R_far (p := ⟨gb463, 0, none⟩) (Kd.R_types HO459.out BK463.out (by decide)) (fun _ hk => hk.2) (.string t451)) (fun _ hk => hk.2) (.slice Ao46 t452.length co46)) (fun _ hk => hk.2) (.int .i64 t455)) (fun _ hk => hk.2) (.string t456)) (fun _ hk => hk.2) (.slice Ao47 t457.length co47)) (fun _ hk => hk.2) (.string t460)) (fun _ hk => hk.2) (.int .i64 t461)) (fun _ hk => hk.2) (.int .i64 t462)) (fun _ h_ => h_.1)))))) (below_size (xw_ HB))); replace HO434 := Aside0.mk (Kd.R_elder' (xrt_ ((Kd.R_mono (Kd.R_far (p := ⟨gb463, 7, none⟩) (Kd.R_far (p := ⟨gb463, 6, none⟩) (Kd.R_far (p := ⟨gb463, 5, none⟩) (Kd.R_far (p := ⟨gb463, 4, none⟩) (Kd.R_far (p := ⟨gb463, 3, none⟩) (Kd.R_far (p := ⟨gb463, 2, none⟩) (Kd.R_far (p := ⟨gb463, 1, none⟩) (Kd.R_far (p := ⟨gb463, 0, none⟩) (Kd.R_types HO434.out BK463.out (by decide)) (fun _ hk => hk.2) (.string t451)) (fun _ hk => hk.2) (.slice Ao46 t452.length co46)) (fun _ hk => hk.2) (.int .i64 t455)) (fun _ hk => hk.2) (.string t456)) (fun _ hk => hk.2) (.slice Ao47 t457.length co47)) (fun _ hk => hk.2) (.string t460)) (fun _ hk => hk.2) (.int .i64 t461)) (fun _ hk => hk.2) (.int .i64 t462)) (fun _ h_ => h_.1)))) (Kd.R_base ho0) hb); replace HO439 := Aside0.mk (Kd.R_elder' (xrt_ ((Kd.R_mono (Kd.R_far (p := ⟨gb463, 7, none⟩) (Kd.R_far (p := ⟨gb463, 6, none⟩) (Kd.R_far (p := ⟨gb463, 5, none⟩) (Kd.R_far (p := ⟨gb463, 4, none⟩) (Kd.R_far (p := ⟨gb463, 3, none⟩) (Kd.R_far (p := ⟨gb463, 2, none⟩) (Kd.R_far (p := ⟨gb463, 1, none⟩) (Kd.R_far (p := ⟨gb463, 0, none⟩) (Kd.R_types HO439.out BK463.out (by decide)) (fun _ hk => hk.2) (.string t451)) (fun _ hk => hk.2) (.slice Ao46 t452.length co46)) (fun _ hk => hk.2) (.int .i64 t455)) (fun _ hk => hk.2) (.string t456)) (fun _ hk => hk.2) (.slice Ao47 t457.length co47)) (fun _ hk => hk.2) (.string t460)) (fun _ hk => hk.2) (.int .i64 t461)) (fun _ hk => hk.2) (.int .i64 t462)) (fun _ h_ => h_.1)))) (Kd.R_base ho0) hb); replace HO447 := Aside0.mk (Kd.R_elder' (xrt_ ((Kd.R_mono (Kd.R_far (p := ⟨gb463, 7, none⟩) (Kd.R_far (p := ⟨gb463, 6, none⟩) (Kd.R_far (p := ⟨gb463, 5, none⟩) (Kd.R_far (p := ⟨gb463, 4, none⟩) (Kd.R_far (p := ⟨gb463, 3, none⟩) (Kd.R_far (p := ⟨gb463, 2, none⟩) (Kd.R_far (p := ⟨gb463, 1, none⟩) (Kd.R_far (p := ⟨gb463, 0, none⟩) (Kd.R_types HO447.out BK463.out (by decide)) (fun _ hk => hk.2) (.string t451)) (fun _ hk => hk.2) (.slice Ao46 t452.length co46)) (fun _ hk => hk.2) (.int .i64 t455)) (fun _ hk => hk.2) (.string t456)) (fun _ hk => hk.2) (.slice Ao47 t457.length co47)) (fun _ hk => hk.2) (.string t460)) (fun _ hk => hk.2) (.int .i64 t461)) (fun _ hk => hk.2) (.int .i64 t462)) (fun _ h_ => h_.1)))) (Kd.R_base ho0) hb); replace HO454 := Aside0.mk (Kd.R_elder' (xrt_ ((Kd.R_mono (Kd.R_far (p := ⟨gb463, 7, none⟩) (Kd.R_far (p := ⟨gb463, 6, none⟩) (Kd.R_far (p := ⟨gb463, 5, none⟩) (Kd.R_far (p := ⟨gb463, 4, none⟩) (Kd.R_far (p := ⟨gb463, 3, none⟩) (Kd.R_far (p := ⟨gb463, 2, none⟩) (Kd.R_far (p := ⟨gb463, 1, none⟩) (Kd.R_far (p := ⟨gb463, 0, none⟩) (Kd.R_types HO454.out BK463.out (by decide)) (fun _ hk => hk.2) (.string t451)) (fun _ hk => hk.2) (.slice Ao46 t452.length co46)) (fun _ hk => hk.2) (.int .i64 t455)) (fun _ hk => hk.2) (.string t456)) (fun _ hk => hk.2) (.slice Ao47 t457.length co47)) (fun _ hk => hk.2) (.string t460)) (fun _ hk => hk.2) (.int .i64 t461)) (fun _ hk => hk.2) (.int .i64 t462)) (fun _ h_ => h_.1)))) (Kd.R_base ho0) hb); replace HO459 := Aside0.mk (Kd.R_elder' (xrt_ ((Kd.R_mono (Kd.R_far (p := ⟨gb463, 7, none⟩) (Kd.R_far (p := ⟨gb463, 6, none⟩) (Kd.R_far (p := ⟨gb463, 5, none⟩) (Kd.R_far (p := ⟨gb463, 4, none⟩) (Kd.R_far (p := ⟨gb463, 3, none⟩) (Kd.R_far (p := ⟨gb463, 2, none⟩) (Kd.R_far (p := ⟨gb463, 1, none⟩) (Kd.R_far (p := ⟨gb463, 0, none⟩) (Kd.R_types HO459.out BK463.out (by decide)) (fun _ hk => hk.2) (.string t451)) (fun _ hk => hk.2) (.slice Ao46 t452.length co46)) (fun _ hk => hk.2) (.int .i64 t455)) (fun _ hk => hk.2) (.string t456)) (fun _ hk => hk.2) (.slice Ao47 t457.length co47)) (fun _ hk => hk.2) (.string t460)) (fun _ hk => hk.2) (.int .i64 t461)) (fun _ hk => hk.2) (.int .i64 t462)) (fun _ h_ => h_.1)))) (Kd.R_base ho0) hb); replace BK427 := mxb_ (o' := .cells #[.string a0_0, .slice A0_1 l0_1.length c0_1, .int .i64 a0_2, .string a0_3, .slice A0_4 l0_4.length c0_4, .string a0_5, .int .i64 a0_6, .int .i64 a0_7] 64 (0, 0)) BK427 hb; replace BK428 := mxb_ (o' := .cells #[.string a1_0, .string a1_1, .slice A1_2 l1_2.length c1_2, .string a1_3] 26 (0, 0)) BK428 hb; replace BK463 := mxb_ (o' := .cells #[.string t451, .slice Ao46 t452.length co46, .int .i64 t455, .string t456, .slice Ao47 t457.length co47, .string t460, .int .i64 t461, .int .i64 t462] 71 (0, 0)) BK463 hb; replace HB := xws_ HB hb; (try clear hb); (try clear ho0)) | ((with_reducible refine gd_ 9 ?_); refine xbe_ (N := 9) (cs := #[.string (⟨#[]⟩ : ByteArray), .string (⟨#[]⟩ : ByteArray), .slice none 0 0, .string (⟨#[]⟩ : ByteArray)]) (t := 35) ?_; intro gb470 hg w50 hbox hb; replace HO434 := xrb_ HO434 hb; replace HO439 := xrb_ HO439 hb; replace HO447 := xrb_ HO447 hb; replace HO454 := xrb_ HO454 hb; replace HO459 := xrb_ HO459 hb; replace HO468 := xrb_ HO468 hb; have BK470 := Aside0.mk (hbox); have GE470 := xge_ HB hg; replace HB := xws_ HB hb; have NB427_470 := xlt_ BK427 hg; have NB470_427 := xgt_ BK427 hg; replace BK427 := xbb_ BK427 hb; have NB428_470 := xlt_ BK428 hg; have NB470_428 := xgt_ BK428 hg; replace BK428 := xbb_ BK428 hb; have NB463_470 := xlt_ BK463 hg; have NB470_463 := xgt_ BK463 hg; replace BK463 := xbb_ BK463 hb; clear hb hbox hg; have hnb51 := NB470_427.out; have hnc51 := NB427_470.out; have hnb52 := NB470_428.out; have hnc52 := NB428_470.out; have hnb53 := NB470_463.out; have hnc53 := NB463_470.out; have ⟨_, _, _, _, _, _, _, _⟩ := c4_ BK470; obtain ⟨Ao55, co55, eo55⟩ := Kd.R_slice HO468.out; subst eo55; have ⟨_, _, _, _, _, _, _, _, _, _, _, _, _, _, _, _⟩ := c8_ BK463) | ((with_reducible refine gc_ 31 ?_); refine xgl_ (some 37) Tryz.func31 #[.agg #[.string t451, .slice Ao46 t452.length co46, .int .i64 t455, .string t456, .slice Ao47 t457.length co47, .string t460, .int .i64 t461, .int .i64 t462], .agg #[.string t464, .string t465, .slice Ao55 t466.length co55, .string t469]] ?_; (with_reducible refine (impl_Matches.calls k t451 _ _ t452 t455 t456 _ _ t457 t460 t461 t462 t464 t465 _ _ t466 t469 t471 t472 _ ?side1 ?side2 ?side3 ?side4 ?side5 ?side6 A24.out (HTB_.out.below (by first | (with_reducible exact Below.refl _ _) | (repeat (first | (with_reducible first | exact HB.out | exact Below.refl _ _ | apply below_alloc | apply pw_below_drewN | apply below_drew1 | refine below_set ?_ GE427.out | refine below_set ?_ GE428.out | refine below_set ?_ GE463.out | refine below_set ?_ GE470.out) | exact HB.out)) | (repeat (first | exact Below.refl _ _ | apply below_alloc | apply pw_below_drewN | apply below_drew1 | refine below_set ?_ GE427.out | refine below_set ?_ GE428.out | refine below_set ?_ GE463.out | refine below_set ?_ GE470.out))))).mono ?_); (case side1 => refine (Kd.R_reads' (e := 105) (base := w.heap.size) (ok := fun k_ => ((((some k_ ≠ (.slice Ao47 t457.length co47 : Value).ownBlock ∧ some k_ ≠ (.slice Ao36 t432.length co36 : Value).ownBlock) ∧ some k_ ≠ (.slice Ao37 t437.length co37 : Value).ownBlock) ∧ some k_ ≠ (.slice Ao38 t445.length co38 : Value).ownBlock) ∧ some k_ ≠ (.slice Ao55 t466.length co55 : Value).ownBlock)) (n := t452.length) (c := co46) ?_).2.2; exact (xrt_ ((Kd.R_mono (Kd.R_far (p := ⟨gb470, 3, none⟩) (Kd.R_far (p := ⟨gb470, 2, none⟩) (Kd.R_far (p := ⟨gb470, 1, none⟩) (Kd.R_far (p := ⟨gb470, 0, none⟩) (Kd.R_types HO454.out BK470.out (by decide)) (fun _ hk => hk.2) (.string t464)) (fun _ hk => hk.2) (.string t465)) (fun _ hk => hk.2) (.slice Ao55 t466.length co55)) (fun _ hk => hk.2) (.string t469)) (fun _ h_ => h_.1))))); (case side2 => exact (Kd.R_reads' HO454.out).2.1); (case side3 => refine (Kd.R_reads' (e := 105) (base := w.heap.size) (ok := fun k_ => ((((some k_ ≠ (.slice Ao46 t452.length co46 : Value).ownBlock ∧ some k_ ≠ (.slice Ao36 t432.length co36 : Value).ownBlock) ∧ some k_ ≠ (.slice Ao37 t437.length co37 : Value).ownBlock) ∧ some k_ ≠ (.slice Ao38 t445.length co38 : Value).ownBlock) ∧ some k_ ≠ (.slice Ao55 t466.length co55 : Value).ownBlock)) (n := t457.length) (c := co47) ?_).2.2; exact (xrt_ ((Kd.R_mono (Kd.R_far (p := ⟨gb470, 3, none⟩) (Kd.R_far (p := ⟨gb470, 2, none⟩) (Kd.R_far (p := ⟨gb470, 1, none⟩) (Kd.R_far (p := ⟨gb470, 0, none⟩) (Kd.R_types HO459.out BK470.out (by decide)) (fun _ hk => hk.2) (.string t464)) (fun _ hk => hk.2) (.string t465)) (fun _ hk => hk.2) (.slice Ao55 t466.length co55)) (fun _ hk => hk.2) (.string t469)) (fun _ h_ => h_.1))))); (case side4 => exact (Kd.R_reads' HO459.out).2.1); (case side5 => refine (Kd.R_reads' (e := 105) (base := w.heap.size) (ok := fun k_ => (((((True ∧ some k_ ≠ (.slice Ao36 t432.length co36 : Value).ownBlock) ∧ some k_ ≠ (.slice Ao37 t437.length co37 : Value).ownBlock) ∧ some k_ ≠ (.slice Ao38 t445.length co38 : Value).ownBlock) ∧ some k_ ≠ (.slice Ao46 t452.length co46 : Value).ownBlock) ∧ some k_ ≠ (.slice Ao47 t457.length co47 : Value).ownBlock)) (n := t466.length) (c := co55) ?_).2.2; exact (xrt_ ((Kd.R_mono (Kd.R_far (p := ⟨gb470, 3, none⟩) (Kd.R_far (p := ⟨gb470, 2, none⟩) (Kd.R_far (p := ⟨gb470, 1, none⟩) (Kd.R_far (p := ⟨gb470, 0, none⟩) (Kd.R_types HO468.out BK470.out (by decide)) (fun _ hk => hk.2) (.string t464)) (fun _ hk => hk.2) (.string t465)) (fun _ hk => hk.2) (.slice Ao55 t466.length co55)) (fun _ hk => hk.2) (.string t469)) (fun _ h_ => h_.1))))); (case side6 => exact (Kd.R_reads' HO468.out).2.1); rintro e w57 ⟨rfl, hb⟩; refine ⟨_, rfl, ?_⟩; replace HO434 := Aside0.mk (Kd.R_below (xrt_ ((Kd.R_mono (Kd.R_far (p := ⟨gb470, 3, none⟩) (Kd.R_far (p := ⟨gb470, 2, none⟩) (Kd.R_far (p := ⟨gb470, 1, none⟩) (Kd.R_far (p := ⟨gb470, 0, none⟩) (Kd.R_types HO434.out BK470.out (by decide)) (fun _ hk => hk.2) (.string t464)) (fun _ hk => hk.2) (.string t465)) (fun _ hk => hk.2) (.slice Ao55 t466.length co55)) (fun _ hk => hk.2) (.string t469)) (fun _ h_ => h_.1)))) hb); replace HO439 := Aside0.mk (Kd.R_below (xrt_ ((Kd.R_mono (Kd.R_far (p := ⟨gb470, 3, none⟩) (Kd.R_far (p := ⟨gb470, 2, none⟩) (Kd.R_far (p := ⟨gb470, 1, none⟩) (Kd.R_far (p := ⟨gb470, 0, none⟩) (Kd.R_types HO439.out BK470.out (by decide)) (fun _ hk => hk.2) (.string t464)) (fun _ hk => hk.2) (.string t465)) (fun _ hk => hk.2) (.slice Ao55 t466.length co55)) (fun _ hk => hk.2) (.string t469)) (fun _ h_ => h_.1)))) hb); replace HO447 := Aside0.mk (Kd.R_below (xrt_ ((Kd.R_mono (Kd.R_far (p := ⟨gb470, 3, none⟩) (Kd.R_far (p := ⟨gb470, 2, none⟩) (Kd.R_far (p := ⟨gb470, 1, none⟩) (Kd.R_far (p := ⟨gb470, 0, none⟩) (Kd.R_types HO447.out BK470.out (by decide)) (fun _ hk => hk.2) (.string t464)) (fun _ hk => hk.2) (.string t465)) (fun _ hk => hk.2) (.slice Ao55 t466.length co55)) (fun _ hk => hk.2) (.string t469)) (fun _ h_ => h_.1)))) hb); replace HO454 := Aside0.mk (Kd.R_below (xrt_ ((Kd.R_mono (Kd.R_far (p := ⟨gb470, 3, none⟩) (Kd.R_far (p := ⟨gb470, 2, none⟩) (Kd.R_far (p := ⟨gb470, 1, none⟩) (Kd.R_far (p := ⟨gb470, 0, none⟩) (Kd.R_types HO454.out BK470.out (by decide)) (fun _ hk => hk.2) (.string t464)) (fun _ hk => hk.2) (.string t465)) (fun _ hk => hk.2) (.slice Ao55 t466.length co55)) (fun _ hk => hk.2) (.string t469)) (fun _ h_ => h_.1)))) hb); replace HO459 := Aside0.mk (Kd.R_below (xrt_ ((Kd.R_mono (Kd.R_far (p := ⟨gb470, 3, none⟩) (Kd.R_far (p := ⟨gb470, 2, none⟩) (Kd.R_far (p := ⟨gb470, 1, none⟩) (Kd.R_far (p := ⟨gb470, 0, none⟩) (Kd.R_types HO459.out BK470.out (by decide)) (fun _ hk => hk.2) (.string t464)) (fun _ hk => hk.2) (.string t465)) (fun _ hk => hk.2) (.slice Ao55 t466.length co55)) (fun _ hk => hk.2) (.string t469)) (fun _ h_ => h_.1)))) hb); replace HO468 := Aside0.mk (Kd.R_below (xrt_ ((Kd.R_mono (Kd.R_far (p := ⟨gb470, 3, none⟩) (Kd.R_far (p := ⟨gb470, 2, none⟩) (Kd.R_far (p := ⟨gb470, 1, none⟩) (Kd.R_far (p := ⟨gb470, 0, none⟩) (Kd.R_types HO468.out BK470.out (by decide)) (fun _ hk => hk.2) (.string t464)) (fun _ hk => hk.2) (.string t465)) (fun _ hk => hk.2) (.slice Ao55 t466.length co55)) (fun _ hk => hk.2) (.string t469)) (fun _ h_ => h_.1)))) hb); replace BK427 := mxb_ (o' := .cells #[.string a0_0, .slice A0_1 l0_1.length c0_1, .int .i64 a0_2, .string a0_3, .slice A0_4 l0_4.length c0_4, .string a0_5, .int .i64 a0_6, .int .i64 a0_7] 64 (0, 0)) BK427 hb; replace BK428 := mxb_ (o' := .cells #[.string a1_0, .string a1_1, .slice A1_2 l1_2.length c1_2, .string a1_3] 26 (0, 0)) BK428 hb; replace BK463 := mxb_ (o' := .cells #[.string t451, .slice Ao46 t452.length co46, .int .i64 t455, .string t456, .slice Ao47 t457.length co47, .string t460, .int .i64 t461, .int .i64 t462] 71 (0, 0)) BK463 hb; replace BK470 := mxb_ (o' := .cells #[.string t464, .string t465, .slice Ao55 t466.length co55, .string t469] 35 (0, 0)) BK470 hb; replace HB := xws_ HB hb; (try clear hb)))
   (try simp only [Act.put, List.setIfInBounds_toArray, List.set_cons_zero, List.set_cons_succ])
   go_cut [47] (fun v47 wc => ∃ (kq : Nat) (x47_24 : Bool), v47 = .bool x47_24 ∧ Aside0 (laws_FnExactMatches.j0 kq x47_24 a0_0 l0_1 a0_2 a0_3 l0_4 a0_5 a0_6 a0_7 a1_0 a1_1 l1_2 a1_3 t451 t452 t455 t456 t457 t460 t461 t462 t464 t465 t466 t469 = some r) ∧ Aside0 (kq ≤ k) ∧ Aside0 (Kd.R k105 105 wc w.heap.size (fun k_ => some k_ ≠ ((.slice Ao47 t457.length co47) : Value).ownBlock ∧ some k_ ≠ ((.slice Ao55 t466.length co55) : Value).ownBlock) (.slice Ao46 t452.length co46) t452) ∧ Aside0 (Kd.R k105 105 wc w.heap.size (fun k_ => some k_ ≠ ((.slice Ao46 t452.length co46) : Value).ownBlock ∧ some k_ ≠ ((.slice Ao55 t466.length co55) : Value).ownBlock) (.slice Ao47 t457.length co47) t457) ∧ Aside0 (Kd.R k105 105 wc w.heap.size (fun k_ => some k_ ≠ ((.slice Ao46 t452.length co46) : Value).ownBlock ∧ some k_ ≠ ((.slice Ao47 t457.length co47) : Value).ownBlock) (.slice Ao55 t466.length co55) t466) ∧ Aside0 (wc.heap[gb427]? = some (.cells #[.string a0_0, (.slice A0_1 l0_1.length c0_1), .int .i64 a0_2, .string a0_3, (.slice A0_4 l0_4.length c0_4), .string a0_5, .int .i64 a0_6, .int .i64 a0_7] 64 (0, 0))) ∧ Aside0 (wc.heap[gb428]? = some (.cells #[.string a1_0, .string a1_1, (.slice A1_2 l1_2.length c1_2), .string a1_3] 26 (0, 0))) ∧ Aside0 (wc.heap[gb463]? = some (.cells #[.string t451, (.slice Ao46 t452.length co46), .int .i64 t455, .string t456, (.slice Ao47 t457.length co47), .string t460, .int .i64 t461, .int .i64 t462] 71 (0, 0))) ∧ Aside0 (wc.heap[gb470]? = some (.cells #[.string t464, .string t465, (.slice Ao55 t466.length co55), .string t469] 35 (0, 0))) ∧ Aside0 (Below w.heap.size w wc))
   case first =>
    have H := HC25.out
    clear HC25
    by_cases c58 : (t471 != t449) = true
    ·rw [if_pos c58] at H
     have c58b0 : (t471 != t449) = true := c58
     (try (have c58b1 : decide (t471 = t449) = false := by simpa using c58))
     (try (have c58b2 : (t471 == t449) = false := by simpa using c58))
     (try (have c58b3 : ¬ (t471 = t449) := by simpa using c58))
     clear c58
     (first | rw [c58b0] | (simp only [i64_w, i32_w]; rw [c58b0]) | skip)
     have H' := Aside0.mk H
     clear H
     go_wp2
     go_meet
     case rel => exact ⟨_, (true), me_, H', ⟨by first | omega | exact Nat.le_refl _⟩, ⟨xrt_ (Kd.R_mono HO454.out (fun _ hk => ⟨hk.1.1.1.1, hk.2⟩))⟩, ⟨xrt_ (Kd.R_mono HO459.out (fun _ hk => ⟨hk.1.1.1.1, hk.2⟩))⟩, ⟨xrt_ (Kd.R_mono HO468.out (fun _ hk => ⟨hk.1.2, hk.2⟩))⟩, ⟨xb_ BK427⟩, ⟨xb_ BK428⟩, ⟨xb_ BK463⟩, ⟨xb_ BK470⟩, ⟨xw_ HB⟩⟩
    ·rw [if_neg c58] at H
     have c58b0 : (t471 != t449) = false := by simpa using c58
     (try (have c58b1 : decide (t471 = t449) = true := by simpa using c58))
     (try (have c58b2 : (t471 == t449) = true := by simpa using c58))
     clear c58
     (first | rw [c58b0] | (simp only [i64_w, i32_w]; rw [c58b0]) | skip)
     have H' := Aside0.mk H
     clear H
     go_wp2
     go_meet
     case rel => exact ⟨_, ((t472 != t450)), me_, H', ⟨by first | omega | exact Nat.le_refl _⟩, ⟨xrt_ (Kd.R_mono HO454.out (fun _ hk => ⟨hk.1.1.1.1, hk.2⟩))⟩, ⟨xrt_ (Kd.R_mono HO459.out (fun _ hk => ⟨hk.1.1.1.1, hk.2⟩))⟩, ⟨xrt_ (Kd.R_mono HO468.out (fun _ hk => ⟨hk.1.2, hk.2⟩))⟩, ⟨xb_ BK427⟩, ⟨xb_ BK428⟩, ⟨xb_ BK463⟩, ⟨xb_ BK470⟩, ⟨xw_ HB⟩⟩
   case rest =>
    clear HC25
    try clear c4
    try clear c4b0
    try clear c11
    try clear c11b0
    obtain ⟨kq, x47_24, rfl, HA, HJ24, HO_464001, HO_464004, HO_471002, BK427, BK428, BK463, BK470, HB⟩ := hcut
    cases kq with
    | zero => exact absurd HA.out (by simp [laws_FnExactMatches.j0])
    | succ kj24 =>
     have H := HA.out
     clear HA
     simp only [laws_FnExactMatches.j0] at H
     by_cases c59 : x47_24 = true
     ·subst c59
      rw [if_pos rfl] at H
      obtain rfl := Option.some.inj H
      go_wp2
      go_ret
      exact ⟨mf_, xw_ HB⟩
     ·replace c59 := Bool.eq_false_iff.mpr c59
      subst c59
      rw [if_neg (show ¬ (false = true) by decide)] at H
      replace H := mb_ H
      obtain ⟨⟨t473, t474, t477, t478, t479, t482, t483, t484⟩, A60, H⟩ := H
      dsimp only at H
      replace H := mb_ H
      obtain ⟨t485, A61, H⟩ := H
      by_cases c62 : t485 = true
      ·subst c62
       rw [if_pos rfl] at H
       replace H := mb_ H
       obtain ⟨⟨t486, t487, t488, t491⟩, A63, H⟩ := H
       dsimp only at H
       replace H := mb_ H
       obtain ⟨t492, A64, H⟩ := H
       by_cases c65 : t492 = true
       ·subst c65
        rw [if_pos rfl] at H
        obtain rfl := Option.some.inj H
        try go_wp2
        replace HO_464001 := Aside0.mk (Kd.R_drew HO_464001.out)
        replace HO_464004 := Aside0.mk (Kd.R_drew HO_464004.out)
        replace HO_471002 := Aside0.mk (Kd.R_drew HO_471002.out)
        replace BK427 := Aside0.mk (blk_drew BK427.out)
        replace BK428 := Aside0.mk (blk_drew BK428.out)
        replace BK463 := Aside0.mk (blk_drew BK463.out)
        replace BK470 := Aside0.mk (blk_drew BK470.out)
        replace HB := Aside0.mk (below_drew1 HB.out)
        refine start_ (n := 5) (S := fun w' => w'.cell? ⟨gb463, 0, none⟩ = some (.string t451) ∧ w'.cell? ⟨gb463, 1, none⟩ = some (.slice Ao46 t452.length co46) ∧ w'.cell? ⟨gb463, 2, none⟩ = some (.int .i64 t455) ∧ w'.cell? ⟨gb463, 3, none⟩ = some (.string t456) ∧ w'.cell? ⟨gb463, 4, none⟩ = some (.slice Ao47 t457.length co47) ∧ w'.cell? ⟨gb463, 5, none⟩ = some (.string t460) ∧ w'.cell? ⟨gb463, 6, none⟩ = some (.int .i64 t461) ∧ w'.cell? ⟨gb463, 7, none⟩ = some (.int .i64 t462) ∧ w'.cell? ⟨gb427, 0, none⟩ = some (.string a0_0) ∧ w'.cell? ⟨gb427, 1, none⟩ = some (.slice A0_1 l0_1.length c0_1) ∧ w'.cell? ⟨gb427, 2, none⟩ = some (.int .i64 a0_2) ∧ w'.cell? ⟨gb427, 3, none⟩ = some (.string a0_3) ∧ w'.cell? ⟨gb427, 4, none⟩ = some (.slice A0_4 l0_4.length c0_4) ∧ w'.cell? ⟨gb427, 5, none⟩ = some (.string a0_5) ∧ w'.cell? ⟨gb427, 6, none⟩ = some (.int .i64 a0_6) ∧ w'.cell? ⟨gb427, 7, none⟩ = some (.int .i64 a0_7)) (ds := []) #[false, false, false, false, false] (by kernel_rfl) rfl rfl ⟨xk_ BK463 0, xk_ BK463 1, xk_ BK463 2, xk_ BK463 3, xk_ BK463 4, xk_ BK463 5, xk_ BK463 6, xk_ BK463 7, xk_ BK427 0, xk_ BK427 1, xk_ BK427 2, xk_ BK427 3, xk_ BK427 4, xk_ BK427 5, xk_ BK427 6, xk_ BK427 7⟩ (fun hHeld => ?_)
        generalize wc.drew = w66 at HO_464001 HO_464004 HO_471002 BK427 BK428 BK463 BK470 HB hHeld ⊢
        refine take_ (i := 0) (N := some 48) (v := ?_) (a' := ?_) #[true, false, false, false, false] rfl rfl (by kernel_rfl) (fun _ _ _ h => h) (Or.inl ⟨by rfl, ?_⟩) hHeld ?_ ?_
        rotate_left
        ·rintro w' ⟨s0, s1, s2, s3, s4, s5, s6, s7, s8, s9, s10, s11, s12, s13, s14, s15⟩
         go_simp
         with_reducible rfl
        rotate_left
        ·simp only [Act.put, List.setIfInBounds_toArray, List.set_cons_zero, List.set_cons_succ, i64_w, i32_w]
         rfl
        refine take_ (i := 1) (N := some 49) (v := ?_) (a' := ?_) #[true, true, false, false, false] rfl rfl (by kernel_rfl) (fun _ _ _ h => h) (Or.inl ⟨by rfl, ?_⟩) hHeld ?_ ?_
        rotate_left
        ·rintro w' ⟨s0, s1, s2, s3, s4, s5, s6, s7, s8, s9, s10, s11, s12, s13, s14, s15⟩
         go_simp
         with_reducible rfl
        rotate_left
        ·simp only [Act.put, List.setIfInBounds_toArray, List.set_cons_zero, List.set_cons_succ, i64_w, i32_w]
         rfl
        refine one_ (i := 2) (N := some 50) #[true, true, true, false, false] rfl rfl (by kernel_rfl) (by decide) (fun K hK => ?_)
        refine xgo_ Tryz.func30 #[.agg #[.string a0_0, .slice A0_1 l0_1.length c0_1, .int .i64 a0_2, .string a0_3, .slice A0_4 l0_4.length c0_4, .string a0_5, .int .i64 a0_6, .int .i64 a0_7]] ?_
        with_reducible refine (laws_toItem.calls kj24 a0_0 _ _ l0_1 a0_2 a0_3 _ _ l0_4 a0_5 a0_6 a0_7 t473 t474 t477 t478 t479 t482 t483 t484 _ ?side1 ?side2 ?side3 ?side4 A60.out).mono ?_
        (case side1 => exact xc_ ((Kd.C_below HR0_1.out HB.out)))
        (case side2 => exact HC0_1.out)
        (case side3 => exact xc_ ((Kd.C_below HR0_4.out HB.out)))
        (case side4 => exact HC0_4.out)
        rintro e w67 ⟨v475, v480, rfl, ho0, ho1, hb⟩
        refine ⟨_, rfl, ?_⟩
        have HO476 := Aside0.mk (Kd.R_lower (Kd.R_new' (Kd.R_new' (Kd.R_new' ho0 (Kd.R_lt (xr_ HO_464001))) (Kd.R_lt (xr_ HO_464004))) (Kd.R_lt (xr_ HO_471002))) (below_size (xw_ HB)))
        have HO481 := Aside0.mk (Kd.R_lower (Kd.R_new' (Kd.R_new' (Kd.R_new' ho1 (Kd.R_lt (xr_ HO_464001))) (Kd.R_lt (xr_ HO_464004))) (Kd.R_lt (xr_ HO_471002))) (below_size (xw_ HB)))
        replace HO_464001 := Aside0.mk (Kd.R_mono (Kd.R_told (Kd.R_told (Kd.R_old (xr_ HO_464001) hb) (Kd.R_base ho0)) (Kd.R_base ho1)) (fun _ h_ => h_.1))
        replace HO_464004 := Aside0.mk (Kd.R_mono (Kd.R_told (Kd.R_told (Kd.R_old (xr_ HO_464004) hb) (Kd.R_base ho0)) (Kd.R_base ho1)) (fun _ h_ => h_.1))
        replace HO_471002 := Aside0.mk (Kd.R_mono (Kd.R_told (Kd.R_told (Kd.R_old (xr_ HO_471002) hb) (Kd.R_base ho0)) (Kd.R_base ho1)) (fun _ h_ => h_.1))
        replace BK427 := xbb_ BK427 hb
        replace BK428 := xbb_ BK428 hb
        replace BK463 := xbb_ BK463 hb
        replace BK470 := xbb_ BK470 hb
        replace HB := xws_ HB hb
        (try clear hb)
        (try clear hk)
        (try clear ho0)
        (try clear ho1)
        obtain ⟨Ao68, co68, eo68⟩ := Kd.R_slice HO476.out
        (first | subst eo68 | (injection eo68 with f1_ f2_ f3_; have f4_ := f1_.symm; have f5_ := f3_.symm; clear f1_ f2_ f3_; subst f4_; subst f5_))
        obtain ⟨Ao69, co69, eo69⟩ := Kd.R_slice HO481.out
        (first | subst eo69 | (injection eo69 with f1_ f2_ f3_; have f4_ := f1_.symm; have f5_ := f3_.symm; clear f1_ f2_ f3_; subst f4_; subst f5_))
        refine hK.out _ _ ⟨xk_ BK463 0, xk_ BK463 1, xk_ BK463 2, xk_ BK463 3, xk_ BK463 4, xk_ BK463 5, xk_ BK463 6, xk_ BK463 7, xk_ BK427 0, xk_ BK427 1, xk_ BK427 2, xk_ BK427 3, xk_ BK427 4, xk_ BK427 5, xk_ BK427 6, xk_ BK427 7⟩ (fun hHeld => ?_)
        clear hK K
        refine mn_ 50 ?_
        refine one_ (i := 3) (N := some 51) #[true, true, true, true, false] rfl rfl (by kernel_rfl) (by decide) (fun K hK => ?_)
        refine xgo_ Tryz.func32 #[.agg #[.string t451, .slice Ao46 t452.length co46, .int .i64 t455, .string t456, .slice Ao47 t457.length co47, .string t460, .int .i64 t461, .int .i64 t462], .agg #[.string t473, .slice Ao68 t474.length co68, .int .i64 t477, .string t478, .slice Ao69 t479.length co69, .string t482, .int .i64 t483, .int .i64 t484]] ?_
        with_reducible refine (laws_eqItem.calls kj24 t451 _ _ t452 t455 t456 _ _ t457 t460 t461 t462 t473 _ _ t474 t477 t478 _ _ t479 t482 t483 t484 true _ ?side1 ?side2 ?side3 ?side4 ?side5 ?side6 ?side7 ?side8 A61.out).mono ?_
        (case side1 => exact xc_ ((Kd.R_reads' HO_464001.out).2.2))
        (case side2 => exact (Kd.R_reads' HO_464001.out).2.1)
        (case side3 => exact xc_ ((Kd.R_reads' HO_464004.out).2.2))
        (case side4 => exact (Kd.R_reads' HO_464004.out).2.1)
        (case side5 => exact xc_ ((Kd.R_reads' HO476.out).2.2))
        (case side6 => exact (Kd.R_reads' HO476.out).2.1)
        (case side7 => exact xc_ ((Kd.R_reads' HO481.out).2.2))
        (case side8 => exact (Kd.R_reads' HO481.out).2.1)
        rintro e w70 ⟨rfl, hb⟩
        refine ⟨_, rfl, ?_⟩
        replace HO_464001 := xrb_ HO_464001 hb
        replace HO_464004 := xrb_ HO_464004 hb
        replace HO_471002 := xrb_ HO_471002 hb
        replace HO476 := xrb_ HO476 hb
        replace HO481 := xrb_ HO481 hb
        replace BK427 := xbb_ BK427 hb
        replace BK428 := xbb_ BK428 hb
        replace BK463 := xbb_ BK463 hb
        replace BK470 := xbb_ BK470 hb
        replace HB := xws_ HB hb
        (try clear hb)
        (try clear hk)
        refine hK.out _ _ ⟨xk_ BK463 0, xk_ BK463 1, xk_ BK463 2, xk_ BK463 3, xk_ BK463 4, xk_ BK463 5, xk_ BK463 6, xk_ BK463 7, xk_ BK427 0, xk_ BK427 1, xk_ BK427 2, xk_ BK427 3, xk_ BK427 4, xk_ BK427 5, xk_ BK427 6, xk_ BK427 7⟩ (fun hHeld => ?_)
        clear hK K
        refine mn_ 51 ?_
        refine pure_ (i := 4) (N := some 52) (v := ?_) (a' := ?_) #[true, true, true, true, true] rfl rfl (by kernel_rfl) (fun _ _ _ h => h) (Or.inl ⟨by rfl, ?_⟩) ?_ ?_
        rotate_left
        ·intro w'
         go_simp
         with_reducible rfl
        rotate_left
        ·simp only [Act.put, List.setIfInBounds_toArray, List.set_cons_zero, List.set_cons_succ, i64_w, i32_w]
         rfl
        refine done_ (by kernel_rfl) ?_
        try go_wp2
        replace HO_464001 := Aside0.mk (Kd.R_drew HO_464001.out)
        replace HO_464004 := Aside0.mk (Kd.R_drew HO_464004.out)
        replace HO_471002 := Aside0.mk (Kd.R_drew HO_471002.out)
        replace HO476 := Aside0.mk (Kd.R_drew HO476.out)
        replace HO481 := Aside0.mk (Kd.R_drew HO481.out)
        replace BK427 := Aside0.mk (blk_drew BK427.out)
        replace BK428 := Aside0.mk (blk_drew BK428.out)
        replace BK463 := Aside0.mk (blk_drew BK463.out)
        replace BK470 := Aside0.mk (blk_drew BK470.out)
        replace HB := Aside0.mk (below_drew1 HB.out)
        refine start_ (n := 5) (S := fun w' => w'.cell? ⟨gb470, 0, none⟩ = some (.string t464) ∧ w'.cell? ⟨gb470, 1, none⟩ = some (.string t465) ∧ w'.cell? ⟨gb470, 2, none⟩ = some (.slice Ao55 t466.length co55) ∧ w'.cell? ⟨gb470, 3, none⟩ = some (.string t469) ∧ w'.cell? ⟨gb428, 0, none⟩ = some (.string a1_0) ∧ w'.cell? ⟨gb428, 1, none⟩ = some (.string a1_1) ∧ w'.cell? ⟨gb428, 2, none⟩ = some (.slice A1_2 l1_2.length c1_2) ∧ w'.cell? ⟨gb428, 3, none⟩ = some (.string a1_3)) (ds := []) #[false, false, false, false, false] (by kernel_rfl) rfl rfl ⟨xk_ BK470 0, xk_ BK470 1, xk_ BK470 2, xk_ BK470 3, xk_ BK428 0, xk_ BK428 1, xk_ BK428 2, xk_ BK428 3⟩ (fun hHeld => ?_)
        generalize w70.drew = w71 at HO_464001 HO_464004 HO_471002 HO476 HO481 BK427 BK428 BK463 BK470 HB hHeld ⊢
        refine take_ (i := 0) (N := some 53) (v := ?_) (a' := ?_) #[true, false, false, false, false] rfl rfl (by kernel_rfl) (fun _ _ _ h => h) (Or.inl ⟨by rfl, ?_⟩) hHeld ?_ ?_
        rotate_left
        ·rintro w' ⟨s0, s1, s2, s3, s4, s5, s6, s7⟩
         go_simp
         with_reducible rfl
        rotate_left
        ·simp only [Act.put, List.setIfInBounds_toArray, List.set_cons_zero, List.set_cons_succ, i64_w, i32_w]
         rfl
        refine take_ (i := 1) (N := some 54) (v := ?_) (a' := ?_) #[true, true, false, false, false] rfl rfl (by kernel_rfl) (fun _ _ _ h => h) (Or.inl ⟨by rfl, ?_⟩) hHeld ?_ ?_
        rotate_left
        ·rintro w' ⟨s0, s1, s2, s3, s4, s5, s6, s7⟩
         go_simp
         with_reducible rfl
        rotate_left
        ·simp only [Act.put, List.setIfInBounds_toArray, List.set_cons_zero, List.set_cons_succ, i64_w, i32_w]
         rfl
        refine one_ (i := 2) (N := some 55) #[true, true, true, false, false] rfl rfl (by kernel_rfl) (by decide) (fun K hK => ?_)
        refine xgo_ Tryz.func11 #[.agg #[.string a1_0, .string a1_1, .slice A1_2 l1_2.length c1_2, .string a1_3]] ?_
        with_reducible refine (laws_toRequest.calls kj24 a1_0 a1_1 _ _ l1_2 a1_3 t486 t487 t488 t491 _ ?side1 ?side2 A63.out).mono ?_
        (case side1 => exact xc_ ((Kd.C_below HR1_2.out HB.out)))
        (case side2 => exact HC1_2.out)
        rintro e w72 ⟨v489, rfl, ho0, hb⟩
        refine ⟨_, rfl, ?_⟩
        have HO490 := Aside0.mk (Kd.R_lower (Kd.R_new' (Kd.R_new' (Kd.R_new' (Kd.R_new' (Kd.R_new' ho0 (Kd.R_lt (xr_ HO_464001))) (Kd.R_lt (xr_ HO_464004))) (Kd.R_lt (xr_ HO_471002))) (Kd.R_lt (xr_ HO476))) (Kd.R_lt (xr_ HO481))) (below_size (xw_ HB)))
        replace HO_464001 := xre_ HO_464001 ho0 hb
        replace HO_464004 := xre_ HO_464004 ho0 hb
        replace HO_471002 := xre_ HO_471002 ho0 hb
        replace HO476 := xre_ HO476 ho0 hb
        replace HO481 := xre_ HO481 ho0 hb
        replace BK427 := xbb_ BK427 hb
        replace BK428 := xbb_ BK428 hb
        replace BK463 := xbb_ BK463 hb
        replace BK470 := xbb_ BK470 hb
        replace HB := xws_ HB hb
        (try clear hb)
        (try clear hk)
        (try clear ho0)
        obtain ⟨Ao73, co73, eo73⟩ := Kd.R_slice HO490.out
        (first | subst eo73 | (injection eo73 with f1_ f2_ f3_; have f4_ := f1_.symm; have f5_ := f3_.symm; clear f1_ f2_ f3_; subst f4_; subst f5_))
        refine hK.out _ _ ⟨xk_ BK470 0, xk_ BK470 1, xk_ BK470 2, xk_ BK470 3, xk_ BK428 0, xk_ BK428 1, xk_ BK428 2, xk_ BK428 3⟩ (fun hHeld => ?_)
        clear hK K
        refine mn_ 55 ?_
        refine one_ (i := 3) (N := some 56) #[true, true, true, true, false] rfl rfl (by kernel_rfl) (by decide) (fun K hK => ?_)
        refine xgo_ Tryz.func13 #[.agg #[.string t464, .string t465, .slice Ao55 t466.length co55, .string t469], .agg #[.string t486, .string t487, .slice Ao73 t488.length co73, .string t491]] ?_
        with_reducible refine (laws_eqRequest.calls kj24 t464 t465 _ _ t466 t469 t486 t487 _ _ t488 t491 true _ ?side1 ?side2 ?side3 ?side4 A64.out).mono ?_
        (case side1 => exact xc_ ((Kd.R_reads' HO_471002.out).2.2))
        (case side2 => exact (Kd.R_reads' HO_471002.out).2.1)
        (case side3 => exact xc_ ((Kd.R_reads' HO490.out).2.2))
        (case side4 => exact (Kd.R_reads' HO490.out).2.1)
        rintro e w74 ⟨rfl, hb⟩
        refine ⟨_, rfl, ?_⟩
        replace HO_464001 := xrb_ HO_464001 hb
        replace HO_464004 := xrb_ HO_464004 hb
        replace HO_471002 := xrb_ HO_471002 hb
        replace HO476 := xrb_ HO476 hb
        replace HO481 := xrb_ HO481 hb
        replace HO490 := xrb_ HO490 hb
        replace BK427 := xbb_ BK427 hb
        replace BK428 := xbb_ BK428 hb
        replace BK463 := xbb_ BK463 hb
        replace BK470 := xbb_ BK470 hb
        replace HB := xws_ HB hb
        (try clear hb)
        (try clear hk)
        refine hK.out _ _ ⟨xk_ BK470 0, xk_ BK470 1, xk_ BK470 2, xk_ BK470 3, xk_ BK428 0, xk_ BK428 1, xk_ BK428 2, xk_ BK428 3⟩ (fun hHeld => ?_)
        clear hK K
        refine mn_ 56 ?_
        refine pure_ (i := 4) (N := some 57) (v := ?_) (a' := ?_) #[true, true, true, true, true] rfl rfl (by kernel_rfl) (fun _ _ _ h => h) (Or.inl ⟨by rfl, ?_⟩) ?_ ?_
        rotate_left
        ·intro w'
         go_simp
         with_reducible rfl
        rotate_left
        ·simp only [Act.put, List.setIfInBounds_toArray, List.set_cons_zero, List.set_cons_succ, i64_w, i32_w]
         rfl
        refine done_ (by kernel_rfl) ?_
        try go_wp2
        go_ret
        exact ⟨mf_, xw_ HB⟩
       ·replace c65 := Bool.eq_false_iff.mpr c65
        subst c65
        rw [if_neg (show ¬ (false = true) by decide)] at H
        obtain rfl := Option.some.inj H
        try go_wp2
        replace HO_464001 := Aside0.mk (Kd.R_drew HO_464001.out)
        replace HO_464004 := Aside0.mk (Kd.R_drew HO_464004.out)
        replace HO_471002 := Aside0.mk (Kd.R_drew HO_471002.out)
        replace BK427 := Aside0.mk (blk_drew BK427.out)
        replace BK428 := Aside0.mk (blk_drew BK428.out)
        replace BK463 := Aside0.mk (blk_drew BK463.out)
        replace BK470 := Aside0.mk (blk_drew BK470.out)
        replace HB := Aside0.mk (below_drew1 HB.out)
        refine start_ (n := 5) (S := fun w' => w'.cell? ⟨gb463, 0, none⟩ = some (.string t451) ∧ w'.cell? ⟨gb463, 1, none⟩ = some (.slice Ao46 t452.length co46) ∧ w'.cell? ⟨gb463, 2, none⟩ = some (.int .i64 t455) ∧ w'.cell? ⟨gb463, 3, none⟩ = some (.string t456) ∧ w'.cell? ⟨gb463, 4, none⟩ = some (.slice Ao47 t457.length co47) ∧ w'.cell? ⟨gb463, 5, none⟩ = some (.string t460) ∧ w'.cell? ⟨gb463, 6, none⟩ = some (.int .i64 t461) ∧ w'.cell? ⟨gb463, 7, none⟩ = some (.int .i64 t462) ∧ w'.cell? ⟨gb427, 0, none⟩ = some (.string a0_0) ∧ w'.cell? ⟨gb427, 1, none⟩ = some (.slice A0_1 l0_1.length c0_1) ∧ w'.cell? ⟨gb427, 2, none⟩ = some (.int .i64 a0_2) ∧ w'.cell? ⟨gb427, 3, none⟩ = some (.string a0_3) ∧ w'.cell? ⟨gb427, 4, none⟩ = some (.slice A0_4 l0_4.length c0_4) ∧ w'.cell? ⟨gb427, 5, none⟩ = some (.string a0_5) ∧ w'.cell? ⟨gb427, 6, none⟩ = some (.int .i64 a0_6) ∧ w'.cell? ⟨gb427, 7, none⟩ = some (.int .i64 a0_7)) (ds := []) #[false, false, false, false, false] (by kernel_rfl) rfl rfl ⟨xk_ BK463 0, xk_ BK463 1, xk_ BK463 2, xk_ BK463 3, xk_ BK463 4, xk_ BK463 5, xk_ BK463 6, xk_ BK463 7, xk_ BK427 0, xk_ BK427 1, xk_ BK427 2, xk_ BK427 3, xk_ BK427 4, xk_ BK427 5, xk_ BK427 6, xk_ BK427 7⟩ (fun hHeld => ?_)
        generalize wc.drew = w75 at HO_464001 HO_464004 HO_471002 BK427 BK428 BK463 BK470 HB hHeld ⊢
        refine take_ (i := 0) (N := some 48) (v := ?_) (a' := ?_) #[true, false, false, false, false] rfl rfl (by kernel_rfl) (fun _ _ _ h => h) (Or.inl ⟨by rfl, ?_⟩) hHeld ?_ ?_
        rotate_left
        ·rintro w' ⟨s0, s1, s2, s3, s4, s5, s6, s7, s8, s9, s10, s11, s12, s13, s14, s15⟩
         go_simp
         with_reducible rfl
        rotate_left
        ·simp only [Act.put, List.setIfInBounds_toArray, List.set_cons_zero, List.set_cons_succ, i64_w, i32_w]
         rfl
        refine take_ (i := 1) (N := some 49) (v := ?_) (a' := ?_) #[true, true, false, false, false] rfl rfl (by kernel_rfl) (fun _ _ _ h => h) (Or.inl ⟨by rfl, ?_⟩) hHeld ?_ ?_
        rotate_left
        ·rintro w' ⟨s0, s1, s2, s3, s4, s5, s6, s7, s8, s9, s10, s11, s12, s13, s14, s15⟩
         go_simp
         with_reducible rfl
        rotate_left
        ·simp only [Act.put, List.setIfInBounds_toArray, List.set_cons_zero, List.set_cons_succ, i64_w, i32_w]
         rfl
        refine one_ (i := 2) (N := some 50) #[true, true, true, false, false] rfl rfl (by kernel_rfl) (by decide) (fun K hK => ?_)
        refine xgo_ Tryz.func30 #[.agg #[.string a0_0, .slice A0_1 l0_1.length c0_1, .int .i64 a0_2, .string a0_3, .slice A0_4 l0_4.length c0_4, .string a0_5, .int .i64 a0_6, .int .i64 a0_7]] ?_
        with_reducible refine (laws_toItem.calls kj24 a0_0 _ _ l0_1 a0_2 a0_3 _ _ l0_4 a0_5 a0_6 a0_7 t473 t474 t477 t478 t479 t482 t483 t484 _ ?side1 ?side2 ?side3 ?side4 A60.out).mono ?_
        (case side1 => exact xc_ ((Kd.C_below HR0_1.out HB.out)))
        (case side2 => exact HC0_1.out)
        (case side3 => exact xc_ ((Kd.C_below HR0_4.out HB.out)))
        (case side4 => exact HC0_4.out)
        rintro e w76 ⟨v475, v480, rfl, ho0, ho1, hb⟩
        refine ⟨_, rfl, ?_⟩
        have HO476 := Aside0.mk (Kd.R_lower (Kd.R_new' (Kd.R_new' (Kd.R_new' ho0 (Kd.R_lt (xr_ HO_464001))) (Kd.R_lt (xr_ HO_464004))) (Kd.R_lt (xr_ HO_471002))) (below_size (xw_ HB)))
        have HO481 := Aside0.mk (Kd.R_lower (Kd.R_new' (Kd.R_new' (Kd.R_new' ho1 (Kd.R_lt (xr_ HO_464001))) (Kd.R_lt (xr_ HO_464004))) (Kd.R_lt (xr_ HO_471002))) (below_size (xw_ HB)))
        replace HO_464001 := Aside0.mk (Kd.R_mono (Kd.R_told (Kd.R_told (Kd.R_old (xr_ HO_464001) hb) (Kd.R_base ho0)) (Kd.R_base ho1)) (fun _ h_ => h_.1))
        replace HO_464004 := Aside0.mk (Kd.R_mono (Kd.R_told (Kd.R_told (Kd.R_old (xr_ HO_464004) hb) (Kd.R_base ho0)) (Kd.R_base ho1)) (fun _ h_ => h_.1))
        replace HO_471002 := Aside0.mk (Kd.R_mono (Kd.R_told (Kd.R_told (Kd.R_old (xr_ HO_471002) hb) (Kd.R_base ho0)) (Kd.R_base ho1)) (fun _ h_ => h_.1))
        replace BK427 := xbb_ BK427 hb
        replace BK428 := xbb_ BK428 hb
        replace BK463 := xbb_ BK463 hb
        replace BK470 := xbb_ BK470 hb
        replace HB := xws_ HB hb
        (try clear hb)
        (try clear hk)
        (try clear ho0)
        (try clear ho1)
        obtain ⟨Ao77, co77, eo77⟩ := Kd.R_slice HO476.out
        (first | subst eo77 | (injection eo77 with f1_ f2_ f3_; have f4_ := f1_.symm; have f5_ := f3_.symm; clear f1_ f2_ f3_; subst f4_; subst f5_))
        obtain ⟨Ao78, co78, eo78⟩ := Kd.R_slice HO481.out
        (first | subst eo78 | (injection eo78 with f1_ f2_ f3_; have f4_ := f1_.symm; have f5_ := f3_.symm; clear f1_ f2_ f3_; subst f4_; subst f5_))
        refine hK.out _ _ ⟨xk_ BK463 0, xk_ BK463 1, xk_ BK463 2, xk_ BK463 3, xk_ BK463 4, xk_ BK463 5, xk_ BK463 6, xk_ BK463 7, xk_ BK427 0, xk_ BK427 1, xk_ BK427 2, xk_ BK427 3, xk_ BK427 4, xk_ BK427 5, xk_ BK427 6, xk_ BK427 7⟩ (fun hHeld => ?_)
        clear hK K
        refine mn_ 50 ?_
        refine one_ (i := 3) (N := some 51) #[true, true, true, true, false] rfl rfl (by kernel_rfl) (by decide) (fun K hK => ?_)
        refine xgo_ Tryz.func32 #[.agg #[.string t451, .slice Ao46 t452.length co46, .int .i64 t455, .string t456, .slice Ao47 t457.length co47, .string t460, .int .i64 t461, .int .i64 t462], .agg #[.string t473, .slice Ao77 t474.length co77, .int .i64 t477, .string t478, .slice Ao78 t479.length co78, .string t482, .int .i64 t483, .int .i64 t484]] ?_
        with_reducible refine (laws_eqItem.calls kj24 t451 _ _ t452 t455 t456 _ _ t457 t460 t461 t462 t473 _ _ t474 t477 t478 _ _ t479 t482 t483 t484 true _ ?side1 ?side2 ?side3 ?side4 ?side5 ?side6 ?side7 ?side8 A61.out).mono ?_
        (case side1 => exact xc_ ((Kd.R_reads' HO_464001.out).2.2))
        (case side2 => exact (Kd.R_reads' HO_464001.out).2.1)
        (case side3 => exact xc_ ((Kd.R_reads' HO_464004.out).2.2))
        (case side4 => exact (Kd.R_reads' HO_464004.out).2.1)
        (case side5 => exact xc_ ((Kd.R_reads' HO476.out).2.2))
        (case side6 => exact (Kd.R_reads' HO476.out).2.1)
        (case side7 => exact xc_ ((Kd.R_reads' HO481.out).2.2))
        (case side8 => exact (Kd.R_reads' HO481.out).2.1)
        rintro e w79 ⟨rfl, hb⟩
        refine ⟨_, rfl, ?_⟩
        replace HO_464001 := xrb_ HO_464001 hb
        replace HO_464004 := xrb_ HO_464004 hb
        replace HO_471002 := xrb_ HO_471002 hb
        replace HO476 := xrb_ HO476 hb
        replace HO481 := xrb_ HO481 hb
        replace BK427 := xbb_ BK427 hb
        replace BK428 := xbb_ BK428 hb
        replace BK463 := xbb_ BK463 hb
        replace BK470 := xbb_ BK470 hb
        replace HB := xws_ HB hb
        (try clear hb)
        (try clear hk)
        refine hK.out _ _ ⟨xk_ BK463 0, xk_ BK463 1, xk_ BK463 2, xk_ BK463 3, xk_ BK463 4, xk_ BK463 5, xk_ BK463 6, xk_ BK463 7, xk_ BK427 0, xk_ BK427 1, xk_ BK427 2, xk_ BK427 3, xk_ BK427 4, xk_ BK427 5, xk_ BK427 6, xk_ BK427 7⟩ (fun hHeld => ?_)
        clear hK K
        refine mn_ 51 ?_
        refine pure_ (i := 4) (N := some 52) (v := ?_) (a' := ?_) #[true, true, true, true, true] rfl rfl (by kernel_rfl) (fun _ _ _ h => h) (Or.inl ⟨by rfl, ?_⟩) ?_ ?_
        rotate_left
        ·intro w'
         go_simp
         with_reducible rfl
        rotate_left
        ·simp only [Act.put, List.setIfInBounds_toArray, List.set_cons_zero, List.set_cons_succ, i64_w, i32_w]
         rfl
        refine done_ (by kernel_rfl) ?_
        try go_wp2
        replace HO_464001 := Aside0.mk (Kd.R_drew HO_464001.out)
        replace HO_464004 := Aside0.mk (Kd.R_drew HO_464004.out)
        replace HO_471002 := Aside0.mk (Kd.R_drew HO_471002.out)
        replace HO476 := Aside0.mk (Kd.R_drew HO476.out)
        replace HO481 := Aside0.mk (Kd.R_drew HO481.out)
        replace BK427 := Aside0.mk (blk_drew BK427.out)
        replace BK428 := Aside0.mk (blk_drew BK428.out)
        replace BK463 := Aside0.mk (blk_drew BK463.out)
        replace BK470 := Aside0.mk (blk_drew BK470.out)
        replace HB := Aside0.mk (below_drew1 HB.out)
        refine start_ (n := 5) (S := fun w' => w'.cell? ⟨gb470, 0, none⟩ = some (.string t464) ∧ w'.cell? ⟨gb470, 1, none⟩ = some (.string t465) ∧ w'.cell? ⟨gb470, 2, none⟩ = some (.slice Ao55 t466.length co55) ∧ w'.cell? ⟨gb470, 3, none⟩ = some (.string t469) ∧ w'.cell? ⟨gb428, 0, none⟩ = some (.string a1_0) ∧ w'.cell? ⟨gb428, 1, none⟩ = some (.string a1_1) ∧ w'.cell? ⟨gb428, 2, none⟩ = some (.slice A1_2 l1_2.length c1_2) ∧ w'.cell? ⟨gb428, 3, none⟩ = some (.string a1_3)) (ds := []) #[false, false, false, false, false] (by kernel_rfl) rfl rfl ⟨xk_ BK470 0, xk_ BK470 1, xk_ BK470 2, xk_ BK470 3, xk_ BK428 0, xk_ BK428 1, xk_ BK428 2, xk_ BK428 3⟩ (fun hHeld => ?_)
        generalize w79.drew = w80 at HO_464001 HO_464004 HO_471002 HO476 HO481 BK427 BK428 BK463 BK470 HB hHeld ⊢
        refine take_ (i := 0) (N := some 53) (v := ?_) (a' := ?_) #[true, false, false, false, false] rfl rfl (by kernel_rfl) (fun _ _ _ h => h) (Or.inl ⟨by rfl, ?_⟩) hHeld ?_ ?_
        rotate_left
        ·rintro w' ⟨s0, s1, s2, s3, s4, s5, s6, s7⟩
         go_simp
         with_reducible rfl
        rotate_left
        ·simp only [Act.put, List.setIfInBounds_toArray, List.set_cons_zero, List.set_cons_succ, i64_w, i32_w]
         rfl
        refine take_ (i := 1) (N := some 54) (v := ?_) (a' := ?_) #[true, true, false, false, false] rfl rfl (by kernel_rfl) (fun _ _ _ h => h) (Or.inl ⟨by rfl, ?_⟩) hHeld ?_ ?_
        rotate_left
        ·rintro w' ⟨s0, s1, s2, s3, s4, s5, s6, s7⟩
         go_simp
         with_reducible rfl
        rotate_left
        ·simp only [Act.put, List.setIfInBounds_toArray, List.set_cons_zero, List.set_cons_succ, i64_w, i32_w]
         rfl
        refine one_ (i := 2) (N := some 55) #[true, true, true, false, false] rfl rfl (by kernel_rfl) (by decide) (fun K hK => ?_)
        refine xgo_ Tryz.func11 #[.agg #[.string a1_0, .string a1_1, .slice A1_2 l1_2.length c1_2, .string a1_3]] ?_
        with_reducible refine (laws_toRequest.calls kj24 a1_0 a1_1 _ _ l1_2 a1_3 t486 t487 t488 t491 _ ?side1 ?side2 A63.out).mono ?_
        (case side1 => exact xc_ ((Kd.C_below HR1_2.out HB.out)))
        (case side2 => exact HC1_2.out)
        rintro e w81 ⟨v489, rfl, ho0, hb⟩
        refine ⟨_, rfl, ?_⟩
        have HO490 := Aside0.mk (Kd.R_lower (Kd.R_new' (Kd.R_new' (Kd.R_new' (Kd.R_new' (Kd.R_new' ho0 (Kd.R_lt (xr_ HO_464001))) (Kd.R_lt (xr_ HO_464004))) (Kd.R_lt (xr_ HO_471002))) (Kd.R_lt (xr_ HO476))) (Kd.R_lt (xr_ HO481))) (below_size (xw_ HB)))
        replace HO_464001 := xre_ HO_464001 ho0 hb
        replace HO_464004 := xre_ HO_464004 ho0 hb
        replace HO_471002 := xre_ HO_471002 ho0 hb
        replace HO476 := xre_ HO476 ho0 hb
        replace HO481 := xre_ HO481 ho0 hb
        replace BK427 := xbb_ BK427 hb
        replace BK428 := xbb_ BK428 hb
        replace BK463 := xbb_ BK463 hb
        replace BK470 := xbb_ BK470 hb
        replace HB := xws_ HB hb
        (try clear hb)
        (try clear hk)
        (try clear ho0)
        obtain ⟨Ao82, co82, eo82⟩ := Kd.R_slice HO490.out
        (first | subst eo82 | (injection eo82 with f1_ f2_ f3_; have f4_ := f1_.symm; have f5_ := f3_.symm; clear f1_ f2_ f3_; subst f4_; subst f5_))
        refine hK.out _ _ ⟨xk_ BK470 0, xk_ BK470 1, xk_ BK470 2, xk_ BK470 3, xk_ BK428 0, xk_ BK428 1, xk_ BK428 2, xk_ BK428 3⟩ (fun hHeld => ?_)
        clear hK K
        refine mn_ 55 ?_
        refine one_ (i := 3) (N := some 56) #[true, true, true, true, false] rfl rfl (by kernel_rfl) (by decide) (fun K hK => ?_)
        refine xgo_ Tryz.func13 #[.agg #[.string t464, .string t465, .slice Ao55 t466.length co55, .string t469], .agg #[.string t486, .string t487, .slice Ao82 t488.length co82, .string t491]] ?_
        with_reducible refine (laws_eqRequest.calls kj24 t464 t465 _ _ t466 t469 t486 t487 _ _ t488 t491 false _ ?side1 ?side2 ?side3 ?side4 A64.out).mono ?_
        (case side1 => exact xc_ ((Kd.R_reads' HO_471002.out).2.2))
        (case side2 => exact (Kd.R_reads' HO_471002.out).2.1)
        (case side3 => exact xc_ ((Kd.R_reads' HO490.out).2.2))
        (case side4 => exact (Kd.R_reads' HO490.out).2.1)
        rintro e w83 ⟨rfl, hb⟩
        refine ⟨_, rfl, ?_⟩
        replace HO_464001 := xrb_ HO_464001 hb
        replace HO_464004 := xrb_ HO_464004 hb
        replace HO_471002 := xrb_ HO_471002 hb
        replace HO476 := xrb_ HO476 hb
        replace HO481 := xrb_ HO481 hb
        replace HO490 := xrb_ HO490 hb
        replace BK427 := xbb_ BK427 hb
        replace BK428 := xbb_ BK428 hb
        replace BK463 := xbb_ BK463 hb
        replace BK470 := xbb_ BK470 hb
        replace HB := xws_ HB hb
        (try clear hb)
        (try clear hk)
        refine hK.out _ _ ⟨xk_ BK470 0, xk_ BK470 1, xk_ BK470 2, xk_ BK470 3, xk_ BK428 0, xk_ BK428 1, xk_ BK428 2, xk_ BK428 3⟩ (fun hHeld => ?_)
        clear hK K
        refine mn_ 56 ?_
        refine pure_ (i := 4) (N := some 57) (v := ?_) (a' := ?_) #[true, true, true, true, true] rfl rfl (by kernel_rfl) (fun _ _ _ h => h) (Or.inl ⟨by rfl, ?_⟩) ?_ ?_
        rotate_left
        ·intro w'
         go_simp
         with_reducible rfl
        rotate_left
        ·simp only [Act.put, List.setIfInBounds_toArray, List.set_cons_zero, List.set_cons_succ, i64_w, i32_w]
         rfl
        refine done_ (by kernel_rfl) ?_
        try go_wp2
        go_ret
        exact ⟨mf_, xw_ HB⟩
      ·replace c62 := Bool.eq_false_iff.mpr c62
       subst c62
       rw [if_neg (show ¬ (false = true) by decide)] at H
       obtain rfl := Option.some.inj H
       try go_wp2
       replace HO_464001 := Aside0.mk (Kd.R_drew HO_464001.out)
       replace HO_464004 := Aside0.mk (Kd.R_drew HO_464004.out)
       replace HO_471002 := Aside0.mk (Kd.R_drew HO_471002.out)
       replace BK427 := Aside0.mk (blk_drew BK427.out)
       replace BK428 := Aside0.mk (blk_drew BK428.out)
       replace BK463 := Aside0.mk (blk_drew BK463.out)
       replace BK470 := Aside0.mk (blk_drew BK470.out)
       replace HB := Aside0.mk (below_drew1 HB.out)
       refine start_ (n := 5) (S := fun w' => w'.cell? ⟨gb463, 0, none⟩ = some (.string t451) ∧ w'.cell? ⟨gb463, 1, none⟩ = some (.slice Ao46 t452.length co46) ∧ w'.cell? ⟨gb463, 2, none⟩ = some (.int .i64 t455) ∧ w'.cell? ⟨gb463, 3, none⟩ = some (.string t456) ∧ w'.cell? ⟨gb463, 4, none⟩ = some (.slice Ao47 t457.length co47) ∧ w'.cell? ⟨gb463, 5, none⟩ = some (.string t460) ∧ w'.cell? ⟨gb463, 6, none⟩ = some (.int .i64 t461) ∧ w'.cell? ⟨gb463, 7, none⟩ = some (.int .i64 t462) ∧ w'.cell? ⟨gb427, 0, none⟩ = some (.string a0_0) ∧ w'.cell? ⟨gb427, 1, none⟩ = some (.slice A0_1 l0_1.length c0_1) ∧ w'.cell? ⟨gb427, 2, none⟩ = some (.int .i64 a0_2) ∧ w'.cell? ⟨gb427, 3, none⟩ = some (.string a0_3) ∧ w'.cell? ⟨gb427, 4, none⟩ = some (.slice A0_4 l0_4.length c0_4) ∧ w'.cell? ⟨gb427, 5, none⟩ = some (.string a0_5) ∧ w'.cell? ⟨gb427, 6, none⟩ = some (.int .i64 a0_6) ∧ w'.cell? ⟨gb427, 7, none⟩ = some (.int .i64 a0_7)) (ds := []) #[false, false, false, false, false] (by kernel_rfl) rfl rfl ⟨xk_ BK463 0, xk_ BK463 1, xk_ BK463 2, xk_ BK463 3, xk_ BK463 4, xk_ BK463 5, xk_ BK463 6, xk_ BK463 7, xk_ BK427 0, xk_ BK427 1, xk_ BK427 2, xk_ BK427 3, xk_ BK427 4, xk_ BK427 5, xk_ BK427 6, xk_ BK427 7⟩ (fun hHeld => ?_)
       generalize wc.drew = w84 at HO_464001 HO_464004 HO_471002 BK427 BK428 BK463 BK470 HB hHeld ⊢
       refine take_ (i := 0) (N := some 48) (v := ?_) (a' := ?_) #[true, false, false, false, false] rfl rfl (by kernel_rfl) (fun _ _ _ h => h) (Or.inl ⟨by rfl, ?_⟩) hHeld ?_ ?_
       rotate_left
       ·rintro w' ⟨s0, s1, s2, s3, s4, s5, s6, s7, s8, s9, s10, s11, s12, s13, s14, s15⟩
        go_simp
        with_reducible rfl
       rotate_left
       ·simp only [Act.put, List.setIfInBounds_toArray, List.set_cons_zero, List.set_cons_succ, i64_w, i32_w]
        rfl
       refine take_ (i := 1) (N := some 49) (v := ?_) (a' := ?_) #[true, true, false, false, false] rfl rfl (by kernel_rfl) (fun _ _ _ h => h) (Or.inl ⟨by rfl, ?_⟩) hHeld ?_ ?_
       rotate_left
       ·rintro w' ⟨s0, s1, s2, s3, s4, s5, s6, s7, s8, s9, s10, s11, s12, s13, s14, s15⟩
        go_simp
        with_reducible rfl
       rotate_left
       ·simp only [Act.put, List.setIfInBounds_toArray, List.set_cons_zero, List.set_cons_succ, i64_w, i32_w]
        rfl
       refine one_ (i := 2) (N := some 50) #[true, true, true, false, false] rfl rfl (by kernel_rfl) (by decide) (fun K hK => ?_)
       refine xgo_ Tryz.func30 #[.agg #[.string a0_0, .slice A0_1 l0_1.length c0_1, .int .i64 a0_2, .string a0_3, .slice A0_4 l0_4.length c0_4, .string a0_5, .int .i64 a0_6, .int .i64 a0_7]] ?_
       with_reducible refine (laws_toItem.calls kj24 a0_0 _ _ l0_1 a0_2 a0_3 _ _ l0_4 a0_5 a0_6 a0_7 t473 t474 t477 t478 t479 t482 t483 t484 _ ?side1 ?side2 ?side3 ?side4 A60.out).mono ?_
       (case side1 => exact xc_ ((Kd.C_below HR0_1.out HB.out)))
       (case side2 => exact HC0_1.out)
       (case side3 => exact xc_ ((Kd.C_below HR0_4.out HB.out)))
       (case side4 => exact HC0_4.out)
       rintro e w85 ⟨v475, v480, rfl, ho0, ho1, hb⟩
       refine ⟨_, rfl, ?_⟩
       have HO476 := Aside0.mk (Kd.R_lower (Kd.R_new' (Kd.R_new' (Kd.R_new' ho0 (Kd.R_lt (xr_ HO_464001))) (Kd.R_lt (xr_ HO_464004))) (Kd.R_lt (xr_ HO_471002))) (below_size (xw_ HB)))
       have HO481 := Aside0.mk (Kd.R_lower (Kd.R_new' (Kd.R_new' (Kd.R_new' ho1 (Kd.R_lt (xr_ HO_464001))) (Kd.R_lt (xr_ HO_464004))) (Kd.R_lt (xr_ HO_471002))) (below_size (xw_ HB)))
       replace HO_464001 := Aside0.mk (Kd.R_mono (Kd.R_told (Kd.R_told (Kd.R_old (xr_ HO_464001) hb) (Kd.R_base ho0)) (Kd.R_base ho1)) (fun _ h_ => h_.1))
       replace HO_464004 := Aside0.mk (Kd.R_mono (Kd.R_told (Kd.R_told (Kd.R_old (xr_ HO_464004) hb) (Kd.R_base ho0)) (Kd.R_base ho1)) (fun _ h_ => h_.1))
       replace HO_471002 := Aside0.mk (Kd.R_mono (Kd.R_told (Kd.R_told (Kd.R_old (xr_ HO_471002) hb) (Kd.R_base ho0)) (Kd.R_base ho1)) (fun _ h_ => h_.1))
       replace BK427 := xbb_ BK427 hb
       replace BK428 := xbb_ BK428 hb
       replace BK463 := xbb_ BK463 hb
       replace BK470 := xbb_ BK470 hb
       replace HB := xws_ HB hb
       (try clear hb)
       (try clear hk)
       (try clear ho0)
       (try clear ho1)
       obtain ⟨Ao86, co86, eo86⟩ := Kd.R_slice HO476.out
       (first | subst eo86 | (injection eo86 with f1_ f2_ f3_; have f4_ := f1_.symm; have f5_ := f3_.symm; clear f1_ f2_ f3_; subst f4_; subst f5_))
       obtain ⟨Ao87, co87, eo87⟩ := Kd.R_slice HO481.out
       (first | subst eo87 | (injection eo87 with f1_ f2_ f3_; have f4_ := f1_.symm; have f5_ := f3_.symm; clear f1_ f2_ f3_; subst f4_; subst f5_))
       refine hK.out _ _ ⟨xk_ BK463 0, xk_ BK463 1, xk_ BK463 2, xk_ BK463 3, xk_ BK463 4, xk_ BK463 5, xk_ BK463 6, xk_ BK463 7, xk_ BK427 0, xk_ BK427 1, xk_ BK427 2, xk_ BK427 3, xk_ BK427 4, xk_ BK427 5, xk_ BK427 6, xk_ BK427 7⟩ (fun hHeld => ?_)
       clear hK K
       refine mn_ 50 ?_
       refine one_ (i := 3) (N := some 51) #[true, true, true, true, false] rfl rfl (by kernel_rfl) (by decide) (fun K hK => ?_)
       refine xgo_ Tryz.func32 #[.agg #[.string t451, .slice Ao46 t452.length co46, .int .i64 t455, .string t456, .slice Ao47 t457.length co47, .string t460, .int .i64 t461, .int .i64 t462], .agg #[.string t473, .slice Ao86 t474.length co86, .int .i64 t477, .string t478, .slice Ao87 t479.length co87, .string t482, .int .i64 t483, .int .i64 t484]] ?_
       with_reducible refine (laws_eqItem.calls kj24 t451 _ _ t452 t455 t456 _ _ t457 t460 t461 t462 t473 _ _ t474 t477 t478 _ _ t479 t482 t483 t484 false _ ?side1 ?side2 ?side3 ?side4 ?side5 ?side6 ?side7 ?side8 A61.out).mono ?_
       (case side1 => exact xc_ ((Kd.R_reads' HO_464001.out).2.2))
       (case side2 => exact (Kd.R_reads' HO_464001.out).2.1)
       (case side3 => exact xc_ ((Kd.R_reads' HO_464004.out).2.2))
       (case side4 => exact (Kd.R_reads' HO_464004.out).2.1)
       (case side5 => exact xc_ ((Kd.R_reads' HO476.out).2.2))
       (case side6 => exact (Kd.R_reads' HO476.out).2.1)
       (case side7 => exact xc_ ((Kd.R_reads' HO481.out).2.2))
       (case side8 => exact (Kd.R_reads' HO481.out).2.1)
       rintro e w88 ⟨rfl, hb⟩
       refine ⟨_, rfl, ?_⟩
       replace HO_464001 := xrb_ HO_464001 hb
       replace HO_464004 := xrb_ HO_464004 hb
       replace HO_471002 := xrb_ HO_471002 hb
       replace HO476 := xrb_ HO476 hb
       replace HO481 := xrb_ HO481 hb
       replace BK427 := xbb_ BK427 hb
       replace BK428 := xbb_ BK428 hb
       replace BK463 := xbb_ BK463 hb
       replace BK470 := xbb_ BK470 hb
       replace HB := xws_ HB hb
       (try clear hb)
       (try clear hk)
       refine hK.out _ _ ⟨xk_ BK463 0, xk_ BK463 1, xk_ BK463 2, xk_ BK463 3, xk_ BK463 4, xk_ BK463 5, xk_ BK463 6, xk_ BK463 7, xk_ BK427 0, xk_ BK427 1, xk_ BK427 2, xk_ BK427 3, xk_ BK427 4, xk_ BK427 5, xk_ BK427 6, xk_ BK427 7⟩ (fun hHeld => ?_)
       clear hK K
       refine mn_ 51 ?_
       refine pure_ (i := 4) (N := some 52) (v := ?_) (a' := ?_) #[true, true, true, true, true] rfl rfl (by kernel_rfl) (fun _ _ _ h => h) (Or.inl ⟨by rfl, ?_⟩) ?_ ?_
       rotate_left
       ·intro w'
        go_simp
        with_reducible rfl
       rotate_left
       ·simp only [Act.put, List.setIfInBounds_toArray, List.set_cons_zero, List.set_cons_succ, i64_w, i32_w]
        rfl
       refine done_ (by kernel_rfl) ?_
       try go_wp2
       go_ret
       exact ⟨mf_, xw_ HB⟩

/-- THE ONE PURE STATEMENT of laws_FnExactMatches: yours. -/
def laws_FnExactMatches.Pure : Prop := ∀ (a0_0 : ByteArray) (l0_1 : List (S97)) (a0_2 : Int) (a0_3 : ByteArray) (l0_4 : List (S97)) (a0_5 : ByteArray) (a0_6 : Int) (a0_7 : Int) (a1_0 : ByteArray) (a1_1 : ByteArray) (l1_2 : List (S97)) (a1_3 : ByteArray), a0_0.size ≤ maxLen → l0_1.length ≤ maxLen → (∀ x ∈ l0_1, x.f0.size ≤ maxLen ∧ x.f1.size ≤ maxLen) → (Lit.int .i64 a0_2).wf = true → a0_3.size ≤ maxLen → l0_4.length ≤ maxLen → (∀ x ∈ l0_4, x.f0.size ≤ maxLen ∧ x.f1.size ≤ maxLen) → a0_5.size ≤ maxLen → (Lit.int .i64 a0_6).wf = true → (Lit.int .i64 a0_7).wf = true → a1_0.size ≤ maxLen → a1_1.size ≤ maxLen → l1_2.length ≤ maxLen → (∀ x ∈ l1_2, x.f0.size ≤ maxLen ∧ x.f1.size ≤ maxLen) → a1_3.size ≤ maxLen → ∃ k, laws_FnExactMatches.f k a0_0 l0_1 a0_2 a0_3 l0_4 a0_5 a0_6 a0_7 a1_0 a1_1 l1_2 a1_3 = some true
theorem laws_FnExactMatches.walk (P : laws_FnExactMatches.Pure) (a0_0 : ByteArray) (A0_1 : Option Addr) (c0_1 : Nat) (l0_1 : List (S97)) (a0_2 : Int) (a0_3 : ByteArray) (A0_4 : Option Addr) (c0_4 : Nat) (l0_4 : List (S97)) (a0_5 : ByteArray) (a0_6 : Int) (a0_7 : Int) (a1_0 : ByteArray) (a1_1 : ByteArray) (A1_2 : Option Addr) (c1_2 : Nat) (l1_2 : List (S97)) (a1_3 : ByteArray) (w : World) (w0_0 : a0_0.size ≤ maxLen) (wr0_1 : Kd.C k97 w A0_1 l0_1.length l0_1) (wc0_1 : l0_1.length ≤ c0_1) (wm0_1 : l0_1.length ≤ maxLen) (ww0_1 : ∀ x ∈ l0_1, x.f0.size ≤ maxLen ∧ x.f1.size ≤ maxLen) (w0_2 : (Lit.int .i64 a0_2).wf = true) (w0_3 : a0_3.size ≤ maxLen) (wr0_4 : Kd.C k97 w A0_4 l0_4.length l0_4) (wc0_4 : l0_4.length ≤ c0_4) (wm0_4 : l0_4.length ≤ maxLen) (ww0_4 : ∀ x ∈ l0_4, x.f0.size ≤ maxLen ∧ x.f1.size ≤ maxLen) (w0_5 : a0_5.size ≤ maxLen) (w0_6 : (Lit.int .i64 a0_6).wf = true) (w0_7 : (Lit.int .i64 a0_7).wf = true) (w1_0 : a1_0.size ≤ maxLen) (w1_1 : a1_1.size ≤ maxLen) (wr1_2 : Kd.C k97 w A1_2 l1_2.length l1_2) (wc1_2 : l1_2.length ≤ c1_2) (wm1_2 : l1_2.length ≤ maxLen) (ww1_2 : ∀ x ∈ l1_2, x.f0.size ≤ maxLen ∧ x.f1.size ≤ maxLen) (w1_3 : a1_3.size ≤ maxLen) (hT_ : TabOk w) :
  Calls Tryz.prog 6 #[.agg #[.string a0_0, .slice A0_1 l0_1.length c0_1, .int .i64 a0_2, .string a0_3, .slice A0_4 l0_4.length c0_4, .string a0_5, .int .i64 a0_6, .int .i64 a0_7], .agg #[.string a1_0, .string a1_1, .slice A1_2 l1_2.length c1_2, .string a1_3]] w fun e w' => e = .returned (.bool true) ∧ Below w.heap.size w w' := by
 obtain ⟨k, h⟩ := P a0_0 l0_1 a0_2 a0_3 l0_4 a0_5 a0_6 a0_7 a1_0 a1_1 l1_2 a1_3 w0_0 wm0_1 ww0_1 w0_2 w0_3 wm0_4 ww0_4 w0_5 w0_6 w0_7 w1_0 w1_1 wm1_2 ww1_2 w1_3
 refine (laws_FnExactMatches.calls k a0_0 _ _ l0_1 a0_2 a0_3 _ _ l0_4 a0_5 a0_6 a0_7 a1_0 a1_1 _ _ l1_2 a1_3 true w wr0_1 wc0_1 wr0_4 wc0_4 wr1_2 wc1_2 h hT_).mono ?_
 rintro e w' ⟨rfl, hd⟩
 exact ⟨rfl, hd⟩

end Go.Proofs.YtpggepjfhgalkaaGreatDoor.PFnExactMatches
