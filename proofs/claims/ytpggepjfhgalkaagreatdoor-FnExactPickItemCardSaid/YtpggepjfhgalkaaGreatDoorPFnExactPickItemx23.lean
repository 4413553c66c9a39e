-- Written by a program of this project (xprint.py) out of the translation; Lean checks it.
import Derived.Test.YtpggepjfhgalkaaGreatDoorPFnExactPickItemx0
import Derived.Test.YtpggepjfhgalkaaGreatDoorPFnExactPickItemx1
import Derived.Test.YtpggepjfhgalkaaGreatDoorPFnExactPickItemx2
import Derived.Test.YtpggepjfhgalkaaGreatDoorPFnExactPickItemx12
import Derived.Test.YtpggepjfhgalkaaGreatDoorPFnExactPickItemx15
import Derived.Test.YtpggepjfhgalkaaGreatDoorPFnExactPickItemx21
import Derived.Test.YtpggepjfhgalkaaGreatDoorPFnExactPickItemx22
namespace Go.Proofs.YtpggepjfhgalkaaGreatDoor.PFnExactPickItem
open Go.RowKit Go.Proofs.YtpggepjfhgalkaaGreatDoorW.PrintWords Go.Proofs.YtpggepjfhgalkaaGreatDoorW.PrintLast Go.Proofs.YtpggepjfhgalkaaGreatDoorW.PrintMore
attribute [local go_sem] max2_int min2_int max_two min_two max_three min_three max_four min_four   -- for this text's walks alone
set_option linter.unusedVariables false
set_option linter.unusedSimpArgs false

/-! ### laws_FnExactPickItem: function 4 -/
def laws_FnExactPickItem.j0 : Nat → List (S64) → List (S71) → Bool → ByteArray → ByteArray → List (S97) → ByteArray → ByteArray → ByteArray → List (S105) → ByteArray → Option (Bool)
 | 0, _, _, _, _, _, _, _, _, _, _, _ => none
 | k + 1, x0, x10, x54, x462000, x462001, x462002, x462003, x485000, x485001, x485002, x485003 => if x54 = true then (some false) else ((laws_toItemS.f k x0).bind fun t487 => ((laws_eqItemS.f k x10 t487).bind fun t490 => (if t490 = true then ((laws_toRequest.f k x462000 x462001 x462002 x462003).bind fun bt491 => ((laws_eqRequest.f k x485000 x485001 x485002 x485003 bt491.1 bt491.2.1 bt491.2.2.1 bt491.2.2.2).bind fun t497 => (if t497 = true then (some true) else (some false)))) else (some false))))
def laws_FnExactPickItem.f (k : Nat) (l0 : List (S64)) (a1 : ByteArray) (a2_0 : ByteArray) (a2_1 : ByteArray) (l2_2 : List (S97)) (a2_3 : ByteArray) : Option (Bool) := if (a1.size : Int) > 1048576 then (some true) else ((laws_szItemS.f k l0 1048576).bind fun t462 => (if t462 < 0 then (some true) else ((laws_szRequest.f k a2_0 a2_1 l2_2 a2_3 t462).bind fun t463 => (if t463 < 0 then (some true) else ((laws_toItemS.f k l0).bind fun t464 => ((laws_toRequest.f k a2_0 a2_1 l2_2 a2_3).bind fun bt467 => ((spec_PickItem.f k t464 a1 bt467.1 bt467.2.1 bt467.2.2.1 bt467.2.2.2).bind fun bt473 => ((laws_toItemS.f k l0).bind fun t475 => ((laws_toRequest.f k a2_0 a2_1 l2_2 a2_3).bind fun bt478 => ((impl_PickItem.f k t475 a1 bt478.1 bt478.2.1 bt478.2.2.1 bt478.2.2.2).bind fun bt485 => (if bt485.1 = bt473.1 then (laws_FnExactPickItem.j0 k l0 t475 (bt485.2 != bt473.2) a2_0 a2_1 l2_2 a2_3 bt478.1 bt478.2.1 bt478.2.2.1 bt478.2.2.2) else (laws_FnExactPickItem.j0 k l0 t475 true a2_0 a2_1 l2_2 a2_3 bt478.1 bt478.2.1 bt478.2.2.1 bt478.2.2.2))))))))))))
def laws_FnExactPickItem.T10 : Bool × List (List Nat × List Nat) := (true, [([], []), ([0], [0]), ([], []), ([], []), ([3, 1], [3]), ([1, 2, 4, 4], [1, 2, 4]), ([5], [5]), ([6], [6]), ([6], [6]), ([7, 5, 0, 1, 2, 3, 4, 5, 6, 7], [7]), ([8, 9, 0, 1, 2, 3, 4, 5, 6, 7, 8, 9], [8])])
def laws_FnExactPickItem.B10 : List Nat := [0, 1, 0, 0, 11, 31, 63, 127, 127, 255, 1023]
theorem laws_FnExactPickItem.tab10 : rtab .any (opsOf Tryz.f4 10) = laws_FnExactPickItem.T10 := by kernel_rfl
theorem laws_FnExactPickItem.bits10 : waitsOk laws_FnExactPickItem.T10.2 laws_FnExactPickItem.B10 = true := by kernel_rfl
set_option maxHeartbeats 8000000 in
set_option maxRecDepth 100000 in
theorem laws_FnExactPickItem.calls (k : Nat) (A0 : Option Addr) (c0 : Nat) (l0 : List (S64)) (a1 : ByteArray) (a2_0 : ByteArray) (a2_1 : ByteArray) (A2_2 : Option Addr) (c2_2 : Nat) (l2_2 : List (S97)) (a2_3 : ByteArray) (r : Bool) (w : World) (hr0 : Kd.C k64 w A0 l0.length l0) (hc0 : l0.length ≤ c0) (hr2_2 : Kd.C k97 w A2_2 l2_2.length l2_2) (hc2_2 : l2_2.length ≤ c2_2) (h : laws_FnExactPickItem.f k l0 a1 a2_0 a2_1 l2_2 a2_3 = some r) (hT_ : TabOk w) :
  Calls Tryz.prog 4 #[.slice A0 l0.length c0, .string a1, .agg #[.string a2_0, .string a2_1, .slice A2_2 l2_2.length c2_2, .string a2_3]] w fun e w' => e = .returned (.bool r) ∧ Below w.heap.size w w' := by
 have HTB_ := Aside0.mk hT_
 clear hT_
 have hu26 := Tryz.underlying26
 have hu35 := Tryz.underlying35
 have HR0 := Aside0.mk hr0
 have HC0 := Aside0.mk hc0
 clear hr0 hc0
 have HR2_2 := Aside0.mk hr2_2
 have HC2_2 := Aside0.mk hc2_2
 clear hr2_2 hc2_2
 have HB := Aside0.mk (Below.refl w.heap.size w)
 have H := h
 unfold laws_FnExactPickItem.f at H
 clear h
 by_cases c4 : (a1.size : Int) > 1048576
 ·rw [if_pos c4] at H
  have c4b0 : decide (1048576 < (a1.size : Int)) = true := decide_eq_true c4
  have c4b1 : decide (1048576 < a1.size) = true := decide_eq_true (by omega)
  clear c4
  obtain rfl := Option.some.inj H
  go_enter Tryz.func4, Tryz.ntmps4
  go_wp2_with (first | ((with_reducible refine gd_ 5 ?_); refine xbe_ (N := 5) (cs := #[.string a2_0, .string a2_1, .slice A2_2 l2_2.length c2_2, .string a2_3]) (t := 26) ?_; intro gb461 hg w5 hbox hb; have BK461 := Aside0.mk (hbox); have GE461 := xge_ HB hg; replace HB := xws_ HB hb; clear hb hbox hg))
  go_ret
  exact ⟨mf_, xw_ HB⟩
 ·rw [if_neg c4] at H
  have c4b0 : decide (1048576 < (a1.size : Int)) = false := decide_eq_false c4
  have c4b1 : decide (1048576 < a1.size) = false := decide_eq_false (by omega)
  clear c4
  replace H := mb_ H
  obtain ⟨t462, A6, H⟩ := H
  by_cases c7 : t462 < 0
  ·rw [if_pos c7] at H
   have c7b0 := decide_eq_true c7
   clear c7
   obtain rfl := Option.some.inj H
   go_enter Tryz.func4, Tryz.ntmps4
   go_wp2_with (first | ((with_reducible refine gd_ 5 ?_); refine xbe_ (N := 5) (cs := #[.string a2_0, .string a2_1, .slice A2_2 l2_2.length c2_2, .string a2_3]) (t := 26) ?_; intro gb461 hg w8 hbox hb; have BK461 := Aside0.mk (hbox); have GE461 := xge_ HB hg; replace HB := xws_ HB hb; clear hb hbox hg) | ((with_reducible refine gc_ 14 ?_); refine xgl_ (some 19) Tryz.func14 #[.slice A0 l0.length c0, .int .i64 1048576] ?_; (with_reducible refine (laws_szItemS.calls k _ _ l0 1048576 t462 _ ?side1 ?side2 A6.out).mono ?_); (case side1 => exact xc_ ((Kd.C_below HR0.out HB.out))); (case side2 => exact HC0.out); rintro e w9 ⟨rfl, hb⟩; refine ⟨_, rfl, ?_⟩; replace BK461 := xbb_ BK461 hb; replace HB := xws_ HB hb; (try clear hb)))
   go_ret
   exact ⟨mf_, xw_ HB⟩
  ·rw [if_neg c7] at H
   have c7b0 := decide_eq_false c7
   clear c7
   replace H := mb_ H
   obtain ⟨t463, A10, H⟩ := H
   by_cases c11 : t463 < 0
   ·rw [if_pos c11] at H
    have c11b0 := decide_eq_true c11
    clear c11
    obtain rfl := Option.some.inj H
    go_enter Tryz.func4, Tryz.ntmps4
    go_wp2_with (first | ((with_reducible refine gd_ 5 ?_); refine xbe_ (N := 5) (cs := #[.string a2_0, .string a2_1, .slice A2_2 l2_2.length c2_2, .string a2_3]) (t := 26) ?_; intro gb461 hg w12 hbox hb; have BK461 := Aside0.mk (hbox); have GE461 := xge_ HB hg; replace HB := xws_ HB hb; clear hb hbox hg) | ((with_reducible refine gc_ 14 ?_); refine xgl_ (some 19) Tryz.func14 #[.slice A0 l0.length c0, .int .i64 1048576] ?_; (with_reducible refine (laws_szItemS.calls k _ _ l0 1048576 t462 _ ?side1 ?side2 A6.out).mono ?_); (case side1 => exact xc_ ((Kd.C_below HR0.out HB.out))); (case side2 => exact HC0.out); rintro e w13 ⟨rfl, hb⟩; refine ⟨_, rfl, ?_⟩; replace BK461 := xbb_ BK461 hb; replace HB := xws_ HB hb; (try clear hb); have ⟨_, _, _, _, _, _, _, _⟩ := c4_ BK461) | ((with_reducible refine gc_ 8 ?_); refine xgl_ (some 24) Tryz.func8 #[.agg #[.string a2_0, .string a2_1, .slice A2_2 l2_2.length c2_2, .string a2_3], .int .i64 t462] ?_; (with_reducible refine (laws_szRequest.calls k a2_0 a2_1 _ _ l2_2 a2_3 t462 t463 _ ?side1 ?side2 A10.out).mono ?_); (case side1 => exact xc_ ((Kd.C_below HR2_2.out HB.out))); (case side2 => exact HC2_2.out); rintro e w15 ⟨rfl, hb⟩; refine ⟨_, rfl, ?_⟩; replace BK461 := xbb_ BK461 hb; replace HB := xws_ HB hb; (try clear hb)))
    go_ret
    exact ⟨mf_, xw_ HB⟩
   ·rw [if_neg c11] at H
    have c11b0 := decide_eq_false c11
    clear c11
    replace H := mb_ H
    obtain ⟨t464, A16, H⟩ := H
    replace H := mb_ H
    obtain ⟨⟨t467, t468, t469, t472⟩, A17, H⟩ := H
    dsimp only at H
    replace H := mb_ H
    obtain ⟨⟨t473, t474⟩, A18, H⟩ := H
    dsimp only at H
    replace H := mb_ H
    obtain ⟨t475, A19, H⟩ := H
    replace H := mb_ H
    obtain ⟨⟨t478, t479, t480, t483⟩, A20, H⟩ := H
    dsimp only at H
    replace H := mb_ H
    obtain ⟨⟨t485, t486⟩, A21, H⟩ := H
    dsimp only at H
    have HC22 := Aside0.mk H
    clear H
    go_enter Tryz.func4, Tryz.ntmps4
    try go_wp2_with (first | ((with_reducible refine gd_ 5 ?_); refine xbe_ (N := 5) (cs := #[.string a2_0, .string a2_1, .slice A2_2 l2_2.length c2_2, .string a2_3]) (t := 26) ?_; intro gb461 hg w23 hbox hb; have BK461 := Aside0.mk (hbox); have GE461 := xge_ HB hg; replace HB := xws_ HB hb; clear hb hbox hg) | ((with_reducible refine gc_ 14 ?_); refine xgl_ (some 19) Tryz.func14 #[.slice A0 l0.length c0, .int .i64 1048576] ?_; (with_reducible refine (laws_szItemS.calls k _ _ l0 1048576 t462 _ ?side1 ?side2 A6.out).mono ?_); (case side1 => exact xc_ ((Kd.C_below HR0.out HB.out))); (case side2 => exact HC0.out); rintro e w24 ⟨rfl, hb⟩; refine ⟨_, rfl, ?_⟩; replace BK461 := xbb_ BK461 hb; replace HB := xws_ HB hb; (try clear hb); have ⟨_, _, _, _, _, _, _, _⟩ := c4_ BK461) | ((with_reducible refine gc_ 8 ?_); refine xgl_ (some 24) Tryz.func8 #[.agg #[.string a2_0, .string a2_1, .slice A2_2 l2_2.length c2_2, .string a2_3], .int .i64 t462] ?_; (with_reducible refine (laws_szRequest.calls k a2_0 a2_1 _ _ l2_2 a2_3 t462 t463 _ ?side1 ?side2 A10.out).mono ?_); (case side1 => exact xc_ ((Kd.C_below HR2_2.out HB.out))); (case side2 => exact HC2_2.out); rintro e w26 ⟨rfl, hb⟩; refine ⟨_, rfl, ?_⟩; replace BK461 := xbb_ BK461 hb; replace HB := xws_ HB hb; (try clear hb)))
    replace BK461 := Aside0.mk (blk_drew BK461.out)
    replace HB := Aside0.mk (below_drew1 HB.out)
    refine ms_ 11 (fun w' => w'.cell? ⟨gb461, 0, none⟩ = some (.string a2_0) ∧ w'.cell? ⟨gb461, 1, none⟩ = some (.string a2_1) ∧ w'.cell? ⟨gb461, 2, none⟩ = some (.slice A2_2 l2_2.length c2_2) ∧ w'.cell? ⟨gb461, 3, none⟩ = some (.string a2_3)) laws_FnExactPickItem.tab10 laws_FnExactPickItem.bits10 ⟨xk_ BK461 0, xk_ BK461 1, xk_ BK461 2, xk_ BK461 3⟩ (fun hHeld HT_ HW_ => ?_)
    generalize w26.drew = w27 at BK461 HB hHeld ⊢
    refine mp_ 0 28 ?_
    refine mp_ 2 30 ?_
    refine mt_ 3 31 hHeld ?_
    refine m1_ 1 29 Tryz.func16 #[.slice A0 l0.length c0] ?_
    with_reducible refine (laws_toItemS.calls k _ _ l0 t464 _ ?side1 ?side2 A16.out).mono ?_
    (case side1 => exact xc_ ((Kd.C_below HR0.out HB.out)))
    (case side2 => exact HC0.out)
    rintro e w28 ⟨v465, rfl, ho0, hb⟩
    refine ⟨_, rfl, ?_⟩
    have HO466 := Aside0.mk (Kd.S_lower ho0 (below_size (xw_ HB)))
    replace BK461 := xbb_ BK461 hb
    replace HB := xws_ HB hb
    (try clear hb)
    (try clear ho0)
    refine ⟨⟨xk_ BK461 0, xk_ BK461 1, xk_ BK461 2, xk_ BK461 3⟩, fun hHeld => ?_⟩
    refine mn_ 29 ?_
    refine m1_ 4 32 Tryz.func11 #[.agg #[.string a2_0, .string a2_1, .slice A2_2 l2_2.length c2_2, .string a2_3]] ?_
    with_reducible refine (laws_toRequest.calls k a2_0 a2_1 _ _ l2_2 a2_3 t467 t468 t469 t472 _ ?side1 ?side2 A17.out).mono ?_
    (case side1 => exact xc_ ((Kd.C_below HR2_2.out HB.out)))
    (case side2 => exact HC2_2.out)
    rintro e w29 ⟨v470, rfl, ho0, hb⟩
    refine ⟨_, rfl, ?_⟩
    replace HO466 := Aside0.mk (Kd.S_elder' (by (with_reducible repeat (first | apply Kd.S_alloc | apply Kd.S_drewN | apply Kd.S_drew)); exact HO466.out) (Kd.R_base ho0) hb)
    have HO471 := Aside0.mk (Kd.R_lower ho0 (below_size (xw_ HB)))
    replace BK461 := xbb_ BK461 hb
    replace HB := xws_ HB hb
    (try clear hb)
    (try clear ho0)
    obtain ⟨Ao30, co30, eo30⟩ := Kd.S_slice HO466.out
    (first | subst eo30 | (injection eo30 with f1_ f2_ f3_; have f4_ := f1_.symm; have f5_ := f3_.symm; clear f1_ f2_ f3_; subst f4_; subst f5_))
    obtain ⟨Ao31, co31, eo31⟩ := Kd.R_slice HO471.out
    (first | subst eo31 | (injection eo31 with f1_ f2_ f3_; have f4_ := f1_.symm; have f5_ := f3_.symm; clear f1_ f2_ f3_; subst f4_; subst f5_))
    refine ⟨⟨xk_ BK461 0, xk_ BK461 1, xk_ BK461 2, xk_ BK461 3⟩, fun hHeld => ?_⟩
    refine mn_ 32 ?_
    refine m1_ 5 33 Tryz.func15 #[.slice Ao30 t464.length co30, .string a1, .agg #[.string t467, .string t468, .slice Ao31 t469.length co31, .string t472]] ?_
    with_reducible refine (spec_PickItem.calls k _ _ t464 a1 t467 t468 _ _ t469 t472 t473 t474 _ ?side1 ?side2 ?side3 ?side4 A18.out).mono ?_
    (case side1 => exact xc_ ((Kd.S_reads' HO466.out).2.2))
    (case side2 => exact (Kd.S_reads' HO466.out).2.1)
    (case side3 => exact xc_ ((Kd.R_reads' HO471.out).2.2))
    (case side4 => exact (Kd.R_reads' HO471.out).2.1)
    rintro e w32 ⟨rfl, hb⟩
    refine ⟨_, rfl, ?_⟩
    replace HO466 := Aside0.mk (Kd.S_below (by (with_reducible repeat (first | apply Kd.S_alloc | apply Kd.S_drewN | apply Kd.S_drew)); exact HO466.out) hb)
    replace HO471 := xrb_ HO471 hb
    replace BK461 := xbb_ BK461 hb
    replace HB := xws_ HB hb
    (try clear hb)
    refine ⟨⟨xk_ BK461 0, xk_ BK461 1, xk_ BK461 2, xk_ BK461 3⟩, fun hHeld => ?_⟩
    refine mn_ 33 ?_
    refine mp_ 6 27 ?_
    refine mp_ 7 34 ?_
    refine mp_ 8 35 ?_
    refine mp_ 9 8 ?_
    refine mp_ 10 9 ?_
    refine done_ (done_of HT_.out (by kernel_rfl)) ?_
    go_upto_region 14 with (first | ((with_reducible refine gc_ 16 ?_); refine xgl_ (some 37) Tryz.func16 #[.slice A0 l0.length c0] ?_; (with_reducible refine (laws_toItemS.calls k _ _ l0 t475 _ ?side1 ?side2 A19.out).mono ?_); (case side1 => exact xc_ ((Kd.C_below HR0.out HB.out))); (case side2 => exact HC0.out); rintro e w33 ⟨v476, rfl, ho0, hb⟩; refine ⟨_, rfl, ?_⟩; have HO477 := Aside0.mk (Kd.S_lower (Kd.S_new' (Kd.S_new' ho0 (Kd.S_lt (by (with_reducible repeat (first | apply Kd.S_alloc | apply Kd.S_drewN | apply Kd.S_drew)); exact HO466.out))) (Kd.R_lt (xr_ HO471))) (below_size (xw_ HB))); replace HO466 := Aside0.mk (Kd.S_elder' (by (with_reducible repeat (first | apply Kd.S_alloc | apply Kd.S_drewN | apply Kd.S_drew)); exact HO466.out) (Kd.S_base ho0) hb); replace HO471 := xrb_ HO471 hb; replace BK461 := xbb_ BK461 hb; replace HB := xws_ HB hb; (try clear hb); (try clear ho0); have ⟨_, _, _, _, _, _, _, _⟩ := c4_ BK461) | ((with_reducible refine gc_ 11 ?_); refine xgl_ (some 39) Tryz.func11 #[.agg #[.string a2_0, .string a2_1, .slice A2_2 l2_2.length c2_2, .string a2_3]] ?_; (with_reducible refine (laws_toRequest.calls k a2_0 a2_1 _ _ l2_2 a2_3 t478 t479 t480 t483 _ ?side1 ?side2 A20.out).mono ?_); (case side1 => exact xc_ ((Kd.C_below HR2_2.out HB.out))); (case side2 => exact HC2_2.out); rintro e w35 ⟨v481, rfl, ho0, hb⟩; refine ⟨_, rfl, ?_⟩; replace HO466 := Aside0.mk (Kd.S_elder' (by (with_reducible repeat (first | apply Kd.S_alloc | apply Kd.S_drewN | apply Kd.S_drew)); exact HO466.out) (Kd.R_base ho0) hb); replace HO477 := Aside0.mk (Kd.S_elder' (by (with_reducible repeat (first | apply Kd.S_alloc | apply Kd.S_drewN | apply Kd.S_drew)); exact HO477.out) (Kd.R_base ho0) hb); have HO482 := Aside0.mk (Kd.R_lower (Kd.R_new' ho0 (Kd.R_lt (xr_ HO471))) (below_size (xw_ HB))); replace HO471 := xre_ HO471 ho0 hb; replace BK461 := xbb_ BK461 hb; replace HB := xws_ HB hb; (try clear hb); (try clear ho0)) | ((with_reducible refine gd_ 11 ?_); refine xbe_ (N := 11) (cs := #[.string (⟨#[]⟩ : ByteArray), .string (⟨#[]⟩ : ByteArray), .slice none 0 0, .string (⟨#[]⟩ : ByteArray)]) (t := 35) ?_; intro gb484 hg w36 hbox hb; replace HO466 := Aside0.mk (Kd.S_below (by (with_reducible repeat (first | apply Kd.S_alloc | apply Kd.S_drewN | apply Kd.S_drew)); exact HO466.out) hb); replace HO471 := xrb_ HO471 hb; replace HO477 := Aside0.mk (Kd.S_below (by (with_reducible repeat (first | apply Kd.S_alloc | apply Kd.S_drewN | apply Kd.S_drew)); exact HO477.out) hb); replace HO482 := xrb_ HO482 hb; have BK484 := Aside0.mk (hbox); have GE484 := xge_ HB hg; replace HB := xws_ HB hb; have NB461_484 := xlt_ BK461 hg; have NB484_461 := xgt_ BK461 hg; replace BK461 := xbb_ BK461 hb; clear hb hbox hg; have hnb37 := NB484_461.out; have hnc37 := NB461_484.out; have ⟨_, _, _, _, _, _, _, _⟩ := c4_ BK484; obtain ⟨Ao39, co39, eo39⟩ := Kd.R_slice HO482.out; subst eo39; obtain ⟨Ao40, co40, eo40⟩ := Kd.S_slice HO477.out; subst eo40) | ((with_reducible refine gc_ 17 ?_); refine xgl_ (some 44) Tryz.func17 #[.slice Ao40 t475.length co40, .string a1, .agg #[.string t478, .string t479, .slice Ao39 t480.length co39, .string t483]] ?_; (with_reducible refine (impl_PickItem.calls k _ _ t475 a1 t478 t479 _ _ t480 t483 t485 t486 _ ?side1 ?side2 ?side3 ?side4 A21.out (HTB_.out.below (by first | (with_reducible exact Below.refl _ _) | (repeat (first | (with_reducible first | exact HB.out | exact Below.refl _ _ | apply below_alloc | apply pw_below_drewN | apply below_drew1 | refine below_set ?_ GE461.out | refine below_set ?_ GE484.out) | exact HB.out)) | (repeat (first | exact Below.refl _ _ | apply below_alloc | apply pw_below_drewN | apply below_drew1 | refine below_set ?_ GE461.out | refine below_set ?_ GE484.out))))).mono ?_); (case side1 => refine (Kd.S_reads' (e := 71) (base := w.heap.size) (ok := fun k_ => (((True ∧ some k_ ≠ (.slice Ao30 t464.length co30 : Value).ownBlock) ∧ some k_ ≠ (.slice Ao31 t469.length co31 : Value).ownBlock) ∧ some k_ ≠ (.slice Ao39 t480.length co39 : Value).ownBlock)) (n := t475.length) (c := co40) ?_).2.2; exact (by (with_reducible repeat (first | apply Kd.S_alloc | apply Kd.S_drewN | apply Kd.S_drew)); exact (Kd.S_mono (Kd.S_far (p := ⟨gb484, 3, none⟩) (Kd.S_far (p := ⟨gb484, 2, none⟩) (Kd.S_far (p := ⟨gb484, 1, none⟩) (Kd.S_far (p := ⟨gb484, 0, none⟩) (Kd.S_types HO477.out BK484.out (by decide)) (fun _ hk => hk.2) (.string t478)) (fun _ hk => hk.2) (.string t479)) (fun _ hk => hk.2) (.slice Ao39 t480.length co39)) (fun _ hk => hk.2) (.string t483)) (fun _ h_ => h_.1)))); (case side2 => exact (Kd.S_reads' HO477.out).2.1); (case side3 => refine (Kd.R_reads' (e := 105) (base := w.heap.size) (ok := fun k_ => (True ∧ some k_ ≠ (.slice Ao31 t469.length co31 : Value).ownBlock)) (n := t480.length) (c := co39) ?_).2.2; exact (xrt_ ((Kd.R_mono (Kd.R_far (p := ⟨gb484, 3, none⟩) (Kd.R_far (p := ⟨gb484, 2, none⟩) (Kd.R_far (p := ⟨gb484, 1, none⟩) (Kd.R_far (p := ⟨gb484, 0, none⟩) (Kd.R_types HO482.out BK484.out (by decide)) (fun _ hk => hk.2) (.string t478)) (fun _ hk => hk.2) (.string t479)) (fun _ hk => hk.2) (.slice Ao39 t480.length co39)) (fun _ hk => hk.2) (.string t483)) (fun _ h_ => h_.1))))); (case side4 => exact (Kd.R_reads' HO482.out).2.1); rintro e w41 ⟨rfl, hb⟩; refine ⟨_, rfl, ?_⟩; replace HO466 := Aside0.mk (Kd.S_below (by (with_reducible repeat (first | apply Kd.S_alloc | apply Kd.S_drewN | apply Kd.S_drew)); exact (Kd.S_mono (Kd.S_far (p := ⟨gb484, 3, none⟩) (Kd.S_far (p := ⟨gb484, 2, none⟩) (Kd.S_far (p := ⟨gb484, 1, none⟩) (Kd.S_far (p := ⟨gb484, 0, none⟩) (Kd.S_types HO466.out BK484.out (by decide)) (fun _ hk => hk.2) (.string t478)) (fun _ hk => hk.2) (.string t479)) (fun _ hk => hk.2) (.slice Ao39 t480.length co39)) (fun _ hk => hk.2) (.string t483)) (fun _ h_ => h_.1))) hb); replace HO471 := Aside0.mk (Kd.R_below (xrt_ ((Kd.R_mono (Kd.R_far (p := ⟨gb484, 3, none⟩) (Kd.R_far (p := ⟨gb484, 2, none⟩) (Kd.R_far (p := ⟨gb484, 1, none⟩) (Kd.R_far (p := ⟨gb484, 0, none⟩) (Kd.R_types HO471.out BK484.out (by decide)) (fun _ hk => hk.2) (.string t478)) (fun _ hk => hk.2) (.string t479)) (fun _ hk => hk.2) (.slice Ao39 t480.length co39)) (fun _ hk => hk.2) (.string t483)) (fun _ h_ => h_.1)))) hb); replace HO477 := Aside0.mk (Kd.S_below (by (with_reducible repeat (first | apply Kd.S_alloc | apply Kd.S_drewN | apply Kd.S_drew)); exact (Kd.S_mono (Kd.S_far (p := ⟨gb484, 3, none⟩) (Kd.S_far (p := ⟨gb484, 2, none⟩) (Kd.S_far (p := ⟨gb484, 1, none⟩) (Kd.S_far (p := ⟨gb484, 0, none⟩) (Kd.S_types HO477.out BK484.out (by decide)) (fun _ hk => hk.2) (.string t478)) (fun _ hk => hk.2) (.string t479)) (fun _ hk => hk.2) (.slice Ao39 t480.length co39)) (fun _ hk => hk.2) (.string t483)) (fun _ h_ => h_.1))) hb); replace HO482 := Aside0.mk (Kd.R_below (xrt_ ((Kd.R_mono (Kd.R_far (p := ⟨gb484, 3, none⟩) (Kd.R_far (p := ⟨gb484, 2, none⟩) (Kd.R_far (p := ⟨gb484, 1, none⟩) (Kd.R_far (p := ⟨gb484, 0, none⟩) (Kd.R_types HO482.out BK484.out (by decide)) (fun _ hk => hk.2) (.string t478)) (fun _ hk => hk.2) (.string t479)) (fun _ hk => hk.2) (.slice Ao39 t480.length co39)) (fun _ hk => hk.2) (.string t483)) (fun _ h_ => h_.1)))) hb); replace BK461 := mxb_ (o' := .cells #[.string a2_0, .string a2_1, .slice A2_2 l2_2.length c2_2, .string a2_3] 26 (0, 0)) BK461 hb; replace BK484 := mxb_ (o' := .cells #[.string t478, .string t479, .slice Ao39 t480.length co39, .string t483] 35 (0, 0)) BK484 hb; replace HB := xws_ HB hb; (try clear hb)))
    (try simp only [Act.put, List.setIfInBounds_toArray, List.set_cons_zero, List.set_cons_succ])
    go_cut [54] (fun v54 wc => ∃ (kq : Nat) (x54_21 : Bool), v54 = .bool x54_21 ∧ Aside0 (laws_FnExactPickItem.j0 kq l0 t475 x54_21 a2_0 a2_1 l2_2 a2_3 t478 t479 t480 t483 = some r) ∧ Aside0 (kq ≤ k) ∧ Aside0 (Kd.S k71 71 wc w.heap.size (fun k_ => some k_ ≠ ((.slice Ao39 t480.length co39) : Value).ownBlock) (.slice Ao40 t475.length co40) t475) ∧ Aside0 (Kd.R k105 105 wc w.heap.size (fun _ => True) (.slice Ao39 t480.length co39) t480) ∧ Aside0 (wc.heap[gb461]? = some (.cells #[.string a2_0, .string a2_1, (.slice A2_2 l2_2.length c2_2), .string a2_3] 26 (0, 0))) ∧ Aside0 (wc.heap[gb484]? = some (.cells #[.string t478, .string t479, (.slice Ao39 t480.length co39), .string t483] 35 (0, 0))) ∧ Aside0 (Below w.heap.size w wc))
    case first =>
     have H := HC22.out
     clear HC22
     by_cases c42 : t485 = t473
     ·rw [if_pos c42] at H
      have c42b0 : (t485 == t473) = true := beq_iff_eq.mpr c42
      have c42b1 : (t485 != t473) = false := bne_eq_false_iff_eq.mpr c42
      clear c42
      (first | rw [c42b0] | (simp only [i64_w, i32_w]; rw [c42b0]) | skip)
      have H' := Aside0.mk H
      clear H
      go_wp2
      go_meet
      case rel => exact ⟨_, ((t486 != t474)), me_, H', ⟨by first | omega | exact Nat.le_refl _⟩, ⟨by (with_reducible repeat (first | apply Kd.S_alloc | apply Kd.S_drewN | apply Kd.S_drew)); exact Kd.S_mono HO477.out (fun _ hk => hk.2)⟩, ⟨xrt_ (Kd.R_mono HO482.out (fun _ hk => trivial))⟩, ⟨xb_ BK461⟩, ⟨xb_ BK484⟩, ⟨xw_ HB⟩⟩
     ·rw [if_neg c42] at H
      have c42b0 : (t485 == t473) = false := beq_eq_false_iff_ne.mpr c42
      have c42b1 : (t485 != t473) = true := bne_iff_ne.mpr c42
      (first | rw [c42b0] | (simp only [i64_w, i32_w]; rw [c42b0]) | skip)
      have H' := Aside0.mk H
      clear H
      go_wp2
      go_meet
      case rel => exact ⟨_, (true), me_, H', ⟨by first | omega | exact Nat.le_refl _⟩, ⟨by (with_reducible repeat (first | apply Kd.S_alloc | apply Kd.S_drewN | apply Kd.S_drew)); exact Kd.S_mono HO477.out (fun _ hk => hk.2)⟩, ⟨xrt_ (Kd.R_mono HO482.out (fun _ hk => trivial))⟩, ⟨xb_ BK461⟩, ⟨xb_ BK484⟩, ⟨xw_ HB⟩⟩
    case rest =>
     clear HC22
     try clear c4
     try clear c4b0
     try clear c4b1
     try clear c7
     try clear c7b0
     try clear c11
     try clear c11b0
     obtain ⟨kq, x54_21, rfl, HA, HJ21, HO_10, HO_485002, BK461, BK484, HB⟩ := hcut
     cases kq with
     | zero => exact absurd HA.out (by simp [laws_FnExactPickItem.j0])
     | succ kj21 =>
      have H := HA.out
      clear HA
      simp only [laws_FnExactPickItem.j0] at H
      by_cases c43 : x54_21 = true
      ·subst c43
       rw [if_pos rfl] at H
       obtain rfl := Option.some.inj H
       go_wp2
       go_ret
       exact ⟨mf_, xw_ HB⟩
      ·replace c43 := Bool.eq_false_iff.mpr c43
       subst c43
       rw [if_neg (show ¬ (false = true) by decide)] at H
       replace H := mb_ H
       obtain ⟨t487, A44, H⟩ := H
       replace H := mb_ H
       obtain ⟨t490, A45, H⟩ := H
       by_cases c46 : t490 = true
       ·subst c46
        rw [if_pos rfl] at H
        replace H := mb_ H
        obtain ⟨⟨t491, t492, t493, t496⟩, A47, H⟩ := H
        dsimp only at H
        replace H := mb_ H
        obtain ⟨t497, A48, H⟩ := H
        by_cases c49 : t497 = true
        ·subst c49
         rw [if_pos rfl] at H
         obtain rfl := Option.some.inj H
         try go_wp2_with (first | ((with_reducible refine gc_ 16 ?_); refine xgl_ (some 57) Tryz.func16 #[.slice A0 l0.length c0] ?_; (with_reducible refine (laws_toItemS.calls kj21 _ _ l0 t487 _ ?side1 ?side2 A44.out).mono ?_); (case side1 => exact xc_ ((Kd.C_below HR0.out HB.out))); (case side2 => exact HC0.out); rintro e w50 ⟨v488, rfl, ho0, hb⟩; refine ⟨_, rfl, ?_⟩; have HO489 := Aside0.mk (Kd.S_lower (Kd.S_new' (Kd.S_new' ho0 (Kd.S_lt (by (with_reducible repeat (first | apply Kd.S_alloc | apply Kd.S_drewN | apply Kd.S_drew)); exact HO_10.out))) (Kd.R_lt (xr_ HO_485002))) (below_size (xw_ HB))); replace HO_10 := Aside0.mk (Kd.S_elder' (by (with_reducible repeat (first | apply Kd.S_alloc | apply Kd.S_drewN | apply Kd.S_drew)); exact HO_10.out) (Kd.S_base ho0) hb); replace HO_485002 := xrb_ HO_485002 hb; replace BK461 := xbb_ BK461 hb; replace BK484 := xbb_ BK484 hb; replace HB := xws_ HB hb; (try clear hb); (try clear ho0); obtain ⟨Ao51, co51, eo51⟩ := Kd.S_slice HO489.out; subst eo51) | ((with_reducible refine gc_ 18 ?_); refine xgl_ (some 58) Tryz.func18 #[.slice Ao40 t475.length co40, .slice Ao51 t487.length co51] ?_; (with_reducible refine (laws_eqItemS.calls kj21 _ _ t475 _ _ t487 true _ ?side1 ?side2 ?side3 ?side4 A45.out).mono ?_); (case side1 => exact xc_ ((Kd.S_reads' HO_10.out).2.2)); (case side2 => exact (Kd.S_reads' HO_10.out).2.1); (case side3 => exact xc_ ((Kd.S_reads' HO489.out).2.2)); (case side4 => exact (Kd.S_reads' HO489.out).2.1); rintro e w52 ⟨rfl, hb⟩; refine ⟨_, rfl, ?_⟩; replace HO_10 := Aside0.mk (Kd.S_below (by (with_reducible repeat (first | apply Kd.S_alloc | apply Kd.S_drewN | apply Kd.S_drew)); exact HO_10.out) hb); replace HO_485002 := xrb_ HO_485002 hb; replace HO489 := Aside0.mk (Kd.S_below (by (with_reducible repeat (first | apply Kd.S_alloc | apply Kd.S_drewN | apply Kd.S_drew)); exact HO489.out) hb); replace BK461 := xbb_ BK461 hb; replace BK484 := xbb_ BK484 hb; replace HB := xws_ HB hb; (try clear hb)))
         replace HO_10 := Aside0.mk (Kd.S_drew HO_10.out)
         replace HO_485002 := Aside0.mk (Kd.R_drew HO_485002.out)
         replace HO489 := Aside0.mk (Kd.S_drew HO489.out)
         replace BK461 := Aside0.mk (blk_drew BK461.out)
         replace BK484 := Aside0.mk (blk_drew BK484.out)
         replace HB := Aside0.mk (below_drew1 HB.out)
         refine start_ (n := 5) (S := fun w' => w'.cell? ⟨gb484, 0, none⟩ = some (.string t478) ∧ w'.cell? ⟨gb484, 1, none⟩ = some (.string t479) ∧ w'.cell? ⟨gb484, 2, none⟩ = some (.slice Ao39 t480.length co39) ∧ w'.cell? ⟨gb484, 3, none⟩ = some (.string t483) ∧ w'.cell? ⟨gb461, 0, none⟩ = some (.string a2_0) ∧ w'.cell? ⟨gb461, 1, none⟩ = some (.string a2_1) ∧ w'.cell? ⟨gb461, 2, none⟩ = some (.slice A2_2 l2_2.length c2_2) ∧ w'.cell? ⟨gb461, 3, none⟩ = some (.string a2_3)) (ds := []) #[false, false, false, false, false] (by kernel_rfl) rfl rfl ⟨xk_ BK484 0, xk_ BK484 1, xk_ BK484 2, xk_ BK484 3, xk_ BK461 0, xk_ BK461 1, xk_ BK461 2, xk_ BK461 3⟩ (fun hHeld => ?_)
         generalize w52.drew = w53 at HO_10 HO_485002 HO489 BK461 BK484 HB hHeld ⊢
         refine take_ (i := 0) (N := some 60) (v := ?_) (a' := ?_) #[true, false, false, false, false] rfl rfl (by kernel_rfl) (fun _ _ _ h => h) (Or.inl ⟨by rfl, ?_⟩) hHeld ?_ ?_
         rotate_left
         ·rintro w' ⟨s0, s1, s2, s3, s4, s5, s6, s7⟩
          go_simp
          with_reducible rfl
         rotate_left
         ·simp only [Act.put, List.setIfInBounds_toArray, List.set_cons_zero, List.set_cons_succ, i64_w, i32_w]
          rfl
         refine take_ (i := 1) (N := some 61) (v := ?_) (a' := ?_) #[true, true, false, false, false] rfl rfl (by kernel_rfl) (fun _ _ _ h => h) (Or.inl ⟨by rfl, ?_⟩) hHeld ?_ ?_
         rotate_left
         ·rintro w' ⟨s0, s1, s2, s3, s4, s5, s6, s7⟩
          go_simp
          with_reducible rfl
         rotate_left
         ·simp only [Act.put, List.setIfInBounds_toArray, List.set_cons_zero, List.set_cons_succ, i64_w, i32_w]
          rfl
         refine one_ (i := 2) (N := some 62) #[true, true, true, false, false] rfl rfl (by kernel_rfl) (by decide) (fun K hK => ?_)
         refine xgo_ Tryz.func11 #[.agg #[.string a2_0, .string a2_1, .slice A2_2 l2_2.length c2_2, .string a2_3]] ?_
         with_reducible refine (laws_toRequest.calls kj21 a2_0 a2_1 _ _ l2_2 a2_3 t491 t492 t493 t496 _ ?side1 ?side2 A47.out).mono ?_
         (case side1 => exact xc_ ((Kd.C_below HR2_2.out HB.out)))
         (case side2 => exact HC2_2.out)
         rintro e w54 ⟨v494, rfl, ho0, hb⟩
         refine ⟨_, rfl, ?_⟩
         replace HO_10 := Aside0.mk (Kd.S_elder' (by (with_reducible repeat (first | apply Kd.S_alloc | apply Kd.S_drewN | apply Kd.S_drew)); exact HO_10.out) (Kd.R_base ho0) hb)
         replace HO489 := Aside0.mk (Kd.S_elder' (by (with_reducible repeat (first | apply Kd.S_alloc | apply Kd.S_drewN | apply Kd.S_drew)); exact HO489.out) (Kd.R_base ho0) hb)
         have HO495 := Aside0.mk (Kd.R_lower (Kd.R_new' ho0 (Kd.R_lt (xr_ HO_485002))) (below_size (xw_ HB)))
         replace HO_485002 := xre_ HO_485002 ho0 hb
         replace BK461 := xbb_ BK461 hb
         replace BK484 := xbb_ BK484 hb
         replace HB := xws_ HB hb
         (try clear hb)
         (try clear hk)
         (try clear ho0)
         obtain ⟨Ao55, co55, eo55⟩ := Kd.R_slice HO495.out
         (first | subst eo55 | (injection eo55 with f1_ f2_ f3_; have f4_ := f1_.symm; have f5_ := f3_.symm; clear f1_ f2_ f3_; subst f4_; subst f5_))
         refine hK.out _ _ ⟨xk_ BK484 0, xk_ BK484 1, xk_ BK484 2, xk_ BK484 3, xk_ BK461 0, xk_ BK461 1, xk_ BK461 2, xk_ BK461 3⟩ (fun hHeld => ?_)
         clear hK K
         refine mn_ 62 ?_
         refine one_ (i := 3) (N := some 63) #[true, true, true, true, false] rfl rfl (by kernel_rfl) (by decide) (fun K hK => ?_)
         refine xgo_ Tryz.func13 #[.agg #[.string t478, .string t479, .slice Ao39 t480.length co39, .string t483], .agg #[.string t491, .string t492, .slice Ao55 t493.length co55, .string t496]] ?_
         with_reducible refine (laws_eqRequest.calls kj21 t478 t479 _ _ t480 t483 t491 t492 _ _ t493 t496 true _ ?side1 ?side2 ?side3 ?side4 A48.out).mono ?_
         (case side1 => exact xc_ ((Kd.R_reads' HO_485002.out).2.2))
         (case side2 => exact (Kd.R_reads' HO_485002.out).2.1)
         (case side3 => exact xc_ ((Kd.R_reads' HO495.out).2.2))
         (case side4 => exact (Kd.R_reads' HO495.out).2.1)
         rintro e w56 ⟨rfl, hb⟩
         refine ⟨_, rfl, ?_⟩
         replace HO_10 := Aside0.mk (Kd.S_below (by (with_reducible repeat (first | apply Kd.S_alloc | apply Kd.S_drewN | apply Kd.S_drew)); exact HO_10.out) hb)
         replace HO_485002 := xrb_ HO_485002 hb
         replace HO489 := Aside0.mk (Kd.S_below (by (with_reducible repeat (first | apply Kd.S_alloc | apply Kd.S_drewN | apply Kd.S_drew)); exact HO489.out) hb)
         replace HO495 := xrb_ HO495 hb
         replace BK461 := xbb_ BK461 hb
         replace BK484 := xbb_ BK484 hb
         replace HB := xws_ HB hb
         (try clear hb)
         (try clear hk)
         refine hK.out _ _ ⟨xk_ BK484 0, xk_ BK484 1, xk_ BK484 2, xk_ BK484 3, xk_ BK461 0, xk_ BK461 1, xk_ BK461 2, xk_ BK461 3⟩ (fun hHeld => ?_)
         clear hK K
         refine mn_ 63 ?_
         refine pure_ (i := 4) (N := some 64) (v := ?_) (a' := ?_) #[true, true, true, true, true] rfl rfl (by kernel_rfl) (fun _ _ _ h => h) (Or.inl ⟨by rfl, ?_⟩) ?_ ?_
         rotate_left
         ·intro w'
          go_simp
          with_reducible rfl
         rotate_left
         ·simp only [Act.put, List.setIfInBounds_toArray, List.set_cons_zero, List.set_cons_succ, i64_w, i32_w]
          rfl
         refine done_ (by kernel_rfl) ?_
         try go_wp2
         go_ret
         exact ⟨mf_, xw_ HB⟩
        ·replace c49 := Bool.eq_false_iff.mpr c49
         subst c49
         rw [if_neg (show ¬ (false = true) by decide)] at H
         obtain rfl := Option.some.inj H
         try go_wp2_with (first | ((with_reducible refine gc_ 16 ?_); refine xgl_ (some 57) Tryz.func16 #[.slice A0 l0.length c0] ?_; (with_reducible refine (laws_toItemS.calls kj21 _ _ l0 t487 _ ?side1 ?side2 A44.out).mono ?_); (case side1 => exact xc_ ((Kd.C_below HR0.out HB.out))); (case side2 => exact HC0.out); rintro e w57 ⟨v488, rfl, ho0, hb⟩; refine ⟨_, rfl, ?_⟩; have HO489 := Aside0.mk (Kd.S_lower (Kd.S_new' (Kd.S_new' ho0 (Kd.S_lt (by (with_reducible repeat (first | apply Kd.S_alloc | apply Kd.S_drewN | apply Kd.S_drew)); exact HO_10.out))) (Kd.R_lt (xr_ HO_485002))) (below_size (xw_ HB))); replace HO_10 := Aside0.mk (Kd.S_elder' (by (with_reducible repeat (first | apply Kd.S_alloc | apply Kd.S_drewN | apply Kd.S_drew)); exact HO_10.out) (Kd.S_base ho0) hb); replace HO_485002 := xrb_ HO_485002 hb; replace BK461 := xbb_ BK461 hb; replace BK484 := xbb_ BK484 hb; replace HB := xws_ HB hb; (try clear hb); (try clear ho0); obtain ⟨Ao58, co58, eo58⟩ := Kd.S_slice HO489.out; subst eo58) | ((with_reducible refine gc_ 18 ?_); refine xgl_ (some 58) Tryz.func18 #[.slice Ao40 t475.length co40, .slice Ao58 t487.length co58] ?_; (with_reducible refine (laws_eqItemS.calls kj21 _ _ t475 _ _ t487 true _ ?side1 ?side2 ?side3 ?side4 A45.out).mono ?_); (case side1 => exact xc_ ((Kd.S_reads' HO_10.out).2.2)); (case side2 => exact (Kd.S_reads' HO_10.out).2.1); (case side3 => exact xc_ ((Kd.S_reads' HO489.out).2.2)); (case side4 => exact (Kd.S_reads' HO489.out).2.1); rintro e w59 ⟨rfl, hb⟩; refine ⟨_, rfl, ?_⟩; replace HO_10 := Aside0.mk (Kd.S_below (by (with_reducible repeat (first | apply Kd.S_alloc | apply Kd.S_drewN | apply Kd.S_drew)); exact HO_10.out) hb); replace HO_485002 := xrb_ HO_485002 hb; replace HO489 := Aside0.mk (Kd.S_below (by (with_reducible repeat (first | apply Kd.S_alloc | apply Kd.S_drewN | apply Kd.S_drew)); exact HO489.out) hb); replace BK461 := xbb_ BK461 hb; replace BK484 := xbb_ BK484 hb; replace HB := xws_ HB hb; (try clear hb)))
         replace HO_10 := Aside0.mk (Kd.S_drew HO_10.out)
         replace HO_485002 := Aside0.mk (Kd.R_drew HO_485002.out)
         replace HO489 := Aside0.mk (Kd.S_drew HO489.out)
         replace BK461 := Aside0.mk (blk_drew BK461.out)
         replace BK484 := Aside0.mk (blk_drew BK484.out)
         replace HB := Aside0.mk (below_drew1 HB.out)
         refine start_ (n := 5) (S := fun w' => w'.cell? ⟨gb484, 0, none⟩ = some (.string t478) ∧ w'.cell? ⟨gb484, 1, none⟩ = some (.string t479) ∧ w'.cell? ⟨gb484, 2, none⟩ = some (.slice Ao39 t480.length co39) ∧ w'.cell? ⟨gb484, 3, none⟩ = some (.string t483) ∧ w'.cell? ⟨gb461, 0, none⟩ = some (.string a2_0) ∧ w'.cell? ⟨gb461, 1, none⟩ = some (.string a2_1) ∧ w'.cell? ⟨gb461, 2, none⟩ = some (.slice A2_2 l2_2.length c2_2) ∧ w'.cell? ⟨gb461, 3, none⟩ = some (.string a2_3)) (ds := []) #[false, false, false, false, false] (by kernel_rfl) rfl rfl ⟨xk_ BK484 0, xk_ BK484 1, xk_ BK484 2, xk_ BK484 3, xk_ BK461 0, xk_ BK461 1, xk_ BK461 2, xk_ BK461 3⟩ (fun hHeld => ?_)
         generalize w59.drew = w60 at HO_10 HO_485002 HO489 BK461 BK484 HB hHeld ⊢
         refine take_ (i := 0) (N := some 60) (v := ?_) (a' := ?_) #[true, false, false, false, false] rfl rfl (by kernel_rfl) (fun _ _ _ h => h) (Or.inl ⟨by rfl, ?_⟩) hHeld ?_ ?_
         rotate_left
         ·rintro w' ⟨s0, s1, s2, s3, s4, s5, s6, s7⟩
          go_simp
          with_reducible rfl
         rotate_left
         ·simp only [Act.put, List.setIfInBounds_toArray, List.set_cons_zero, List.set_cons_succ, i64_w, i32_w]
          rfl
         refine take_ (i := 1) (N := some 61) (v := ?_) (a' := ?_) #[true, true, false, false, false] rfl rfl (by kernel_rfl) (fun _ _ _ h => h) (Or.inl ⟨by rfl, ?_⟩) hHeld ?_ ?_
         rotate_left
         ·rintro w' ⟨s0, s1, s2, s3, s4, s5, s6, s7⟩
          go_simp
          with_reducible rfl
         rotate_left
         ·simp only [Act.put, List.setIfInBounds_toArray, List.set_cons_zero, List.set_cons_succ, i64_w, i32_w]
          rfl
         refine one_ (i := 2) (N := some 62) #[true, true, true, false, false] rfl rfl (by kernel_rfl) (by decide) (fun K hK => ?_)
         refine xgo_ Tryz.func11 #[.agg #[.string a2_0, .string a2_1, .slice A2_2 l2_2.length c2_2, .string a2_3]] ?_
         with_reducible refine (laws_toRequest.calls kj21 a2_0 a2_1 _ _ l2_2 a2_3 t491 t492 t493 t496 _ ?side1 ?side2 A47.out).mono ?_
         (case side1 => exact xc_ ((Kd.C_below HR2_2.out HB.out)))
         (case side2 => exact HC2_2.out)
         rintro e w61 ⟨v494, rfl, ho0, hb⟩
         refine ⟨_, rfl, ?_⟩
         replace HO_10 := Aside0.mk (Kd.S_elder' (by (with_reducible repeat (first | apply Kd.S_alloc | apply Kd.S_drewN | apply Kd.S_drew)); exact HO_10.out) (Kd.R_base ho0) hb)
         replace HO489 := Aside0.mk (Kd.S_elder' (by (with_reducible repeat (first | apply Kd.S_alloc | apply Kd.S_drewN | apply Kd.S_drew)); exact HO489.out) (Kd.R_base ho0) hb)
         have HO495 := Aside0.mk (Kd.R_lower (Kd.R_new' ho0 (Kd.R_lt (xr_ HO_485002))) (below_size (xw_ HB)))
         replace HO_485002 := xre_ HO_485002 ho0 hb
         replace BK461 := xbb_ BK461 hb
         replace BK484 := xbb_ BK484 hb
         replace HB := xws_ HB hb
         (try clear hb)
         (try clear hk)
         (try clear ho0)
         obtain ⟨Ao62, co62, eo62⟩ := Kd.R_slice HO495.out
         (first | subst eo62 | (injection eo62 with f1_ f2_ f3_; have f4_ := f1_.symm; have f5_ := f3_.symm; clear f1_ f2_ f3_; subst f4_; subst f5_))
         refine hK.out _ _ ⟨xk_ BK484 0, xk_ BK484 1, xk_ BK484 2, xk_ BK484 3, xk_ BK461 0, xk_ BK461 1, xk_ BK461 2, xk_ BK461 3⟩ (fun hHeld => ?_)
         clear hK K
         refine mn_ 62 ?_
         refine one_ (i := 3) (N := some 63) #[true, true, true, true, false] rfl rfl (by kernel_rfl) (by decide) (fun K hK => ?_)
         refine xgo_ Tryz.func13 #[.agg #[.string t478, .string t479, .slice Ao39 t480.length co39, .string t483], .agg #[.string t491, .string t492, .slice Ao62 t493.length co62, .string t496]] ?_
         with_reducible refine (laws_eqRequest.calls kj21 t478 t479 _ _ t480 t483 t491 t492 _ _ t493 t496 false _ ?side1 ?side2 ?side3 ?side4 A48.out).mono ?_
         (case side1 => exact xc_ ((Kd.R_reads' HO_485002.out).2.2))
         (case side2 => exact (Kd.R_reads' HO_485002.out).2.1)
         (case side3 => exact xc_ ((Kd.R_reads' HO495.out).2.2))
         (case side4 => exact (Kd.R_reads' HO495.out).2.1)
         rintro e w63 ⟨rfl, hb⟩
         refine ⟨_, rfl, ?_⟩
         replace HO_10 := Aside0.mk (Kd.S_below (by (with_reducible repeat (first | apply Kd.S_alloc | apply Kd.S_drewN | apply Kd.S_drew)); exact HO_10.out) hb)
         replace HO_485002 := xrb_ HO_485002 hb
         replace HO489 := Aside0.mk (Kd.S_below (by (with_reducible repeat (first | apply Kd.S_alloc | apply Kd.S_drewN | apply Kd.S_drew)); exact HO489.out) hb)
         replace HO495 := xrb_ HO495 hb
         replace BK461 := xbb_ BK461 hb
         replace BK484 := xbb_ BK484 hb
         replace HB := xws_ HB hb
         (try clear hb)
         (try clear hk)
         refine hK.out _ _ ⟨xk_ BK484 0, xk_ BK484 1, xk_ BK484 2, xk_ BK484 3, xk_ BK461 0, xk_ BK461 1, xk_ BK461 2, xk_ BK461 3⟩ (fun hHeld => ?_)
         clear hK K
         refine mn_ 63 ?_
         refine pure_ (i := 4) (N := some 64) (v := ?_) (a' := ?_) #[true, true, true, true, true] rfl rfl (by kernel_rfl) (fun _ _ _ h => h) (Or.inl ⟨by rfl, ?_⟩) ?_ ?_
         rotate_left
         ·intro w'
          go_simp
          with_reducible rfl
         rotate_left
         ·simp only [Act.put, List.setIfInBounds_toArray, List.set_cons_zero, List.set_cons_succ, i64_w, i32_w]
          rfl
         refine done_ (by kernel_rfl) ?_
         try go_wp2
         go_ret
         exact ⟨mf_, xw_ HB⟩
       ·replace c46 := Bool.eq_false_iff.mpr c46
        subst c46
        rw [if_neg (show ¬ (false = true) by decide)] at H
        obtain rfl := Option.some.inj H
        go_wp2_with (first | ((with_reducible refine gc_ 16 ?_); refine xgl_ (some 57) Tryz.func16 #[.slice A0 l0.length c0] ?_; (with_reducible refine (laws_toItemS.calls kj21 _ _ l0 t487 _ ?side1 ?side2 A44.out).mono ?_); (case side1 => exact xc_ ((Kd.C_below HR0.out HB.out))); (case side2 => exact HC0.out); rintro e w64 ⟨v488, rfl, ho0, hb⟩; refine ⟨_, rfl, ?_⟩; have HO489 := Aside0.mk (Kd.S_lower (Kd.S_new' (Kd.S_new' ho0 (Kd.S_lt (by (with_reducible repeat (first | apply Kd.S_alloc | apply Kd.S_drewN | apply Kd.S_drew)); exact HO_10.out))) (Kd.R_lt (xr_ HO_485002))) (below_size (xw_ HB))); replace HO_10 := Aside0.mk (Kd.S_elder' (by (with_reducible repeat (first | apply Kd.S_alloc | apply Kd.S_drewN | apply Kd.S_drew)); exact HO_10.out) (Kd.S_base ho0) hb); replace HO_485002 := xrb_ HO_485002 hb; replace BK461 := xbb_ BK461 hb; replace BK484 := xbb_ BK484 hb; replace HB := xws_ HB hb; (try clear hb); (try clear ho0); obtain ⟨Ao65, co65, eo65⟩ := Kd.S_slice HO489.out; subst eo65) | ((with_reducible refine gc_ 18 ?_); refine xgl_ (some 58) Tryz.func18 #[.slice Ao40 t475.length co40, .slice Ao65 t487.length co65] ?_; (with_reducible refine (laws_eqItemS.calls kj21 _ _ t475 _ _ t487 false _ ?side1 ?side2 ?side3 ?side4 A45.out).mono ?_); (case side1 => exact xc_ ((Kd.S_reads' HO_10.out).2.2)); (case side2 => exact (Kd.S_reads' HO_10.out).2.1); (case side3 => exact xc_ ((Kd.S_reads' HO489.out).2.2)); (case side4 => exact (Kd.S_reads' HO489.out).2.1); rintro e w66 ⟨rfl, hb⟩; refine ⟨_, rfl, ?_⟩; replace HO_10 := Aside0.mk (Kd.S_below (by (with_reducible repeat (first | apply Kd.S_alloc | apply Kd.S_drewN | apply Kd.S_drew)); exact HO_10.out) hb); replace HO_485002 := xrb_ HO_485002 hb; replace HO489 := Aside0.mk (Kd.S_below (by (with_reducible repeat (first | apply Kd.S_alloc | apply Kd.S_drewN | apply Kd.S_drew)); exact HO489.out) hb); replace BK461 := xbb_ BK461 hb; replace BK484 := xbb_ BK484 hb; replace HB := xws_ HB hb; (try clear hb)))
        go_ret
        exact ⟨mf_, xw_ HB⟩

/-- THE ONE PURE STATEMENT of laws_FnExactPickItem: yours. -/
def laws_FnExactPickItem.Pure : Prop := ∀ (l0 : List (S64)) (a1 : ByteArray) (a2_0 : ByteArray) (a2_1 : ByteArray) (l2_2 : List (S97)) (a2_3 : ByteArray), l0.length ≤ maxLen → (∀ x ∈ l0, x.f0.size ≤ maxLen ∧ x.f1.length ≤ maxLen ∧ (∀ y ∈ x.f1, y.f0.size ≤ maxLen ∧ y.f1.size ≤ maxLen) ∧ (Lit.int .i64 x.f2.f0.f0).wf = true ∧ x.f2.f0.f1.size ≤ maxLen ∧ x.f2.f0.f2.length ≤ maxLen ∧ (∀ y ∈ x.f2.f0.f2, y.f0.size ≤ maxLen ∧ y.f1.size ≤ maxLen) ∧ x.f2.f0.f3.size ≤ maxLen ∧ (Lit.int .i64 x.f2.f1).wf = true ∧ (Lit.int .i64 x.f2.f2).wf = true) → a1.size ≤ 140737488351232 → a2_0.size ≤ maxLen → a2_1.size ≤ maxLen → l2_2.length ≤ maxLen → (∀ x ∈ l2_2, x.f0.size ≤ maxLen ∧ x.f1.size ≤ maxLen) → a2_3.size ≤ maxLen → ∃ k, laws_FnExactPickItem.f k l0 a1 a2_0 a2_1 l2_2 a2_3 = some true
theorem laws_FnExactPickItem.walk (P : laws_FnExactPickItem.Pure) (A0 : Option Addr) (c0 : Nat) (l0 : List (S64)) (a1 : ByteArray) (a2_0 : ByteArray) (a2_1 : ByteArray) (A2_2 : Option Addr) (c2_2 : Nat) (l2_2 : List (S97)) (a2_3 : ByteArray) (w : World) (wr0 : Kd.C k64 w A0 l0.length l0) (wc0 : l0.length ≤ c0) (wm0 : l0.length ≤ maxLen) (ww0 : ∀ x ∈ l0, x.f0.size ≤ maxLen ∧ x.f1.length ≤ maxLen ∧ (∀ y ∈ x.f1, y.f0.size ≤ maxLen ∧ y.f1.size ≤ maxLen) ∧ (Lit.int .i64 x.f2.f0.f0).wf = true ∧ x.f2.f0.f1.size ≤ maxLen ∧ x.f2.f0.f2.length ≤ maxLen ∧ (∀ y ∈ x.f2.f0.f2, y.f0.size ≤ maxLen ∧ y.f1.size ≤ maxLen) ∧ x.f2.f0.f3.size ≤ maxLen ∧ (Lit.int .i64 x.f2.f1).wf = true ∧ (Lit.int .i64 x.f2.f2).wf = true) (w1 : a1.size ≤ 140737488351232) (w2_0 : a2_0.size ≤ maxLen) (w2_1 : a2_1.size ≤ maxLen) (wr2_2 : Kd.C k97 w A2_2 l2_2.length l2_2) (wc2_2 : l2_2.length ≤ c2_2) (wm2_2 : l2_2.length ≤ maxLen) (ww2_2 : ∀ x ∈ l2_2, x.f0.size ≤ maxLen ∧ x.f1.size ≤ maxLen) (w2_3 : a2_3.size ≤ maxLen) (hT_ : TabOk w) :
  Calls Tryz.prog 4 #[.slice A0 l0.length c0, .string a1, .agg #[.string a2_0, .string a2_1, .slice A2_2 l2_2.length c2_2, .string a2_3]] w fun e w' => e = .returned (.bool true) ∧ Below w.heap.size w w' := by
 obtain ⟨k, h⟩ := P l0 a1 a2_0 a2_1 l2_2 a2_3 wm0 ww0 w1 w2_0 w2_1 wm2_2 ww2_2 w2_3
 refine (laws_FnExactPickItem.calls k _ _ l0 a1 a2_0 a2_1 _ _ l2_2 a2_3 true w wr0 wc0 wr2_2 wc2_2 h hT_).mono ?_
 rintro e w' ⟨rfl, hd⟩
 exact ⟨rfl, hd⟩

end Go.Proofs.YtpggepjfhgalkaaGreatDoor.PFnExactPickItem
