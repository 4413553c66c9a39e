-- Written by a program of this project (xprint.py) out of the translation; Lean checks it.
import Derived.Test.YtpggepjfhgalkaaGreatDoorPFnExactMatchesx0
import Derived.Test.YtpggepjfhgalkaaGreatDoorPFnExactMatchesx10
import Derived.Test.YtpggepjfhgalkaaGreatDoorPFnExactMatchesx11
import Derived.Test.YtpggepjfhgalkaaGreatDoorPFnExactMatchesx13
import Derived.Test.YtpggepjfhgalkaaGreatDoorPFnExactMatchesx14
import Derived.Test.YtpggepjfhgalkaaGreatDoorPFnExactMatchesx15
namespace Go.Proofs.YtpggepjfhgalkaaGreatDoor.PFnExactMatches
open Go.RowKit Go.Proofs.YtpggepjfhgalkaaGreatDoorW.PrintWords Go.Proofs.YtpggepjfhgalkaaGreatDoorW.PrintLast Go.Proofs.YtpggepjfhgalkaaGreatDoorW.PrintMore
attribute [local go_sem] max2_int min2_int max_two min_two max_three min_three max_four min_four   -- for this text's walks alone
set_option linter.unusedVariables false
set_option linter.unusedSimpArgs false

/-! ### impl_responseLine: function 92 -/
def impl_responseLine.f (a0_0 : Int) (a0_1 : ByteArray) (l0_2 : List (S105)) (a0_3 : ByteArray) : Option (ByteArray) := (strconv_Itoa.f a0_0).bind fun t396 => (if 9 + t396.size ≤ 9223372036854775807 then (if ((⟨#[72, 84, 84, 80, 47, 49, 46, 49, 32]⟩ : ByteArray) ++ t396).size + 1 ≤ 9223372036854775807 then (if (((⟨#[72, 84, 84, 80, 47, 49, 46, 49, 32]⟩ : ByteArray) ++ t396) ++ (⟨#[32]⟩ : ByteArray)).size + a0_1.size ≤ 9223372036854775807 then (some ((((⟨#[72, 84, 84, 80, 47, 49, 46, 49, 32]⟩ : ByteArray) ++ t396) ++ (⟨#[32]⟩ : ByteArray)) ++ a0_1)) else (none)) else (none)) else (none))
def impl_responseLine.T1 : Bool × List (List Nat × List Nat) := (true, [([], []), ([0], [0]), ([1], [1]), ([2], [2]), ([3], [3]), ([], []), ([5], [5]), ([4, 6], [4, 6]), ([7, 2, 0, 1, 2, 3, 4, 5, 6, 7], [7])])
def impl_responseLine.B1 : List Nat := [0, 1, 3, 7, 15, 0, 32, 127, 255]
theorem impl_responseLine.tab1 : rtab .any (opsOf Tryz.f92 1) = impl_responseLine.T1 := by kernel_rfl
theorem impl_responseLine.bits1 : waitsOk impl_responseLine.T1.2 impl_responseLine.B1 = true := by kernel_rfl
set_option maxHeartbeats 8000000 in
set_option maxRecDepth 100000 in
theorem impl_responseLine.calls (a0_0 : Int) (a0_1 : ByteArray) (A0_2 : Option Addr) (c0_2 : Nat) (l0_2 : List (S105)) (a0_3 : ByteArray) (r : ByteArray) (w : World) (hr0_2 : Kd.C k105 w A0_2 l0_2.length l0_2) (hc0_2 : l0_2.length ≤ c0_2) (h : impl_responseLine.f a0_0 a0_1 l0_2 a0_3 = some r) (hT_ : TabOk w) :
  Calls Tryz.prog 92 #[.agg #[.int .i64 a0_0, .string a0_1, .slice A0_2 l0_2.length c0_2, .string a0_3]] w fun e w' => e = .returned (.string r) ∧ Below w.heap.size w w' := by
 have HTB_ := Aside0.mk hT_
 clear hT_
 have hu54 := Tryz.underlying54
 have HR0_2 := Aside0.mk hr0_2
 have HC0_2 := Aside0.mk hc0_2
 clear hr0_2 hc0_2
 have HB := Aside0.mk (Below.refl w.heap.size w)
 have H := h
 unfold impl_responseLine.f at H
 clear h
 replace H := mb_ H
 obtain ⟨t396, A2, H⟩ := H
 replace H := mi_ H
 obtain ⟨c3, H⟩ := H
 have c3b0 := eq_true c3
 have c3b1 := decide_eq_true c3
 try have c3b2 : (9223372036854775807 < 9 + t396.size) = False := eq_false (Nat.not_lt.2 c3)
 replace H := mi_ H
 obtain ⟨c4, H⟩ := H
 have c4b0 := eq_true c4
 have c4b1 := decide_eq_true c4
 try have c4b2 : (9223372036854775807 < ((⟨#[72, 84, 84, 80, 47, 49, 46, 49, 32]⟩ : ByteArray) ++ t396).size + 1) = False := eq_false (Nat.not_lt.2 c4)
 try have c4b3 : (9223372036854775807 < 9 + t396.size + 1) = False := eq_false (Nat.not_lt.2 (by have z_ := c4; simp only [ByteArray.size_append] at z_; exact z_))
 replace H := mi_ H
 obtain ⟨c5, H⟩ := H
 have c5b0 := eq_true c5
 have c5b1 := decide_eq_true c5
 try have c5b2 : (9223372036854775807 < (((⟨#[72, 84, 84, 80, 47, 49, 46, 49, 32]⟩ : ByteArray) ++ t396) ++ (⟨#[32]⟩ : ByteArray)).size + a0_1.size) = False := eq_false (Nat.not_lt.2 c5)
 try have c5b3 : (9223372036854775807 < 9 + t396.size + 1 + a0_1.size) = False := eq_false (Nat.not_lt.2 (by have z_ := c5; simp only [ByteArray.size_append] at z_; exact z_))
 obtain rfl := Option.some.inj H
 go_enter Tryz.func92, Tryz.ntmps92
 try go_wp2_with (first | ((with_reducible refine gd_ 1 ?_); refine xbe_ (N := 1) (cs := #[.int .i64 a0_0, .string a0_1, .slice A0_2 l0_2.length c0_2, .string a0_3]) (t := 54) ?_; intro gb395 hg w6 hbox hb; have BK395 := Aside0.mk (hbox); have GE395 := xge_ HB hg; replace HB := xws_ HB hb; clear hb hbox hg))
 replace BK395 := Aside0.mk (blk_drew BK395.out)
 replace HB := Aside0.mk (below_drew1 HB.out)
 refine ms_ 9 (fun w' => w'.cell? ⟨gb395, 0, none⟩ = some (.int .i64 a0_0) ∧ w'.cell? ⟨gb395, 1, none⟩ = some (.string a0_1) ∧ w'.cell? ⟨gb395, 2, none⟩ = some (.slice A0_2 l0_2.length c0_2) ∧ w'.cell? ⟨gb395, 3, none⟩ = some (.string a0_3)) impl_responseLine.tab1 impl_responseLine.bits1 ⟨xk_ BK395 0, xk_ BK395 1, xk_ BK395 2, xk_ BK395 3⟩ (fun hHeld HT_ HW_ => ?_)
 generalize w6.drew = w7 at BK395 HB hHeld ⊢
 refine mp_ 0 3 ?_
 refine mp_ 5 8 ?_
 refine mt_ 1 4 hHeld ?_
 refine mt_ 6 9 hHeld ?_
 refine m1_ 2 5 Tryz.func132 #[.int .i64 a0_0] ?_
 with_reducible refine (strconv_Itoa.calls a0_0 t396 _ A2.out (HTB_.out.below (by first | (with_reducible exact Below.refl _ _) | (repeat (first | (with_reducible first | exact HB.out | exact Below.refl _ _ | apply below_alloc | apply pw_below_drewN | apply below_drew1 | refine below_set ?_ GE395.out) | exact HB.out)) | (repeat (first | exact Below.refl _ _ | apply below_alloc | apply pw_below_drewN | apply below_drew1 | refine below_set ?_ GE395.out))))).mono ?_
 rintro e w8 ⟨rfl, hb⟩
 refine ⟨_, rfl, ?_⟩
 replace BK395 := xbb_ BK395 hb
 replace HB := xws_ HB hb
 (try clear hb)
 refine ⟨⟨xk_ BK395 0, xk_ BK395 1, xk_ BK395 2, xk_ BK395 3⟩, fun hHeld => ?_⟩
 refine mn_ 5 ?_
 refine mp_ 3 6 ?_
 refine mp_ 4 7 ?_
 refine mp_ 7 10 ?_
 refine mp_ 8 2 ?_
 refine done_ (done_of HT_.out (by kernel_rfl)) ?_
 try go_wp2
 go_ret
 exact ⟨mf_, xw_ HB⟩

/-! ### impl_GoodResponse: function 49 -/
def impl_GoodResponse.f (k : Nat) (a0_0 : Int) (a0_1 : ByteArray) (l0_2 : List (S105)) (a0_3 : ByteArray) : Option (Bool) := (impl_isResponseLine.f a0_0 a0_1 l0_2 a0_3).bind fun t398 => (if t398 = true then ((impl_responseLine.f a0_0 a0_1 l0_2 a0_3).bind fun t399 => ((impl_isMessage.f k t399 l0_2 a0_3).bind fun t400 => (some t400))) else (some false))
def impl_GoodResponse.T1 : Bool × List (List Nat × List Nat) := (true, [([], []), ([0], [0]), ([1, 1], [1]), ([2], [2]), ([3, 2, 2], [2, 3]), ([2], [2]), ([5, 2], [2, 5]), ([2], [2]), ([7, 2], [2, 7]), ([4, 6, 8, 4, 2], [2, 4, 6, 8]), ([2, 9], [2, 9]), ([10, 9, 0, 1, 2, 3, 4, 5, 6, 7, 8, 9, 10], [10])])
def impl_GoodResponse.B1 : List Nat := [0, 1, 3, 7, 15, 7, 39, 7, 135, 511, 1023, 2047]
theorem impl_GoodResponse.tab1 : rtab .any (opsOf Tryz.f49 1) = impl_GoodResponse.T1 := by kernel_rfl
theorem impl_GoodResponse.bits1 : waitsOk impl_GoodResponse.T1.2 impl_GoodResponse.B1 = true := by kernel_rfl
set_option maxHeartbeats 8000000 in
set_option maxRecDepth 100000 in
theorem impl_GoodResponse.calls (k : Nat) (a0_0 : Int) (a0_1 : ByteArray) (A0_2 : Option Addr) (c0_2 : Nat) (l0_2 : List (S105)) (a0_3 : ByteArray) (r : Bool) (w : World) (hr0_2 : Kd.C k105 w A0_2 l0_2.length l0_2) (hc0_2 : l0_2.length ≤ c0_2) (h : impl_GoodResponse.f k a0_0 a0_1 l0_2 a0_3 = some r) (hT_ : TabOk w) :
  Calls Tryz.prog 49 #[.agg #[.int .i64 a0_0, .string a0_1, .slice A0_2 l0_2.length c0_2, .string a0_3]] w fun e w' => e = .returned (.bool r) ∧ Below w.heap.size w w' := by
 have HTB_ := Aside0.mk hT_
 clear hT_
 have hu54 := Tryz.underlying54
 have HR0_2 := Aside0.mk hr0_2
 have HC0_2 := Aside0.mk hc0_2
 clear hr0_2 hc0_2
 have HB := Aside0.mk (Below.refl w.heap.size w)
 have H := h
 unfold impl_GoodResponse.f at H
 clear h
 replace H := mb_ H
 obtain ⟨t398, A2, H⟩ := H
 by_cases c3 : t398 = true
 ·subst c3
  rw [if_pos rfl] at H
  replace H := mb_ H
  obtain ⟨t399, A4, H⟩ := H
  replace H := mb_ H
  obtain ⟨t400, A5, H⟩ := H
  obtain rfl := Option.some.inj H
  go_enter Tryz.func49, Tryz.ntmps49
  try go_wp2_with (first | ((with_reducible refine gd_ 1 ?_); refine xbe_ (N := 1) (cs := #[.int .i64 a0_0, .string a0_1, .slice A0_2 l0_2.length c0_2, .string a0_3]) (t := 54) ?_; intro gb397 hg w6 hbox hb; have BK397 := Aside0.mk (hbox); have GE397 := xge_ HB hg; replace HB := xws_ HB hb; clear hb hbox hg))
  replace BK397 := Aside0.mk (blk_drew BK397.out)
  replace HB := Aside0.mk (below_drew1 HB.out)
  refine ms_ 12 (fun w' => w'.cell? ⟨gb397, 0, none⟩ = some (.int .i64 a0_0) ∧ w'.cell? ⟨gb397, 1, none⟩ = some (.string a0_1) ∧ w'.cell? ⟨gb397, 2, none⟩ = some (.slice A0_2 l0_2.length c0_2) ∧ w'.cell? ⟨gb397, 3, none⟩ = some (.string a0_3)) impl_GoodResponse.tab1 impl_GoodResponse.bits1 ⟨xk_ BK397 0, xk_ BK397 1, xk_ BK397 2, xk_ BK397 3⟩ (fun hHeld HT_ HW_ => ?_)
  generalize w6.drew = w7 at BK397 HB hHeld ⊢
  refine mt_ 0 3 hHeld ?_
  refine m1_ 1 4 Tryz.func91 #[.agg #[.int .i64 a0_0, .string a0_1, .slice A0_2 l0_2.length c0_2, .string a0_3]] ?_
  with_reducible refine (impl_isResponseLine.calls a0_0 a0_1 _ _ l0_2 a0_3 true _ ?side1 ?side2 A2.out).mono ?_
  (case side1 => exact xc_ ((Kd.C_below HR0_2.out HB.out)))
  (case side2 => exact HC0_2.out)
  rintro e w8 ⟨rfl, hb⟩
  refine ⟨_, rfl, ?_⟩
  replace BK397 := xbb_ BK397 hb
  replace HB := xws_ HB hb
  (try clear hb)
  refine ⟨⟨xk_ BK397 0, xk_ BK397 1, xk_ BK397 2, xk_ BK397 3⟩, fun hHeld => ?_⟩
  refine mn_ 4 ?_
  refine mp_ 2 5 ?_
  refine mp_ 5 8 ?_
  refine mp_ 7 10 ?_
  refine mt_ 3 6 hHeld ?_
  refine mt_ 6 9 hHeld ?_
  refine mt_ 8 11 hHeld ?_
  refine m1_ 4 7 Tryz.func92 #[.agg #[.int .i64 a0_0, .string a0_1, .slice A0_2 l0_2.length c0_2, .string a0_3]] ?_
  with_reducible refine (impl_responseLine.calls a0_0 a0_1 _ _ l0_2 a0_3 t399 _ ?side1 ?side2 A4.out (HTB_.out.below (by first | (with_reducible exact Below.refl _ _) | (repeat (first | (with_reducible first | exact HB.out | exact Below.refl _ _ | apply below_alloc | apply pw_below_drewN | apply below_drew1 | refine below_set ?_ GE397.out) | exact HB.out)) | (repeat (first | exact Below.refl _ _ | apply below_alloc | apply pw_below_drewN | apply below_drew1 | refine below_set ?_ GE397.out))))).mono ?_
  (case side1 => exact xc_ ((Kd.C_below HR0_2.out HB.out)))
  (case side2 => exact HC0_2.out)
  rintro e w9 ⟨rfl, hb⟩
  refine ⟨_, rfl, ?_⟩
  replace BK397 := xbb_ BK397 hb
  replace HB := xws_ HB hb
  (try clear hb)
  refine ⟨⟨xk_ BK397 0, xk_ BK397 1, xk_ BK397 2, xk_ BK397 3⟩, fun hHeld => ?_⟩
  refine mn_ 7 ?_
  refine m1_ 9 12 Tryz.func78 #[.string t399, .slice A0_2 l0_2.length c0_2, .string a0_3] ?_
  with_reducible refine (impl_isMessage.calls k t399 _ _ l0_2 a0_3 t400 _ ?side1 ?side2 A5.out (HTB_.out.below (by first | (with_reducible exact Below.refl _ _) | (repeat (first | (with_reducible first | exact HB.out | exact Below.refl _ _ | apply below_alloc | apply pw_below_drewN | apply below_drew1 | refine below_set ?_ GE397.out) | exact HB.out)) | (repeat (first | exact Below.refl _ _ | apply below_alloc | apply pw_below_drewN | apply below_drew1 | refine below_set ?_ GE397.out))))).mono ?_
  (case side1 => exact xc_ ((Kd.C_below HR0_2.out HB.out)))
  (case side2 => exact HC0_2.out)
  rintro e w10 ⟨rfl, hb⟩
  refine ⟨_, rfl, ?_⟩
  replace BK397 := xbb_ BK397 hb
  replace HB := xws_ HB hb
  (try clear hb)
  refine ⟨⟨xk_ BK397 0, xk_ BK397 1, xk_ BK397 2, xk_ BK397 3⟩, fun hHeld => ?_⟩
  refine mn_ 12 ?_
  refine mp_ 10 13 ?_
  refine mp_ 11 2 ?_
  refine done_ (done_of HT_.out (by kernel_rfl)) ?_
  try go_wp2
  go_ret
  exact ⟨mf_, xw_ HB⟩
 ·replace c3 := Bool.eq_false_iff.mpr c3
  subst c3
  rw [if_neg (show ¬ (false = true) by decide)] at H
  obtain rfl := Option.some.inj H
  go_enter Tryz.func49, Tryz.ntmps49
  try go_wp2_with (first | ((with_reducible refine gd_ 1 ?_); refine xbe_ (N := 1) (cs := #[.int .i64 a0_0, .string a0_1, .slice A0_2 l0_2.length c0_2, .string a0_3]) (t := 54) ?_; intro gb397 hg w11 hbox hb; have BK397 := Aside0.mk (hbox); have GE397 := xge_ HB hg; replace HB := xws_ HB hb; clear hb hbox hg))
  replace BK397 := Aside0.mk (blk_drew BK397.out)
  replace HB := Aside0.mk (below_drew1 HB.out)
  refine ms_ 12 (fun w' => w'.cell? ⟨gb397, 0, none⟩ = some (.int .i64 a0_0) ∧ w'.cell? ⟨gb397, 1, none⟩ = some (.string a0_1) ∧ w'.cell? ⟨gb397, 2, none⟩ = some (.slice A0_2 l0_2.length c0_2) ∧ w'.cell? ⟨gb397, 3, none⟩ = some (.string a0_3)) impl_GoodResponse.tab1 impl_GoodResponse.bits1 ⟨xk_ BK397 0, xk_ BK397 1, xk_ BK397 2, xk_ BK397 3⟩ (fun hHeld HT_ HW_ => ?_)
  generalize w11.drew = w12 at BK397 HB hHeld ⊢
  refine mt_ 0 3 hHeld ?_
  refine m1_ 1 4 Tryz.func91 #[.agg #[.int .i64 a0_0, .string a0_1, .slice A0_2 l0_2.length c0_2, .string a0_3]] ?_
  with_reducible refine (impl_isResponseLine.calls a0_0 a0_1 _ _ l0_2 a0_3 false _ ?side1 ?side2 A2.out).mono ?_
  (case side1 => exact xc_ ((Kd.C_below HR0_2.out HB.out)))
  (case side2 => exact HC0_2.out)
  rintro e w13 ⟨rfl, hb⟩
  refine ⟨_, rfl, ?_⟩
  replace BK397 := xbb_ BK397 hb
  replace HB := xws_ HB hb
  (try clear hb)
  refine ⟨⟨xk_ BK397 0, xk_ BK397 1, xk_ BK397 2, xk_ BK397 3⟩, fun hHeld => ?_⟩
  refine mn_ 4 ?_
  refine mp_ 2 5 ?_
  refine mu_ 3 6 ?_
  refine mu_ 4 7 ?_
  refine mu_ 5 8 ?_
  refine mu_ 6 9 ?_
  refine mu_ 7 10 ?_
  refine mu_ 8 11 ?_
  refine mu_ 9 12 ?_
  refine mp_ 10 13 ?_
  refine mp_ 11 2 ?_
  refine done_ (done_of HT_.out (by kernel_rfl)) ?_
  try go_wp2
  go_ret
  exact ⟨mf_, xw_ HB⟩

/-! ### impl_GoodKept: function 103 -/
def impl_GoodKept.f (k : Nat) (a0_0 : Int) (a0_1 : ByteArray) (l0_2 : List (S105)) (a0_3 : ByteArray) (a0_4 : Int) (a0_5 : Int) : Option (Bool) := (impl_GoodResponse.f k a0_0 a0_1 l0_2 a0_3).bind fun t402 => (if t402 = true then ((impl_within.f a0_4 0 a0_5).bind fun t403 => (if t403 = true then (some (decide (a0_5 ≤ 253402300799))) else (some false))) else (some false))
set_option maxHeartbeats 8000000 in
set_option maxRecDepth 100000 in
theorem impl_GoodKept.calls (k : Nat) (a0_0 : Int) (a0_1 : ByteArray) (A0_2 : Option Addr) (c0_2 : Nat) (l0_2 : List (S105)) (a0_3 : ByteArray) (a0_4 : Int) (a0_5 : Int) (r : Bool) (w : World) (hr0_2 : Kd.C k105 w A0_2 l0_2.length l0_2) (hc0_2 : l0_2.length ≤ c0_2) (h : impl_GoodKept.f k a0_0 a0_1 l0_2 a0_3 a0_4 a0_5 = some r) (hT_ : TabOk w) :
  Calls Tryz.prog 103 #[.agg #[.int .i64 a0_0, .string a0_1, .slice A0_2 l0_2.length c0_2, .string a0_3, .int .i64 a0_4, .int .i64 a0_5]] w fun e w' => e = .returned (.bool r) ∧ Below w.heap.size w w' := by
 have HTB_ := Aside0.mk hT_
 clear hT_
 have hu69 := Tryz.underlying69
 have hu54 := Tryz.underlying54
 have HR0_2 := Aside0.mk hr0_2
 have HC0_2 := Aside0.mk hc0_2
 clear hr0_2 hc0_2
 have HB := Aside0.mk (Below.refl w.heap.size w)
 have H := h
 unfold impl_GoodKept.f at H
 clear h
 replace H := mb_ H
 obtain ⟨t402, A2, H⟩ := H
 by_cases c3 : t402 = true
 ·subst c3
  rw [if_pos rfl] at H
  replace H := mb_ H
  obtain ⟨t403, A4, H⟩ := H
  by_cases c5 : t403 = true
  ·subst c5
   rw [if_pos rfl] at H
   obtain rfl := Option.some.inj H
   go_enter Tryz.func103, Tryz.ntmps103
   go_wp2_with (first | ((with_reducible refine gd_ 1 ?_); refine xbe_ (N := 1) (cs := #[.int .i64 a0_0, .string a0_1, .slice A0_2 l0_2.length c0_2, .string a0_3, .int .i64 a0_4, .int .i64 a0_5]) (t := 69) ?_; intro gb401 hg w6 hbox hb; have BK401 := Aside0.mk (hbox); have GE401 := xge_ HB hg; replace HB := xws_ HB hb; clear hb hbox hg; have ⟨_, _, _, _, _, _, _, _, _, _, _, _⟩ := c6_ BK401) | ((with_reducible refine gc_ 49 ?_); refine xgl_ (some 5) Tryz.func49 #[.agg #[.int .i64 a0_0, .string a0_1, .slice A0_2 l0_2.length c0_2, .string a0_3]] ?_; (with_reducible refine (impl_GoodResponse.calls k a0_0 a0_1 _ _ l0_2 a0_3 true _ ?side1 ?side2 A2.out (HTB_.out.below (by first | (with_reducible exact Below.refl _ _) | (repeat (first | (with_reducible first | exact HB.out | exact Below.refl _ _ | apply below_alloc | apply pw_below_drewN | apply below_drew1 | refine below_set ?_ GE401.out) | exact HB.out)) | (repeat (first | exact Below.refl _ _ | apply below_alloc | apply pw_below_drewN | apply below_drew1 | refine below_set ?_ GE401.out))))).mono ?_); (case side1 => exact xc_ ((Kd.C_below HR0_2.out HB.out))); (case side2 => exact HC0_2.out); rintro e w8 ⟨rfl, hb⟩; refine ⟨_, rfl, ?_⟩; replace BK401 := xbb_ BK401 hb; replace HB := xws_ HB hb; (try clear hb); have ⟨_, _, _, _, _, _, _, _, _, _, _, _⟩ := c6_ BK401) | (go_at_call 119; (with_reducible refine (impl_within.calls a0_4 0 a0_5 true _ A4.out).mono ?_); rintro e w' ⟨rfl, ⟨nd, rfl⟩⟩))
   go_ret
   exact ⟨mf_, xw_ HB⟩
  ·replace c5 := Bool.eq_false_iff.mpr c5
   subst c5
   rw [if_neg (show ¬ (false = true) by decide)] at H
   obtain rfl := Option.some.inj H
   go_enter Tryz.func103, Tryz.ntmps103
   go_wp2_with (first | ((with_reducible refine gd_ 1 ?_); refine xbe_ (N := 1) (cs := #[.int .i64 a0_0, .string a0_1, .slice A0_2 l0_2.length c0_2, .string a0_3, .int .i64 a0_4, .int .i64 a0_5]) (t := 69) ?_; intro gb401 hg w10 hbox hb; have BK401 := Aside0.mk (hbox); have GE401 := xge_ HB hg; replace HB := xws_ HB hb; clear hb hbox hg; have ⟨_, _, _, _, _, _, _, _, _, _, _, _⟩ := c6_ BK401) | ((with_reducible refine gc_ 49 ?_); refine xgl_ (some 5) Tryz.func49 #[.agg #[.int .i64 a0_0, .string a0_1, .slice A0_2 l0_2.length c0_2, .string a0_3]] ?_; (with_reducible refine (impl_GoodResponse.calls k a0_0 a0_1 _ _ l0_2 a0_3 true _ ?side1 ?side2 A2.out (HTB_.out.below (by first | (with_reducible exact Below.refl _ _) | (repeat (first | (with_reducible first | exact HB.out | exact Below.refl _ _ | apply below_alloc | apply pw_below_drewN | apply below_drew1 | refine below_set ?_ GE401.out) | exact HB.out)) | (repeat (first | exact Below.refl _ _ | apply below_alloc | apply pw_below_drewN | apply below_drew1 | refine below_set ?_ GE401.out))))).mono ?_); (case side1 => exact xc_ ((Kd.C_below HR0_2.out HB.out))); (case side2 => exact HC0_2.out); rintro e w12 ⟨rfl, hb⟩; refine ⟨_, rfl, ?_⟩; replace BK401 := xbb_ BK401 hb; replace HB := xws_ HB hb; (try clear hb); have ⟨_, _, _, _, _, _, _, _, _, _, _, _⟩ := c6_ BK401) | (go_at_call 119; (with_reducible refine (impl_within.calls a0_4 0 a0_5 false _ A4.out).mono ?_); rintro e w' ⟨rfl, ⟨nd, rfl⟩⟩))
   go_ret
   exact ⟨mf_, xw_ HB⟩
 ·replace c3 := Bool.eq_false_iff.mpr c3
  subst c3
  rw [if_neg (show ¬ (false = true) by decide)] at H
  obtain rfl := Option.some.inj H
  go_enter Tryz.func103, Tryz.ntmps103
  go_wp2_with (first | ((with_reducible refine gd_ 1 ?_); refine xbe_ (N := 1) (cs := #[.int .i64 a0_0, .string a0_1, .slice A0_2 l0_2.length c0_2, .string a0_3, .int .i64 a0_4, .int .i64 a0_5]) (t := 69) ?_; intro gb401 hg w14 hbox hb; have BK401 := Aside0.mk (hbox); have GE401 := xge_ HB hg; replace HB := xws_ HB hb; clear hb hbox hg; have ⟨_, _, _, _, _, _, _, _, _, _, _, _⟩ := c6_ BK401) | ((with_reducible refine gc_ 49 ?_); refine xgl_ (some 5) Tryz.func49 #[.agg #[.int .i64 a0_0, .string a0_1, .slice A0_2 l0_2.length c0_2, .string a0_3]] ?_; (with_reducible refine (impl_GoodResponse.calls k a0_0 a0_1 _ _ l0_2 a0_3 false _ ?side1 ?side2 A2.out (HTB_.out.below (by first | (with_reducible exact Below.refl _ _) | (repeat (first | (with_reducible first | exact HB.out | exact Below.refl _ _ | apply below_alloc | apply pw_below_drewN | apply below_drew1 | refine below_set ?_ GE401.out) | exact HB.out)) | (repeat (first | exact Below.refl _ _ | apply below_alloc | apply pw_below_drewN | apply below_drew1 | refine below_set ?_ GE401.out))))).mono ?_); (case side1 => exact xc_ ((Kd.C_below HR0_2.out HB.out))); (case side2 => exact HC0_2.out); rintro e w16 ⟨rfl, hb⟩; refine ⟨_, rfl, ?_⟩; replace BK401 := xbb_ BK401 hb; replace HB := xws_ HB hb; (try clear hb)))
  go_ret
  exact ⟨mf_, xw_ HB⟩

/-! ### impl_isItem: function 57 -/
def impl_isItem.f (k : Nat) (a0_0 : ByteArray) (l0_1 : List (S105)) (a0_2 : Int) (a0_3 : ByteArray) (l0_4 : List (S105)) (a0_5 : ByteArray) (a0_6 : Int) (a0_7 : Int) : Option (Bool) := if (a0_0.size : Int) > 200 then (some false) else ((impl_areFields.f k l0_1).bind fun t405 => (if t405 = true then ((impl_GoodKept.f k a0_2 a0_3 l0_4 a0_5 a0_6 a0_7).bind fun t406 => (if t406 = true then ((impl_vary.f k a0_2 a0_3 l0_4 a0_5).bind fun bt407 => (if bt407.2.2 = true then (some (!bt407.2.1)) else (some false))) else (some false))) else (some false)))
set_option maxHeartbeats 8000000 in
set_option maxRecDepth 100000 in
theorem impl_isItem.calls (k : Nat) (a0_0 : ByteArray) (A0_1 : Option Addr) (c0_1 : Nat) (l0_1 : List (S105)) (a0_2 : Int) (a0_3 : ByteArray) (A0_4 : Option Addr) (c0_4 : Nat) (l0_4 : List (S105)) (a0_5 : ByteArray) (a0_6 : Int) (a0_7 : Int) (r : Bool) (w : World) (hr0_1 : Kd.C k105 w A0_1 l0_1.length l0_1) (hc0_1 : l0_1.length ≤ c0_1) (hr0_4 : Kd.C k105 w A0_4 l0_4.length l0_4) (hc0_4 : l0_4.length ≤ c0_4) (h : impl_isItem.f k a0_0 l0_1 a0_2 a0_3 l0_4 a0_5 a0_6 a0_7 = some r) (hT_ : TabOk w) :
  Calls Tryz.prog 57 #[.agg #[.string a0_0, .slice A0_1 l0_1.length c0_1, .int .i64 a0_2, .string a0_3, .slice A0_4 l0_4.length c0_4, .string a0_5, .int .i64 a0_6, .int .i64 a0_7]] w fun e w' => e = .returned (.bool r) ∧ Below w.heap.size w w' := by
 have HTB_ := Aside0.mk hT_
 clear hT_
 have hu71 := Tryz.underlying71
 have hu69 := Tryz.underlying69
 have hu54 := Tryz.underlying54
 have HR0_1 := Aside0.mk hr0_1
 have HC0_1 := Aside0.mk hc0_1
 clear hr0_1 hc0_1
 have HR0_4 := Aside0.mk hr0_4
 have HC0_4 := Aside0.mk hc0_4
 clear hr0_4 hc0_4
 have HB := Aside0.mk (Below.refl w.heap.size w)
 have H := h
 unfold impl_isItem.f at H
 clear h
 by_cases c2 : (a0_0.size : Int) > 200
 ·rw [if_pos c2] at H
  have c2b0 : decide (200 < (a0_0.size : Int)) = true := decide_eq_true c2
  have c2b1 : decide (200 < a0_0.size) = true := decide_eq_true (by omega)
  clear c2
  obtain rfl := Option.some.inj H
  go_enter Tryz.func57, Tryz.ntmps57
  go_wp2_with (first | ((with_reducible refine gd_ 1 ?_); refine xbe_ (N := 1) (cs := #[.string a0_0, .slice A0_1 l0_1.length c0_1, .int .i64 a0_2, .string a0_3, .slice A0_4 l0_4.length c0_4, .string a0_5, .int .i64 a0_6, .int .i64 a0_7]) (t := 71) ?_; intro gb404 hg w3 hbox hb; have BK404 := Aside0.mk (hbox); have GE404 := xge_ HB hg; replace HB := xws_ HB hb; clear hb hbox hg; have ⟨_, _, _, _, _, _, _, _, _, _, _, _, _, _, _, _⟩ := c8_ BK404))
  go_ret
  exact ⟨mf_, xw_ HB⟩
 ·rw [if_neg c2] at H
  have c2b0 : decide (200 < (a0_0.size : Int)) = false := decide_eq_false c2
  have c2b1 : decide (200 < a0_0.size) = false := decide_eq_false (by omega)
  clear c2
  replace H := mb_ H
  obtain ⟨t405, A5, H⟩ := H
  by_cases c6 : t405 = true
  ·subst c6
   rw [if_pos rfl] at H
   replace H := mb_ H
   obtain ⟨t406, A7, H⟩ := H
   by_cases c8 : t406 = true
   ·subst c8
    rw [if_pos rfl] at H
    replace H := mb_ H
    obtain ⟨⟨t407, t410, t411⟩, A9, H⟩ := H
    dsimp only at H
    by_cases c10 : t411 = true
    ·subst c10
     rw [if_pos rfl] at H
     obtain rfl := Option.some.inj H
     go_enter Tryz.func57, Tryz.ntmps57
     go_wp2_with (first | ((with_reducible refine gd_ 1 ?_); refine xbe_ (N := 1) (cs := #[.string a0_0, .slice A0_1 l0_1.length c0_1, .int .i64 a0_2, .string a0_3, .slice A0_4 l0_4.length c0_4, .string a0_5, .int .i64 a0_6, .int .i64 a0_7]) (t := 71) ?_; intro gb404 hg w11 hbox hb; have BK404 := Aside0.mk (hbox); have GE404 := xge_ HB hg; replace HB := xws_ HB hb; clear hb hbox hg; have ⟨_, _, _, _, _, _, _, _, _, _, _, _, _, _, _, _⟩ := c8_ BK404) | (go_at_call 102; (with_reducible refine (impl_areFields.calls k _ _ l0_1 true _ ?side1 ?side2 A5.out).mono ?_); (case side1 => exact xc_ ((Kd.C_below HR0_1.out HB.out))); (case side2 => exact HC0_1.out); rintro e w13 ⟨rfl, hb⟩; replace BK404 := xbb_ BK404 hb; replace HB := xws_ HB hb; (try clear hb); have ⟨_, _, _, _, _, _, _, _, _, _, _, _, _, _, _, _⟩ := c8_ BK404) | (go_at_call 103; (with_reducible refine (impl_GoodKept.calls k a0_2 a0_3 _ _ l0_4 a0_5 a0_6 a0_7 true _ ?side1 ?side2 A7.out (HTB_.out.below (by first | (with_reducible exact Below.refl _ _) | (repeat (first | (with_reducible first | exact HB.out | exact Below.refl _ _ | apply below_alloc | apply pw_below_drewN | apply below_drew1 | refine below_set ?_ GE404.out) | exact HB.out)) | (repeat (first | exact Below.refl _ _ | apply below_alloc | apply pw_below_drewN | apply below_drew1 | refine below_set ?_ GE404.out))))).mono ?_); (case side1 => exact xc_ ((Kd.C_below HR0_4.out HB.out))); (case side2 => exact HC0_4.out); rintro e w15 ⟨rfl, hb⟩; replace BK404 := xbb_ BK404 hb; replace HB := xws_ HB hb; (try clear hb); have ⟨_, _, _, _, _, _, _, _, _, _, _, _, _, _, _, _⟩ := c8_ BK404) | ((with_reducible refine gc_ 50 ?_); refine xgl_ (some 26) Tryz.func50 #[.agg #[.int .i64 a0_2, .string a0_3, .slice A0_4 l0_4.length c0_4, .string a0_5]] ?_; (with_reducible refine (impl_vary.calls k a0_2 a0_3 _ _ l0_4 a0_5 t407 t410 true _ ?side1 ?side2 A9.out).mono ?_); (case side1 => exact xc_ ((Kd.C_below HR0_4.out HB.out))); (case side2 => exact HC0_4.out); rintro e w17 ⟨v408, rfl, ho0, hb⟩; refine ⟨_, rfl, ?_⟩; have HO409 := Aside0.mk (Kd.R_lower ho0 (below_size (xw_ HB))); replace BK404 := xbb_ BK404 hb; replace HB := xws_ HB hb; (try clear hb); (try clear ho0)))
     go_ret
     exact ⟨mf_, xw_ HB⟩
    ·replace c10 := Bool.eq_false_iff.mpr c10
     subst c10
     rw [if_neg (show ¬ (false = true) by decide)] at H
     obtain rfl := Option.some.inj H
     go_enter Tryz.func57, Tryz.ntmps57
     go_wp2_with (first | ((with_reducible refine gd_ 1 ?_); refine xbe_ (N := 1) (cs := #[.string a0_0, .slice A0_1 l0_1.length c0_1, .int .i64 a0_2, .string a0_3, .slice A0_4 l0_4.length c0_4, .string a0_5, .int .i64 a0_6, .int .i64 a0_7]) (t := 71) ?_; intro gb404 hg w18 hbox hb; have BK404 := Aside0.mk (hbox); have GE404 := xge_ HB hg; replace HB := xws_ HB hb; clear hb hbox hg; have ⟨_, _, _, _, _, _, _, _, _, _, _, _, _, _, _, _⟩ := c8_ BK404) | (go_at_call 102; (with_reducible refine (impl_areFields.calls k _ _ l0_1 true _ ?side1 ?side2 A5.out).mono ?_); (case side1 => exact xc_ ((Kd.C_below HR0_1.out HB.out))); (case side2 => exact HC0_1.out); rintro e w20 ⟨rfl, hb⟩; replace BK404 := xbb_ BK404 hb; replace HB := xws_ HB hb; (try clear hb); have ⟨_, _, _, _, _, _, _, _, _, _, _, _, _, _, _, _⟩ := c8_ BK404) | (go_at_call 103; (with_reducible refine (impl_GoodKept.calls k a0_2 a0_3 _ _ l0_4 a0_5 a0_6 a0_7 true _ ?side1 ?side2 A7.out (HTB_.out.below (by first | (with_reducible exact Below.refl _ _) | (repeat (first | (with_reducible first | exact HB.out | exact Below.refl _ _ | apply below_alloc | apply pw_below_drewN | apply below_drew1 | refine below_set ?_ GE404.out) | exact HB.out)) | (repeat (first | exact Below.refl _ _ | apply below_alloc | apply pw_below_drewN | apply below_drew1 | refine below_set ?_ GE404.out))))).mono ?_); (case side1 => exact xc_ ((Kd.C_below HR0_4.out HB.out))); (case side2 => exact HC0_4.out); rintro e w22 ⟨rfl, hb⟩; replace BK404 := xbb_ BK404 hb; replace HB := xws_ HB hb; (try clear hb); have ⟨_, _, _, _, _, _, _, _, _, _, _, _, _, _, _, _⟩ := c8_ BK404) | ((with_reducible refine gc_ 50 ?_); refine xgl_ (some 26) Tryz.func50 #[.agg #[.int .i64 a0_2, .string a0_3, .slice A0_4 l0_4.length c0_4, .string a0_5]] ?_; (with_reducible refine (impl_vary.calls k a0_2 a0_3 _ _ l0_4 a0_5 t407 t410 false _ ?side1 ?side2 A9.out).mono ?_); (case side1 => exact xc_ ((Kd.C_below HR0_4.out HB.out))); (case side2 => exact HC0_4.out); rintro e w24 ⟨v408, rfl, ho0, hb⟩; refine ⟨_, rfl, ?_⟩; have HO409 := Aside0.mk (Kd.R_lower ho0 (below_size (xw_ HB))); replace BK404 := xbb_ BK404 hb; replace HB := xws_ HB hb; (try clear hb); (try clear ho0)))
     go_ret
     exact ⟨mf_, xw_ HB⟩
   ·replace c8 := Bool.eq_false_iff.mpr c8
    subst c8
    rw [if_neg (show ¬ (false = true) by decide)] at H
    obtain rfl := Option.some.inj H
    go_enter Tryz.func57, Tryz.ntmps57
    go_wp2_with (first | ((with_reducible refine gd_ 1 ?_); refine xbe_ (N := 1) (cs := #[.string a0_0, .slice A0_1 l0_1.length c0_1, .int .i64 a0_2, .string a0_3, .slice A0_4 l0_4.length c0_4, .string a0_5, .int .i64 a0_6, .int .i64 a0_7]) (t := 71) ?_; intro gb404 hg w25 hbox hb; have BK404 := Aside0.mk (hbox); have GE404 := xge_ HB hg; replace HB := xws_ HB hb; clear hb hbox hg; have ⟨_, _, _, _, _, _, _, _, _, _, _, _, _, _, _, _⟩ := c8_ BK404) | (go_at_call 102; (with_reducible refine (impl_areFields.calls k _ _ l0_1 true _ ?side1 ?side2 A5.out).mono ?_); (case side1 => exact xc_ ((Kd.C_below HR0_1.out HB.out))); (case side2 => exact HC0_1.out); rintro e w27 ⟨rfl, hb⟩; replace BK404 := xbb_ BK404 hb; replace HB := xws_ HB hb; (try clear hb); have ⟨_, _, _, _, _, _, _, _, _, _, _, _, _, _, _, _⟩ := c8_ BK404) | (go_at_call 103; (with_reducible refine (impl_GoodKept.calls k a0_2 a0_3 _ _ l0_4 a0_5 a0_6 a0_7 false _ ?side1 ?side2 A7.out (HTB_.out.below (by first | (with_reducible exact Below.refl _ _) | (repeat (first | (with_reducible first | exact HB.out | exact Below.refl _ _ | apply below_alloc | apply pw_below_drewN | apply below_drew1 | refine below_set ?_ GE404.out) | exact HB.out)) | (repeat (first | exact Below.refl _ _ | apply below_alloc | apply pw_below_drewN | apply below_drew1 | refine below_set ?_ GE404.out))))).mono ?_); (case side1 => exact xc_ ((Kd.C_below HR0_4.out HB.out))); (case side2 => exact HC0_4.out); rintro e w29 ⟨rfl, hb⟩; replace BK404 := xbb_ BK404 hb; replace HB := xws_ HB hb; (try clear hb)))
    go_ret
    exact ⟨mf_, xw_ HB⟩
  ·replace c6 := Bool.eq_false_iff.mpr c6
   subst c6
   rw [if_neg (show ¬ (false = true) by decide)] at H
   obtain rfl := Option.some.inj H
   go_enter Tryz.func57, Tryz.ntmps57
   go_wp2_with (first | ((with_reducible refine gd_ 1 ?_); refine xbe_ (N := 1) (cs := #[.string a0_0, .slice A0_1 l0_1.length c0_1, .int .i64 a0_2, .string a0_3, .slice A0_4 l0_4.length c0_4, .string a0_5, .int .i64 a0_6, .int .i64 a0_7]) (t := 71) ?_; intro gb404 hg w30 hbox hb; have BK404 := Aside0.mk (hbox); have GE404 := xge_ HB hg; replace HB := xws_ HB hb; clear hb hbox hg; have ⟨_, _, _, _, _, _, _, _, _, _, _, _, _, _, _, _⟩ := c8_ BK404) | (go_at_call 102; (with_reducible refine (impl_areFields.calls k _ _ l0_1 false _ ?side1 ?side2 A5.out).mono ?_); (case side1 => exact xc_ ((Kd.C_below HR0_1.out HB.out))); (case side2 => exact HC0_1.out); rintro e w32 ⟨rfl, hb⟩; replace BK404 := xbb_ BK404 hb; replace HB := xws_ HB hb; (try clear hb)))
   go_ret
   exact ⟨mf_, xw_ HB⟩

/-! ### impl_Item_matches: function 58 -/
/-! ### matches: areAll over the names, with a literal that captures the item and the fields -/
def impl_Item_matches_1.f (k : Nat) (l1 l2 : List S105) (x : ByteArray) : Option Bool := (impl_valuesOf.f k l1 x).bind fun a => (impl_valuesOf.f k l2 x).bind fun b => if (((a.length : Int) == 0) == ((b.length : Int) == 0)) = true then ((strings_Join.f a (⟨#[44, 32]⟩ : ByteArray)).bind fun c => (strings_Join.f b (⟨#[44, 32]⟩ : ByteArray)).bind fun d => some (c.toList == d.toList)) else some false
def xSame.z (k : Nat) (l1 l2 : List S105) (x : ByteArray) : Option Bool := (impl_Item_matches_1.f k l1 l2 x).bind fun b => some (!b)
def xSame.f (k : Nat) (l1 l2 : List S105) (l0 : List ByteArray) : Option Bool := if l0.length < 9223372036854775807 then ((idxO (xSame.z k l1 l2) l0 0).bind fun i => some (!decide (i ≥ 0))) else none
def impl_Item_matches.f (k : Nat) (a0_0 : ByteArray) (l0_1 : List S105) (a0_2 : Int) (a0_3 : ByteArray) (l0_4 : List S105) (a0_5 : ByteArray) (a0_6 : Int) (a0_7 : Int) (l1 : List S105) : Option Bool := (impl_vary.f k a0_2 a0_3 l0_4 a0_5).bind fun t => xSame.f k l0_1 l1 t.1
def xSame.T1 : Bool × List (List Nat × List Nat) := (true, [([],[]),([0],[0]),([],[]),([1,2],[1,2]),([],[]),([],[]),([4,5,3],[4,5]),([3,6,0,1,2,3],[3]),([6,7,0,1,2,3,4,5,6,7],[6])])
def xSame.B1 : List Nat := [0,1,0,7,0,0,63,127,255]
theorem xSame.tab1 : rtab .any (opsOf Tryz.f104 1) = xSame.T1 := by kernel_rfl
theorem xSame.bits1 : waitsOk xSame.T1.2 xSame.B1 = true := by kernel_rfl
set_option maxHeartbeats 8000000 in
set_option maxRecDepth 100000 in
theorem impl_Item_matches_1.calls (k : Nat) (a0 : ByteArray) (G1 G2 : Nat) (A1 : Option Addr) (c1 : Nat) (l1 : List S105) (A2 : Option Addr) (c2 : Nat) (l2 : List S105) (r : Bool) (w : World) (hq1 : w.cell? ⟨G1, 1, none⟩ = some (.slice A1 l1.length c1)) (hq2 : w.cell? ⟨G2, 0, none⟩ = some (.slice A2 l2.length c2)) (hr1 : Kd.C k105 w A1 l1.length l1) (hc1 : l1.length ≤ c1) (hr2 : Kd.C k105 w A2 l2.length l2) (hc2 : l2.length ≤ c2) (h : impl_Item_matches_1.f k l1 l2 a0 = some r) :
    Calls Tryz.prog 104 #[.string a0, .pointer (some ⟨G1, 0, none⟩), .pointer (some ⟨G2, 0, none⟩)] w fun e w' => e = .returned (.bool r) ∧ Below w.heap.size w w' := by
  have hu71 := Tryz.underlying71
  have HR1 := Aside0.mk hr1
  have HR2 := Aside0.mk hr2
  have hQ1 : ∀ W : World, Below w.heap.size w W → W.cell? ⟨G1, 1, none⟩ = some (.slice A1 l1.length c1) := fun W hW => (hW.cell (p := ⟨G1, 1, none⟩) (World.block_lt_of_cell? w ⟨G1, 1, none⟩ hq1)).trans hq1
  have hQ2 : ∀ W : World, Below w.heap.size w W → W.cell? ⟨G2, 0, none⟩ = some (.slice A2 l2.length c2) := fun W hW => (hW.cell (p := ⟨G2, 0, none⟩) (World.block_lt_of_cell? w ⟨G2, 0, none⟩ hq2)).trans hq2
  have HQ1 := Aside0.mk hQ1
  have HQ2 := Aside0.mk hQ2
  clear hr1 hr2 hq1 hq2 hQ1 hQ2
  have HB := Aside0.mk (Below.refl w.heap.size w)
  unfold impl_Item_matches_1.f at h
  obtain ⟨a, Aa, h⟩ := Option.bind_eq_some_iff.mp h
  obtain ⟨b, Ab, h⟩ := Option.bind_eq_some_iff.mp h
  have AA := Aside0.mk Aa
  have AB := Aside0.mk Ab
  have AH := Aside0.mk h
  clear Aa Ab h
  go_enter Tryz.func104, Tryz.ntmps104
  try go_wp2
  replace HB := Aside0.mk (below_drew1 HB.out)
  refine ms_ 9 (fun w' => w'.cell? ⟨G1, 1, none⟩ = some (.slice A1 l1.length c1) ∧ w'.cell? ⟨G2, 0, none⟩ = some (.slice A2 l2.length c2)) xSame.tab1 xSame.bits1 ⟨HQ1.out _ HB.out, HQ2.out _ HB.out⟩ (fun hHeld HT_ HW_ => ?_)
  generalize w.drew = w11 at HB hHeld ⊢
  refine pure_ (i := 0) (N := some 7) (v := ?_) (a' := ?_) #[true, false, false, false, false, false, false, false, false] rfl rfl (any_of HT_.out (by kernel_rfl)) (fun _ _ _ h => h) (Or.inl ⟨by rfl, ?_⟩) ?_ ?_
  rotate_left
  · intro w'
    go_simp
    with_reducible rfl
  rotate_left
  · simp only [Act.put, List.setIfInBounds_toArray, List.set_cons_zero, List.set_cons_succ, i64_w, i32_w]
    rfl
  refine pure_ (i := 2) (N := some 9) (v := ?_) (a' := ?_) #[true, false, true, false, false, false, false, false, false] rfl rfl (any_of HT_.out (by kernel_rfl)) (fun _ _ _ h => h) (Or.inl ⟨by rfl, ?_⟩) ?_ ?_
  rotate_left
  · intro w'
    go_simp
    with_reducible rfl
  rotate_left
  · simp only [Act.put, List.setIfInBounds_toArray, List.set_cons_zero, List.set_cons_succ, i64_w, i32_w]
    rfl
  refine pure_ (i := 5) (N := some 12) (v := ?_) (a' := ?_) #[true, false, true, false, false, true, false, false, false] rfl rfl (any_of HT_.out (by kernel_rfl)) (fun _ _ _ h => h) (Or.inl ⟨by rfl, ?_⟩) ?_ ?_
  rotate_left
  · intro w'
    go_simp
    with_reducible rfl
  rotate_left
  · simp only [Act.put, List.setIfInBounds_toArray, List.set_cons_zero, List.set_cons_succ, i64_w, i32_w]
    rfl
  refine take_ (i := 1) (N := some 8) (v := ?_) (a' := ?_) #[true, true, true, false, false, true, false, false, false] rfl rfl (take_ofW HT_.out HW_.out (by kernel_rfl)) (fun _ _ _ h => h) (Or.inl ⟨by rfl, ?_⟩) hHeld ?_ ?_
  rotate_left
  · rintro w' ⟨s0, s1⟩
    go_simp
    with_reducible rfl
  rotate_left
  · simp only [Act.put, List.setIfInBounds_toArray, List.set_cons_zero, List.set_cons_succ, i64_w, i32_w]
    rfl
  refine take_ (i := 4) (N := some 11) (v := ?_) (a' := ?_) #[true, true, true, false, true, true, false, false, false] rfl rfl (take_ofW HT_.out HW_.out (by kernel_rfl)) (fun _ _ _ h => h) (Or.inl ⟨by rfl, ?_⟩) hHeld ?_ ?_
  rotate_left
  · rintro w' ⟨s0, s1⟩
    go_simp
    with_reducible rfl
  rotate_left
  · simp only [Act.put, List.setIfInBounds_toArray, List.set_cons_zero, List.set_cons_succ, i64_w, i32_w]
    rfl
  refine m1_ 3 10 Tryz.func95 #[.slice A1 l1.length c1, .string a0] ?_
  with_reducible refine (impl_valuesOf.calls k _ _ l1 a0 a _ ?side1 ?side2 AA.out).mono ?_
  (case side1 => exact xc_ ((Kd.C_below HR1.out HB.out)))
  (case side2 => exact hc1)
  rintro e w12 ⟨v415, rfl, ho0, hb⟩
  refine ⟨_, rfl, ?_⟩
  have HO416 := Aside0.mk (Kd.R_lower ho0 (below_size (xw_ HB)))
  replace HB := xws_ HB hb
  clear hb ho0
  refine ⟨⟨HQ1.out _ HB.out, HQ2.out _ HB.out⟩, fun hHeld => ?_⟩
  refine norm_ (a' := ?_) ?_ ?_
  rotate_left
  · show Act.put _ (some 10) _ = _
    simp only [Act.put, List.setIfInBounds_toArray, List.set_cons_zero, List.set_cons_succ, i64_w, i32_w]
    rfl
  refine m1_ 6 13 Tryz.func95 #[.slice A2 l2.length c2, .string a0] ?_
  with_reducible refine (impl_valuesOf.calls k _ _ l2 a0 b _ ?side1 ?side2 AB.out).mono ?_
  (case side1 => exact xc_ ((Kd.C_below HR2.out HB.out)))
  (case side2 => exact hc2)
  rintro e w13 ⟨v418, rfl, ho0, hb⟩
  refine ⟨_, rfl, ?_⟩
  have HO419 := Aside0.mk (Kd.R_lower (Kd.R_new' ho0 (Kd.R_lt (xr_ HO416))) (below_size (xw_ HB)))
  replace HO416 := xre_ HO416 ho0 hb
  replace HB := xws_ HB hb
  clear hb ho0
  refine ⟨⟨HQ1.out _ HB.out, HQ2.out _ HB.out⟩, fun hHeld => ?_⟩
  refine norm_ (a' := ?_) ?_ ?_
  rotate_left
  · show Act.put _ (some 13) _ = _
    simp only [Act.put, List.setIfInBounds_toArray, List.set_cons_zero, List.set_cons_succ, i64_w, i32_w]
    rfl
  refine pure_ (i := 7) (N := some 5) (v := ?_) (a' := ?_) #[true, true, true, true, true, true, true, true, false] rfl rfl (any_of HT_.out (by kernel_rfl)) (fun _ _ _ h => h) (Or.inl ⟨by rfl, ?_⟩) ?_ ?_
  rotate_left
  · intro w'
    go_simp
    with_reducible rfl
  rotate_left
  · simp only [Act.put, List.setIfInBounds_toArray, List.set_cons_zero, List.set_cons_succ, i64_w, i32_w]
    rfl
  refine pure_ (i := 8) (N := some 6) (v := ?_) (a' := ?_) #[true, true, true, true, true, true, true, true, true] rfl rfl (any_of HT_.out (by kernel_rfl)) (fun _ _ _ h => h) (Or.inl ⟨by rfl, ?_⟩) ?_ ?_
  rotate_left
  · intro w'
    go_simp
    with_reducible rfl
  rotate_left
  · simp only [Act.put, List.setIfInBounds_toArray, List.set_cons_zero, List.set_cons_succ, i64_w, i32_w]
    rfl
  refine done_ (done_of HT_.out (by kernel_rfl)) ?_
  obtain ⟨Ao14, co14, eo14⟩ := Kd.R_slice HO416.out
  subst eo14
  obtain ⟨Ao15, co15, eo15⟩ := Kd.R_slice HO419.out
  subst eo15
  have H := AH.out
  clear AH
  by_cases c6 : (((a.length : Int) == 0) == ((b.length : Int) == 0)) = true
  · rw [if_pos c6] at H
    have c6b1 : decide (((a.length : Int) == 0) = ((b.length : Int) == 0)) = true := by simpa using c6
    obtain ⟨t420, A70, H⟩ := Option.bind_eq_some_iff.mp H
    obtain ⟨t421, A80, H⟩ := Option.bind_eq_some_iff.mp H
    have A7 := Aside0.mk A70
    have A8 := Aside0.mk A80
    obtain rfl := Option.some.inj H
    clear A70 A80 H
    go_wp2_with (first | (go_at_call 94; (with_reducible refine (strings_Join.calls _ _ a (⟨#[44, 32]⟩ : ByteArray) t420 _ ?side1 ?side2 A7.out).mono ?_); (case side1 => exact xc_ ((Kd.R_reads' HO416.out).2.2)); (case side2 => exact (Kd.R_reads' HO416.out).2.1); rintro e w16 ⟨rfl, hb⟩; replace HO416 := xrb_ HO416 hb; replace HO419 := xrb_ HO419 hb; replace HB := xws_ HB hb; clear hb) | (go_at_call 94; (with_reducible refine (strings_Join.calls _ _ b (⟨#[44, 32]⟩ : ByteArray) t421 _ ?side1 ?side2 A8.out).mono ?_); (case side1 => exact xc_ ((Kd.R_reads' HO419.out).2.2)); (case side2 => exact (Kd.R_reads' HO419.out).2.1); rintro e w17 ⟨rfl, hb⟩; replace HO416 := xrb_ HO416 hb; replace HO419 := xrb_ HO419 hb; replace HB := xws_ HB hb; clear hb))
    go_ret
    exact ⟨by first | rfl | (simp [*]; done), xw_ HB⟩
  · rw [if_neg c6] at H
    have c6b0 : (((a.length : Int) == 0) == ((b.length : Int) == 0)) = false := by simpa using c6
    have c6b1 : decide (((a.length : Int) == 0) = ((b.length : Int) == 0)) = false := by simpa using c6
    clear c6
    obtain rfl := Option.some.inj H
    clear H
    go_wp2
    go_ret
    exact ⟨by first | rfl | (simp [*]; done), xw_ HB⟩
set_option maxHeartbeats 8000000 in
set_option maxRecDepth 100000 in
theorem xSame.calls (k : Nat) (G1 G2 : Nat) (A1 : Option Addr) (c1 : Nat) (l1 : List S105) (A2 : Option Addr) (c2 : Nat) (l2 : List S105) (A0 : Option Addr) (c0 : Nat) (l0 : List ByteArray) (r : Bool) (w : World) (hq1 : w.cell? ⟨G1, 1, none⟩ = some (.slice A1 l1.length c1)) (hq2 : w.cell? ⟨G2, 0, none⟩ = some (.slice A2 l2.length c2)) (hr1 : Kd.C k105 w A1 l1.length l1) (hc1 : l1.length ≤ c1) (hr2 : Kd.C k105 w A2 l2.length l2) (hc2 : l2.length ≤ c2) (hr0 : Kd.C Kd.string w A0 l0.length l0) (hc0 : l0.length ≤ c0) (h : xSame.f k l1 l2 l0 = some r) :
    Calls Tryz.prog 96 #[.slice A0 l0.length c0, .func (.func 104) #[] #[.pointer (some ⟨G1, 0, none⟩), .pointer (some ⟨G2, 0, none⟩)]] w fun e w' => e = .returned (.bool r) ∧ Below w.heap.size w w' := by
  have hbig : l0.length < 9223372036854775807 := by
    by_cases c : l0.length < 9223372036854775807
    · exact c
    · unfold xSame.f at h; rw [if_neg c] at h; cases h
  have h1 : ((idxO (xSame.z k l1 l2) l0 0).bind fun i => some (!decide (i ≥ 0))) = some r := by unfold xSame.f at h; rw [if_pos hbig] at h; exact h
  clear h
  obtain ⟨i, hi1, hi2⟩ := Option.bind_eq_some_iff.mp h1
  clear h1
  obtain rfl := Option.some.inj hi2
  clear hi2
  have hg1 : G1 < w.heap.size := World.block_lt_of_cell? w ⟨G1, 1, none⟩ hq1
  have hg2 : G2 < w.heap.size := World.block_lt_of_cell? w ⟨G2, 0, none⟩ hq2
  have eg : ∀ args w, (callFunc 147 args).run Tryz.prog w = .ok (.enter 147 args) w := enters_of Tryz.func147 (by kernel_rfl) rfl
  have hb1 : Below w.heap.size w (w.alloc (.cells #[.func (.func 104) #[] #[.pointer (some ⟨G1, 0, none⟩), .pointer (some ⟨G2, 0, none⟩)]] 98)) := (Below.refl _ w).alloc (Nat.le_refl _) _
  have hcall := xContainsFunc_str (xSame.z k l1 l2) 147 #[.pointer (some ⟨w.heap.size, 0, none⟩)] eg A0 c0 l0 i (w.alloc (.cells #[.func (.func 104) #[] #[.pointer (some ⟨G1, 0, none⟩), .pointer (some ⟨G2, 0, none⟩)]] 98)) (Kd.C_below hr0 hb1) hc0 hbig
    (by
      intro W x b hb hz
      have hcell : W.cell? ⟨w.heap.size, 0, none⟩ = some (.func (.func 104) #[] #[.pointer (some ⟨G1, 0, none⟩), .pointer (some ⟨G2, 0, none⟩)]) := (hb.cell (p := ⟨w.heap.size, 0, none⟩) (by simp)).trans (by simp)
      obtain ⟨b2, hq, hb2⟩ := Option.bind_eq_some_iff.mp hz
      obtain rfl : (!b2) = b := Option.some.inj hb2
      have hbW : Below w.heap.size w W := hb1.trans (hb.mono hb1.size)
      have hlit := Aside0.mk (fun (W2 : World) (hW2 : Below W.heap.size W W2) => impl_Item_matches_1.calls k x G1 G2 A1 c1 l1 A2 c2 l2 b2 W2
        (((hbW.trans (hW2.mono hbW.size)).cell (p := ⟨G1, 1, none⟩) hg1).trans hq1) (((hbW.trans (hW2.mono hbW.size)).cell (p := ⟨G2, 0, none⟩) hg2).trans hq2)
        (Kd.C_below hr1 (hbW.trans (hW2.mono hbW.size))) hc1 (Kd.C_below hr2 (hbW.trans (hW2.mono hbW.size))) hc2 hq)
      have hb' := Aside0.mk hb
      clear hb hz hb2 hq hbW
      show Calls Tryz.prog 147 #[.string x, .pointer (some ⟨w.heap.size, 0, none⟩)] W _
      go_enter Tryz.func147, Tryz.ntmps147
      go_wp2_with (go_at_call 104; refine (hlit.out _ (by repeat (first | exact Below.refl _ _ | apply below_drew1 | apply pw_below_drewN | apply below_alloc))).mono ?_; rintro e w' ⟨rfl, hb2⟩)
      go_ret
      exact ⟨rfl, below_step (by repeat (first | (with_reducible first | exact hb'.out | apply below_alloc | apply pw_below_drewN | apply below_drew1) | exact hb'.out)) hb2⟩)
    hi1
  have hb1' := Aside0.mk hb1
  clear hr0 hc0 hbig hi1 hb1 eg hq1 hq2 hr1 hr2
  go_enter Tryz.func96, Tryz.ntmps96
  go_wp2_with (go_at_call 146; refine hcall.mono ?_; rintro e w' ⟨rfl, hb'⟩)
  go_ret
  exact ⟨rfl, below_then hb1'.out (by simp) hb'⟩
set_option maxHeartbeats 8000000 in
set_option maxRecDepth 100000 in
theorem impl_Item_matches.calls (k : Nat) (a0_0 : ByteArray) (A0_1 : Option Addr) (c0_1 : Nat) (l0_1 : List (S105)) (a0_2 : Int) (a0_3 : ByteArray) (A0_4 : Option Addr) (c0_4 : Nat) (l0_4 : List (S105)) (a0_5 : ByteArray) (a0_6 : Int) (a0_7 : Int) (A1 : Option Addr) (c1 : Nat) (l1 : List (S105)) (r : Bool) (w : World) (hr0_1 : Kd.C k105 w A0_1 l0_1.length l0_1) (hc0_1 : l0_1.length ≤ c0_1) (hr0_4 : Kd.C k105 w A0_4 l0_4.length l0_4) (hc0_4 : l0_4.length ≤ c0_4) (hr1 : Kd.C k105 w A1 l1.length l1) (hc1 : l1.length ≤ c1) (h : impl_Item_matches.f k a0_0 l0_1 a0_2 a0_3 l0_4 a0_5 a0_6 a0_7 l1 = some r) :
    Calls Tryz.prog 58 #[.agg #[.string a0_0, .slice A0_1 l0_1.length c0_1, .int .i64 a0_2, .string a0_3, .slice A0_4 l0_4.length c0_4, .string a0_5, .int .i64 a0_6, .int .i64 a0_7], .slice A1 l1.length c1] w fun e w' => e = .returned (.bool r) ∧ Below w.heap.size w w' := by
  have hu71 := Tryz.underlying71
  have hu69 := Tryz.underlying69
  have hu54 := Tryz.underlying54
  have HR0_1 := Aside0.mk hr0_1
  have HR0_4 := Aside0.mk hr0_4
  have HR1 := Aside0.mk hr1
  clear hr0_1 hr0_4 hr1
  have HB := Aside0.mk (Below.refl w.heap.size w)
  unfold impl_Item_matches.f at h
  obtain ⟨⟨n1, n2, n3⟩, An, h⟩ := Option.bind_eq_some_iff.mp h
  have AN := Aside0.mk An
  have AH := Aside0.mk h
  clear An h
  go_enter Tryz.func58, Tryz.ntmps58
  go_wp2_with (first
    | ((with_reducible refine gd_ 2 ?_); refine xbe_ (N := 2) (cs := #[.string a0_0, .slice A0_1 l0_1.length c0_1, .int .i64 a0_2, .string a0_3, .slice A0_4 l0_4.length c0_4, .string a0_5, .int .i64 a0_6, .int .i64 a0_7]) (t := 71) ?_; intro g1 hg w1 hbox hb; have BK1 := Aside0.mk (hbox); replace HB := xws_ HB hb; clear hb hbox hg)
    | ((with_reducible refine gd_ 3 ?_); refine xbe_ (N := 3) (cs := #[.slice A1 l1.length c1]) (t := 33) ?_; intro g2 hg w2 hbox hb; have BK2 := Aside0.mk (hbox); replace HB := xws_ HB hb; have N12 := xlt_ BK1 hg; have N21 := xgt_ BK1 hg; replace BK1 := xbb_ BK1 hb; clear hb hbox hg; have hcz0 : w2.cell? ⟨g1, 2, none⟩ = some (.int .i64 a0_2) := xk_ BK1 2; have hcz1 : w2.cell? ⟨g1, 3, none⟩ = some (.string a0_3) := xk_ BK1 3; have hcz2 : w2.cell? ⟨g1, 4, none⟩ = some (.slice A0_4 l0_4.length c0_4) := xk_ BK1 4; have hcz3 : w2.cell? ⟨g1, 5, none⟩ = some (.string a0_5) := xk_ BK1 5)
    | (go_at_call 50; refine (impl_vary.calls k a0_2 a0_3 A0_4 c0_4 l0_4 a0_5 n1 n2 n3 _ ?side1 hc0_4 AN.out).mono ?_; (case side1 => exact xc_ ((Kd.C_below HR0_4.out HB.out))); rintro e w3 ⟨v3, rfl, ho0, hb⟩; have HO := Aside0.mk ho0; replace BK1 := xbb_ BK1 hb; replace BK2 := xbb_ BK2 hb; replace HB := xws_ HB hb; clear hb ho0; obtain ⟨Ao3, co3, eo3⟩ := Kd.R_slice HO.out; subst eo3)
    | (go_at_call 96; refine (xSame.calls k g1 g2 A0_1 c0_1 l0_1 A1 c1 l1 Ao3 co3 n1 r _ ?side1 ?side2 ?side3 hc0_1 ?side4 hc1 ?side5 ?side6 AH.out).mono ?_; (case side1 => exact xk_ BK1 1); (case side2 => exact xk_ BK2 0); (case side3 => exact xc_ ((Kd.C_below HR0_1.out HB.out))); (case side4 => exact xc_ ((Kd.C_below HR1.out HB.out))); (case side5 => exact xc_ ((Kd.R_reads' HO.out).2.2)); (case side6 => exact (Kd.R_reads' HO.out).2.1); rintro e w4 ⟨rfl, hb⟩; replace HB := xws_ HB hb; clear hb))
  go_ret
  exact ⟨by first | rfl | (simp [*]; done), xw_ HB⟩

end Go.Proofs.YtpggepjfhgalkaaGreatDoor.PFnExactMatches
