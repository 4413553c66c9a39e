-- Written by a program of this project (xprint.py) out of the translation; Lean checks it.
import Derived.Test.YtpggepjfhgalkaaGreatDoorPFnExactPickItemx0
import Derived.Test.YtpggepjfhgalkaaGreatDoorPFnExactPickItemx12
import Derived.Test.YtpggepjfhgalkaaGreatDoorPFnExactPickItemx14
import Derived.Test.YtpggepjfhgalkaaGreatDoorPFnExactPickItemx15
import Derived.Test.YtpggepjfhgalkaaGreatDoorPFnExactPickItemx16
import Derived.Test.YtpggepjfhgalkaaGreatDoorPFnExactPickItemx17
namespace Go.Proofs.YtpggepjfhgalkaaGreatDoor.PFnExactPickItem
open Go.RowKit Go.Proofs.YtpggepjfhgalkaaGreatDoorW.PrintWords Go.Proofs.YtpggepjfhgalkaaGreatDoorW.PrintLast Go.Proofs.YtpggepjfhgalkaaGreatDoorW.PrintMore
attribute [local go_sem] max2_int min2_int max_two min_two max_three min_three max_four min_four   -- for this text's walks alone
set_option linter.unusedVariables false
set_option linter.unusedSimpArgs false

/-! ### impl_responseLine: function 92 -/
def impl_responseLine.f (a0_0 : Int) (a0_1 : ByteArray) (l0_2 : List (S105)) (a0_3 : ByteArray) : Option (ByteArray) := (strconv_Itoa.f a0_0).bind fun t423 => (if 9 + t423.size ≤ 9223372036854775807 then (if ((⟨#[72, 84, 84, 80, 47, 49, 46, 49, 32]⟩ : ByteArray) ++ t423).size + 1 ≤ 9223372036854775807 then (if (((⟨#[72, 84, 84, 80, 47, 49, 46, 49, 32]⟩ : ByteArray) ++ t423) ++ (⟨#[32]⟩ : ByteArray)).size + a0_1.size ≤ 9223372036854775807 then (some ((((⟨#[72, 84, 84, 80, 47, 49, 46, 49, 32]⟩ : ByteArray) ++ t423) ++ (⟨#[32]⟩ : ByteArray)) ++ a0_1)) else (none)) else (none)) else (none))
def impl_responseLine.T1 : Bool × List (List Nat × List Nat) := (true, [([], []), ([0], [0]), ([1], [1]), ([2], [2]), ([3], [3]), ([], []), ([5], [5]), ([4, 6], [4, 6]), ([7, 2, 0, 1, 2, 3, 4, 5, 6, 7], [7])])
def impl_responseLine.B1 : List Nat := [0, 1, 3, 7, 15, 0, 32, 127, 255]
theorem impl_responseLine.tab1 : rtab .any (opsOf Tryz.f92 1) = impl_responseLine.T1 := by kernel_rfl
theorem impl_responseLine.bits1 : waitsOk impl_responseLine.T1.2 impl_responseLine.B1 = true := by kernel_rfl
set_option maxHeartbeats 8000000 in
set_option maxRecDepth 100000 in
theorem impl_responseLine.calls (a0_0 : Int) (a0_1 : ByteArray) (A0_2 : Option Addr) (c0_2 : Nat) (l0_2 : List (S105)) (a0_3 : ByteArray) (r : ByteArray) (w : World) (hr0_2 : Kd.C k105 w A0_2 l0_2.length l0_2) (hc0_2 : l0_2.length ≤ c0_2) (h : impl_responseLine.f a0_0 a0_1 l0_2 a0_3 = some r) (hT_ : TabOk w) :
  Calls Tryz.prog 92 #[.agg #[.int .i64 a0_0, .string a0_1, .slice A0_2 l0_2.length c0_2, .string a0_3]] w fun e w' => e = .returned (.string r) ∧ Below w.heap.size w w' := by
 have HTB_ := Aside0.mk hT_
 clear hT_
 have hu54 := Tryz.underlying54
 have HR0_2 := Aside0.mk hr0_2
 have HC0_2 := Aside0.mk hc0_2
 clear hr0_2 hc0_2
 have HB := Aside0.mk (Below.refl w.heap.size w)
 have H := h
 unfold impl_responseLine.f at H
 clear h
 replace H := mb_ H
 obtain ⟨t423, A2, H⟩ := H
 replace H := mi_ H
 obtain ⟨c3, H⟩ := H
 have c3b0 := eq_true c3
 have c3b1 := decide_eq_true c3
 try have c3b2 : (9223372036854775807 < 9 + t423.size) = False := eq_false (Nat.not_lt.2 c3)
 replace H := mi_ H
 obtain ⟨c4, H⟩ := H
 have c4b0 := eq_true c4
 have c4b1 := decide_eq_true c4
 try have c4b2 : (9223372036854775807 < ((⟨#[72, 84, 84, 80, 47, 49, 46, 49, 32]⟩ : ByteArray) ++ t423).size + 1) = False := eq_false (Nat.not_lt.2 c4)
 try have c4b3 : (9223372036854775807 < 9 + t423.size + 1) = False := eq_false (Nat.not_lt.2 (by have z_ := c4; simp only [ByteArray.size_append] at z_; exact z_))
 replace H := mi_ H
 obtain ⟨c5, H⟩ := H
 have c5b0 := eq_true c5
 have c5b1 := decide_eq_true c5
 try have c5b2 : (9223372036854775807 < (((⟨#[72, 84, 84, 80, 47, 49, 46, 49, 32]⟩ : ByteArray) ++ t423) ++ (⟨#[32]⟩ : ByteArray)).size + a0_1.size) = False := eq_false (Nat.not_lt.2 c5)
 try have c5b3 : (9223372036854775807 < 9 + t423.size + 1 + a0_1.size) = False := eq_false (Nat.not_lt.2 (by have z_ := c5; simp only [ByteArray.size_append] at z_; exact z_))
 obtain rfl := Option.some.inj H
 go_enter Tryz.func92, Tryz.ntmps92
 try go_wp2_with (first | ((with_reducible refine gd_ 1 ?_); refine xbe_ (N := 1) (cs := #[.int .i64 a0_0, .string a0_1, .slice A0_2 l0_2.length c0_2, .string a0_3]) (t := 54) ?_; intro gb422 hg w6 hbox hb; have BK422 := Aside0.mk (hbox); have GE422 := xge_ HB hg; replace HB := xws_ HB hb; clear hb hbox hg))
 replace BK422 := Aside0.mk (blk_drew BK422.out)
 replace HB := Aside0.mk (below_drew1 HB.out)
 refine ms_ 9 (fun w' => w'.cell? ⟨gb422, 0, none⟩ = some (.int .i64 a0_0) ∧ w'.cell? ⟨gb422, 1, none⟩ = some (.string a0_1) ∧ w'.cell? ⟨gb422, 2, none⟩ = some (.slice A0_2 l0_2.length c0_2) ∧ w'.cell? ⟨gb422, 3, none⟩ = some (.string a0_3)) impl_responseLine.tab1 impl_responseLine.bits1 ⟨xk_ BK422 0, xk_ BK422 1, xk_ BK422 2, xk_ BK422 3⟩ (fun hHeld HT_ HW_ => ?_)
 generalize w6.drew = w7 at BK422 HB hHeld ⊢
 refine mp_ 0 3 ?_
 refine mp_ 5 8 ?_
 refine mt_ 1 4 hHeld ?_
 refine mt_ 6 9 hHeld ?_
 refine m1_ 2 5 Tryz.func132 #[.int .i64 a0_0] ?_
 with_reducible refine (strconv_Itoa.calls a0_0 t423 _ A2.out (HTB_.out.below (by first | (with_reducible exact Below.refl _ _) | (repeat (first | (with_reducible first | exact HB.out | exact Below.refl _ _ | apply below_alloc | apply pw_below_drewN | apply below_drew1 | refine below_set ?_ GE422.out) | exact HB.out)) | (repeat (first | exact Below.refl _ _ | apply below_alloc | apply pw_below_drewN | apply below_drew1 | refine below_set ?_ GE422.out))))).mono ?_
 rintro e w8 ⟨rfl, hb⟩
 refine ⟨_, rfl, ?_⟩
 replace BK422 := xbb_ BK422 hb
 replace HB := xws_ HB hb
 (try clear hb)
 refine ⟨⟨xk_ BK422 0, xk_ BK422 1, xk_ BK422 2, xk_ BK422 3⟩, fun hHeld => ?_⟩
 refine mn_ 5 ?_
 refine mp_ 3 6 ?_
 refine mp_ 4 7 ?_
 refine mp_ 7 10 ?_
 refine mp_ 8 2 ?_
 refine done_ (done_of HT_.out (by kernel_rfl)) ?_
 try go_wp2
 go_ret
 exact ⟨mf_, xw_ HB⟩

/-! ### impl_GoodResponse: function 49 -/
def impl_GoodResponse.f (k : Nat) (a0_0 : Int) (a0_1 : ByteArray) (l0_2 : List (S105)) (a0_3 : ByteArray) : Option (Bool) := (impl_isResponseLine.f a0_0 a0_1 l0_2 a0_3).bind fun t425 => (if t425 = true then ((impl_responseLine.f a0_0 a0_1 l0_2 a0_3).bind fun t426 => ((impl_isMessage.f k t426 l0_2 a0_3).bind fun t427 => (some t427))) else (some false))
def impl_GoodResponse.T1 : Bool × List (List Nat × List Nat) := (true, [([], []), ([0], [0]), ([1, 1], [1]), ([2], [2]), ([3, 2, 2], [2, 3]), ([2], [2]), ([5, 2], [2, 5]), ([2], [2]), ([7, 2], [2, 7]), ([4, 6, 8, 4, 2], [2, 4, 6, 8]), ([2, 9], [2, 9]), ([10, 9, 0, 1, 2, 3, 4, 5, 6, 7, 8, 9, 10], [10])])
def impl_GoodResponse.B1 : List Nat := [0, 1, 3, 7, 15, 7, 39, 7, 135, 511, 1023, 2047]
theorem impl_GoodResponse.tab1 : rtab .any (opsOf Tryz.f49 1) = impl_GoodResponse.T1 := by kernel_rfl
theorem impl_GoodResponse.bits1 : waitsOk impl_GoodResponse.T1.2 impl_GoodResponse.B1 = true := by kernel_rfl
set_option maxHeartbeats 8000000 in
set_option maxRecDepth 100000 in
theorem impl_GoodResponse.calls (k : Nat) (a0_0 : Int) (a0_1 : ByteArray) (A0_2 : Option Addr) (c0_2 : Nat) (l0_2 : List (S105)) (a0_3 : ByteArray) (r : Bool) (w : World) (hr0_2 : Kd.C k105 w A0_2 l0_2.length l0_2) (hc0_2 : l0_2.length ≤ c0_2) (h : impl_GoodResponse.f k a0_0 a0_1 l0_2 a0_3 = some r) (hT_ : TabOk w) :
  Calls Tryz.prog 49 #[.agg #[.int .i64 a0_0, .string a0_1, .slice A0_2 l0_2.length c0_2, .string a0_3]] w fun e w' => e = .returned (.bool r) ∧ Below w.heap.size w w' := by
 have HTB_ := Aside0.mk hT_
 clear hT_
 have hu54 := Tryz.underlying54
 have HR0_2 := Aside0.mk hr0_2
 have HC0_2 := Aside0.mk hc0_2
 clear hr0_2 hc0_2
 have HB := Aside0.mk (Below.refl w.heap.size w)
 have H := h
 unfold impl_GoodResponse.f at H
 clear h
 replace H := mb_ H
 obtain ⟨t425, A2, H⟩ := H
 by_cases c3 : t425 = true
 ·subst c3
  rw [if_pos rfl] at H
  replace H := mb_ H
  obtain ⟨t426, A4, H⟩ := H
  replace H := mb_ H
  obtain ⟨t427, A5, H⟩ := H
  obtain rfl := Option.some.inj H
  go_enter Tryz.func49, Tryz.ntmps49
  try go_wp2_with (first | ((with_reducible refine gd_ 1 ?_); refine xbe_ (N := 1) (cs := #[.int .i64 a0_0, .string a0_1, .slice A0_2 l0_2.length c0_2, .string a0_3]) (t := 54) ?_; intro gb424 hg w6 hbox hb; have BK424 := Aside0.mk (hbox); have GE424 := xge_ HB hg; replace HB := xws_ HB hb; clear hb hbox hg))
  replace BK424 := Aside0.mk (blk_drew BK424.out)
  replace HB := Aside0.mk (below_drew1 HB.out)
  refine ms_ 12 (fun w' => w'.cell? ⟨gb424, 0, none⟩ = some (.int .i64 a0_0) ∧ w'.cell? ⟨gb424, 1, none⟩ = some (.string a0_1) ∧ w'.cell? ⟨gb424, 2, none⟩ = some (.slice A0_2 l0_2.length c0_2) ∧ w'.cell? ⟨gb424, 3, none⟩ = some (.string a0_3)) impl_GoodResponse.tab1 impl_GoodResponse.bits1 ⟨xk_ BK424 0, xk_ BK424 1, xk_ BK424 2, xk_ BK424 3⟩ (fun hHeld HT_ HW_ => ?_)
  generalize w6.drew = w7 at BK424 HB hHeld ⊢
  refine mt_ 0 3 hHeld ?_
  refine m1_ 1 4 Tryz.func91 #[.agg #[.int .i64 a0_0, .string a0_1, .slice A0_2 l0_2.length c0_2, .string a0_3]] ?_
  with_reducible refine (impl_isResponseLine.calls a0_0 a0_1 _ _ l0_2 a0_3 true _ ?side1 ?side2 A2.out).mono ?_
  (case side1 => exact xc_ ((Kd.C_below HR0_2.out HB.out)))
  (case side2 => exact HC0_2.out)
  rintro e w8 ⟨rfl, hb⟩
  refine ⟨_, rfl, ?_⟩
  replace BK424 := xbb_ BK424 hb
  replace HB := xws_ HB hb
  (try clear hb)
  refine ⟨⟨xk_ BK424 0, xk_ BK424 1, xk_ BK424 2, xk_ BK424 3⟩, fun hHeld => ?_⟩
  refine mn_ 4 ?_
  refine mp_ 2 5 ?_
  refine mp_ 5 8 ?_
  refine mp_ 7 10 ?_
  refine mt_ 3 6 hHeld ?_
  refine mt_ 6 9 hHeld ?_
  refine mt_ 8 11 hHeld ?_
  refine m1_ 4 7 Tryz.func92 #[.agg #[.int .i64 a0_0, .string a0_1, .slice A0_2 l0_2.length c0_2, .string a0_3]] ?_
  with_reducible refine (impl_responseLine.calls a0_0 a0_1 _ _ l0_2 a0_3 t426 _ ?side1 ?side2 A4.out (HTB_.out.below (by first | (with_reducible exact Below.refl _ _) | (repeat (first | (with_reducible first | exact HB.out | exact Below.refl _ _ | apply below_alloc | apply pw_below_drewN | apply below_drew1 | refine below_set ?_ GE424.out) | exact HB.out)) | (repeat (first | exact Below.refl _ _ | apply below_alloc | apply pw_below_drewN | apply below_drew1 | refine below_set ?_ GE424.out))))).mono ?_
  (case side1 => exact xc_ ((Kd.C_below HR0_2.out HB.out)))
  (case side2 => exact HC0_2.out)
  rintro e w9 ⟨rfl, hb⟩
  refine ⟨_, rfl, ?_⟩
  replace BK424 := xbb_ BK424 hb
  replace HB := xws_ HB hb
  (try clear hb)
  refine ⟨⟨xk_ BK424 0, xk_ BK424 1, xk_ BK424 2, xk_ BK424 3⟩, fun hHeld => ?_⟩
  refine mn_ 7 ?_
  refine m1_ 9 12 Tryz.func78 #[.string t426, .slice A0_2 l0_2.length c0_2, .string a0_3] ?_
  with_reducible refine (impl_isMessage.calls k t426 _ _ l0_2 a0_3 t427 _ ?side1 ?side2 A5.out (HTB_.out.below (by first | (with_reducible exact Below.refl _ _) | (repeat (first | (with_reducible first | exact HB.out | exact Below.refl _ _ | apply below_alloc | apply pw_below_drewN | apply below_drew1 | refine below_set ?_ GE424.out) | exact HB.out)) | (repeat (first | exact Below.refl _ _ | apply below_alloc | apply pw_below_drewN | apply below_drew1 | refine below_set ?_ GE424.out))))).mono ?_
  (case side1 => exact xc_ ((Kd.C_below HR0_2.out HB.out)))
  (case side2 => exact HC0_2.out)
  rintro e w10 ⟨rfl, hb⟩
  refine ⟨_, rfl, ?_⟩
  replace BK424 := xbb_ BK424 hb
  replace HB := xws_ HB hb
  (try clear hb)
  refine ⟨⟨xk_ BK424 0, xk_ BK424 1, xk_ BK424 2, xk_ BK424 3⟩, fun hHeld => ?_⟩
  refine mn_ 12 ?_
  refine mp_ 10 13 ?_
  refine mp_ 11 2 ?_
  refine done_ (done_of HT_.out (by kernel_rfl)) ?_
  try go_wp2
  go_ret
  exact ⟨mf_, xw_ HB⟩
 ·replace c3 := Bool.eq_false_iff.mpr c3
  subst c3
  rw [if_neg (show ¬ (false = true) by decide)] at H
  obtain rfl := Option.some.inj H
  go_enter Tryz.func49, Tryz.ntmps49
  try go_wp2_with (first | ((with_reducible refine gd_ 1 ?_); refine xbe_ (N := 1) (cs := #[.int .i64 a0_0, .string a0_1, .slice A0_2 l0_2.length c0_2, .string a0_3]) (t := 54) ?_; intro gb424 hg w11 hbox hb; have BK424 := Aside0.mk (hbox); have GE424 := xge_ HB hg; replace HB := xws_ HB hb; clear hb hbox hg))
  replace BK424 := Aside0.mk (blk_drew BK424.out)
  replace HB := Aside0.mk (below_drew1 HB.out)
  refine ms_ 12 (fun w' => w'.cell? ⟨gb424, 0, none⟩ = some (.int .i64 a0_0) ∧ w'.cell? ⟨gb424, 1, none⟩ = some (.string a0_1) ∧ w'.cell? ⟨gb424, 2, none⟩ = some (.slice A0_2 l0_2.length c0_2) ∧ w'.cell? ⟨gb424, 3, none⟩ = some (.string a0_3)) impl_GoodResponse.tab1 impl_GoodResponse.bits1 ⟨xk_ BK424 0, xk_ BK424 1, xk_ BK424 2, xk_ BK424 3⟩ (fun hHeld HT_ HW_ => ?_)
  generalize w11.drew = w12 at BK424 HB hHeld ⊢
  refine mt_ 0 3 hHeld ?_
  refine m1_ 1 4 Tryz.func91 #[.agg #[.int .i64 a0_0, .string a0_1, .slice A0_2 l0_2.length c0_2, .string a0_3]] ?_
  with_reducible refine (impl_isResponseLine.calls a0_0 a0_1 _ _ l0_2 a0_3 false _ ?side1 ?side2 A2.out).mono ?_
  (case side1 => exact xc_ ((Kd.C_below HR0_2.out HB.out)))
  (case side2 => exact HC0_2.out)
  rintro e w13 ⟨rfl, hb⟩
  refine ⟨_, rfl, ?_⟩
  replace BK424 := xbb_ BK424 hb
  replace HB := xws_ HB hb
  (try clear hb)
  refine ⟨⟨xk_ BK424 0, xk_ BK424 1, xk_ BK424 2, xk_ BK424 3⟩, fun hHeld => ?_⟩
  refine mn_ 4 ?_
  refine mp_ 2 5 ?_
  refine mu_ 3 6 ?_
  refine mu_ 4 7 ?_
  refine mu_ 5 8 ?_
  refine mu_ 6 9 ?_
  refine mu_ 7 10 ?_
  refine mu_ 8 11 ?_
  refine mu_ 9 12 ?_
  refine mp_ 10 13 ?_
  refine mp_ 11 2 ?_
  refine done_ (done_of HT_.out (by kernel_rfl)) ?_
  try go_wp2
  go_ret
  exact ⟨mf_, xw_ HB⟩

/-! ### impl_GoodKept: function 103 -/
def impl_GoodKept.f (k : Nat) (a0_0 : Int) (a0_1 : ByteArray) (l0_2 : List (S105)) (a0_3 : ByteArray) (a0_4 : Int) (a0_5 : Int) : Option (Bool) := (impl_GoodResponse.f k a0_0 a0_1 l0_2 a0_3).bind fun t429 => (if t429 = true then ((impl_within.f a0_4 0 a0_5).bind fun t430 => (if t430 = true then (some (decide (a0_5 ≤ 253402300799))) else (some false))) else (some false))
set_option maxHeartbeats 8000000 in
set_option maxRecDepth 100000 in
theorem impl_GoodKept.calls (k : Nat) (a0_0 : Int) (a0_1 : ByteArray) (A0_2 : Option Addr) (c0_2 : Nat) (l0_2 : List (S105)) (a0_3 : ByteArray) (a0_4 : Int) (a0_5 : Int) (r : Bool) (w : World) (hr0_2 : Kd.C k105 w A0_2 l0_2.length l0_2) (hc0_2 : l0_2.length ≤ c0_2) (h : impl_GoodKept.f k a0_0 a0_1 l0_2 a0_3 a0_4 a0_5 = some r) (hT_ : TabOk w) :
  Calls Tryz.prog 103 #[.agg #[.int .i64 a0_0, .string a0_1, .slice A0_2 l0_2.length c0_2, .string a0_3, .int .i64 a0_4, .int .i64 a0_5]] w fun e w' => e = .returned (.bool r) ∧ Below w.heap.size w w' := by
 have HTB_ := Aside0.mk hT_
 clear hT_
 have hu69 := Tryz.underlying69
 have hu54 := Tryz.underlying54
 have HR0_2 := Aside0.mk hr0_2
 have HC0_2 := Aside0.mk hc0_2
 clear hr0_2 hc0_2
 have HB := Aside0.mk (Below.refl w.heap.size w)
 have H := h
 unfold impl_GoodKept.f at H
 clear h
 replace H := mb_ H
 obtain ⟨t429, A2, H⟩ := H
 by_cases c3 : t429 = true
 ·subst c3
  rw [if_pos rfl] at H
  replace H := mb_ H
  obtain ⟨t430, A4, H⟩ := H
  by_cases c5 : t430 = true
  ·subst c5
   rw [if_pos rfl] at H
   obtain rfl := Option.some.inj H
   go_enter Tryz.func103, Tryz.ntmps103
   go_wp2_with (first | ((with_reducible refine gd_ 1 ?_); refine xbe_ (N := 1) (cs := #[.int .i64 a0_0, .string a0_1, .slice A0_2 l0_2.length c0_2, .string a0_3, .int .i64 a0_4, .int .i64 a0_5]) (t := 69) ?_; intro gb428 hg w6 hbox hb; have BK428 := Aside0.mk (hbox); have GE428 := xge_ HB hg; replace HB := xws_ HB hb; clear hb hbox hg; have ⟨_, _, _, _, _, _, _, _, _, _, _, _⟩ := c6_ BK428) | ((with_reducible refine gc_ 49 ?_); refine xgl_ (some 5) Tryz.func49 #[.agg #[.int .i64 a0_0, .string a0_1, .slice A0_2 l0_2.length c0_2, .string a0_3]] ?_; (with_reducible refine (impl_GoodResponse.calls k a0_0 a0_1 _ _ l0_2 a0_3 true _ ?side1 ?side2 A2.out (HTB_.out.below (by first | (with_reducible exact Below.refl _ _) | (repeat (first | (with_reducible first | exact HB.out | exact Below.refl _ _ | apply below_alloc | apply pw_below_drewN | apply below_drew1 | refine below_set ?_ GE428.out) | exact HB.out)) | (repeat (first | exact Below.refl _ _ | apply below_alloc | apply pw_below_drewN | apply below_drew1 | refine below_set ?_ GE428.out))))).mono ?_); (case side1 => exact xc_ ((Kd.C_below HR0_2.out HB.out))); (case side2 => exact HC0_2.out); rintro e w8 ⟨rfl, hb⟩; refine ⟨_, rfl, ?_⟩; replace BK428 := xbb_ BK428 hb; replace HB := xws_ HB hb; (try clear hb); have ⟨_, _, _, _, _, _, _, _, _, _, _, _⟩ := c6_ BK428) | (go_at_call 119; (with_reducible refine (impl_within.calls a0_4 0 a0_5 true _ A4.out).mono ?_); rintro e w' ⟨rfl, ⟨nd, rfl⟩⟩))
   go_ret
   exact ⟨mf_, xw_ HB⟩
  ·replace c5 := Bool.eq_false_iff.mpr c5
   subst c5
   rw [if_neg (show ¬ (false = true) by decide)] at H
   obtain rfl := Option.some.inj H
   go_enter Tryz.func103, Tryz.ntmps103
   go_wp2_with (first | ((with_reducible refine gd_ 1 ?_); refine xbe_ (N := 1) (cs := #[.int .i64 a0_0, .string a0_1, .slice A0_2 l0_2.length c0_2, .string a0_3, .int .i64 a0_4, .int .i64 a0_5]) (t := 69) ?_; intro gb428 hg w10 hbox hb; have BK428 := Aside0.mk (hbox); have GE428 := xge_ HB hg; replace HB := xws_ HB hb; clear hb hbox hg; have ⟨_, _, _, _, _, _, _, _, _, _, _, _⟩ := c6_ BK428) | ((with_reducible refine gc_ 49 ?_); refine xgl_ (some 5) Tryz.func49 #[.agg #[.int .i64 a0_0, .string a0_1, .slice A0_2 l0_2.length c0_2, .string a0_3]] ?_; (with_reducible refine (impl_GoodResponse.calls k a0_0 a0_1 _ _ l0_2 a0_3 true _ ?side1 ?side2 A2.out (HTB_.out.below (by first | (with_reducible exact Below.refl _ _) | (repeat (first | (with_reducible first | exact HB.out | exact Below.refl _ _ | apply below_alloc | apply pw_below_drewN | apply below_drew1 | refine below_set ?_ GE428.out) | exact HB.out)) | (repeat (first | exact Below.refl _ _ | apply below_alloc | apply pw_below_drewN | apply below_drew1 | refine below_set ?_ GE428.out))))).mono ?_); (case side1 => exact xc_ ((Kd.C_below HR0_2.out HB.out))); (case side2 => exact HC0_2.out); rintro e w12 ⟨rfl, hb⟩; refine ⟨_, rfl, ?_⟩; replace BK428 := xbb_ BK428 hb; replace HB := xws_ HB hb; (try clear hb); have ⟨_, _, _, _, _, _, _, _, _, _, _, _⟩ := c6_ BK428) | (go_at_call 119; (with_reducible refine (impl_within.calls a0_4 0 a0_5 false _ A4.out).mono ?_); rintro e w' ⟨rfl, ⟨nd, rfl⟩⟩))
   go_ret
   exact ⟨mf_, xw_ HB⟩
 ·replace c3 := Bool.eq_false_iff.mpr c3
  subst c3
  rw [if_neg (show ¬ (false = true) by decide)] at H
  obtain rfl := Option.some.inj H
  go_enter Tryz.func103, Tryz.ntmps103
  go_wp2_with (first | ((with_reducible refine gd_ 1 ?_); refine xbe_ (N := 1) (cs := #[.int .i64 a0_0, .string a0_1, .slice A0_2 l0_2.length c0_2, .string a0_3, .int .i64 a0_4, .int .i64 a0_5]) (t := 69) ?_; intro gb428 hg w14 hbox hb; have BK428 := Aside0.mk (hbox); have GE428 := xge_ HB hg; replace HB := xws_ HB hb; clear hb hbox hg; have ⟨_, _, _, _, _, _, _, _, _, _, _, _⟩ := c6_ BK428) | ((with_reducible refine gc_ 49 ?_); refine xgl_ (some 5) Tryz.func49 #[.agg #[.int .i64 a0_0, .string a0_1, .slice A0_2 l0_2.length c0_2, .string a0_3]] ?_; (with_reducible refine (impl_GoodResponse.calls k a0_0 a0_1 _ _ l0_2 a0_3 false _ ?side1 ?side2 A2.out (HTB_.out.below (by first | (with_reducible exact Below.refl _ _) | (repeat (first | (with_reducible first | exact HB.out | exact Below.refl _ _ | apply below_alloc | apply pw_below_drewN | apply below_drew1 | refine below_set ?_ GE428.out) | exact HB.out)) | (repeat (first | exact Below.refl _ _ | apply below_alloc | apply pw_below_drewN | apply below_drew1 | refine below_set ?_ GE428.out))))).mono ?_); (case side1 => exact xc_ ((Kd.C_below HR0_2.out HB.out))); (case side2 => exact HC0_2.out); rintro e w16 ⟨rfl, hb⟩; refine ⟨_, rfl, ?_⟩; replace BK428 := xbb_ BK428 hb; replace HB := xws_ HB hb; (try clear hb)))
  go_ret
  exact ⟨mf_, xw_ HB⟩

/-! ### impl_isItem: function 57 -/
def impl_isItem.f (k : Nat) (a0_0 : ByteArray) (l0_1 : List (S105)) (a0_2 : Int) (a0_3 : ByteArray) (l0_4 : List (S105)) (a0_5 : ByteArray) (a0_6 : Int) (a0_7 : Int) : Option (Bool) := if (a0_0.size : Int) > 200 then (some false) else ((impl_areFields.f k l0_1).bind fun t432 => (if t432 = true then ((impl_GoodKept.f k a0_2 a0_3 l0_4 a0_5 a0_6 a0_7).bind fun t433 => (if t433 = true then ((impl_vary.f k a0_2 a0_3 l0_4 a0_5).bind fun bt434 => (if bt434.2.2 = true then (some (!bt434.2.1)) else (some false))) else (some false))) else (some false)))
set_option maxHeartbeats 8000000 in
set_option maxRecDepth 100000 in
theorem impl_isItem.calls (k : Nat) (a0_0 : ByteArray) (A0_1 : Option Addr) (c0_1 : Nat) (l0_1 : List (S105)) (a0_2 : Int) (a0_3 : ByteArray) (A0_4 : Option Addr) (c0_4 : Nat) (l0_4 : List (S105)) (a0_5 : ByteArray) (a0_6 : Int) (a0_7 : Int) (r : Bool) (w : World) (hr0_1 : Kd.C k105 w A0_1 l0_1.length l0_1) (hc0_1 : l0_1.length ≤ c0_1) (hr0_4 : Kd.C k105 w A0_4 l0_4.length l0_4) (hc0_4 : l0_4.length ≤ c0_4) (h : impl_isItem.f k a0_0 l0_1 a0_2 a0_3 l0_4 a0_5 a0_6 a0_7 = some r) (hT_ : TabOk w) :
  Calls Tryz.prog 57 #[.agg #[.string a0_0, .slice A0_1 l0_1.length c0_1, .int .i64 a0_2, .string a0_3, .slice A0_4 l0_4.length c0_4, .string a0_5, .int .i64 a0_6, .int .i64 a0_7]] w fun e w' => e = .returned (.bool r) ∧ Below w.heap.size w w' := by
 have HTB_ := Aside0.mk hT_
 clear hT_
 have hu71 := Tryz.underlying71
 have hu69 := Tryz.underlying69
 have hu54 := Tryz.underlying54
 have HR0_1 := Aside0.mk hr0_1
 have HC0_1 := Aside0.mk hc0_1
 clear hr0_1 hc0_1
 have HR0_4 := Aside0.mk hr0_4
 have HC0_4 := Aside0.mk hc0_4
 clear hr0_4 hc0_4
 have HB := Aside0.mk (Below.refl w.heap.size w)
 have H := h
 unfold impl_isItem.f at H
 clear h
 by_cases c2 : (a0_0.size : Int) > 200
 ·rw [if_pos c2] at H
  have c2b0 : decide (200 < (a0_0.size : Int)) = true := decide_eq_true c2
  have c2b1 : decide (200 < a0_0.size) = true := decide_eq_true (by omega)
  clear c2
  obtain rfl := Option.some.inj H
  go_enter Tryz.func57, Tryz.ntmps57
  go_wp2_with (first | ((with_reducible refine gd_ 1 ?_); refine xbe_ (N := 1) (cs := #[.string a0_0, .slice A0_1 l0_1.length c0_1, .int .i64 a0_2, .string a0_3, .slice A0_4 l0_4.length c0_4, .string a0_5, .int .i64 a0_6, .int .i64 a0_7]) (t := 71) ?_; intro gb431 hg w3 hbox hb; have BK431 := Aside0.mk (hbox); have GE431 := xge_ HB hg; replace HB := xws_ HB hb; clear hb hbox hg; have ⟨_, _, _, _, _, _, _, _, _, _, _, _, _, _, _, _⟩ := c8_ BK431))
  go_ret
  exact ⟨mf_, xw_ HB⟩
 ·rw [if_neg c2] at H
  have c2b0 : decide (200 < (a0_0.size : Int)) = false := decide_eq_false c2
  have c2b1 : decide (200 < a0_0.size) = false := decide_eq_false (by omega)
  clear c2
  replace H := mb_ H
  obtain ⟨t432, A5, H⟩ := H
  by_cases c6 : t432 = true
  ·subst c6
   rw [if_pos rfl] at H
   replace H := mb_ H
   obtain ⟨t433, A7, H⟩ := H
   by_cases c8 : t433 = true
   ·subst c8
    rw [if_pos rfl] at H
    replace H := mb_ H
    obtain ⟨⟨t434, t437, t438⟩, A9, H⟩ := H
    dsimp only at H
    by_cases c10 : t438 = true
    ·subst c10
     rw [if_pos rfl] at H
     obtain rfl := Option.some.inj H
     go_enter Tryz.func57, Tryz.ntmps57
     go_wp2_with (first | ((with_reducible refine gd_ 1 ?_); refine xbe_ (N := 1) (cs := #[.string a0_0, .slice A0_1 l0_1.length c0_1, .int .i64 a0_2, .string a0_3, .slice A0_4 l0_4.length c0_4, .string a0_5, .int .i64 a0_6, .int .i64 a0_7]) (t := 71) ?_; intro gb431 hg w11 hbox hb; have BK431 := Aside0.mk (hbox); have GE431 := xge_ HB hg; replace HB := xws_ HB hb; clear hb hbox hg; have ⟨_, _, _, _, _, _, _, _, _, _, _, _, _, _, _, _⟩ := c8_ BK431) | (go_at_call 102; (with_reducible refine (impl_areFields.calls k _ _ l0_1 true _ ?side1 ?side2 A5.out).mono ?_); (case side1 => exact xc_ ((Kd.C_below HR0_1.out HB.out))); (case side2 => exact HC0_1.out); rintro e w13 ⟨rfl, hb⟩; replace BK431 := xbb_ BK431 hb; replace HB := xws_ HB hb; (try clear hb); have ⟨_, _, _, _, _, _, _, _, _, _, _, _, _, _, _, _⟩ := c8_ BK431) | (go_at_call 103; (with_reducible refine (impl_GoodKept.calls k a0_2 a0_3 _ _ l0_4 a0_5 a0_6 a0_7 true _ ?side1 ?side2 A7.out (HTB_.out.below (by first | (with_reducible exact Below.refl _ _) | (repeat (first | (with_reducible first | exact HB.out | exact Below.refl _ _ | apply below_alloc | apply pw_below_drewN | apply below_drew1 | refine below_set ?_ GE431.out) | exact HB.out)) | (repeat (first | exact Below.refl _ _ | apply below_alloc | apply pw_below_drewN | apply below_drew1 | refine below_set ?_ GE431.out))))).mono ?_); (case side1 => exact xc_ ((Kd.C_below HR0_4.out HB.out))); (case side2 => exact HC0_4.out); rintro e w15 ⟨rfl, hb⟩; replace BK431 := xbb_ BK431 hb; replace HB := xws_ HB hb; (try clear hb); have ⟨_, _, _, _, _, _, _, _, _, _, _, _, _, _, _, _⟩ := c8_ BK431) | ((with_reducible refine gc_ 50 ?_); refine xgl_ (some 26) Tryz.func50 #[.agg #[.int .i64 a0_2, .string a0_3, .slice A0_4 l0_4.length c0_4, .string a0_5]] ?_; (with_reducible refine (impl_vary.calls k a0_2 a0_3 _ _ l0_4 a0_5 t434 t437 true _ ?side1 ?side2 A9.out).mono ?_); (case side1 => exact xc_ ((Kd.C_below HR0_4.out HB.out))); (case side2 => exact HC0_4.out); rintro e w17 ⟨v435, rfl, ho0, hb⟩; refine ⟨_, rfl, ?_⟩; have HO436 := Aside0.mk (Kd.R_lower ho0 (below_size (xw_ HB))); replace BK431 := xbb_ BK431 hb; replace HB := xws_ HB hb; (try clear hb); (try clear ho0)))
     go_ret
     exact ⟨mf_, xw_ HB⟩
    ·replace c10 := Bool.eq_false_iff.mpr c10
     subst c10
     rw [if_neg (show ¬ (false = true) by decide)] at H
     obtain rfl := Option.some.inj H
     go_enter Tryz.func57, Tryz.ntmps57
     go_wp2_with (first | ((with_reducible refine gd_ 1 ?_); refine xbe_ (N := 1) (cs := #[.string a0_0, .slice A0_1 l0_1.length c0_1, .int .i64 a0_2, .string a0_3, .slice A0_4 l0_4.length c0_4, .string a0_5, .int .i64 a0_6, .int .i64 a0_7]) (t := 71) ?_; intro gb431 hg w18 hbox hb; have BK431 := Aside0.mk (hbox); have GE431 := xge_ HB hg; replace HB := xws_ HB hb; clear hb hbox hg; have ⟨_, _, _, _, _, _, _, _, _, _, _, _, _, _, _, _⟩ := c8_ BK431) | (go_at_call 102; (with_reducible refine (impl_areFields.calls k _ _ l0_1 true _ ?side1 ?side2 A5.out).mono ?_); (case side1 => exact xc_ ((Kd.C_below HR0_1.out HB.out))); (case side2 => exact HC0_1.out); rintro e w20 ⟨rfl, hb⟩; replace BK431 := xbb_ BK431 hb; replace HB := xws_ HB hb; (try clear hb); have ⟨_, _, _, _, _, _, _, _, _, _, _, _, _, _, _, _⟩ := c8_ BK431) | (go_at_call 103; (with_reducible refine (impl_GoodKept.calls k a0_2 a0_3 _ _ l0_4 a0_5 a0_6 a0_7 true _ ?side1 ?side2 A7.out (HTB_.out.below (by first | (with_reducible exact Below.refl _ _) | (repeat (first | (with_reducible first | exact HB.out | exact Below.refl _ _ | apply below_alloc | apply pw_below_drewN | apply below_drew1 | refine below_set ?_ GE431.out) | exact HB.out)) | (repeat (first | exact Below.refl _ _ | apply below_alloc | apply pw_below_drewN | apply below_drew1 | refine below_set ?_ GE431.out))))).mono ?_); (case side1 => exact xc_ ((Kd.C_below HR0_4.out HB.out))); (case side2 => exact HC0_4.out); rintro e w22 ⟨rfl, hb⟩; replace BK431 := xbb_ BK431 hb; replace HB := xws_ HB hb; (try clear hb); have ⟨_, _, _, _, _, _, _, _, _, _, _, _, _, _, _, _⟩ := c8_ BK431) | ((with_reducible refine gc_ 50 ?_); refine xgl_ (some 26) Tryz.func50 #[.agg #[.int .i64 a0_2, .string a0_3, .slice A0_4 l0_4.length c0_4, .string a0_5]] ?_; (with_reducible refine (impl_vary.calls k a0_2 a0_3 _ _ l0_4 a0_5 t434 t437 false _ ?side1 ?side2 A9.out).mono ?_); (case side1 => exact xc_ ((Kd.C_below HR0_4.out HB.out))); (case side2 => exact HC0_4.out); rintro e w24 ⟨v435, rfl, ho0, hb⟩; refine ⟨_, rfl, ?_⟩; have HO436 := Aside0.mk (Kd.R_lower ho0 (below_size (xw_ HB))); replace BK431 := xbb_ BK431 hb; replace HB := xws_ HB hb; (try clear hb); (try clear ho0)))
     go_ret
     exact ⟨mf_, xw_ HB⟩
   ·replace c8 := Bool.eq_false_iff.mpr c8
    subst c8
    rw [if_neg (show ¬ (false = true) by decide)] at H
    obtain rfl := Option.some.inj H
    go_enter Tryz.func57, Tryz.ntmps57
    go_wp2_with (first | ((with_reducible refine gd_ 1 ?_); refine xbe_ (N := 1) (cs := #[.string a0_0, .slice A0_1 l0_1.length c0_1, .int .i64 a0_2, .string a0_3, .slice A0_4 l0_4.length c0_4, .string a0_5, .int .i64 a0_6, .int .i64 a0_7]) (t := 71) ?_; intro gb431 hg w25 hbox hb; have BK431 := Aside0.mk (hbox); have GE431 := xge_ HB hg; replace HB := xws_ HB hb; clear hb hbox hg; have ⟨_, _, _, _, _, _, _, _, _, _, _, _, _, _, _, _⟩ := c8_ BK431) | (go_at_call 102; (with_reducible refine (impl_areFields.calls k _ _ l0_1 true _ ?side1 ?side2 A5.out).mono ?_); (case side1 => exact xc_ ((Kd.C_below HR0_1.out HB.out))); (case side2 => exact HC0_1.out); rintro e w27 ⟨rfl, hb⟩; replace BK431 := xbb_ BK431 hb; replace HB := xws_ HB hb; (try clear hb); have ⟨_, _, _, _, _, _, _, _, _, _, _, _, _, _, _, _⟩ := c8_ BK431) | (go_at_call 103; (with_reducible refine (impl_GoodKept.calls k a0_2 a0_3 _ _ l0_4 a0_5 a0_6 a0_7 false _ ?side1 ?side2 A7.out (HTB_.out.below (by first | (with_reducible exact Below.refl _ _) | (repeat (first | (with_reducible first | exact HB.out | exact Below.refl _ _ | apply below_alloc | apply pw_below_drewN | apply below_drew1 | refine below_set ?_ GE431.out) | exact HB.out)) | (repeat (first | exact Below.refl _ _ | apply below_alloc | apply pw_below_drewN | apply below_drew1 | refine below_set ?_ GE431.out))))).mono ?_); (case side1 => exact xc_ ((Kd.C_below HR0_4.out HB.out))); (case side2 => exact HC0_4.out); rintro e w29 ⟨rfl, hb⟩; replace BK431 := xbb_ BK431 hb; replace HB := xws_ HB hb; (try clear hb)))
    go_ret
    exact ⟨mf_, xw_ HB⟩
  ·replace c6 := Bool.eq_false_iff.mpr c6
   subst c6
   rw [if_neg (show ¬ (false = true) by decide)] at H
   obtain rfl := Option.some.inj H
   go_enter Tryz.func57, Tryz.ntmps57
   go_wp2_with (first | ((with_reducible refine gd_ 1 ?_); refine xbe_ (N := 1) (cs := #[.string a0_0, .slice A0_1 l0_1.length c0_1, .int .i64 a0_2, .string a0_3, .slice A0_4 l0_4.length c0_4, .string a0_5, .int .i64 a0_6, .int .i64 a0_7]) (t := 71) ?_; intro gb431 hg w30 hbox hb; have BK431 := Aside0.mk (hbox); have GE431 := xge_ HB hg; replace HB := xws_ HB hb; clear hb hbox hg; have ⟨_, _, _, _, _, _, _, _, _, _, _, _, _, _, _, _⟩ := c8_ BK431) | (go_at_call 102; (with_reducible refine (impl_areFields.calls k _ _ l0_1 false _ ?side1 ?side2 A5.out).mono ?_); (case side1 => exact xc_ ((Kd.C_below HR0_1.out HB.out))); (case side2 => exact HC0_1.out); rintro e w32 ⟨rfl, hb⟩; replace BK431 := xbb_ BK431 hb; replace HB := xws_ HB hb; (try clear hb)))
   go_ret
   exact ⟨mf_, xw_ HB⟩

/-! ### areAll over items, with isItem -/
def xAll_items.z (k : Nat) (x : S71) : Option Bool := (impl_isItem.f k x.f0 x.f1 x.f2.f0.f0 x.f2.f0.f1 x.f2.f0.f2 x.f2.f0.f3 x.f2.f1 x.f2.f2).bind fun b => some (!b)
def xAll_items.f (k : Nat) (l0 : List S71) : Option Bool := if l0.length < 9223372036854775807 then ((idxO (xAll_items.z k) l0 0).bind fun i => some (!decide (i ≥ 0))) else none
set_option maxHeartbeats 8000000 in
set_option maxRecDepth 100000 in
theorem xIndexFunc_items (p : S71 → Option Bool) (g : Nat) (lb : Array Value) (eg : ∀ args w, (callFunc g args).run Tryz.prog w = .ok (.enter g args) w) (A0 : Option Addr) (c0 : Nat) (l0 : List S71) (i : Int) (w : World)
    (hr0 : Kd.C k71 w A0 l0.length l0) (hc0 : l0.length ≤ c0) (hbig : l0.length < 9223372036854775807)
    (hp : ∀ (W : World) (x : S71) (b : Bool) (A1 : Option Addr) (c1 : Nat) (A4 : Option Addr) (c4 : Nat), Below w.heap.size w W → x.f1.length ≤ c1 → Kd.C k105 W A1 x.f1.length x.f1 → x.f2.f0.f2.length ≤ c4 → Kd.C k105 W A4 x.f2.f0.f2.length x.f2.f0.f2 → p x = some b →
      Calls Tryz.prog g (#[.agg #[.string x.f0, .slice A1 x.f1.length c1, .int .i64 x.f2.f0.f0, .string x.f2.f0.f1, .slice A4 x.f2.f0.f2.length c4, .string x.f2.f0.f3, .int .i64 x.f2.f1, .int .i64 x.f2.f2]] ++ lb) W fun e w' => e = .returned (.bool b) ∧ Below w.heap.size w w')
    (h : idxO p l0 0 = some i) :
    Calls Tryz.prog 171 #[.slice A0 l0.length c0, .func (.func g) #[] lb] w fun e w' => e = .returned (.int .i64 i) ∧ Below w.heap.size w w' := by
  have HR0 := Aside0.mk hr0
  have HC0 := Aside0.mk hc0
  have HP := Aside0.mk hp
  have HI := Aside0.mk h
  clear hr0 hc0 hp h
  go_enter Tryz.func171, Tryz.ntmps171
  go_wp2
  go_loopg [5, 8] l0.length (fun gg _ s8 wr => ∃ kk : Nat, kk ≤ l0.length ∧ l0.length - kk ≤ gg ∧ s8 = .int .i64 kk ∧ Aside0 (Below w.heap.size w wr) ∧ Aside0 (idxO p (l0.drop kk) (kk : Int) = some i))
  case atStart => exact ⟨0, Nat.zero_le _, by omega, rfl, ⟨Below.refl _ w⟩, HI⟩
  case round =>
    obtain ⟨kk, hkk, hg, rfl, BW, A⟩ := hrel
    clear HI
    by_cases hlt : kk < l0.length
    · have hltz : (kk : Int) < (l0.length : Int) := by omega
      have H := A.out
      clear A
      rw [idxO_at p l0 kk hlt] at H
      obtain ⟨b, hb, H⟩ := Option.bind_eq_some_iff.mp H
      have hrd : rd_T71 l0 (kk : Int) = l0[kk] := by unfold rd_T71; simp [List.getD_eq_getElem?_getD, hlt]
      obtain ⟨ad, A1, c1, A4, c4, he, hy0, hy1, hy2, hy3, hy4, hy5, hy6, hy7, hl1, hi1, hl4, hi4⟩ := at_T71 (Kd.C_below HR0.out BW.out) (kk : Int) (by omega) hltz
      rw [hrd] at hy0 hy1 hy2 hy3 hy4 hy5 hy6 hy7 hl1 hi1 hl4 hi4
      have hcall := HP.out wr l0[kk] b A1 c1 A4 c4 BW.out hl1 hi1 hl4 hi4 hb
      cases he
      have hx0 : wr.cell? (ad.add (kk * 8)) = some (.string l0[kk].f0) := hy0
      have hx1 : wr.cell? ⟨(ad.add (kk * 8)).block, (ad.add (kk * 8)).off + 1, none⟩ = some (.slice A1 l0[kk].f1.length c1) := hy1
      have hx2 : wr.cell? ⟨(ad.add (kk * 8)).block, (ad.add (kk * 8)).off + 2, none⟩ = some (.int .i64 l0[kk].f2.f0.f0) := hy2
      have hx3 : wr.cell? ⟨(ad.add (kk * 8)).block, (ad.add (kk * 8)).off + 3, none⟩ = some (.string l0[kk].f2.f0.f1) := hy3
      have hx4 : wr.cell? ⟨(ad.add (kk * 8)).block, (ad.add (kk * 8)).off + 4, none⟩ = some (.slice A4 l0[kk].f2.f0.f2.length c4) := hy4
      have hx5 : wr.cell? ⟨(ad.add (kk * 8)).block, (ad.add (kk * 8)).off + 5, none⟩ = some (.string l0[kk].f2.f0.f3) := hy5
      have hx6 : wr.cell? ⟨(ad.add (kk * 8)).block, (ad.add (kk * 8)).off + 6, none⟩ = some (.int .i64 l0[kk].f2.f1) := hy6
      have hx7 : wr.cell? ⟨(ad.add (kk * 8)).block, (ad.add (kk * 8)).off + 7, none⟩ = some (.int .i64 l0[kk].f2.f2) := hy7
      clear hy0 hy1 hy2 hy3 hy4 hy5 hy6 hy7 hl1 hi1 hl4 hi4 hrd
      generalize l0[kk] = x at *
      cases b with
      | true =>
        obtain rfl : (kk : Int) = i := Option.some.inj H
        clear H hb
        go_wp2_with (go_at_fn g; refine hcall.mono ?_; rintro e w' ⟨rfl, hb'⟩)
        go_ret
        exact ⟨rfl, hb'⟩
      | false =>
        have H' := Aside0.mk H
        clear H hb
        go_wp2_with (go_at_fn g; refine hcall.mono ?_; rintro e w' ⟨rfl, hb'⟩)
        go_roundg (l0.length - (kk + 1))
        case measure => omega
        case rel => exact ⟨kk + 1, by omega, by omega, by go_num, ⟨hb'⟩, ⟨by have z := H'.out; rw [if_neg (by decide)] at z; exact z⟩⟩
    · have hltz : ¬ (kk : Int) < (l0.length : Int) := by omega
      have H := A.out
      rw [List.drop_of_length_le (by omega)] at H
      obtain rfl : (-1 : Int) = i := Option.some.inj H
      clear H A
      go_wp2
      go_ret
      exact ⟨rfl, BW.out⟩
set_option maxHeartbeats 8000000 in
set_option maxRecDepth 100000 in
theorem xAll_items.calls (k : Nat) (A0 : Option Addr) (c0 : Nat) (l0 : List S71) (r : Bool) (w : World) (hr0 : Kd.C k71 w A0 l0.length l0) (hc0 : l0.length ≤ c0) (h : xAll_items.f k l0 = some r) (hT_ : TabOk w) :
    Calls Tryz.prog 84 #[.slice A0 l0.length c0, .func (.func 57) #[] #[]] w fun e w' => e = .returned (.bool r) ∧ Below w.heap.size w w' := by
  have hbig : l0.length < 9223372036854775807 := by
    by_cases c : l0.length < 9223372036854775807
    · exact c
    · unfold xAll_items.f at h; rw [if_neg c] at h; cases h
  have h1 : ((idxO (xAll_items.z k) l0 0).bind fun i => some (!decide (i ≥ 0))) = some r := by unfold xAll_items.f at h; rw [if_pos hbig] at h; exact h
  clear h
  obtain ⟨i, hi1, hi2⟩ := Option.bind_eq_some_iff.mp h1
  clear h1
  obtain rfl := Option.some.inj hi2
  clear hi2
  have eg : ∀ args w, (callFunc 137 args).run Tryz.prog w = .ok (.enter 137 args) w := enters_of Tryz.func137 (by kernel_rfl) rfl
  have hb1 : Below w.heap.size w (w.alloc (.cells #[.func (.func 57) #[] #[]] 90)) := (Below.refl _ w).alloc (Nat.le_refl _) _
  have hcall := xIndexFunc_items (xAll_items.z k) 137 #[.pointer (some ⟨w.heap.size, 0, none⟩)] eg A0 c0 l0 i (w.alloc (.cells #[.func (.func 57) #[] #[]] 90)) (Kd.C_below hr0 hb1) hc0 hbig
    (by
      intro W x b A1 c1 A4 c4 hb hl1 hg1 hl4 hg4 hz
      have hcell : W.cell? ⟨w.heap.size, 0, none⟩ = some (.func (.func 57) #[] #[]) := (hb.cell (p := ⟨w.heap.size, 0, none⟩) (by simp)).trans (by simp)
      obtain ⟨b2, hq, hb2⟩ := Option.bind_eq_some_iff.mp hz
      obtain rfl : (!b2) = b := Option.some.inj hb2
      have hbW : Below w.heap.size w W := hb1.trans (hb.mono hb1.size)
      have hlit := Aside0.mk (fun (W2 : World) (hW2 : Below W.heap.size W W2) => impl_isItem.calls k x.f0 A1 c1 x.f1 x.f2.f0.f0 x.f2.f0.f1 A4 c4 x.f2.f0.f2 x.f2.f0.f3 x.f2.f1 x.f2.f2 b2 W2 (Kd.C_below hg1 hW2) hl1 (Kd.C_below hg4 hW2) hl4 hq ((hT_.below hbW).below hW2))
      have hb' := Aside0.mk hb
      have hsz : w.heap.size < W.heap.size := by have z := hb.size; simp at z; omega
      clear hb hz hb2 hq hbW hg1 hg4 hl1 hl4
      have hu71 := Tryz.underlying71
      show Calls Tryz.prog 137 #[.agg #[.string x.f0, .slice A1 x.f1.length c1, .int .i64 x.f2.f0.f0, .string x.f2.f0.f1, .slice A4 x.f2.f0.f2.length c4, .string x.f2.f0.f3, .int .i64 x.f2.f1, .int .i64 x.f2.f2], .pointer (some ⟨w.heap.size, 0, none⟩)] W _
      go_enter Tryz.func137, Tryz.ntmps137
      go_wp2_with (go_at_call 57; refine (hlit.out _ (by repeat (first | exact Below.refl _ _ | apply below_drew1 | apply pw_below_drewN | apply below_alloc))).mono ?_; rintro e w' ⟨rfl, hb2⟩)
      go_ret
      exact ⟨rfl, below_step (by repeat (first | (with_reducible first | exact hb'.out | apply below_alloc | apply pw_below_drewN | apply below_drew1) | exact hb'.out)) hb2⟩)
    hi1
  have hcall2 : Calls Tryz.prog 136 #[.slice A0 l0.length c0, .func (.func 137) #[] #[.pointer (some ⟨w.heap.size, 0, none⟩)]] (w.alloc (.cells #[.func (.func 57) #[] #[]] 90)) fun e w' => e = .returned (.bool (decide (i ≥ 0))) ∧ Below (w.alloc (.cells #[.func (.func 57) #[] #[]] 90)).heap.size (w.alloc (.cells #[.func (.func 57) #[] #[]] 90)) w' := by
    generalize w.alloc (.cells #[.func (.func 57) #[] #[]] 90) = W at hcall
    go_enter Tryz.func136, Tryz.ntmps136
    go_wp2_with (go_at_call 171; refine hcall.mono ?_; rintro e w' ⟨rfl, hb'⟩)
    go_ret
    exact ⟨rfl, hb'⟩
  have hb1' := Aside0.mk hb1
  clear hr0 hc0 hbig hi1 hb1 eg hcall hT_
  go_enter Tryz.func84, Tryz.ntmps84
  go_wp2_with (go_at_call 136; refine hcall2.mono ?_; rintro e w' ⟨rfl, hb'⟩)
  go_ret
  exact ⟨rfl, below_then hb1'.out (by simp) hb'⟩

/-! ### impl_areItems: function 45 -/
def impl_areItems.f (k : Nat) (l0 : List (S71)) : Option (Bool) := if (l0.length : Int) ≤ 30 then ((xAll_items.f k l0).bind fun t439 => (some t439)) else (some false)
set_option maxHeartbeats 8000000 in
set_option maxRecDepth 100000 in
theorem impl_areItems.calls (k : Nat) (A0 : Option Addr) (c0 : Nat) (l0 : List (S71)) (r : Bool) (w : World) (hr0 : Kd.C k71 w A0 l0.length l0) (hc0 : l0.length ≤ c0) (h : impl_areItems.f k l0 = some r) (hT_ : TabOk w) :
  Calls Tryz.prog 45 #[.slice A0 l0.length c0] w fun e w' => e = .returned (.bool r) ∧ Below w.heap.size w w' := by
 have HTB_ := Aside0.mk hT_
 clear hT_
 have HR0 := Aside0.mk hr0
 have HC0 := Aside0.mk hc0
 clear hr0 hc0
 have HB := Aside0.mk (Below.refl w.heap.size w)
 have H := h
 unfold impl_areItems.f at H
 clear h
 by_cases c2 : (l0.length : Int) ≤ 30
 ·rw [if_pos c2] at H
  have c2b0 := decide_eq_true c2
  have c2b1 : decide (l0.length ≤ 30) = true := decide_eq_true (by omega)
  clear c2
  replace H := mb_ H
  obtain ⟨t439, A3, H⟩ := H
  obtain rfl := Option.some.inj H
  go_enter Tryz.func45, Tryz.ntmps45
  go_wp2_with (first | (go_at_call 84; (with_reducible refine (xAll_items.calls k _ _ l0  t439 _ ?side1 ?side2 A3.out (HTB_.out.below (by first | (with_reducible exact Below.refl _ _) | (repeat (first | (with_reducible first | exact HB.out | exact Below.refl _ _ | apply below_alloc | apply pw_below_drewN | apply below_drew1) | exact HB.out)) | (repeat (first | exact Below.refl _ _ | apply below_alloc | apply pw_below_drewN | apply below_drew1))))).mono ?_); (case side1 => repeat (first | exact HR0.out | (with_reducible refine Kd.C_alloc ?_ _) | (with_reducible refine Kd.C_drewN ?_ _) | (with_reducible refine Kd.C_drew ?_))); (case side2 => exact HC0.out); rintro e w4 ⟨rfl, hb⟩; replace HB := xws_ HB hb; (try clear hb)))
  go_ret
  exact ⟨mf_, xw_ HB⟩
 ·rw [if_neg c2] at H
  have c2b0 := decide_eq_false c2
  have c2b1 : decide (l0.length ≤ 30) = false := decide_eq_false (by omega)
  clear c2
  obtain rfl := Option.some.inj H
  go_enter Tryz.func45, Tryz.ntmps45
  go_wp2
  go_ret
  exact ⟨mf_, xw_ HB⟩

end Go.Proofs.YtpggepjfhgalkaaGreatDoor.PFnExactPickItem
