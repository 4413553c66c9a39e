-- Written by a program of this project (xprint.py) out of the translation; Lean checks it.
import Derived.Test.YtpggepjfhgalkaaGreatDoorPFnExactMatchesx0
import Derived.Test.YtpggepjfhgalkaaGreatDoorPFnExactMatchesx11
namespace Go.Proofs.YtpggepjfhgalkaaGreatDoor.PFnExactMatches
open Go.RowKit Go.Proofs.YtpggepjfhgalkaaGreatDoorW.PrintWords Go.Proofs.YtpggepjfhgalkaaGreatDoorW.PrintLast Go.Proofs.YtpggepjfhgalkaaGreatDoorW.PrintMore
attribute [local go_sem] max2_int min2_int max_two min_two max_three min_three max_four min_four   -- for this text's walks alone
set_option linter.unusedVariables false
set_option linter.unusedSimpArgs false

/-! ### strings_Trim: function 142 -/
mutual
def strings_Trim.j0 : Nat → ByteArray → ByteArray → Bool → Option (ByteArray)
 | 0, _, _, _ => none
 | k + 1, x0, x1, x12 => if x12 = true then (some x0) else (if (x1.size : Int) = 1 then (if 0 < (x1.size : Int) then (strings_Trim.j1 k x0 x1 (decide ((bt x1 0) < 128))) else (none)) else (strings_Trim.j1 k x0 x1 false))
def strings_Trim.j1 : Nat → ByteArray → ByteArray → Bool → Option (ByteArray)
 | 0, _, _, _ => none
 | k + 1, x0, x1, x21 => if x21 = true then (if 0 < (x1.size : Int) then ((strings_trimRightByte.f k x0 (bt x1 0)).bind fun t327 => ((strings_trimLeftByte.f k t327 (bt x1 0)).bind fun t328 => (some t328))) else (none)) else (none)
end
def strings_Trim.f (k : Nat) (a0 : ByteArray) (a1 : ByteArray) : Option (ByteArray) := if a0.toList = ([] : List UInt8) then (strings_Trim.j0 k a0 a1 true) else (strings_Trim.j0 k a0 a1 (a1.toList == ([] : List UInt8)))
set_option maxHeartbeats 8000000 in
set_option maxRecDepth 100000 in
theorem strings_Trim.calls (k : Nat) (a0 : ByteArray) (a1 : ByteArray) (r : ByteArray) (w : World) (h : strings_Trim.f k a0 a1 = some r) :
  Calls Tryz.prog 142 #[.string a0, .string a1] w fun e w' => e = .returned (.string r) ∧ Below w.heap.size w w' := by
 have HB := Aside0.mk (Below.refl w.heap.size w)
 have H := h
 unfold strings_Trim.f at H
 clear h
 have HC3 := Aside0.mk H
 clear H
 go_enter Tryz.func142, Tryz.ntmps142
 go_upto_region 1 with (fail)
 repeat (go_quiet (fail); go_upto_region 1 with (fail))
 go_cut [12] (fun v12 wc => ∃ (kq : Nat) (x12_2 : Bool), v12 = .bool x12_2 ∧ Aside0 (strings_Trim.j0 kq a0 a1 x12_2 = some r) ∧ Aside0 (kq ≤ k) ∧ Aside0 (Below w.heap.size w wc))
 case first =>
  have H := HC3.out
  clear HC3
  by_cases c4 : a0.toList = ([] : List UInt8)
  ·rw [if_pos c4] at H
   have c4b0 : (a0.toList == ([] : List UInt8)) = true := beq_iff_eq.mpr c4
   have c4b1 : (a0.toList != ([] : List UInt8)) = false := bne_eq_false_iff_eq.mpr c4
   clear c4
   (first | rw [c4b0] | (simp only [i64_w, i32_w]; rw [c4b0]) | skip)
   have H' := Aside0.mk H
   clear H
   go_wp2
   repeat (go_quiet (fail); try go_wp2)
   go_meet
   case rel => exact ⟨_, (true), me_, H', ⟨by first | omega | exact Nat.le_refl _⟩, ⟨xw_ HB⟩⟩
  ·rw [if_neg c4] at H
   have c4b0 : (a0.toList == ([] : List UInt8)) = false := beq_eq_false_iff_ne.mpr c4
   have c4b1 : (a0.toList != ([] : List UInt8)) = true := bne_iff_ne.mpr c4
   (first | rw [c4b0] | (simp only [i64_w, i32_w]; rw [c4b0]) | skip)
   have H' := Aside0.mk H
   clear H
   go_wp2
   repeat (go_quiet (fail); try go_wp2)
   go_meet
   case rel => exact ⟨_, ((a1.toList == ([] : List UInt8))), me_, H', ⟨by first | omega | exact Nat.le_refl _⟩, ⟨xw_ HB⟩⟩
 case rest =>
  clear HC3
  obtain ⟨kq, x12_2, rfl, HA, HJ2, HB⟩ := hcut
  cases kq with
  | zero => exact absurd HA.out (by simp [strings_Trim.j0])
  | succ kj2 =>
   have H := HA.out
   clear HA
   simp only [strings_Trim.j0] at H
   by_cases c5 : x12_2 = true
   ·subst c5
    rw [if_pos rfl] at H
    obtain rfl := Option.some.inj H
    go_wp2
    repeat (go_quiet (fail); try go_wp2)
    go_ret
    exact ⟨mf_, xw_ HB⟩
   ·replace c5 := Bool.eq_false_iff.mpr c5
    subst c5
    rw [if_neg (show ¬ (false = true) by decide)] at H
    have HC6 := Aside0.mk H
    clear H
    go_upto_region 3 with (fail)
    repeat (go_quiet (fail); go_upto_region 3 with (fail))
    go_cut [21] (fun v21 wc => ∃ (kq : Nat) (x21_5 : Bool), v21 = .bool x21_5 ∧ Aside0 (strings_Trim.j1 kq a0 a1 x21_5 = some r) ∧ Aside0 (kq ≤ kj2) ∧ Aside0 (Below w.heap.size w wc))
    case first =>
     have H := HC6.out
     clear HC6
     by_cases c7 : (a1.size : Int) = 1
     ·rw [if_pos c7] at H
      have c7b0 : ((a1.size : Int) == 1) = true := beq_iff_eq.mpr c7
      have c7b1 : ((a1.size : Int) != 1) = false := bne_eq_false_iff_eq.mpr c7
      clear c7
      (first | rw [c7b0] | (simp only [i64_w, i32_w]; rw [c7b0]) | skip)
      replace H := mi_ H
      obtain ⟨c8, H⟩ := H
      have c8b0 := decide_eq_true c8
      have c8b1 : decide (0 < a1.size) = true := decide_eq_true (by omega)
      clear c8
      have H' := Aside0.mk H
      clear H
      have p9 : 0 ≤ (0 : Int) := (by omega)
      have q9 : 0 < a1.size := (by have : (0 : Int) < (a1.size : Int) := md_; omega)
      have hx9 : ∀ h : 0 < a1.size, ((a1[0]'h).toNat : Int) = bt a1 0 := bt_at a1 0
      clear p9
      have qi9 : (0 < (a1.size : Int)) = True := eq_true (md_)
      replace q9 := eq_true q9
      go_wp2
      repeat (go_quiet (fail); try go_wp2)
      go_meet
      case rel => exact ⟨_, (decide ((bt a1 0) < 128)), me_, H', ⟨by have := HJ2.out; first | omega | exact Nat.le_refl _⟩, ⟨xw_ HB⟩⟩
     ·rw [if_neg c7] at H
      have c7b0 : ((a1.size : Int) == 1) = false := beq_eq_false_iff_ne.mpr c7
      have c7b1 : ((a1.size : Int) != 1) = true := bne_iff_ne.mpr c7
      (first | rw [c7b0] | (simp only [i64_w, i32_w]; rw [c7b0]) | skip)
      have H' := Aside0.mk H
      clear H
      go_wp2
      repeat (go_quiet (fail); try go_wp2)
      go_meet
      case rel => exact ⟨_, (false), me_, H', ⟨by have := HJ2.out; first | omega | exact Nat.le_refl _⟩, ⟨xw_ HB⟩⟩
    case rest =>
     clear HC6
     try clear c5
     obtain ⟨kq, x21_5, rfl, HA, HJ5, HB⟩ := hcut
     cases kq with
     | zero => exact absurd HA.out (by simp [strings_Trim.j1])
     | succ kj5 =>
      have H := HA.out
      clear HA
      simp only [strings_Trim.j1] at H
      by_cases c10 : x21_5 = true
      ·subst c10
       rw [if_pos rfl] at H
       replace H := mi_ H
       obtain ⟨c11, H⟩ := H
       have c11b0 := decide_eq_true c11
       have c11b1 : decide (0 < a1.size) = true := decide_eq_true (by omega)
       clear c11
       replace H := mb_ H
       obtain ⟨t327, A13, H⟩ := H
       replace H := mb_ H
       obtain ⟨t328, A15, H⟩ := H
       obtain rfl := Option.some.inj H
       have p12 : 0 ≤ (0 : Int) := (by omega)
       have q12 : 0 < a1.size := (by have : (0 : Int) < (a1.size : Int) := md_; omega)
       have hx12 : ∀ h : 0 < a1.size, ((a1[0]'h).toNat : Int) = bt a1 0 := bt_at a1 0
       clear p12
       have qi12 : (0 < (a1.size : Int)) = True := eq_true (md_)
       replace q12 := eq_true q12
       go_wp2_with (first | (go_at_call 174; (with_reducible refine (strings_trimRightByte.calls kj5 a0 (bt a1 0) t327 _ A13.out).mono ?_); rintro e w' ⟨rfl, ⟨nd, rfl⟩⟩; (try first | exact ⟨rfl, _, World.drewN_drewN _ _ _⟩ | exact ⟨rfl, _, Eq.trans (World.drewN_drewN _ _ _) (congrArg (World.drewN _) (Nat.add_assoc _ _ _))⟩); have p14 : 0 ≤ (0 : Int) := (by omega); have q14 : 0 < a1.size := (by have : (0 : Int) < (a1.size : Int) := md_; omega); have hx14 : ∀ h : 0 < a1.size, ((a1[0]'h).toNat : Int) = bt a1 0 := bt_at a1 0; clear p14; have qi14 : (0 < (a1.size : Int)) = True := eq_true (md_); replace q14 := eq_true q14) | (go_at_call 173; (with_reducible refine (strings_trimLeftByte.calls kj5 t327 (bt a1 0) t328 _ A15.out).mono ?_); rintro e w' ⟨rfl, ⟨nd, rfl⟩⟩; (try first | exact ⟨rfl, _, World.drewN_drewN _ _ _⟩ | exact ⟨rfl, _, Eq.trans (World.drewN_drewN _ _ _) (congrArg (World.drewN _) (Nat.add_assoc _ _ _))⟩)))
       repeat (go_quiet (first | (go_at_call 174; (with_reducible refine (strings_trimRightByte.calls kj5 a0 (bt a1 0) t327 _ A13.out).mono ?_); rintro e w' ⟨rfl, ⟨nd, rfl⟩⟩; (try first | exact ⟨rfl, _, World.drewN_drewN _ _ _⟩ | exact ⟨rfl, _, Eq.trans (World.drewN_drewN _ _ _) (congrArg (World.drewN _) (Nat.add_assoc _ _ _))⟩); have p14 : 0 ≤ (0 : Int) := (by omega); have q14 : 0 < a1.size := (by have : (0 : Int) < (a1.size : Int) := md_; omega); have hx14 : ∀ h : 0 < a1.size, ((a1[0]'h).toNat : Int) = bt a1 0 := bt_at a1 0; clear p14; have qi14 : (0 < (a1.size : Int)) = True := eq_true (md_); replace q14 := eq_true q14) | (go_at_call 173; (with_reducible refine (strings_trimLeftByte.calls kj5 t327 (bt a1 0) t328 _ A15.out).mono ?_); rintro e w' ⟨rfl, ⟨nd, rfl⟩⟩; (try first | exact ⟨rfl, _, World.drewN_drewN _ _ _⟩ | exact ⟨rfl, _, Eq.trans (World.drewN_drewN _ _ _) (congrArg (World.drewN _) (Nat.add_assoc _ _ _))⟩))); try go_wp2_with (first | (go_at_call 174; (with_reducible refine (strings_trimRightByte.calls kj5 a0 (bt a1 0) t327 _ A13.out).mono ?_); rintro e w' ⟨rfl, ⟨nd, rfl⟩⟩; (try first | exact ⟨rfl, _, World.drewN_drewN _ _ _⟩ | exact ⟨rfl, _, Eq.trans (World.drewN_drewN _ _ _) (congrArg (World.drewN _) (Nat.add_assoc _ _ _))⟩); have p14 : 0 ≤ (0 : Int) := (by omega); have q14 : 0 < a1.size := (by have : (0 : Int) < (a1.size : Int) := md_; omega); have hx14 : ∀ h : 0 < a1.size, ((a1[0]'h).toNat : Int) = bt a1 0 := bt_at a1 0; clear p14; have qi14 : (0 < (a1.size : Int)) = True := eq_true (md_); replace q14 := eq_true q14) | (go_at_call 173; (with_reducible refine (strings_trimLeftByte.calls kj5 t327 (bt a1 0) t328 _ A15.out).mono ?_); rintro e w' ⟨rfl, ⟨nd, rfl⟩⟩; (try first | exact ⟨rfl, _, World.drewN_drewN _ _ _⟩ | exact ⟨rfl, _, Eq.trans (World.drewN_drewN _ _ _) (congrArg (World.drewN _) (Nat.add_assoc _ _ _))⟩))))
       go_ret
       exact ⟨mf_, xw_ HB⟩
      ·replace c10 := Bool.eq_false_iff.mpr c10
       subst c10
       rw [if_neg (show ¬ (false = true) by decide)] at H
       exact absurd H (by simp)

/-! ### impl_GoodField: function 152 -/
def impl_GoodField.f (k : Nat) (a0_0 : ByteArray) (a0_1 : ByteArray) : Option (Bool) := (impl_isToken.f a0_0).bind fun t330 => (if t330 = true then ((impl_isPrinted.f a0_1 300).bind fun t331 => (if t331 = true then ((strings_Trim.f k a0_1 (⟨#[32]⟩ : ByteArray)).bind fun t332 => (some (t332.toList == a0_1.toList))) else (some false))) else (some false))
def impl_GoodField.T1 : Bool × List (List Nat × List Nat) := (true, [([], []), ([0], [0]), ([1], [1]), ([2, 2], [2]), ([3], [3]), ([4, 3], [3, 4]), ([5, 3, 3], [3, 5]), ([3, 6], [3, 6]), ([7, 6], [7]), ([8], [8]), ([9, 8], [8, 9]), ([10, 8, 8], [8, 10]), ([8], [8]), ([12, 8], [8, 12]), ([11, 13, 8], [8, 11, 13]), ([8, 14], [8, 14]), ([15, 11, 0, 1, 2, 3, 4, 5, 6, 7, 8, 9, 10, 11, 12, 13, 14, 15], [15])])
def impl_GoodField.B1 : List Nat := [0, 1, 3, 7, 15, 31, 63, 127, 255, 511, 1023, 2047, 511, 4607, 16383, 32767, 65535]
theorem impl_GoodField.tab1 : rtab .any (opsOf Tryz.f152 1) = impl_GoodField.T1 := by kernel_rfl
theorem impl_GoodField.bits1 : waitsOk impl_GoodField.T1.2 impl_GoodField.B1 = true := by kernel_rfl
set_option maxHeartbeats 8000000 in
set_option maxRecDepth 100000 in
theorem impl_GoodField.calls (k : Nat) (a0_0 : ByteArray) (a0_1 : ByteArray) (r : Bool) (w : World) (h : impl_GoodField.f k a0_0 a0_1 = some r) :
  Calls Tryz.prog 152 #[.agg #[.string a0_0, .string a0_1]] w fun e w' => e = .returned (.bool r) ∧ Below w.heap.size w w' := by
 have hu105 := Tryz.underlying105
 have HB := Aside0.mk (Below.refl w.heap.size w)
 have H := h
 unfold impl_GoodField.f at H
 clear h
 replace H := mb_ H
 obtain ⟨t330, A2, H⟩ := H
 by_cases c3 : t330 = true
 ·subst c3
  rw [if_pos rfl] at H
  replace H := mb_ H
  obtain ⟨t331, A4, H⟩ := H
  by_cases c5 : t331 = true
  ·subst c5
   rw [if_pos rfl] at H
   replace H := mb_ H
   obtain ⟨t332, A6, H⟩ := H
   obtain rfl := Option.some.inj H
   go_enter Tryz.func152, Tryz.ntmps152
   try go_wp2_with (first | ((with_reducible refine gd_ 1 ?_); refine xbe_ (N := 1) (cs := #[.string a0_0, .string a0_1]) (t := 105) ?_; intro gb329 hg w7 hbox hb; have BK329 := Aside0.mk (hbox); have GE329 := xge_ HB hg; replace HB := xws_ HB hb; clear hb hbox hg))
   replace BK329 := Aside0.mk (blk_drew BK329.out)
   replace HB := Aside0.mk (below_drew1 HB.out)
   refine ms_ 17 (fun w' => w'.cell? ⟨gb329, 0, none⟩ = some (.string a0_0) ∧ w'.cell? ⟨gb329, 1, none⟩ = some (.string a0_1)) impl_GoodField.tab1 impl_GoodField.bits1 ⟨xk_ BK329 0, xk_ BK329 1⟩ (fun hHeld HT_ HW_ => ?_)
   generalize w7.drew = w8 at BK329 HB hHeld ⊢
   refine mp_ 0 3 ?_
   refine mt_ 1 4 hHeld ?_
   refine m1_ 2 5 Tryz.func97 #[.string a0_0] ?_
   with_reducible refine (impl_isToken.calls a0_0 true _ A2.out).mono ?_
   rintro e w9 ⟨rfl, hb⟩
   refine ⟨_, rfl, ?_⟩
   replace BK329 := xbb_ BK329 hb
   replace HB := xws_ HB hb
   (try clear hb)
   refine ⟨⟨xk_ BK329 0, xk_ BK329 1⟩, fun hHeld => ?_⟩
   refine mn_ 5 ?_
   refine mp_ 3 6 ?_
   refine mp_ 4 7 ?_
   refine mt_ 5 8 hHeld ?_
   refine m1_ 6 9 Tryz.func141 #[.string a0_1, .int .i64 300] ?_
   with_reducible refine (impl_isPrinted.calls a0_1 300 true _ A4.out).mono ?_
   rintro e w10 ⟨rfl, hb⟩
   refine ⟨_, rfl, ?_⟩
   replace BK329 := xbb_ BK329 hb
   replace HB := xws_ HB hb
   (try clear hb)
   refine ⟨⟨xk_ BK329 0, xk_ BK329 1⟩, fun hHeld => ?_⟩
   refine mn_ 9 ?_
   refine mp_ 7 10 ?_
   refine mp_ 8 11 ?_
   refine mp_ 9 12 ?_
   refine mp_ 12 15 ?_
   refine mt_ 10 13 hHeld ?_
   refine mt_ 13 16 hHeld ?_
   refine m1_ 11 14 Tryz.func142 #[.string a0_1, .string (⟨#[32]⟩ : ByteArray)] ?_
   with_reducible refine (strings_Trim.calls k a0_1 (⟨#[32]⟩ : ByteArray) t332 _ A6.out).mono ?_
   rintro e w11 ⟨rfl, hb⟩
   refine ⟨_, rfl, ?_⟩
   replace BK329 := xbb_ BK329 hb
   replace HB := xws_ HB hb
   (try clear hb)
   refine ⟨⟨xk_ BK329 0, xk_ BK329 1⟩, fun hHeld => ?_⟩
   refine mn_ 14 ?_
   refine mp_ 14 17 ?_
   refine mp_ 15 18 ?_
   refine mp_ 16 2 ?_
   refine done_ (done_of HT_.out (by kernel_rfl)) ?_
   try go_wp2
   go_ret
   exact ⟨mf_, xw_ HB⟩
  ·replace c5 := Bool.eq_false_iff.mpr c5
   subst c5
   rw [if_neg (show ¬ (false = true) by decide)] at H
   obtain rfl := Option.some.inj H
   go_enter Tryz.func152, Tryz.ntmps152
   try go_wp2_with (first | ((with_reducible refine gd_ 1 ?_); refine xbe_ (N := 1) (cs := #[.string a0_0, .string a0_1]) (t := 105) ?_; intro gb329 hg w12 hbox hb; have BK329 := Aside0.mk (hbox); have GE329 := xge_ HB hg; replace HB := xws_ HB hb; clear hb hbox hg))
   replace BK329 := Aside0.mk (blk_drew BK329.out)
   replace HB := Aside0.mk (below_drew1 HB.out)
   refine ms_ 17 (fun w' => w'.cell? ⟨gb329, 0, none⟩ = some (.string a0_0) ∧ w'.cell? ⟨gb329, 1, none⟩ = some (.string a0_1)) impl_GoodField.tab1 impl_GoodField.bits1 ⟨xk_ BK329 0, xk_ BK329 1⟩ (fun hHeld HT_ HW_ => ?_)
   generalize w12.drew = w13 at BK329 HB hHeld ⊢
   refine mp_ 0 3 ?_
   refine mt_ 1 4 hHeld ?_
   refine m1_ 2 5 Tryz.func97 #[.string a0_0] ?_
   with_reducible refine (impl_isToken.calls a0_0 true _ A2.out).mono ?_
   rintro e w14 ⟨rfl, hb⟩
   refine ⟨_, rfl, ?_⟩
   replace BK329 := xbb_ BK329 hb
   replace HB := xws_ HB hb
   (try clear hb)
   refine ⟨⟨xk_ BK329 0, xk_ BK329 1⟩, fun hHeld => ?_⟩
   refine mn_ 5 ?_
   refine mp_ 3 6 ?_
   refine mp_ 4 7 ?_
   refine mt_ 5 8 hHeld ?_
   refine m1_ 6 9 Tryz.func141 #[.string a0_1, .int .i64 300] ?_
   with_reducible refine (impl_isPrinted.calls a0_1 300 false _ A4.out).mono ?_
   rintro e w15 ⟨rfl, hb⟩
   refine ⟨_, rfl, ?_⟩
   replace BK329 := xbb_ BK329 hb
   replace HB := xws_ HB hb
   (try clear hb)
   refine ⟨⟨xk_ BK329 0, xk_ BK329 1⟩, fun hHeld => ?_⟩
   refine mn_ 9 ?_
   refine mp_ 7 10 ?_
   refine mp_ 8 11 ?_
   refine mu_ 9 12 ?_
   refine mu_ 10 13 ?_
   refine mu_ 11 14 ?_
   refine mu_ 12 15 ?_
   refine mu_ 13 16 ?_
   refine mu_ 14 17 ?_
   refine mp_ 15 18 ?_
   refine mp_ 16 2 ?_
   refine done_ (done_of HT_.out (by kernel_rfl)) ?_
   try go_wp2
   go_ret
   exact ⟨mf_, xw_ HB⟩
 ·replace c3 := Bool.eq_false_iff.mpr c3
  subst c3
  rw [if_neg (show ¬ (false = true) by decide)] at H
  obtain rfl := Option.some.inj H
  go_enter Tryz.func152, Tryz.ntmps152
  try go_wp2_with (first | ((with_reducible refine gd_ 1 ?_); refine xbe_ (N := 1) (cs := #[.string a0_0, .string a0_1]) (t := 105) ?_; intro gb329 hg w16 hbox hb; have BK329 := Aside0.mk (hbox); have GE329 := xge_ HB hg; replace HB := xws_ HB hb; clear hb hbox hg))
  replace BK329 := Aside0.mk (blk_drew BK329.out)
  replace HB := Aside0.mk (below_drew1 HB.out)
  refine ms_ 17 (fun w' => w'.cell? ⟨gb329, 0, none⟩ = some (.string a0_0) ∧ w'.cell? ⟨gb329, 1, none⟩ = some (.string a0_1)) impl_GoodField.tab1 impl_GoodField.bits1 ⟨xk_ BK329 0, xk_ BK329 1⟩ (fun hHeld HT_ HW_ => ?_)
  generalize w16.drew = w17 at BK329 HB hHeld ⊢
  refine mp_ 0 3 ?_
  refine mt_ 1 4 hHeld ?_
  refine m1_ 2 5 Tryz.func97 #[.string a0_0] ?_
  with_reducible refine (impl_isToken.calls a0_0 false _ A2.out).mono ?_
  rintro e w18 ⟨rfl, hb⟩
  refine ⟨_, rfl, ?_⟩
  replace BK329 := xbb_ BK329 hb
  replace HB := xws_ HB hb
  (try clear hb)
  refine ⟨⟨xk_ BK329 0, xk_ BK329 1⟩, fun hHeld => ?_⟩
  refine mn_ 5 ?_
  refine mp_ 3 6 ?_
  refine mu_ 4 7 ?_
  refine mu_ 5 8 ?_
  refine mu_ 6 9 ?_
  refine mp_ 7 10 ?_
  refine mp_ 8 11 ?_
  refine mu_ 9 12 ?_
  refine mu_ 10 13 ?_
  refine mu_ 11 14 ?_
  refine mu_ 12 15 ?_
  refine mu_ 13 16 ?_
  refine mu_ 14 17 ?_
  refine mp_ 15 18 ?_
  refine mp_ 16 2 ?_
  refine done_ (done_of HT_.out (by kernel_rfl)) ?_
  try go_wp2
  go_ret
  exact ⟨mf_, xw_ HB⟩

set_option maxHeartbeats 4000000 in
/-- slices.IndexFunc: the first place at which the predicate holds -/
theorem xIndexFunc_T105 (p : S105 → Option Bool) (g : Nat) (lb : Array Value) (eg : ∀ args w, (callFunc g args).run Tryz.prog w = .ok (.enter g args) w) (A0 : Option Addr) (c0 : Nat) (l0 : List S105) (i : Int) (w : World)
    (hr0 : Kd.C k105 w A0 l0.length l0) (hc0 : l0.length ≤ c0) (hbig : l0.length < 9223372036854775807)
    (hp : ∀ (W : World) (x : S105) (b : Bool), Below w.heap.size w W → p x = some b → Calls Tryz.prog g (#[.agg #[.string x.f0, .string x.f1]] ++ lb) W fun e w' => e = .returned (.bool b) ∧ Below w.heap.size w w')
    (h : idxO p l0 0 = some i) :
    Calls Tryz.prog 217 #[.slice A0 l0.length c0, .func (.func g) #[] lb] w fun e w' => e = .returned (.int .i64 i) ∧ Below w.heap.size w w' := by
  have HR0 := Aside0.mk hr0
  have HC0 := Aside0.mk hc0
  have HP := Aside0.mk hp
  have HI := Aside0.mk h
  clear hr0 hc0 hp h
  go_enter Tryz.func217, Tryz.ntmps217
  go_wp2
  go_loopg [5, 8] l0.length (fun gg _ s8 wr => ∃ kk : Nat, kk ≤ l0.length ∧ l0.length - kk ≤ gg ∧ s8 = .int .i64 kk ∧ Aside0 (Below w.heap.size w wr) ∧ Aside0 (idxO p (l0.drop kk) (kk : Int) = some i))
  case atStart => exact ⟨0, Nat.zero_le _, by omega, rfl, ⟨Below.refl _ w⟩, HI⟩
  case round =>
    obtain ⟨kk, hkk, hg, rfl, BW, A⟩ := hrel
    clear HI
    by_cases hlt : kk < l0.length
    · have hltz : (kk : Int) < (l0.length : Int) := by omega
      have H := A.out
      clear A
      rw [idxO_at p l0 kk hlt] at H
      obtain ⟨b, hb, H⟩ := Option.bind_eq_some_iff.mp H
      have hcall := HP.out wr l0[kk] b BW.out hb
      have hrd : rd_T105 l0 (kk : Int) = l0[kk] := by unfold rd_T105; simp [List.getD_eq_getElem?_getD, hlt]
      obtain ⟨ad, he, hy0, hy1⟩ := at_T105 (Kd.C_below HR0.out BW.out) (kk : Int) (by omega) hltz
      cases he
      have hx0 : wr.cell? (ad.add (kk * 2)) = some (.string (l0[kk].f0)) := by rw [← hrd]; exact hy0
      have hx1 : wr.cell? ⟨(ad.add (kk * 2)).block, (ad.add (kk * 2)).off + 1, none⟩ = some (.string (l0[kk].f1)) := by rw [← hrd]; exact hy1
      clear hy0 hy1
      generalize l0[kk] = x at *
      cases b with
      | true =>
        obtain rfl : (kk : Int) = i := Option.some.inj H
        clear H hb
        go_wp2_with (go_at_fn g; refine hcall.mono ?_; rintro e w' ⟨rfl, hb'⟩)
        go_ret
        exact ⟨rfl, hb'⟩
      | false =>
        have H' := Aside0.mk H
        clear H hb
        go_wp2_with (go_at_fn g; refine hcall.mono ?_; rintro e w' ⟨rfl, hb'⟩)
        go_roundg (l0.length - (kk + 1))
        case measure => omega
        case rel => exact ⟨kk + 1, by omega, by omega, by go_num, ⟨hb'⟩, ⟨by have z := H'.out; rw [if_neg (by decide)] at z; exact z⟩⟩
    · have hltz : ¬ (kk : Int) < (l0.length : Int) := by omega
      have H := A.out
      rw [List.drop_of_length_le (by omega)] at H
      obtain rfl : (-1 : Int) = i := Option.some.inj H
      clear H A
      go_wp2
      go_ret
      exact ⟨rfl, BW.out⟩
set_option maxHeartbeats 4000000 in
theorem xContainsFunc_T105 (p : S105 → Option Bool) (g : Nat) (lb : Array Value) (eg : ∀ args w, (callFunc g args).run Tryz.prog w = .ok (.enter g args) w) (A0 : Option Addr) (c0 : Nat) (l0 : List S105) (i : Int) (w : World)
    (hr0 : Kd.C k105 w A0 l0.length l0) (hc0 : l0.length ≤ c0) (hbig : l0.length < 9223372036854775807)
    (hp : ∀ (W : World) (x : S105) (b : Bool), Below w.heap.size w W → p x = some b → Calls Tryz.prog g (#[.agg #[.string x.f0, .string x.f1]] ++ lb) W fun e w' => e = .returned (.bool b) ∧ Below w.heap.size w w')
    (h : idxO p l0 0 = some i) :
    Calls Tryz.prog 194 #[.slice A0 l0.length c0, .func (.func g) #[] lb] w fun e w' => e = .returned (.bool (decide (i ≥ 0))) ∧ Below w.heap.size w w' := by
  have hcall := xIndexFunc_T105 p g lb eg A0 c0 l0 i w hr0 hc0 hbig hp h
  clear hr0 hc0 hbig hp h
  go_enter Tryz.func194, Tryz.ntmps194
  go_wp2_with (go_at_call 217; refine hcall.mono ?_; rintro e w' ⟨rfl, hb'⟩)
  go_ret
  exact ⟨rfl, hb'⟩
/-! ### xAll_T105_impl_GoodField: function 151, with function 152 -/
def xAll_T105_impl_GoodField.z (k : Nat) (x : S105) : Option Bool := (impl_GoodField.f k x.f0 x.f1).bind fun b => some (!b)
def xAll_T105_impl_GoodField.f (k : Nat) (l0 : List S105) : Option (Bool) := if l0.length < 9223372036854775807 then ((idxO (xAll_T105_impl_GoodField.z k) l0 0).bind fun i => some (!decide (i ≥ 0))) else none
set_option maxHeartbeats 8000000 in
set_option maxRecDepth 100000 in
theorem xAll_T105_impl_GoodField.calls (k : Nat) (A0 : Option Addr) (c0 : Nat) (l0 : List S105) (r : Bool) (w : World) (hr0 : Kd.C k105 w A0 l0.length l0) (hc0 : l0.length ≤ c0) (h : xAll_T105_impl_GoodField.f k l0 = some r) :
    Calls Tryz.prog 151 #[.slice A0 l0.length c0, .func (.func 152) #[] #[]] w fun e w' => e = .returned (.bool r) ∧ Below w.heap.size w w' := by
  have hbig : l0.length < 9223372036854775807 := by
    by_cases c : l0.length < 9223372036854775807
    · exact c
    · unfold xAll_T105_impl_GoodField.f at h; rw [if_neg c] at h; cases h
  have h1 : ((idxO (xAll_T105_impl_GoodField.z k) l0 0).bind fun i => some (!decide (i ≥ 0))) = some r := by unfold xAll_T105_impl_GoodField.f at h; rw [if_pos hbig] at h; exact h
  clear h
  obtain ⟨i, hi1, hi2⟩ := Option.bind_eq_some_iff.mp h1
  clear h1
  obtain rfl := Option.some.inj hi2
  clear hi2
  have eg : ∀ args w, (callFunc 195 args).run Tryz.prog w = .ok (.enter 195 args) w := enters_of Tryz.func195 (by kernel_rfl) rfl
  have hb1 : Below w.heap.size w (w.alloc (.cells #[.func (.func 152) #[] #[]] 126)) := (Below.refl _ w).alloc (Nat.le_refl _) _
  have hcall := xContainsFunc_T105 (xAll_T105_impl_GoodField.z k) 195 #[.pointer (some ⟨w.heap.size, 0, none⟩)] eg A0 c0 l0 i (w.alloc (.cells #[.func (.func 152) #[] #[]] 126)) (Kd.C_below hr0 hb1) hc0 hbig
    (by
      intro W x b hb hz
      have hcell : W.cell? ⟨w.heap.size, 0, none⟩ = some (.func (.func 152) #[] #[]) := (hb.cell (p := ⟨w.heap.size, 0, none⟩) (by simp)).trans (by simp)
      obtain ⟨b2, hq, hb2⟩ := Option.bind_eq_some_iff.mp hz
      obtain rfl : (!b2) = b := Option.some.inj hb2
      have hq' := Aside0.mk hq
      have hb' := Aside0.mk hb
      clear hb hz hb2 hq
      show Calls Tryz.prog 195 #[.agg #[.string x.f0, .string x.f1], .pointer (some ⟨w.heap.size, 0, none⟩)] W _
      have hsz : w.heap.size < W.heap.size := by have z := hb'.out.size; simp at z; omega
      go_enter Tryz.func195, Tryz.ntmps195
      go_wp2_with (go_at_call 152; refine (impl_GoodField.calls k x.f0 x.f1 b2 _ hq'.out).mono ?_; rintro e w' ⟨rfl, hb2⟩)
      go_ret
      exact ⟨rfl, below_step (by repeat (first | (with_reducible first | exact hb'.out | apply below_alloc | apply pw_below_drewN | apply below_drew1) | exact hb'.out)) hb2⟩)
    hi1
  have hb1' := Aside0.mk hb1
  clear hr0 hc0 hbig hi1 hb1 eg
  go_enter Tryz.func151, Tryz.ntmps151
  go_wp2_with (go_at_call 194; refine hcall.mono ?_; rintro e w' ⟨rfl, hb'⟩)
  go_ret
  exact ⟨rfl, below_then hb1'.out (by simp) hb'⟩

end Go.Proofs.YtpggepjfhgalkaaGreatDoor.PFnExactMatches
