-- Written by a program of this project (xprint.py) out of the translation; Lean checks it.
import Derived.Test.YtpggepjfhgalkaaGreatDoorPFnExactKeyOfx0
import Derived.Test.YtpggepjfhgalkaaGreatDoorPFnExactKeyOfx1
namespace Go.Proofs.YtpggepjfhgalkaaGreatDoor.PFnExactKeyOf
open Go.RowKit Go.Proofs.YtpggepjfhgalkaaGreatDoorW.PrintWords Go.Proofs.YtpggepjfhgalkaaGreatDoorW.PrintLast Go.Proofs.YtpggepjfhgalkaaGreatDoorW.PrintMore
attribute [local go_sem] max2_int min2_int max_two min_two max_three min_three max_four min_four   -- for this text's walks alone
set_option linter.unusedVariables false
set_option linter.unusedSimpArgs false

/-! ### spec_l1Hex: function 153 -/
def spec_l1Hex.j0 : Nat → Int → Bool → Option (Int)
 | 0,_,_ => none
 | k + 1,x0,x9 => if x9 = true then (some (((x0 - 97) % 256) + 10)) else (if x0 ≥ 65 then (if x0 ≤ 70 then (some (((x0 - 65) % 256) + 10)) else (some (-1))) else (some (-1)))
def spec_l1Hex.f (k : Nat) (a0 : Int) : Option (Int):=(spec_l1Digit.f a0).bind fun t112 => (if t112 = true then (some ((a0 - 48) % 256)) else (if a0 ≥ 97 then (spec_l1Hex.j0 k a0 (decide (a0 ≤ 102))) else (spec_l1Hex.j0 k a0 false)))
theorem spec_l1Hex.mono_l : ∀ k,(∀ y0 y1,LeO (spec_l1Hex.j0 k y0 y1) (spec_l1Hex.j0 (k + 1) y0 y1))
 | 0 => fun _ _ r h => by simp [spec_l1Hex.j0] at h
 | k + 1 => by
  have ih0:=spec_l1Hex.mono_l k
  ·intro y0 y1
   unfold spec_l1Hex.j0
   repeat' first
   | (with_reducible exact ih0 _ _)
   | (with_reducible exact LeO.refl _)
   | (with_reducible exact LeO.none _)
   | (with_reducible refine LeO.ite ?_ ?_)
   | (with_reducible refine LeO.bind ?_ (fun _ => ?_))
   | exact ih0 _ _
   | exact LeO.none _
   | refine LeO.ite ?_ ?_
   | refine LeO.bind ?_ (fun _ => ?_)
theorem spec_l1Hex.mono : ∀ a0 k,LeO (spec_l1Hex.f k a0) (spec_l1Hex.f (k + 1) a0):=by
 intro a0 k
 have ih0:=spec_l1Hex.mono_l k
 unfold spec_l1Hex.f
 repeat' first
   | (with_reducible exact ih0 _ _)
   | (with_reducible exact LeO.refl _)
   | (with_reducible exact LeO.none _)
   | (with_reducible refine LeO.ite ?_ ?_)
   | (with_reducible refine LeO.bind ?_ (fun _ => ?_))
   | exact ih0 _ _
   | exact LeO.none _
   | refine LeO.ite ?_ ?_
   | refine LeO.bind ?_ (fun _ => ?_)
set_option maxHeartbeats 8000000 in
set_option maxRecDepth 100000 in
theorem spec_l1Hex.calls (k : Nat) (a0 : Int) (r : Int) (w : World) (h : spec_l1Hex.f k a0 = some r) :
  Calls Tryz.prog 153 #[.int .u8 a0] w fun e w' => e = .returned (.int .i64 r) ∧ Drawn0 w w':=by
 have H:=h
 unfold spec_l1Hex.f at H
 clear h
 replace H:=mb_ H
 obtain ⟨t112,A2,H⟩:=H
 by_cases c3 : t112 = true
 ·subst c3
  rw [if_pos rfl] at H
  obtain rfl:=Option.some.inj H
  go_enter Tryz.func153,Tryz.ntmps153
  go_wp2_with (first | ((with_reducible refine gc_ 106 ?_);refine xgl_ (some 5) Tryz.func106 #[.int .u8 a0] ?_;(with_reducible refine (spec_l1Digit.calls a0 true _ A2.out).mono ?_);rintro e w' ⟨rfl,⟨nd,rfl⟩⟩;refine ⟨_,rfl,?_⟩))
  go_ret
  exact ⟨by first | rfl | (simp;done) | (simp [*];done),by repeat (first | exact Drawn0.refl _ | apply Drawn0.step)⟩
 ·replace c3:=Bool.eq_false_iff.mpr c3
  subst c3
  rw [if_neg (show ¬ (false = true) by decide)] at H
  have HC4:=Aside0.mk H
  clear H
  go_enter Tryz.func153,Tryz.ntmps153
  go_upto_region 3 with (first | ((with_reducible refine gc_ 106 ?_);refine xgl_ (some 5) Tryz.func106 #[.int .u8 a0] ?_;(with_reducible refine (spec_l1Digit.calls a0 false _ A2.out).mono ?_);rintro e w' ⟨rfl,⟨nd,rfl⟩⟩;refine ⟨_,rfl,?_⟩))
  (try simp only [Act.put,List.setIfInBounds_toArray,List.set_cons_zero,List.set_cons_succ])
  go_cut [9] (fun v9 wc => ∃ (kq : Nat) (x9_3 : Bool),v9 = .bool x9_3 ∧ Aside0 (spec_l1Hex.j0 kq a0 x9_3 = some r) ∧ Aside0 (kq ≤ k) ∧ Drawn0 w wc)
  case first =>
   have H:=HC4.out
   clear HC4
   by_cases c5 : a0 ≥ 97
   ·rw [if_pos c5] at H
    have c5b0 : decide (97 ≤ a0) = true:=decide_eq_true c5
    clear c5
    (first | rw [c5b0] | (simp only [i64_w,i32_w];rw [c5b0]) | skip)
    have H':=Aside0.mk H
    clear H
    go_wp2
    go_meet
    case rel => exact ⟨_,(decide (a0 ≤ 102)),me_,H',⟨by first | omega | exact Nat.le_refl _⟩,by repeat (first | exact Drawn0.refl _ | apply Drawn0.step)⟩
   ·rw [if_neg c5] at H
    have c5b0 : decide (97 ≤ a0) = false:=decide_eq_false c5
    clear c5
    (first | rw [c5b0] | (simp only [i64_w,i32_w];rw [c5b0]) | skip)
    have H':=Aside0.mk H
    clear H
    go_wp2
    go_meet
    case rel => exact ⟨_,(false),me_,H',⟨by first | omega | exact Nat.le_refl _⟩,by repeat (first | exact Drawn0.refl _ | apply Drawn0.step)⟩
  case rest =>
   clear HC4
   try clear c3
   obtain ⟨kq,x9_3,rfl,HA,HJ3,⟨mc3,rfl⟩⟩:=hcut
   cases kq with
   | zero => exact absurd HA.out (by simp [spec_l1Hex.j0])
   | succ kj3 =>
    have H:=HA.out
    clear HA
    simp only [spec_l1Hex.j0] at H
    by_cases c6 : x9_3 = true
    ·subst c6
     rw [if_pos rfl] at H
     obtain rfl:=Option.some.inj H
     go_wp2
     go_ret
     exact ⟨by first | rfl | (simp;done) | (simp [*];done),by repeat (first | exact Drawn0.refl _ | apply Drawn0.step)⟩
    ·replace c6:=Bool.eq_false_iff.mpr c6
     subst c6
     rw [if_neg (show ¬ (false = true) by decide)] at H
     by_cases c7 : a0 ≥ 65
     ·rw [if_pos c7] at H
      have c7b0 : decide (65 ≤ a0) = true:=decide_eq_true c7
      clear c7
      by_cases c8 : a0 ≤ 70
      ·rw [if_pos c8] at H
       have c8b0:=decide_eq_true c8
       clear c8
       obtain rfl:=Option.some.inj H
       go_wp2
       go_ret
       exact ⟨by first | rfl | (simp;done) | (simp [*];done),by repeat (first | exact Drawn0.refl _ | apply Drawn0.step)⟩
      ·rw [if_neg c8] at H
       have c8b0:=decide_eq_false c8
       clear c8
       obtain rfl:=Option.some.inj H
       go_wp2
       go_ret
       exact ⟨by first | rfl | (simp;done) | (simp [*];done),by repeat (first | exact Drawn0.refl _ | apply Drawn0.step)⟩
     ·rw [if_neg c7] at H
      have c7b0 : decide (65 ≤ a0) = false:=decide_eq_false c7
      clear c7
      obtain rfl:=Option.some.inj H
      go_wp2
      go_ret
      exact ⟨by first | rfl | (simp;done) | (simp [*];done),by repeat (first | exact Drawn0.refl _ | apply Drawn0.step)⟩

/-! ### spec_l1Byte: function 109 -/
def spec_l1Byte.j0 : Nat → ByteArray → Int → Bool → Option (Int)
 | 0,_,_,_ => none
 | k + 1,x0,x1,x17 => if x17 = true then (some (-1)) else (if 0 ≤ (wrap64 (x1 + 1)) then (if (wrap64 (x1 + 1)) < (x0.size : Int) then ((spec_l1Hex.f k (bt x0 (wrap64 (x1 + 1)))).bind fun t113 => (if 0 ≤ (wrap64 (x1 + 2)) then (if (wrap64 (x1 + 2)) < (x0.size : Int) then ((spec_l1Hex.f k (bt x0 (wrap64 (x1 + 2)))).bind fun t114 => (if t113 < 0 then (some (-1)) else (if t114 < 0 then (some (-1)) else (some (wrap64 ((wrap64 (16 * t113)) + t114)))))) else (none)) else (none))) else (none)) else (none))
def spec_l1Byte.f (k : Nat) (a0 : ByteArray) (a1 : Int) : Option (Int):=if (wrap64 (a1 + 2)) ≥ (a0.size : Int) then (spec_l1Byte.j0 k a0 a1 true) else (if 0 ≤ a1 then (if a1 < (a0.size : Int) then (spec_l1Byte.j0 k a0 a1 ((bt a0 a1) != 37)) else (none)) else (none))
set_option maxHeartbeats 8000000 in
set_option maxRecDepth 100000 in
theorem spec_l1Byte.calls (k : Nat) (a0 : ByteArray) (a1 : Int) (r : Int) (w : World) (h : spec_l1Byte.f k a0 a1 = some r) :
  Calls Tryz.prog 109 #[.string a0,.int .i64 a1] w fun e w' => e = .returned (.int .i64 r) ∧ Drawn0 w w':=by
 have H:=h
 unfold spec_l1Byte.f at H
 clear h
 have HC3:=Aside0.mk H
 clear H
 go_enter Tryz.func109,Tryz.ntmps109
 go_upto_region 1 with (fail)
 go_cut [17] (fun v17 wc => ∃ (kq : Nat) (x17_2 : Bool),v17 = .bool x17_2 ∧ Aside0 (spec_l1Byte.j0 kq a0 a1 x17_2 = some r) ∧ Aside0 (kq ≤ k) ∧ Drawn0 w wc)
 case first =>
  have H:=HC3.out
  clear HC3
  by_cases c4 : (wrap64 (a1 + 2)) ≥ (a0.size : Int)
  ·rw [if_pos c4] at H
   have c4b0 : decide ((a0.size : Int) ≤ (wrap64 (a1 + 2))) = true:=decide_eq_true c4
   clear c4
   (first | rw [c4b0] | (simp only [i64_w,i32_w];rw [c4b0]) | skip)
   have H':=Aside0.mk H
   clear H
   go_wp2
   go_meet
   case rel => exact ⟨_,(true),me_,H',⟨by first | omega | exact Nat.le_refl _⟩,by repeat (first | exact Drawn0.refl _ | apply Drawn0.step)⟩
  ·rw [if_neg c4] at H
   have c4b0 : decide ((a0.size : Int) ≤ (wrap64 (a1 + 2))) = false:=decide_eq_false c4
   clear c4
   (first | rw [c4b0] | (simp only [i64_w,i32_w];rw [c4b0]) | skip)
   replace H:=mi_ H
   obtain ⟨c5,H⟩:=H
   have c5b0:=decide_eq_true c5
   clear c5
   replace H:=mi_ H
   obtain ⟨c6,H⟩:=H
   have c6b0:=decide_eq_true c6
   clear c6
   have H':=Aside0.mk H
   clear H
   have p7 : 0 ≤ (a1 : Int):=md_
   have q7 : a1 < (a0.size : Int):=md_
   have hx7:=bt_at a0 a1
   replace p7:=eq_true p7
   replace q7:=eq_true q7
   go_wp2
   go_meet
   case rel => exact ⟨_,(((bt a0 a1) != 37)),me_,H',⟨by first | omega | exact Nat.le_refl _⟩,by repeat (first | exact Drawn0.refl _ | apply Drawn0.step)⟩
 case rest =>
  clear HC3
  obtain ⟨kq,x17_2,rfl,HA,HJ2,⟨mc2,rfl⟩⟩:=hcut
  cases kq with
  | zero => exact absurd HA.out (by simp [spec_l1Byte.j0])
  | succ kj2 =>
   have H:=HA.out
   clear HA
   simp only [spec_l1Byte.j0] at H
   by_cases c8 : x17_2 = true
   ·subst c8
    rw [if_pos rfl] at H
    obtain rfl:=Option.some.inj H
    go_wp2
    go_ret
    exact ⟨by first | rfl | (simp;done) | (simp [*];done),by repeat (first | exact Drawn0.refl _ | apply Drawn0.step)⟩
   ·replace c8:=Bool.eq_false_iff.mpr c8
    subst c8
    rw [if_neg (show ¬ (false = true) by decide)] at H
    obtain ⟨ji9,hji9⟩ : ∃ j_ : Int,(wrap64 (a1 + 1)) = j_:=⟨_,rfl⟩
    replace H : (if 0 ≤ (ji9) then (if (ji9) < (a0.size : Int) then ((spec_l1Hex.f kj2 (bt a0 (ji9))).bind fun t113 => (if 0 ≤ (wrap64 (a1 + 2)) then (if (wrap64 (a1 + 2)) < (a0.size : Int) then ((spec_l1Hex.f kj2 (bt a0 (wrap64 (a1 + 2)))).bind fun t114 => (if t113 < 0 then (some (-1)) else (if t114 < 0 then (some (-1)) else (some (wrap64 ((wrap64 (16 * t113)) + t114)))))) else (none)) else (none))) else (none)) else (none)) = some r:=by first | (rw [hji9] at H;exact H) | (simp only [hji9] at H ⊢;exact H)
    have hji9w : (IntKind.i64.wrap (a1 + 1)) = ji9:=(i64_w _).trans hji9
    replace H:=mi_ H
    obtain ⟨c10,H⟩:=H
    have c10b0:=decide_eq_true c10
    clear c10
    replace H:=mi_ H
    obtain ⟨c11,H⟩:=H
    have c11b0:=decide_eq_true c11
    clear c11
    replace H:=mb_ H
    obtain ⟨t113,A13,H⟩:=H
    obtain ⟨ji14,hji14⟩ : ∃ j_ : Int,(wrap64 (a1 + 2)) = j_:=⟨_,rfl⟩
    replace H : (if 0 ≤ (ji14) then (if (ji14) < (a0.size : Int) then ((spec_l1Hex.f kj2 (bt a0 (ji14))).bind fun t114 => (if t113 < 0 then (some (-1)) else (if t114 < 0 then (some (-1)) else (some (wrap64 ((wrap64 (16 * t113)) + t114)))))) else (none)) else (none)) = some r:=by first | (rw [hji14] at H;exact H) | (simp only [hji14] at H ⊢;exact H)
    (try rw [hji14] at A13)
    have hji14w : (IntKind.i64.wrap (a1 + 2)) = ji14:=(i64_w _).trans hji14
    replace H:=mi_ H
    obtain ⟨c15,H⟩:=H
    have c15b0:=decide_eq_true c15
    clear c15
    replace H:=mi_ H
    obtain ⟨c16,H⟩:=H
    have c16b0:=decide_eq_true c16
    clear c16
    replace H:=mb_ H
    obtain ⟨t114,A18,H⟩:=H
    by_cases c19 : t113 < 0
    ·rw [if_pos c19] at H
     have c19b0:=decide_eq_true c19
     clear c19
     obtain rfl:=Option.some.inj H
     have p12 : 0 ≤ ((ji9) : Int):=md_
     have q12 : (ji9) < (a0.size : Int):=md_
     have hx12:=bt_at a0 (ji9)
     replace p12:=eq_true p12
     replace q12:=eq_true q12
     go_wp2_with (first | ((with_reducible refine gc_ 153 ?_);refine goesL_ (some 22) rfl rfl Tryz.func153 (by kernel_rfl) rfl #[.int .u8 (bt a0 (ji9))] rfl (by (try simp only [List.map_toArray,List.map_cons,List.map_nil]);first | done | (simp only [hji9];rfl) | rfl | (simp only [List.length_drop,List.length_take];rfl)) ?_;(with_reducible refine (spec_l1Hex.calls kj2 (bt a0 (ji9)) t113 _ A13.out).mono ?_);rintro e w' ⟨rfl,⟨nd,rfl⟩⟩;refine ⟨_,rfl,?_⟩;have p17 : 0 ≤ ((ji14) : Int):=md_;have q17 : (ji14) < (a0.size : Int):=md_;have hx17:=bt_at a0 (ji14);replace p17:=eq_true p17;replace q17:=eq_true q17) | ((with_reducible refine gc_ 153 ?_);refine goesL_ (some 27) rfl rfl Tryz.func153 (by kernel_rfl) rfl #[.int .u8 (bt a0 (ji14))] rfl (by (try simp only [List.map_toArray,List.map_cons,List.map_nil]);first | done | (simp only [hji14];rfl) | rfl | (simp only [List.length_drop,List.length_take];rfl)) ?_;(with_reducible refine (spec_l1Hex.calls kj2 (bt a0 (ji14)) t114 _ A18.out).mono ?_);rintro e w' ⟨rfl,⟨nd,rfl⟩⟩;refine ⟨_,rfl,?_⟩))
     go_ret
     exact ⟨by first | rfl | (simp;done) | (simp only [← hji9,← hji14] <;> (first | rfl | simp)) | (simp [*];done),by repeat (first | exact Drawn0.refl _ | apply Drawn0.step)⟩
    ·rw [if_neg c19] at H
     have c19b0:=decide_eq_false c19
     clear c19
     by_cases c20 : t114 < 0
     ·rw [if_pos c20] at H
      have c20b0:=decide_eq_true c20
      clear c20
      obtain rfl:=Option.some.inj H
      have p12 : 0 ≤ ((ji9) : Int):=md_
      have q12 : (ji9) < (a0.size : Int):=md_
      have hx12:=bt_at a0 (ji9)
      replace p12:=eq_true p12
      replace q12:=eq_true q12
      go_wp2_with (first | ((with_reducible refine gc_ 153 ?_);refine goesL_ (some 22) rfl rfl Tryz.func153 (by kernel_rfl) rfl #[.int .u8 (bt a0 (ji9))] rfl (by (try simp only [List.map_toArray,List.map_cons,List.map_nil]);first | done | (simp only [hji9];rfl) | rfl | (simp only [List.length_drop,List.length_take];rfl)) ?_;(with_reducible refine (spec_l1Hex.calls kj2 (bt a0 (ji9)) t113 _ A13.out).mono ?_);rintro e w' ⟨rfl,⟨nd,rfl⟩⟩;refine ⟨_,rfl,?_⟩;have p17 : 0 ≤ ((ji14) : Int):=md_;have q17 : (ji14) < (a0.size : Int):=md_;have hx17:=bt_at a0 (ji14);replace p17:=eq_true p17;replace q17:=eq_true q17) | ((with_reducible refine gc_ 153 ?_);refine goesL_ (some 27) rfl rfl Tryz.func153 (by kernel_rfl) rfl #[.int .u8 (bt a0 (ji14))] rfl (by (try simp only [List.map_toArray,List.map_cons,List.map_nil]);first | done | (simp only [hji14];rfl) | rfl | (simp only [List.length_drop,List.length_take];rfl)) ?_;(with_reducible refine (spec_l1Hex.calls kj2 (bt a0 (ji14)) t114 _ A18.out).mono ?_);rintro e w' ⟨rfl,⟨nd,rfl⟩⟩;refine ⟨_,rfl,?_⟩))
      go_ret
      exact ⟨by first | rfl | (simp;done) | (simp only [← hji9,← hji14] <;> (first | rfl | simp)) | (simp [*];done),by repeat (first | exact Drawn0.refl _ | apply Drawn0.step)⟩
     ·rw [if_neg c20] at H
      have c20b0:=decide_eq_false c20
      clear c20
      obtain rfl:=Option.some.inj H
      have p12 : 0 ≤ ((ji9) : Int):=md_
      have q12 : (ji9) < (a0.size : Int):=md_
      have hx12:=bt_at a0 (ji9)
      replace p12:=eq_true p12
      replace q12:=eq_true q12
      go_wp2_with (first | ((with_reducible refine gc_ 153 ?_);refine goesL_ (some 22) rfl rfl Tryz.func153 (by kernel_rfl) rfl #[.int .u8 (bt a0 (ji9))] rfl (by (try simp only [List.map_toArray,List.map_cons,List.map_nil]);first | done | (simp only [hji9];rfl) | rfl | (simp only [List.length_drop,List.length_take];rfl)) ?_;(with_reducible refine (spec_l1Hex.calls kj2 (bt a0 (ji9)) t113 _ A13.out).mono ?_);rintro e w' ⟨rfl,⟨nd,rfl⟩⟩;refine ⟨_,rfl,?_⟩;have p17 : 0 ≤ ((ji14) : Int):=md_;have q17 : (ji14) < (a0.size : Int):=md_;have hx17:=bt_at a0 (ji14);replace p17:=eq_true p17;replace q17:=eq_true q17) | ((with_reducible refine gc_ 153 ?_);refine goesL_ (some 27) rfl rfl Tryz.func153 (by kernel_rfl) rfl #[.int .u8 (bt a0 (ji14))] rfl (by (try simp only [List.map_toArray,List.map_cons,List.map_nil]);first | done | (simp only [hji14];rfl) | rfl | (simp only [List.length_drop,List.length_take];rfl)) ?_;(with_reducible refine (spec_l1Hex.calls kj2 (bt a0 (ji14)) t114 _ A18.out).mono ?_);rintro e w' ⟨rfl,⟨nd,rfl⟩⟩;refine ⟨_,rfl,?_⟩))
      go_ret
      exact ⟨by first | rfl | (simp;done) | (simp only [← hji9,← hji14] <;> (first | rfl | simp)) | (simp [*];done),by repeat (first | exact Drawn0.refl _ | apply Drawn0.step)⟩

/-! ### spec_l1Chars: function 63 -/
mutual
def spec_l1Chars.l0 : Nat → ByteArray → ByteArray → Int → Option (Bool)
 | 0,_,_,_ => none
 | k + 1,x0,x1,x5 => if x5 < (x0.size : Int) then (if 0 ≤ x5 then ((spec_l1Free.f (bt x0 x5)).bind fun t115 => (if t115 = true then (spec_l1Chars.j1 k x0 x1 x5 true) else ((spec_l1Has.f k (⟨#[33,36,38,39,40,41,42,43,44,59,61,58,64]⟩ : ByteArray) (bt x0 x5)).bind fun t116 => (if t116 = true then (spec_l1Chars.j1 k x0 x1 x5 true) else ((spec_l1Has.f k x1 (bt x0 x5)).bind fun t117 => (spec_l1Chars.j1 k x0 x1 x5 t117)))))) else (none)) else (some true)
def spec_l1Chars.j1 : Nat → ByteArray → ByteArray → Int → Bool → Option (Bool)
 | 0,_,_,_,_ => none
 | k + 1,x0,x1,x5,x26 => if x26 = true then (spec_l1Chars.l0 k x0 x1 (wrap64 (x5 + 1))) else ((spec_l1Byte.f k x0 x5).bind fun t118 => (if t118 < 0 then (some false) else (spec_l1Chars.l0 k x0 x1 (wrap64 ((wrap64 (x5 + 2)) + 1)))))
end
def spec_l1Chars.f (k : Nat) (a0 : ByteArray) (a1 : ByteArray) : Option (Bool):=spec_l1Chars.l0 k a0 a1 0
set_option maxHeartbeats 8000000 in
set_option maxRecDepth 100000 in
theorem spec_l1Chars.calls (k : Nat) (a0 : ByteArray) (a1 : ByteArray) (r : Bool) (w : World) (h : spec_l1Chars.f k a0 a1 = some r) :
  Calls Tryz.prog 63 #[.string a0,.string a1] w fun e w' => e = .returned (.bool r) ∧ Drawn0 w w':=by
 have H:=h
 unfold spec_l1Chars.f at H
 clear h
 have H':=Aside0.mk H
 clear H
 go_enter Tryz.func63,Tryz.ntmps63
 go_wp2
 go_loopg [5] k (fun kq v5 w' => ∃ (x5_1 : Int),v5 = .int .i64 x5_1 ∧ Aside0 (spec_l1Chars.l0 kq a0 a1 x5_1 = some r) ∧ Aside0 (kq ≤ k) ∧ Drawn0 w w')
 case atStart => exact ⟨(0),me_,H',⟨Nat.le_refl _⟩,by repeat (first | exact Drawn0.refl _ | apply Drawn0.step)⟩
 case round =>
  clear H'
  obtain ⟨x5_1,rfl,HA,HK1,⟨m1,rfl⟩⟩:=hrel
  cases gk with
  | zero => exact absurd HA.out (by simp [spec_l1Chars.l0])
  | succ k1 =>
   have H:=HA.out
   clear HA
   simp only [spec_l1Chars.l0] at H
   by_cases c3 : x5_1 < (a0.size : Int)
   ·rw [if_pos c3] at H
    have c3b0:=decide_eq_true c3
    clear c3
    replace H:=mi_ H
    obtain ⟨c4,H⟩:=H
    have c4b0:=decide_eq_true c4
    clear c4
    have HC6:=Aside0.mk H
    clear H
    have p5 : 0 ≤ (x5_1 : Int):=md_
    have q5 : x5_1 < (a0.size : Int):=md_
    have hx5:=bt_at a0 x5_1
    replace p5:=eq_true p5
    replace q5:=eq_true q5
    go_upto_region 5 with (fail)
    go_cut [26] (fun v26 wc => ∃ (kq : Nat) (x26_5 : Bool),v26 = .bool x26_5 ∧ Aside0 (spec_l1Chars.j1 kq a0 a1 x5_1 x26_5 = some r) ∧ Aside0 (kq ≤ k1) ∧ Drawn0 w wc)
    case first =>
     have H:=HC6.out
     clear HC6
     replace H:=mb_ H
     obtain ⟨t115,A7,H⟩:=H
     by_cases c8 : t115 = true
     ·subst c8
      rw [if_pos rfl] at H
      have H':=Aside0.mk H
      clear H
      go_wp2_with (first | ((with_reducible refine gc_ 107 ?_);refine xgl_ (some 17) Tryz.func107 #[.int .u8 (bt a0 x5_1)] ?_;(with_reducible refine (spec_l1Free.calls (bt a0 x5_1) true _ A7.out).mono ?_);rintro e w' ⟨rfl,⟨nd,rfl⟩⟩;refine ⟨_,rfl,?_⟩))
      go_meet
      case rel => exact ⟨_,(true),me_,H',⟨by have:=HK1.out;first | omega | exact Nat.le_refl _⟩,by repeat (first | exact Drawn0.refl _ | apply Drawn0.step)⟩
     ·replace c8:=Bool.eq_false_iff.mpr c8
      subst c8
      rw [if_neg (show ¬ (false = true) by decide)] at H
      replace H:=mb_ H
      obtain ⟨t116,A9,H⟩:=H
      by_cases c10 : t116 = true
      ·subst c10
       rw [if_pos rfl] at H
       have H':=Aside0.mk H
       clear H
       go_wp2_with (first | ((with_reducible refine gc_ 107 ?_);refine xgl_ (some 17) Tryz.func107 #[.int .u8 (bt a0 x5_1)] ?_;(with_reducible refine (spec_l1Free.calls (bt a0 x5_1) false _ A7.out).mono ?_);rintro e w' ⟨rfl,⟨nd,rfl⟩⟩;refine ⟨_,rfl,?_⟩) | (go_at_call 108;(with_reducible refine (spec_l1Has.calls k1 (⟨#[33,36,38,39,40,41,42,43,44,59,61,58,64]⟩ : ByteArray) (bt a0 x5_1) true _ A9.out).mono ?_);rintro e w' ⟨rfl,⟨nd,rfl⟩⟩))
       go_meet
       case rel => exact ⟨_,(true),me_,H',⟨by have:=HK1.out;first | omega | exact Nat.le_refl _⟩,by repeat (first | exact Drawn0.refl _ | apply Drawn0.step)⟩
      ·replace c10:=Bool.eq_false_iff.mpr c10
       subst c10
       rw [if_neg (show ¬ (false = true) by decide)] at H
       replace H:=mb_ H
       obtain ⟨t117,A11,H⟩:=H
       have H':=Aside0.mk H
       clear H
       go_wp2_with (first | ((with_reducible refine gc_ 107 ?_);refine xgl_ (some 17) Tryz.func107 #[.int .u8 (bt a0 x5_1)] ?_;(with_reducible refine (spec_l1Free.calls (bt a0 x5_1) false _ A7.out).mono ?_);rintro e w' ⟨rfl,⟨nd,rfl⟩⟩;refine ⟨_,rfl,?_⟩) | (go_at_call 108;(with_reducible refine (spec_l1Has.calls k1 (⟨#[33,36,38,39,40,41,42,43,44,59,61,58,64]⟩ : ByteArray) (bt a0 x5_1) false _ A9.out).mono ?_);rintro e w' ⟨rfl,⟨nd,rfl⟩⟩) | (go_at_call 108;(with_reducible refine (spec_l1Has.calls k1 a1 (bt a0 x5_1) t117 _ A11.out).mono ?_);rintro e w' ⟨rfl,⟨nd,rfl⟩⟩))
       go_meet
       case rel => exact ⟨_,(t117),me_,H',⟨by have:=HK1.out;first | omega | exact Nat.le_refl _⟩,by repeat (first | exact Drawn0.refl _ | apply Drawn0.step)⟩
    case rest =>
     clear HC6
     try clear c3
     try clear c3b0
     try clear c4
     try clear c4b0
     try clear p5
     try clear q5
     try clear hx5
     try clear p5
     try clear q5
     obtain ⟨kq,x26_5,rfl,HA,HJ5,⟨mc5,rfl⟩⟩:=hcut
     cases kq with
     | zero => exact absurd HA.out (by simp [spec_l1Chars.j1])
     | succ kj5 =>
      have H:=HA.out
      clear HA
      simp only [spec_l1Chars.j1] at H
      by_cases c12 : x26_5 = true
      ·subst c12
       rw [if_pos rfl] at H
       have H':=Aside0.mk H
       clear H
       go_wp2
       go_roundg kj5
       case measure => have:=HK1.out;have:=HJ5.out;omega
       case rel => exact ⟨(wrap64 (x5_1 + 1)),me_,H',⟨by have:=HK1.out;have:=HJ5.out;omega⟩,by repeat (first | exact Drawn0.refl _ | apply Drawn0.step)⟩
      ·replace c12:=Bool.eq_false_iff.mpr c12
       subst c12
       rw [if_neg (show ¬ (false = true) by decide)] at H
       replace H:=mb_ H
       obtain ⟨t118,A13,H⟩:=H
       by_cases c14 : t118 < 0
       ·rw [if_pos c14] at H
        have c14b0:=decide_eq_true c14
        clear c14
        obtain rfl:=Option.some.inj H
        go_wp2_with (first | ((with_reducible refine gc_ 109 ?_);refine xgl_ (some 29) Tryz.func109 #[.string a0,.int .i64 x5_1] ?_;(with_reducible refine (spec_l1Byte.calls kj5 a0 x5_1 t118 _ A13.out).mono ?_);rintro e w' ⟨rfl,⟨nd,rfl⟩⟩;refine ⟨_,rfl,?_⟩))
        go_ret
        exact ⟨by first | rfl | (simp;done) | (simp [*];done),by repeat (first | exact Drawn0.refl _ | apply Drawn0.step)⟩
       ·rw [if_neg c14] at H
        have c14b0:=decide_eq_false c14
        clear c14
        have H':=Aside0.mk H
        clear H
        go_wp2_with (first | ((with_reducible refine gc_ 109 ?_);refine xgl_ (some 29) Tryz.func109 #[.string a0,.int .i64 x5_1] ?_;(with_reducible refine (spec_l1Byte.calls kj5 a0 x5_1 t118 _ A13.out).mono ?_);rintro e w' ⟨rfl,⟨nd,rfl⟩⟩;refine ⟨_,rfl,?_⟩))
        go_roundg kj5
        case measure => have:=HK1.out;have:=HJ5.out;omega
        case rel => exact ⟨(wrap64 ((wrap64 (x5_1 + 2)) + 1)),me_,H',⟨by have:=HK1.out;have:=HJ5.out;omega⟩,by repeat (first | exact Drawn0.refl _ | apply Drawn0.step)⟩
   ·rw [if_neg c3] at H
    have c3b0:=decide_eq_false c3
    clear c3
    obtain rfl:=Option.some.inj H
    go_wp2
    go_ret
    exact ⟨by first | rfl | (simp;done) | (simp [*];done),by repeat (first | exact Drawn0.refl _ | apply Drawn0.step)⟩

/-! ### spec_l1Num: function 110 -/
def spec_l1Num.f : Nat → Int → Option (ByteArray)
 | 0,_ => none
 | k + 1,a0 => if a0 < 10 then (some (strOfNums (([(wrap64 (48 + a0)) % 256] : List Int)))) else ((spec_l1Num.f k (wrap64 (Int.tdiv a0 10))).bind fun t122 => ((some (([(wrap64 (48 + (Int.tmod a0 10))) % 256] : List Int) : List Int)).bind fun y123 => (if t122.size + (strOfNums y123).size ≤ 9223372036854775807 then (some (t122 ++ (strOfNums y123))) else (none))))
def spec_l1Num.T3 : Bool × List (List Nat × List Nat):=(true,[([],[]),([0],[0]),([1],[1]),([],[]),([3],[3]),([4],[4]),([5],[5]),([6],[6]),([7],[7]),([2,8],[2,8]),([9,2,0,1,2,3,4,5,6,7,8,9],[9])])
def spec_l1Num.B3 : List Nat:=[0,1,3,0,8,24,56,120,248,511,1023]
theorem spec_l1Num.tab3 : rtab .any (opsOf Tryz.f110 3) = spec_l1Num.T3:=by kernel_rfl
theorem spec_l1Num.bits3 : waitsOk spec_l1Num.T3.2 spec_l1Num.B3 = true:=by kernel_rfl
set_option maxHeartbeats 8000000 in
set_option maxRecDepth 100000 in
theorem spec_l1Num.calls (k : Nat) : ∀ (a0 : Int) (r : ByteArray) (w : World) (h : spec_l1Num.f k a0 = some r),
  Calls Tryz.prog 110 #[.int .i64 a0] w fun e w' => e = .returned (.string r) ∧ Below w.heap.size w w':=by
 induction k using Nat.strongRecOn with
 | _ k ih =>
 intro a0 r w h
 cases k with
 | zero => exact absurd h (by simp [spec_l1Num.f])
 | succ k =>
 simp only [spec_l1Num.f] at h
 have HB:=Aside0.mk (Below.refl w.heap.size w)
 have H : (if a0 < 10 then (some (strOfNums (([(wrap64 (48 + a0)) % 256] : List Int)))) else ((spec_l1Num.f k (wrap64 (Int.tdiv a0 10))).bind fun t122 => ((some (([(wrap64 (48 + (Int.tmod a0 10))) % 256] : List Int) : List Int)).bind fun y123 => (if t122.size + (strOfNums y123).size ≤ 9223372036854775807 then (some (t122 ++ (strOfNums y123))) else (none))))) = some r:=h
 clear h
 by_cases c2 : a0 < 10
 ·rw [if_pos c2] at H
  have c2b0:=decide_eq_true c2
  clear c2
  obtain ⟨y119,hy119⟩ : ∃ y_ : List Int,y_ = (([(wrap64 (48 + a0)) % 256] : List Int)):=⟨_,rfl⟩
  replace H : (some (strOfNums y119)) = some r:=by first | (rw [hy119];with_reducible exact H) | (have H2_:=(Option.bind_some _ _).symm.trans H;rw [hy119];with_reducible exact H2_) | (have H2_:=(Option.bind_some _ _).symm.trans H;with_reducible exact H2_) | with_reducible exact H | (rw [hy119];exact H) | exact H
  have Ny119:=Aside0.mk hy119
  clear hy119
  obtain rfl:=Option.some.inj H
  go_enter Tryz.func110,Tryz.ntmps110
  go_wp2_with (first | ((with_reducible refine gd_ 8 ?_);refine Kd.R_lit (Kd.int .u8) _ 5 ?hg (N:=8) ?hd (xs:=([(wrap64 (48 + a0)) % 256] : List Int)) (inner:=[.int .u8 ((wrap64 (48 + a0)) % 256)]) (ok:=fun _ => True) (okp:=fun _ => True) ?hr ?hp (fun _ hk => hk) trivial (Below.refl _ _) (Nat.le_refl _) (by simp) ?_;(case hd => rfl);(case hg => rfl);(case hr => first | (go_simp;done) | (go_simp;rfl));(case hp => exact (Reps.one (show Kd.M (Kd.int .u8) _ _ _ ((wrap64 (48 + a0)) % 256) [.int .u8 ((wrap64 (48 + a0)) % 256)] from rfl) (Reps.none _ _)));intro v120 w3 ho4 hb hg_ hnew_;clear hg_ hnew_;(first | rw [← Ny119.out] at ho4 | (simp only [Int.reduceToNat] at ho4;rw [← Ny119.out] at ho4));have HO121:=Aside0.mk (Kd.R_lower ho4 (below_size (xw_ HB)));replace HB:=xws_ HB hb;clear hb ho4;have hcv5:=own_string (P:=Tryz.prog) Tryz.underlying120 Tryz.underlying5 Tryz.underlying9 (Kd.own_of_R HO121.out)))
  go_ret
  exact ⟨mf_,xw_ HB⟩
 ·rw [if_neg c2] at H
  have c2b0:=decide_eq_false c2
  clear c2
  replace H:=mb_ H
  obtain ⟨t122,A6,H⟩:=H
  obtain ⟨y123,hy123⟩ : ∃ y_ : List Int,y_ = (([(wrap64 (48 + (Int.tmod a0 10))) % 256] : List Int)):=⟨_,rfl⟩
  replace H : (if t122.size + (strOfNums y123).size ≤ 9223372036854775807 then (some (t122 ++ (strOfNums y123))) else (none)) = some r:=by first | (rw [hy123];with_reducible exact H) | (have H2_:=(Option.bind_some _ _).symm.trans H;rw [hy123];with_reducible exact H2_) | (have H2_:=(Option.bind_some _ _).symm.trans H;with_reducible exact H2_) | with_reducible exact H | (rw [hy123];exact H) | exact H
  have Ny123:=Aside0.mk hy123
  clear hy123
  replace H:=mi_ H
  obtain ⟨c7,H⟩:=H
  have c7b0:=eq_true c7
  have c7b1:=decide_eq_true c7
  try have c7b2 : (9223372036854775807 < t122.size + (strOfNums y123).size) = False:=eq_false (Nat.not_lt.2 c7)
  obtain rfl:=Option.some.inj H
  go_enter Tryz.func110,Tryz.ntmps110
  try go_wp2
  replace HB:=Aside0.mk (below_drew1 HB.out)
  refine ms_ 11 (fun w' => True) spec_l1Num.tab3 spec_l1Num.bits3 trivial (fun hHeld HT_ HW_ => ?_)
  generalize w.drew = w8 at HB hHeld ⊢
  refine mp_ 0 10 ?_
  refine mp_ 1 11 ?_
  refine mp_ 3 13 ?_
  refine mp_ 4 14 ?_
  refine mp_ 5 15 ?_
  refine mp_ 6 16 ?_
  refine join_ (σ:=Value) 2 #[true,true,true,true,true,true,true,true,true,false,false] (fun s_ => [(12,.string t122),(17,s_),(18,.string (strOfNums y123))]) (fun s_ w' => (Kd.R (Kd.int .u8) 5 w' w.heap.size (fun _ => True) s_ y123) ∧ (Below w.heap.size w w')) ?_ ?_
  rotate_left
  ·intro hCont
   refine two_ (i:=2) (j:=7) (Ni:=some 12) (Nj:=some 17) #[true,true,true,true,true,true,true,false,false,false,false] #[true,true,false,true,true,true,true,true,false,false,false] rfl rfl rfl rfl (two_of HT_.out (by kernel_rfl)) (by decide) (by decide) (fun K hK => ?_) (fun K hK => ?_)
   ·skip
    refine xgo_ Tryz.func110 #[.int .i64 (wrap64 (Int.tdiv a0 10))] ?_
    with_reducible refine (ih k (by omega) (wrap64 (Int.tdiv a0 10)) t122 _ A6.out).mono ?_
    rintro e w9 ⟨rfl,hb⟩
    refine ⟨_,rfl,?_⟩
    replace HB:=xws_ HB hb
    (try clear hb)
    (try clear hk)
    refine hK.out _ _ trivial (fun hHeld => ?_)
    clear hK K
    refine mn_ 12 ?_
    refine one_ (i:=7) (N:=some 17) #[true,true,true,true,true,true,true,true,false,false,false] rfl rfl (one_of HT_.out (by kernel_rfl)) (by decide) (fun K hK => ?_)
    refine Kd.R_lit_step (Kd.int .u8) _ 5 ?hg (N:=17) ?hd (xs:=([(wrap64 (48 + (Int.tmod a0 10))) % 256] : List Int)) (inner:=[.int .u8 ((wrap64 (48 + (Int.tmod a0 10))) % 256)]) (ok:=fun _ => True) (okp:=fun _ => True) ?hr ?hp (fun _ hk => hk) trivial (Below.refl _ _) (Nat.le_refl _) (by simp) ?_;(case hd => rfl);(case hg => rfl);(case hr => first | (go_simp;done) | (go_simp;rfl));(case hp => exact (Reps.one (show Kd.M (Kd.int .u8) _ _ _ ((wrap64 (48 + (Int.tmod a0 10))) % 256) [.int .u8 ((wrap64 (48 + (Int.tmod a0 10))) % 256)] from rfl) (Reps.none _ _)))
    intro v124 w10 ho11 hb hg_ hnew_
    clear hg_ hnew_
    (first | rw [← Ny123.out] at ho11 | (simp only [Int.reduceToNat] at ho11;rw [← Ny123.out] at ho11))
    have HO125:=Aside0.mk (Kd.R_lower ho11 (below_size (xw_ HB)))
    replace HB:=xws_ HB hb
    clear hb ho11
    refine hK.out _ _ trivial (fun hHeld => ?_)
    clear hK K
    refine mn_ 17 ?_
    refine one_ (i:=8) (N:=some 18) #[true,true,true,true,true,true,true,true,true,false,false] rfl rfl (one_of HT_.out (by kernel_rfl)) (by decide) (fun K hK => ?_)
    have hcv12:=own_string (P:=Tryz.prog) Tryz.underlying120 Tryz.underlying5 Tryz.underlying9 (Kd.own_of_R HO125.out)
    refine value_ (w1:=?_) (v:=?_) (by rfl) rfl ?_ ?_
    rotate_left 2
    ·go_simp
     constructor
     ·rfl
     ·rfl
    clear hcv12
    refine hK.out _ _ trivial (fun hHeld => ?_)
    clear hK K
    refine mn_ 18 ?_
    exact norm_ (by simp only [putAll,Act.put,List.setIfInBounds_toArray,List.set_cons_zero,List.set_cons_succ]) (hCont (v124) _ ⟨xr_ HO125,xw_ HB⟩)
   ·skip
    refine Kd.R_lit_step (Kd.int .u8) _ 5 ?hg (N:=17) ?hd (xs:=([(wrap64 (48 + (Int.tmod a0 10))) % 256] : List Int)) (inner:=[.int .u8 ((wrap64 (48 + (Int.tmod a0 10))) % 256)]) (ok:=fun _ => True) (okp:=fun _ => True) ?hr ?hp (fun _ hk => hk) trivial (Below.refl _ _) (Nat.le_refl _) (by simp) ?_;(case hd => rfl);(case hg => rfl);(case hr => first | (go_simp;done) | (go_simp;rfl));(case hp => exact (Reps.one (show Kd.M (Kd.int .u8) _ _ _ ((wrap64 (48 + (Int.tmod a0 10))) % 256) [.int .u8 ((wrap64 (48 + (Int.tmod a0 10))) % 256)] from rfl) (Reps.none _ _)))
    intro v124 w9 ho10 hb hg_ hnew_
    clear hg_ hnew_
    (first | rw [← Ny123.out] at ho10 | (simp only [Int.reduceToNat] at ho10;rw [← Ny123.out] at ho10))
    have HO125:=Aside0.mk (Kd.R_lower ho10 (below_size (xw_ HB)))
    replace HB:=xws_ HB hb
    clear hb ho10
    refine hK.out _ _ trivial (fun hHeld => ?_)
    clear hK K
    refine mn_ 17 ?_
    refine two_ (i:=2) (j:=8) (Ni:=some 12) (Nj:=some 18) #[true,true,true,true,true,true,true,true,false,false,false] #[true,true,false,true,true,true,true,true,true,false,false] rfl rfl rfl rfl (two_of HT_.out (by kernel_rfl)) (by decide) (by decide) (fun K hK => ?_) (fun K hK => ?_)
    ·skip
     refine xgo_ Tryz.func110 #[.int .i64 (wrap64 (Int.tdiv a0 10))] ?_
     with_reducible refine (ih k (by omega) (wrap64 (Int.tdiv a0 10)) t122 _ A6.out).mono ?_
     rintro e w11 ⟨rfl,hb⟩
     refine ⟨_,rfl,?_⟩
     replace HO125:=xrb_ HO125 hb
     replace HB:=xws_ HB hb
     (try clear hb)
     (try clear hk)
     refine hK.out _ _ trivial (fun hHeld => ?_)
     clear hK K
     refine mn_ 12 ?_
     refine one_ (i:=8) (N:=some 18) #[true,true,true,true,true,true,true,true,true,false,false] rfl rfl (one_of HT_.out (by kernel_rfl)) (by decide) (fun K hK => ?_)
     have hcv12:=own_string (P:=Tryz.prog) Tryz.underlying120 Tryz.underlying5 Tryz.underlying9 (Kd.own_of_R HO125.out)
     refine value_ (w1:=?_) (v:=?_) (by rfl) rfl ?_ ?_
     rotate_left 2
     ·go_simp
      constructor
      ·rfl
      ·rfl
     clear hcv12
     refine hK.out _ _ trivial (fun hHeld => ?_)
     clear hK K
     refine mn_ 18 ?_
     exact norm_ (by simp only [putAll,Act.put,List.setIfInBounds_toArray,List.set_cons_zero,List.set_cons_succ]) (hCont (v124) _ ⟨xr_ HO125,xw_ HB⟩)
    ·skip
     have hcv11:=own_string (P:=Tryz.prog) Tryz.underlying120 Tryz.underlying5 Tryz.underlying9 (Kd.own_of_R HO125.out)
     refine value_ (w1:=?_) (v:=?_) (by rfl) rfl ?_ ?_
     rotate_left 2
     ·go_simp
      constructor
      ·rfl
      ·rfl
     clear hcv11
     refine hK.out _ _ trivial (fun hHeld => ?_)
     clear hK K
     refine mn_ 18 ?_
     refine m1_ 2 12 Tryz.func110 #[.int .i64 (wrap64 (Int.tdiv a0 10))] ?_
     with_reducible refine (ih k (by omega) (wrap64 (Int.tdiv a0 10)) t122 _ A6.out).mono ?_
     rintro e w12 ⟨rfl,hb⟩
     refine ⟨_,rfl,?_⟩
     replace HO125:=xrb_ HO125 hb
     replace HB:=xws_ HB hb
     (try clear hb)
     (try clear hk)
     refine ⟨trivial,fun hHeld => ?_⟩
     refine mn_ 12 ?_
     exact norm_ (by simp only [putAll,Act.put,List.setIfInBounds_toArray,List.set_cons_zero,List.set_cons_succ]) (hCont (v124) _ ⟨xr_ HO125,xw_ HB⟩)
  rintro v124 w13 ⟨h0_,h1_⟩
  have n0_ : Aside0 (Kd.R (Kd.int .u8) 5 w13 w.heap.size (fun _ => True) v124 y123):=⟨h0_⟩
  have n1_ : Aside0 (Below w.heap.size w w13):=⟨h1_⟩
  clear HB
  clear h0_ h1_
  have HO125:=n0_
  have HB:=n1_
  clear n0_ n1_
  have hHeld:=trivial
  refine norm_ (a':=?_) ?_ ?_
  rotate_left
  ·simp only [putAll,Act.put,List.setIfInBounds_toArray,List.set_cons_zero,List.set_cons_succ]
   rfl
  refine mp_ 9 19 ?_
  refine mp_ 10 2 ?_
  refine done_ (done_of HT_.out (by kernel_rfl)) ?_
  try go_wp2
  go_ret
  exact ⟨mf_,xw_ HB⟩

end Go.Proofs.YtpggepjfhgalkaaGreatDoor.PFnExactKeyOf
