-- Written by a program of this project (xprint.py) out of the translation; Lean checks it.
import Derived.Test.YtklicdjbihmbiaaGreatDoorPFnResolvedx0
import Derived.Test.YtklicdjbihmbiaaGreatDoorPFnResolvedx8
import Derived.Test.YtklicdjbihmbiaaGreatDoorPFnResolvedx11
namespace Go.Proofs.YtklicdjbihmbiaaGreatDoor.PFnResolved
open Go.RowKit Go.Proofs.YtklicdjbihmbiaaGreatDoorW.PrintWords Go.Proofs.YtklicdjbihmbiaaGreatDoorW.PrintLast Go.Proofs.YtklicdjbihmbiaaGreatDoorW.PrintMore
attribute [local go_sem] max2_int min2_int max_two min_two max_three min_three max_four min_four   -- for this text's walks alone
set_option linter.unusedVariables false
set_option linter.unusedSimpArgs false

/-! ### spec_l1Int: function 39 -/
mutual
def spec_l1Int.j0 : Nat → ByteArray → Bool → Option (Int)
 | 0, _, _ => none
 | k + 1, x0, x18 => if x18 = true then (some (-1)) else (spec_l1Int.l0 k x0 0 0)
def spec_l1Int.l0 : Nat → ByteArray → Int → Int → Option (Int)
 | 0, _, _, _ => none
 | k + 1, x0, x3, x4 => if x4 < (x0.size : Int) then (if 0 ≤ x4 then (if (bt x0 x4) < 48 then (some (-1)) else (if (bt x0 x4) > 57 then (some (-1)) else (spec_l1Int.l0 k x0 (wrap64 ((wrap64 (10 * x3)) + (((bt x0 x4) - 48) % 256))) (wrap64 (x4 + 1))))) else (none)) else (some x3)
end
def spec_l1Int.f (k : Nat) (a0 : ByteArray) : Option (Int) := (spec_l1In.f (a0.size : Int) 1 9).bind fun t350 => (if t350 = true then (if 0 < (a0.size : Int) then (if (bt a0 0) = 48 then (spec_l1Int.j0 k a0 (decide ((a0.size : Int) > 1))) else (spec_l1Int.j0 k a0 false)) else (none)) else (spec_l1Int.j0 k a0 true))
theorem spec_l1Int.mono_l : ∀ k, (∀ y0 y1, LeO (spec_l1Int.j0 k y0 y1) (spec_l1Int.j0 (k + 1) y0 y1)) ∧ (∀ y0 y1 y2, LeO (spec_l1Int.l0 k y0 y1 y2) (spec_l1Int.l0 (k + 1) y0 y1 y2))
 | 0 => ⟨fun _ _ r h => by simp [spec_l1Int.j0] at h, fun _ _ _ r h => by simp [spec_l1Int.l0] at h⟩
 | k + 1 => by
  obtain ⟨ih0, ih1⟩ := spec_l1Int.mono_l k
  refine ⟨?_, ?_⟩
  ·intro y0 y1
   unfold spec_l1Int.j0
   repeat' first
   | (with_reducible exact ih0 _ _)
   | (with_reducible exact ih1 _ _ _)
   | (with_reducible exact LeO.refl _)
   | (with_reducible exact LeO.none _)
   | (with_reducible refine LeO.ite ?_ ?_)
   | (with_reducible refine LeO.bind ?_ (fun _ => ?_))
   | exact ih0 _ _
   | exact ih1 _ _ _
   | exact LeO.none _
   | refine LeO.ite ?_ ?_
   | refine LeO.bind ?_ (fun _ => ?_)
  ·intro y0 y1 y2
   unfold spec_l1Int.l0
   repeat' first
   | (with_reducible exact ih0 _ _)
   | (with_reducible exact ih1 _ _ _)
   | (with_reducible exact LeO.refl _)
   | (with_reducible exact LeO.none _)
   | (with_reducible refine LeO.ite ?_ ?_)
   | (with_reducible refine LeO.bind ?_ (fun _ => ?_))
   | exact ih0 _ _
   | exact ih1 _ _ _
   | exact LeO.none _
   | refine LeO.ite ?_ ?_
   | refine LeO.bind ?_ (fun _ => ?_)
theorem spec_l1Int.mono : ∀ a0 k, LeO (spec_l1Int.f k a0) (spec_l1Int.f (k + 1) a0) := by
 intro a0 k
 obtain ⟨ih0, ih1⟩ := spec_l1Int.mono_l k
 unfold spec_l1Int.f
 repeat' first
   | (with_reducible exact ih0 _ _)
   | (with_reducible exact ih1 _ _ _)
   | (with_reducible exact LeO.refl _)
   | (with_reducible exact LeO.none _)
   | (with_reducible refine LeO.ite ?_ ?_)
   | (with_reducible refine LeO.bind ?_ (fun _ => ?_))
   | exact ih0 _ _
   | exact ih1 _ _ _
   | exact LeO.none _
   | refine LeO.ite ?_ ?_
   | refine LeO.bind ?_ (fun _ => ?_)
set_option maxHeartbeats 8000000 in
set_option maxRecDepth 100000 in
theorem spec_l1Int.calls (k : Nat) (a0 : ByteArray) (r : Int) (w : World) (h : spec_l1Int.f k a0 = some r) :
  Calls Tryz.prog 39 #[.string a0] w fun e w' => e = .returned (.int .i64 r) ∧ Drawn0 w w' := by
 have H : ((spec_l1In.f (a0.size : Int) 1 9).bind fun t350 => (if t350 = true then (if 0 < (a0.size : Int) then (if (bt a0 0) = 48 then (spec_l1Int.j0 k a0 (decide ((a0.size : Int) > 1))) else (spec_l1Int.j0 k a0 false)) else (none)) else (spec_l1Int.j0 k a0 true))) = some r := h
 clear h
 have HC2 := Aside0.mk H
 clear H
 go_enter Tryz.func39, Tryz.ntmps39
 go_upto_region 1 with (fail)
 go_cut [18] (fun v18 wc => ∃ (kq : Nat) (x18_1 : Bool), v18 = .bool x18_1 ∧ Aside0 (spec_l1Int.j0 kq a0 x18_1 = some r) ∧ Aside0 (kq ≤ k) ∧ Drawn0 w wc)
 case first =>
  have H := HC2.out
  clear HC2
  replace H := Option.bind_eq_some_iff.mp H
  obtain ⟨t350, A30, H⟩ := H
  replace H : (if t350 = true then (if 0 < (a0.size : Int) then (if (bt a0 0) = 48 then (spec_l1Int.j0 k a0 (decide ((a0.size : Int) > 1))) else (spec_l1Int.j0 k a0 false)) else (none)) else (spec_l1Int.j0 k a0 true)) = some r := H
  have A3 := Aside0.mk A30
  clear A30
  by_cases c4 : t350 = true
  ·subst c4
   have H1 : (if 0 < (a0.size : Int) then (if (bt a0 0) = 48 then (spec_l1Int.j0 k a0 (decide ((a0.size : Int) > 1))) else (spec_l1Int.j0 k a0 false)) else (none)) = some r := by rw [if_pos rfl] at H; exact H
   clear H
   have H := H1
   clear H1
   by_cases c5 : 0 < (a0.size : Int)
   ·rw [if_pos c5] at H
    have c5b0 : decide (0 < (a0.size : Int)) = true := decide_eq_true c5
    have c5b1 : decide (0 < a0.size) = true := decide_eq_true (by omega)
    clear c5
    (first | rw [c5b0] | (simp only [i64_w, i32_w]; rw [c5b0]) | skip)
    by_cases c7 : (bt a0 0) = 48
    ·rw [if_pos c7] at H
     have c7b0 : ((bt a0 0) == 48) = true := beq_iff_eq.mpr c7
     have c7b1 : ((bt a0 0) != 48) = false := bne_eq_false_iff_eq.mpr c7
     clear c7
     have H' := Aside0.mk H
     clear H
     go_wp2_with (first | ((with_reducible refine gate_callee (f := 36) rfl ?_); refine xgl_ (some 7) Tryz.func36 #[.int .i64 (a0.size : Int), .int .i64 1, .int .i64 9] ?_; (with_reducible refine (spec_l1In.calls (a0.size : Int) 1 9 true _ A3.out).mono ?_); rintro e w' ⟨rfl, ⟨nd, rfl⟩⟩; refine ⟨_, rfl, ?_⟩; have p6 : 0 ≤ (0 : Int) := (by omega); have q6 : 0 < a0.size := (by have : (0 : Int) < (a0.size : Int) := of_decide_eq_true (by first | (with_reducible assumption) | assumption); omega); have hx6 : ∀ h : 0 < a0.size, ((a0[0]'h).toNat : Int) = bt a0 0 := bt_at a0 0; clear p6; have qi6 : (0 < (a0.size : Int)) = True := eq_true (of_decide_eq_true (by first | (with_reducible assumption) | assumption)); replace q6 := eq_true q6))
     go_meet
     case rel => exact ⟨_, (decide ((a0.size : Int) > 1)), (by first | rfl | (simp; done) | (simp [*]; done)), H', ⟨by first | omega | exact Nat.le_refl _⟩, by repeat (first | exact Drawn0.refl _ | apply Drawn0.step)⟩
    ·rw [if_neg c7] at H
     have c7b0 : ((bt a0 0) == 48) = false := beq_eq_false_iff_ne.mpr c7
     have c7b1 : ((bt a0 0) != 48) = true := bne_iff_ne.mpr c7
     have H' := Aside0.mk H
     clear H
     go_wp2_with (first | ((with_reducible refine gate_callee (f := 36) rfl ?_); refine xgl_ (some 7) Tryz.func36 #[.int .i64 (a0.size : Int), .int .i64 1, .int .i64 9] ?_; (with_reducible refine (spec_l1In.calls (a0.size : Int) 1 9 true _ A3.out).mono ?_); rintro e w' ⟨rfl, ⟨nd, rfl⟩⟩; refine ⟨_, rfl, ?_⟩; have p6 : 0 ≤ (0 : Int) := (by omega); have q6 : 0 < a0.size := (by have : (0 : Int) < (a0.size : Int) := of_decide_eq_true (by first | (with_reducible assumption) | assumption); omega); have hx6 : ∀ h : 0 < a0.size, ((a0[0]'h).toNat : Int) = bt a0 0 := bt_at a0 0; clear p6; have qi6 : (0 < (a0.size : Int)) = True := eq_true (of_decide_eq_true (by first | (with_reducible assumption) | assumption)); replace q6 := eq_true q6))
     go_meet
     case rel => exact ⟨_, (false), (by first | rfl | (simp; done) | (simp [*]; done)), H', ⟨by first | omega | exact Nat.le_refl _⟩, by repeat (first | exact Drawn0.refl _ | apply Drawn0.step)⟩
   ·rw [if_neg c5] at H
    exact absurd H (by simp)
  ·replace c4 := Bool.eq_false_iff.mpr c4
   subst c4
   have H1 : (spec_l1Int.j0 k a0 true) = some r := by rw [if_neg (show ¬ (false = true) by decide)] at H; exact H
   clear H
   have H := H1
   clear H1
   have H' := Aside0.mk H
   clear H
   go_wp2_with (first | ((with_reducible refine gate_callee (f := 36) rfl ?_); refine xgl_ (some 7) Tryz.func36 #[.int .i64 (a0.size : Int), .int .i64 1, .int .i64 9] ?_; (with_reducible refine (spec_l1In.calls (a0.size : Int) 1 9 false _ A3.out).mono ?_); rintro e w' ⟨rfl, ⟨nd, rfl⟩⟩; refine ⟨_, rfl, ?_⟩))
   go_meet
   case rel => exact ⟨_, (true), (by first | rfl | (simp; done) | (simp [*]; done)), H', ⟨by first | omega | exact Nat.le_refl _⟩, by repeat (first | exact Drawn0.refl _ | apply Drawn0.step)⟩
 case rest =>
  clear HC2
  try clear p2
  try clear c3
  try clear c4
  try clear c5
  try clear c5b0
  try clear c5b1
  try clear p6
  try clear q6
  try clear hx6
  try clear qi6
  try clear c7
  try clear c7b0
  try clear c7b1
  try clear p6
  try clear q6
  obtain ⟨kq, x18_1, rfl, HA, HJ1, ⟨mc1, rfl⟩⟩ := hcut
  cases kq with
  | zero => exact absurd HA.out (by simp [spec_l1Int.j0])
  | succ kj1 =>
   have H := HA.out
   clear HA
   simp only [spec_l1Int.j0] at H
   by_cases c8 : x18_1 = true
   ·subst c8
    have H1 : (some (-1)) = some r := by rw [if_pos rfl] at H; exact H
    clear H
    have H := H1
    clear H1
    obtain rfl := Option.some.inj H
    go_wp2
    go_ret
    exact ⟨by first | rfl | (simp; done) | (simp [*]; done), by repeat (first | exact Drawn0.refl _ | apply Drawn0.step)⟩
   ·replace c8 := Bool.eq_false_iff.mpr c8
    subst c8
    have H1 : (spec_l1Int.l0 kj1 a0 0 0) = some r := by rw [if_neg (show ¬ (false = true) by decide)] at H; exact H
    clear H
    have H := H1
    clear H1
    have H' := Aside0.mk H
    clear H
    go_wp2
    go_loopg [3, 4] kj1 (fun kq v3 v4 w' => ∃ (x3_2 : Int) (x4_2 : Int), v3 = .int .i64 x3_2 ∧ v4 = .int .i64 x4_2 ∧ Aside0 (spec_l1Int.l0 kq a0 x3_2 x4_2 = some r) ∧ Aside0 (kq ≤ kj1) ∧ Drawn0 w w')
    case atStart => exact ⟨(0), (0), (by first | rfl | (simp; done) | (simp [*]; done)), (by first | rfl | (simp; done) | (simp [*]; done)), H', ⟨Nat.le_refl _⟩, by repeat (first | exact Drawn0.refl _ | apply Drawn0.step)⟩
    case round =>
     clear H'
     try clear c1
     try clear p2
     try clear c3
     try clear c4
     try clear c5
     try clear c5b0
     try clear c5b1
     try clear p6
     try clear q6
     try clear hx6
     try clear qi6
     try clear c7
     try clear c7b0
     try clear c7b1
     try clear c8
     try clear p2
     try clear p6
     try clear q6
     obtain ⟨x3_2, x4_2, rfl, rfl, HA, HK2, ⟨m2, rfl⟩⟩ := hrel
     cases gk with
     | zero => exact absurd HA.out (by simp [spec_l1Int.l0])
     | succ k2 =>
      have H := HA.out
      clear HA
      simp only [spec_l1Int.l0] at H
      by_cases c9 : x4_2 < (a0.size : Int)
      ·rw [if_pos c9] at H
       have c9b0 : decide (x4_2 < (a0.size : Int)) = true := decide_eq_true c9
       clear c9
       by_cases c10 : 0 ≤ x4_2
       ·rw [if_pos c10] at H
        have c10b0 : decide (0 ≤ x4_2) = true := decide_eq_true c10
        clear c10
        by_cases c12 : (bt a0 x4_2) < 48
        ·rw [if_pos c12] at H
         have c12b0 : decide ((bt a0 x4_2) < 48) = true := decide_eq_true c12
         clear c12
         obtain rfl := Option.some.inj H
         have p11 : 0 ≤ (x4_2 : Int) := of_decide_eq_true (by first | (with_reducible assumption) | assumption)
         have q11 : x4_2 < (a0.size : Int) := of_decide_eq_true (by first | (with_reducible assumption) | assumption)
         have hx11 := bt_at a0 x4_2
         replace p11 := eq_true p11
         replace q11 := eq_true q11
         go_wp2
         go_ret
         exact ⟨by first | rfl | (simp; done) | (simp [*]; done), by repeat (first | exact Drawn0.refl _ | apply Drawn0.step)⟩
        ·rw [if_neg c12] at H
         have c12b0 : decide ((bt a0 x4_2) < 48) = false := decide_eq_false c12
         clear c12
         by_cases c14 : (bt a0 x4_2) > 57
         ·rw [if_pos c14] at H
          have c14b0 : decide (57 < (bt a0 x4_2)) = true := decide_eq_true c14
          clear c14
          obtain rfl := Option.some.inj H
          have p11 : 0 ≤ (x4_2 : Int) := of_decide_eq_true (by first | (with_reducible assumption) | assumption)
          have q11 : x4_2 < (a0.size : Int) := of_decide_eq_true (by first | (with_reducible assumption) | assumption)
          have hx11 := bt_at a0 x4_2
          replace p11 := eq_true p11
          replace q11 := eq_true q11
          have p13 : 0 ≤ (x4_2 : Int) := of_decide_eq_true (by first | (with_reducible assumption) | assumption)
          have q13 : x4_2 < (a0.size : Int) := of_decide_eq_true (by first | (with_reducible assumption) | assumption)
          have hx13 := bt_at a0 x4_2
          replace p13 := eq_true p13
          replace q13 := eq_true q13
          go_wp2
          go_ret
          exact ⟨by first | rfl | (simp; done) | (simp [*]; done), by repeat (first | exact Drawn0.refl _ | apply Drawn0.step)⟩
         ·rw [if_neg c14] at H
          have c14b0 : decide (57 < (bt a0 x4_2)) = false := decide_eq_false c14
          clear c14
          have H' := Aside0.mk H
          clear H
          have p11 : 0 ≤ (x4_2 : Int) := of_decide_eq_true (by first | (with_reducible assumption) | assumption)
          have q11 : x4_2 < (a0.size : Int) := of_decide_eq_true (by first | (with_reducible assumption) | assumption)
          have hx11 := bt_at a0 x4_2
          replace p11 := eq_true p11
          replace q11 := eq_true q11
          have p13 : 0 ≤ (x4_2 : Int) := of_decide_eq_true (by first | (with_reducible assumption) | assumption)
          have q13 : x4_2 < (a0.size : Int) := of_decide_eq_true (by first | (with_reducible assumption) | assumption)
          have hx13 := bt_at a0 x4_2
          replace p13 := eq_true p13
          replace q13 := eq_true q13
          have p15 : 0 ≤ (x4_2 : Int) := of_decide_eq_true (by first | (with_reducible assumption) | assumption)
          have q15 : x4_2 < (a0.size : Int) := of_decide_eq_true (by first | (with_reducible assumption) | assumption)
          have hx15 := bt_at a0 x4_2
          replace p15 := eq_true p15
          replace q15 := eq_true q15
          go_wp2
          go_roundg k2
          case measure => have := HJ1.out; have := HK2.out; omega
          case rel => exact ⟨(wrap64 ((wrap64 (10 * x3_2)) + (((bt a0 x4_2) - 48) % 256))), (wrap64 (x4_2 + 1)), (by first | rfl | (simp; done) | (simp [*]; done)), (by first | rfl | (simp; done) | (simp [*]; done)), H', ⟨by have := HJ1.out; have := HK2.out; omega⟩, by repeat (first | exact Drawn0.refl _ | apply Drawn0.step)⟩
       ·rw [if_neg c10] at H
        exact absurd H (by simp)
      ·rw [if_neg c9] at H
       have c9b0 : decide (x4_2 < (a0.size : Int)) = false := decide_eq_false c9
       clear c9
       obtain rfl := Option.some.inj H
       go_wp2
       go_ret
       exact ⟨by first | rfl | (simp; done) | (simp [*]; done), by repeat (first | exact Drawn0.refl _ | apply Drawn0.step)⟩

/-! ### spec_l1Authority: function 18 -/
mutual
def spec_l1Authority.j1 : Nat → ByteArray → Int → ByteArray → ByteArray → Int → ByteArray → ByteArray → Bool → Option (ByteArray × ByteArray × Int × ByteArray × ByteArray × Bool × Bool)
 | 0, _, _, _, _, _, _, _, _ => none
 | k + 1, x1, x7, x353000, x353001, x353002, x353003, x353004, x353005 => if 0 ≤ x7 then (if x7 ≤ (x1.size : Int) then ((spec_l1Cut.f k (x1.extract 0 (x7 : Int).toNat) 58).bind fun bt353 => (if bt353.2.2 = true then ((spec_l1Int.f k bt353.2.1).bind fun t356 => (if t356 ≤ 0 then (some ((⟨#[]⟩ : ByteArray), (⟨#[]⟩ : ByteArray), 0, (⟨#[]⟩ : ByteArray), (⟨#[]⟩ : ByteArray), false, false)) else (spec_l1Authority.j2 k x1 x7 x353000 bt353.1 t356 x353003 x353004 x353005))) else (spec_l1Authority.j2 k x1 x7 x353000 bt353.1 x353002 x353003 x353004 x353005))) else (none)) else (none)
def spec_l1Authority.j2 : Nat → ByteArray → Int → ByteArray → ByteArray → Int → ByteArray → ByteArray → Bool → Option (ByteArray × ByteArray × Int × ByteArray × ByteArray × Bool × Bool)
 | 0, _, _, _, _, _, _, _, _ => none
 | k + 1, x1, x7, x353000, x353001, x353002, x353003, x353004, x353005 => if 0 ≤ x7 then (if x7 ≤ (x1.size : Int) then ((spec_l1Cut.f k (x1.extract (x7 : Int).toNat x1.size) 63).bind fun bt357 => (if bt357.1.toList = ([] : List UInt8) then ((spec_GoodUrl.f k x353000 x353001 x353002 (⟨#[47]⟩ : ByteArray) bt357.2.1 bt357.2.2).bind fun t360 => (if t360 = true then (some (x353000, x353001, x353002, (⟨#[47]⟩ : ByteArray), bt357.2.1, bt357.2.2, true)) else (some ((⟨#[]⟩ : ByteArray), (⟨#[]⟩ : ByteArray), 0, (⟨#[]⟩ : ByteArray), (⟨#[]⟩ : ByteArray), false, false)))) else ((spec_GoodUrl.f k x353000 x353001 x353002 bt357.1 bt357.2.1 bt357.2.2).bind fun t361 => (if t361 = true then (some (x353000, x353001, x353002, bt357.1, bt357.2.1, bt357.2.2, true)) else (some ((⟨#[]⟩ : ByteArray), (⟨#[]⟩ : ByteArray), 0, (⟨#[]⟩ : ByteArray), (⟨#[]⟩ : ByteArray), false, false)))))) else (none)) else (none)
def spec_l1Authority.l0 : Nat → ByteArray → Int → ByteArray → ByteArray → Int → ByteArray → ByteArray → Bool → Option (ByteArray × ByteArray × Int × ByteArray × ByteArray × Bool × Bool)
 | 0, _, _, _, _, _, _, _, _ => none
 | k + 1, x1, x7, x353000, x353001, x353002, x353003, x353004, x353005 => if x7 < (x1.size : Int) then (if 0 ≤ x7 then (if (bt x1 x7) = 47 then (spec_l1Authority.j1 k x1 x7 x353000 x353001 x353002 x353003 x353004 x353005) else (if (bt x1 x7) = 63 then (spec_l1Authority.j1 k x1 x7 x353000 x353001 x353002 x353003 x353004 x353005) else (spec_l1Authority.l0 k x1 (wrap64 (x7 + 1)) x353000 x353001 x353002 x353003 x353004 x353005))) else (none)) else (spec_l1Authority.j1 k x1 x7 x353000 x353001 x353002 x353003 x353004 x353005)
end
def spec_l1Authority.f (k : Nat) (a0 : ByteArray) (a1 : ByteArray) : Option (ByteArray × ByteArray × Int × ByteArray × ByteArray × Bool × Bool) := spec_l1Authority.l0 k a1 0 a0 (⟨#[]⟩ : ByteArray) 0 (⟨#[]⟩ : ByteArray) (⟨#[]⟩ : ByteArray) false
theorem spec_l1Authority.mono_l : ∀ k, (∀ y0 y1 y2 y3 y4 y5 y6 y7, LeO (spec_l1Authority.j1 k y0 y1 y2 y3 y4 y5 y6 y7) (spec_l1Authority.j1 (k + 1) y0 y1 y2 y3 y4 y5 y6 y7)) ∧ (∀ y0 y1 y2 y3 y4 y5 y6 y7, LeO (spec_l1Authority.j2 k y0 y1 y2 y3 y4 y5 y6 y7) (spec_l1Authority.j2 (k + 1) y0 y1 y2 y3 y4 y5 y6 y7)) ∧ (∀ y0 y1 y2 y3 y4 y5 y6 y7, LeO (spec_l1Authority.l0 k y0 y1 y2 y3 y4 y5 y6 y7) (spec_l1Authority.l0 (k + 1) y0 y1 y2 y3 y4 y5 y6 y7))
 | 0 => ⟨fun _ _ _ _ _ _ _ _ r h => by simp [spec_l1Authority.j1] at h, fun _ _ _ _ _ _ _ _ r h => by simp [spec_l1Authority.j2] at h, fun _ _ _ _ _ _ _ _ r h => by simp [spec_l1Authority.l0] at h⟩
 | k + 1 => by
  obtain ⟨ih0, ih1, ih2⟩ := spec_l1Authority.mono_l k
  refine ⟨?_, ?_, ?_⟩
  ·intro y0 y1 y2 y3 y4 y5 y6 y7
   unfold spec_l1Authority.j1
   repeat' first
   | (with_reducible exact ih0 _ _ _ _ _ _ _ _)
   | (with_reducible exact ih1 _ _ _ _ _ _ _ _)
   | (with_reducible exact ih2 _ _ _ _ _ _ _ _)
   | (with_reducible exact spec_GoodUrl.mono _ _ _ _ _ _ _)
   | (with_reducible exact spec_l1Cut.mono _ _ _)
   | (with_reducible exact spec_l1Int.mono _ _)
   | (with_reducible exact LeO.refl _)
   | (with_reducible exact LeO.none _)
   | (with_reducible refine LeO.ite ?_ ?_)
   | (with_reducible refine LeO.bind ?_ (fun _ => ?_))
   | exact ih0 _ _ _ _ _ _ _ _
   | exact ih1 _ _ _ _ _ _ _ _
   | exact ih2 _ _ _ _ _ _ _ _
   | exact spec_GoodUrl.mono _ _ _ _ _ _ _
   | exact spec_l1Cut.mono _ _ _
   | exact spec_l1Int.mono _ _
   | exact LeO.none _
   | refine LeO.ite ?_ ?_
   | refine LeO.bind ?_ (fun _ => ?_)
  ·intro y0 y1 y2 y3 y4 y5 y6 y7
   unfold spec_l1Authority.j2
   repeat' first
   | (with_reducible exact ih0 _ _ _ _ _ _ _ _)
   | (with_reducible exact ih1 _ _ _ _ _ _ _ _)
   | (with_reducible exact ih2 _ _ _ _ _ _ _ _)
   | (with_reducible exact spec_GoodUrl.mono _ _ _ _ _ _ _)
   | (with_reducible exact spec_l1Cut.mono _ _ _)
   | (with_reducible exact spec_l1Int.mono _ _)
   | (with_reducible exact LeO.refl _)
   | (with_reducible exact LeO.none _)
   | (with_reducible refine LeO.ite ?_ ?_)
   | (with_reducible refine LeO.bind ?_ (fun _ => ?_))
   | exact ih0 _ _ _ _ _ _ _ _
   | exact ih1 _ _ _ _ _ _ _ _
   | exact ih2 _ _ _ _ _ _ _ _
   | exact spec_GoodUrl.mono _ _ _ _ _ _ _
   | exact spec_l1Cut.mono _ _ _
   | exact spec_l1Int.mono _ _
   | exact LeO.none _
   | refine LeO.ite ?_ ?_
   | refine LeO.bind ?_ (fun _ => ?_)
  ·intro y0 y1 y2 y3 y4 y5 y6 y7
   unfold spec_l1Authority.l0
   repeat' first
   | (with_reducible exact ih0 _ _ _ _ _ _ _ _)
   | (with_reducible exact ih1 _ _ _ _ _ _ _ _)
   | (with_reducible exact ih2 _ _ _ _ _ _ _ _)
   | (with_reducible exact spec_GoodUrl.mono _ _ _ _ _ _ _)
   | (with_reducible exact spec_l1Cut.mono _ _ _)
   | (with_reducible exact spec_l1Int.mono _ _)
   | (with_reducible exact LeO.refl _)
   | (with_reducible exact LeO.none _)
   | (with_reducible refine LeO.ite ?_ ?_)
   | (with_reducible refine LeO.bind ?_ (fun _ => ?_))
   | exact ih0 _ _ _ _ _ _ _ _
   | exact ih1 _ _ _ _ _ _ _ _
   | exact ih2 _ _ _ _ _ _ _ _
   | exact spec_GoodUrl.mono _ _ _ _ _ _ _
   | exact spec_l1Cut.mono _ _ _
   | exact spec_l1Int.mono _ _
   | exact LeO.none _
   | refine LeO.ite ?_ ?_
   | refine LeO.bind ?_ (fun _ => ?_)
theorem spec_l1Authority.mono : ∀ a0 a1 k, LeO (spec_l1Authority.f k a0 a1) (spec_l1Authority.f (k + 1) a0 a1) := by
 intro a0 a1 k
 obtain ⟨ih0, ih1, ih2⟩ := spec_l1Authority.mono_l k
 unfold spec_l1Authority.f
 repeat' first
   | (with_reducible exact ih0 _ _ _ _ _ _ _ _)
   | (with_reducible exact ih1 _ _ _ _ _ _ _ _)
   | (with_reducible exact ih2 _ _ _ _ _ _ _ _)
   | (with_reducible exact spec_GoodUrl.mono _ _ _ _ _ _ _)
   | (with_reducible exact spec_l1Cut.mono _ _ _)
   | (with_reducible exact spec_l1Int.mono _ _)
   | (with_reducible exact LeO.refl _)
   | (with_reducible exact LeO.none _)
   | (with_reducible refine LeO.ite ?_ ?_)
   | (with_reducible refine LeO.bind ?_ (fun _ => ?_))
   | exact ih0 _ _ _ _ _ _ _ _
   | exact ih1 _ _ _ _ _ _ _ _
   | exact ih2 _ _ _ _ _ _ _ _
   | exact spec_GoodUrl.mono _ _ _ _ _ _ _
   | exact spec_l1Cut.mono _ _ _
   | exact spec_l1Int.mono _ _
   | exact LeO.none _
   | refine LeO.ite ?_ ?_
   | refine LeO.bind ?_ (fun _ => ?_)
set_option maxHeartbeats 8000000 in
set_option maxRecDepth 100000 in
theorem spec_l1Authority.calls (k : Nat) (a0 : ByteArray) (a1 : ByteArray) (r1 : ByteArray) (r2 : ByteArray) (r3 : Int) (r4 : ByteArray) (r5 : ByteArray) (r6 : Bool) (r7 : Bool) (w : World) (h : spec_l1Authority.f k a0 a1 = some (r1, r2, r3, r4, r5, r6, r7)) :
  Calls Tryz.prog 18 #[.string a0, .string a1] w fun e w' => e = .returned (.tuple #[.agg #[.string r1, .string r2, .int .i64 r3, .string r4, .string r5, .bool r6], .bool r7]) ∧ Below w.heap.size w w' := by
 have hu24 := Tryz.underlying24
 have HB := Aside0.mk (Below.refl w.heap.size w)
 have H : (spec_l1Authority.l0 k a1 0 a0 (⟨#[]⟩ : ByteArray) 0 (⟨#[]⟩ : ByteArray) (⟨#[]⟩ : ByteArray) false) = some (r1, r2, r3, r4, r5, r6, r7) := h
 clear h
 have HC3 := Aside0.mk H
 clear H
 go_enter Tryz.func18, Tryz.ntmps18
 go_upto_block 0 with (first | ((with_reducible refine gate_dst (N := 4) rfl ?_); refine xbe_ (N := 4) (cs := #[.string (⟨#[]⟩ : ByteArray), .string (⟨#[]⟩ : ByteArray), .int .i64 0, .string (⟨#[]⟩ : ByteArray), .string (⟨#[]⟩ : ByteArray), .bool false]) (t := 24) ?_; intro gb351 hg w4 hbox hb; have BK351 := Aside0.mk (hbox); have GW351 := xge_ HB hg; have GE351 := xge_ HB hg; replace HB := xws_ HB hb; clear hb hbox hg) | ((with_reducible refine gate_dst (N := 6) rfl ?_); refine xbe_ (N := 6) (cs := #[.string (⟨#[]⟩ : ByteArray), .string (⟨#[]⟩ : ByteArray), .int .i64 0, .string (⟨#[]⟩ : ByteArray), .string (⟨#[]⟩ : ByteArray), .bool false]) (t := 24) ?_; intro gb352 hg w5 hbox hb; have BK352 := Aside0.mk (hbox); have GW352 := xge_ HB hg; have GE352 := xge_ HB hg; replace HB := xws_ HB hb; have NB351_352 := xlt_ BK351 hg; have NB352_351 := xgt_ BK351 hg; replace BK351 := xbb_ BK351 hb; clear hb hbox hg; have hnb6 := NB352_351.out; have hnc6 := NB351_352.out; have ⟨_, _, _, _, _, _, _, _, _, _, _, _⟩ := c6_ BK352))
 (try simp only [Act.put, List.setIfInBounds_toArray, List.set_cons_zero, List.set_cons_succ])
 go_cut [7] (fun v7 wc => ∃ (kq : Nat) (x7_2 : Int), v7 = .int .i64 x7_2 ∧ Aside0 (spec_l1Authority.j1 kq a1 x7_2 a0 (⟨#[]⟩ : ByteArray) 0 (⟨#[]⟩ : ByteArray) (⟨#[]⟩ : ByteArray) false = some (r1, r2, r3, r4, r5, r6, r7)) ∧ Aside0 (kq ≤ k) ∧ Aside0 (wc.heap[gb351]? = some (.cells #[.string (⟨#[]⟩ : ByteArray), .string (⟨#[]⟩ : ByteArray), .int .i64 0, .string (⟨#[]⟩ : ByteArray), .string (⟨#[]⟩ : ByteArray), .bool false] 24 (0, 0))) ∧ Aside0 (wc.heap[gb352]? = some (.cells #[.string a0, .string (⟨#[]⟩ : ByteArray), .int .i64 0, .string (⟨#[]⟩ : ByteArray), .string (⟨#[]⟩ : ByteArray), .bool false] 24 (0, 0))) ∧ Aside0 (Below w.heap.size w wc))
 case first =>
  have H := HC3.out
  clear HC3
  have H' := Aside0.mk H
  clear H
  go_wp2
  go_loopg [7] k (fun kq v7 w' => ∃ (x7_1 : Int), v7 = .int .i64 x7_1 ∧ Aside0 (spec_l1Authority.l0 kq a1 x7_1 a0 (⟨#[]⟩ : ByteArray) 0 (⟨#[]⟩ : ByteArray) (⟨#[]⟩ : ByteArray) false = some (r1, r2, r3, r4, r5, r6, r7)) ∧ Aside0 (kq ≤ k) ∧ Aside0 (w'.heap[gb351]? = some (.cells #[.string (⟨#[]⟩ : ByteArray), .string (⟨#[]⟩ : ByteArray), .int .i64 0, .string (⟨#[]⟩ : ByteArray), .string (⟨#[]⟩ : ByteArray), .bool false] 24 (0, 0))) ∧ Aside0 (w'.heap[gb352]? = some (.cells #[.string a0, .string (⟨#[]⟩ : ByteArray), .int .i64 0, .string (⟨#[]⟩ : ByteArray), .string (⟨#[]⟩ : ByteArray), .bool false] 24 (0, 0))) ∧ Aside0 (Below w.heap.size w w'))
  case atStart => exact ⟨(0), (by first | rfl | (simp; done) | (simp [*]; done)), H', ⟨Nat.le_refl _⟩, ⟨by (with_reducible repeat first | apply bN_ | apply bD_ | apply bA_ | refine blk_far ?_ NB351_352.out _); exact BK351.out⟩, ⟨by (with_reducible repeat first | apply bN_ | apply bD_ | apply bA_); refine blk_put (cs := #[.string a0, .string (⟨#[]⟩ : ByteArray), .int .i64 0, .string (⟨#[]⟩ : ByteArray), .string (⟨#[]⟩ : ByteArray), .bool false]) ?_ 5 _ rfl; (with_reducible repeat first | apply bN_ | apply bD_ | apply bA_); refine blk_put (cs := #[.string a0, .string (⟨#[]⟩ : ByteArray), .int .i64 0, .string (⟨#[]⟩ : ByteArray), .string (⟨#[]⟩ : ByteArray), .bool false]) ?_ 4 _ rfl; (with_reducible repeat first | apply bN_ | apply bD_ | apply bA_); refine blk_put (cs := #[.string a0, .string (⟨#[]⟩ : ByteArray), .int .i64 0, .string (⟨#[]⟩ : ByteArray), .string (⟨#[]⟩ : ByteArray), .bool false]) ?_ 3 _ rfl; (with_reducible repeat first | apply bN_ | apply bD_ | apply bA_); refine blk_put (cs := #[.string a0, .string (⟨#[]⟩ : ByteArray), .int .i64 0, .string (⟨#[]⟩ : ByteArray), .string (⟨#[]⟩ : ByteArray), .bool false]) ?_ 2 _ rfl; (with_reducible repeat first | apply bN_ | apply bD_ | apply bA_); refine blk_put (cs := #[.string a0, .string (⟨#[]⟩ : ByteArray), .int .i64 0, .string (⟨#[]⟩ : ByteArray), .string (⟨#[]⟩ : ByteArray), .bool false]) ?_ 1 _ rfl; (with_reducible repeat first | apply bN_ | apply bD_ | apply bA_); refine blk_put (cs := #[.string (⟨#[]⟩ : ByteArray), .string (⟨#[]⟩ : ByteArray), .int .i64 0, .string (⟨#[]⟩ : ByteArray), .string (⟨#[]⟩ : ByteArray), .bool false]) ?_ 0 _ rfl; (with_reducible repeat first | apply bN_ | apply bD_ | apply bA_); exact BK352.out⟩, ⟨xw_ HB⟩⟩
  case round =>
   clear H'
   try clear c1
   try clear p2
   try clear c6
   obtain ⟨x7_1, rfl, HA, HK1, BK351, BK352, HB⟩ := hrel
   cases gk with
   | zero => exact absurd HA.out (by simp [spec_l1Authority.l0])
   | succ k1 =>
    have H := HA.out
    clear HA
    simp only [spec_l1Authority.l0] at H
    by_cases c8 : x7_1 < (a1.size : Int)
    ·rw [if_pos c8] at H
     have c8b0 : decide (x7_1 < (a1.size : Int)) = true := decide_eq_true c8
     clear c8
     (first | rw [c8b0] | (simp only [i64_w, i32_w]; rw [c8b0]) | skip)
     by_cases c9 : 0 ≤ x7_1
     ·rw [if_pos c9] at H
      have c9b0 : decide (0 ≤ x7_1) = true := decide_eq_true c9
      clear c9
      by_cases c11 : (bt a1 x7_1) = 47
      ·rw [if_pos c11] at H
       have c11b0 : ((bt a1 x7_1) == 47) = true := beq_iff_eq.mpr c11
       have c11b1 : ((bt a1 x7_1) != 47) = false := bne_eq_false_iff_eq.mpr c11
       clear c11
       have H' := Aside0.mk H
       clear H
       have p10 : 0 ≤ (x7_1 : Int) := of_decide_eq_true (by first | (with_reducible assumption) | assumption)
       have q10 : x7_1 < (a1.size : Int) := of_decide_eq_true (by first | (with_reducible assumption) | assumption)
       have hx10 := bt_at a1 x7_1
       replace p10 := eq_true p10
       replace q10 := eq_true q10
       go_wp2
       go_meet
       case rel => exact ⟨_, (x7_1), (by first | rfl | (simp; done) | (simp [*]; done)), H', ⟨by have := HK1.out; first | omega | exact Nat.le_refl _⟩, ⟨xb_ BK351⟩, ⟨xb_ BK352⟩, ⟨xw_ HB⟩⟩
      ·rw [if_neg c11] at H
       have c11b0 : ((bt a1 x7_1) == 47) = false := beq_eq_false_iff_ne.mpr c11
       have c11b1 : ((bt a1 x7_1) != 47) = true := bne_iff_ne.mpr c11
       by_cases c13 : (bt a1 x7_1) = 63
       ·rw [if_pos c13] at H
        have c13b0 : ((bt a1 x7_1) == 63) = true := beq_iff_eq.mpr c13
        have c13b1 : ((bt a1 x7_1) != 63) = false := bne_eq_false_iff_eq.mpr c13
        clear c13
        have H' := Aside0.mk H
        clear H
        have p10 : 0 ≤ (x7_1 : Int) := of_decide_eq_true (by first | (with_reducible assumption) | assumption)
        have q10 : x7_1 < (a1.size : Int) := of_decide_eq_true (by first | (with_reducible assumption) | assumption)
        have hx10 := bt_at a1 x7_1
        replace p10 := eq_true p10
        replace q10 := eq_true q10
        have p12 : 0 ≤ (x7_1 : Int) := of_decide_eq_true (by first | (with_reducible assumption) | assumption)
        have q12 : x7_1 < (a1.size : Int) := of_decide_eq_true (by first | (with_reducible assumption) | assumption)
        have hx12 := bt_at a1 x7_1
        replace p12 := eq_true p12
        replace q12 := eq_true q12
        go_wp2
        go_meet
        case rel => exact ⟨_, (x7_1), (by first | rfl | (simp; done) | (simp [*]; done)), H', ⟨by have := HK1.out; first | omega | exact Nat.le_refl _⟩, ⟨xb_ BK351⟩, ⟨xb_ BK352⟩, ⟨xw_ HB⟩⟩
       ·rw [if_neg c13] at H
        have c13b0 : ((bt a1 x7_1) == 63) = false := beq_eq_false_iff_ne.mpr c13
        have c13b1 : ((bt a1 x7_1) != 63) = true := bne_iff_ne.mpr c13
        have H' := Aside0.mk H
        clear H
        have p10 : 0 ≤ (x7_1 : Int) := of_decide_eq_true (by first | (with_reducible assumption) | assumption)
        have q10 : x7_1 < (a1.size : Int) := of_decide_eq_true (by first | (with_reducible assumption) | assumption)
        have hx10 := bt_at a1 x7_1
        replace p10 := eq_true p10
        replace q10 := eq_true q10
        have p12 : 0 ≤ (x7_1 : Int) := of_decide_eq_true (by first | (with_reducible assumption) | assumption)
        have q12 : x7_1 < (a1.size : Int) := of_decide_eq_true (by first | (with_reducible assumption) | assumption)
        have hx12 := bt_at a1 x7_1
        replace p12 := eq_true p12
        replace q12 := eq_true q12
        go_wp2
        go_roundg k1
        case measure => have := HK1.out; omega
        case rel => exact ⟨(wrap64 (x7_1 + 1)), (by first | rfl | (simp; done) | (simp [*]; done)), H', ⟨by have := HK1.out; omega⟩, ⟨xb_ BK351⟩, ⟨xb_ BK352⟩, ⟨xw_ HB⟩⟩
     ·rw [if_neg c9] at H
      exact absurd H (by simp)
    ·rw [if_neg c8] at H
     have c8b0 : decide (x7_1 < (a1.size : Int)) = false := decide_eq_false c8
     clear c8
     (first | rw [c8b0] | (simp only [i64_w, i32_w]; rw [c8b0]) | skip)
     have H' := Aside0.mk H
     clear H
     go_wp2
     go_meet
     case rel => exact ⟨_, (x7_1), (by first | rfl | (simp; done) | (simp [*]; done)), H', ⟨by have := HK1.out; first | omega | exact Nat.le_refl _⟩, ⟨xb_ BK351⟩, ⟨xb_ BK352⟩, ⟨xw_ HB⟩⟩
 case rest =>
  clear HC3
  try clear c1
  try clear p1
  try clear q1
  try clear hx1
  try clear p2
  try clear c6
  try clear p6
  try clear c8
  try clear c8b0
  try clear c9
  try clear c9b0
  try clear p10
  try clear q10
  try clear hx10
  try clear c11
  try clear c11b0
  try clear c11b1
  try clear p12
  try clear q12
  try clear hx12
  try clear c13
  try clear c13b0
  try clear c13b1
  try clear p10
  try clear p12
  try clear p2
  try clear q10
  try clear q12
  obtain ⟨kq, x7_2, rfl, HA, HJ2, BK351, BK352, HB⟩ := hcut
  cases kq with
  | zero => exact absurd HA.out (by simp [spec_l1Authority.j1])
  | succ kj2 =>
   have H := HA.out
   clear HA
   simp only [spec_l1Authority.j1] at H
   by_cases c14 : 0 ≤ x7_2
   ·rw [if_pos c14] at H
    have c14b0 := eq_true c14
    have c14b1 : decide (0 ≤ x7_2) = true := decide_eq_true c14
    clear c14
    by_cases c15 : x7_2 ≤ (a1.size : Int)
    ·rw [if_pos c15] at H
     have c15b0 := eq_true c15
     have c15b1 : decide (x7_2 ≤ (a1.size : Int)) = true := decide_eq_true c15
     clear c15
     replace H := Option.bind_eq_some_iff.mp H
     obtain ⟨⟨t353, t354, t355⟩, A160, H⟩ := H
     replace H : (if t355 = true then ((spec_l1Int.f kj2 t354).bind fun t356 => (if t356 ≤ 0 then (some ((⟨#[]⟩ : ByteArray), (⟨#[]⟩ : ByteArray), 0, (⟨#[]⟩ : ByteArray), (⟨#[]⟩ : ByteArray), false, false)) else (spec_l1Authority.j2 kj2 a1 x7_2 a0 t353 t356 (⟨#[]⟩ : ByteArray) (⟨#[]⟩ : ByteArray) false))) else (spec_l1Authority.j2 kj2 a1 x7_2 a0 t353 0 (⟨#[]⟩ : ByteArray) (⟨#[]⟩ : ByteArray) false)) = some (r1, r2, r3, r4, r5, r6, r7) := H
     have A16 := Aside0.mk A160
     clear A160
     have HC17 := Aside0.mk H
     clear H
     go_upto_if 41 with (first | ((with_reducible refine gate_callee (f := 19) rfl ?_); refine xgl_ (some 35) Tryz.func19 #[.string (a1.extract 0 (x7_2 : Int).toNat), .int .u8 58] ?_; (with_reducible refine (spec_l1Cut.calls kj2 (a1.extract 0 (x7_2 : Int).toNat) 58 t353 t354 t355 _ A16.out).mono ?_); rintro e w' ⟨rfl, ⟨nd, rfl⟩⟩; refine ⟨_, rfl, ?_⟩; (try (rw [drewN_self wc]; generalize hq_ : World.drewN wc _ = wc; have n0_ : Aside0 (wc.heap[gb351]? = some (.cells #[.string (⟨#[]⟩ : ByteArray), .string (⟨#[]⟩ : ByteArray), .int .i64 0, .string (⟨#[]⟩ : ByteArray), .string (⟨#[]⟩ : ByteArray), .bool false] 24 (0, 0))) := ⟨by rw [← hq_]; exact (xb_ BK351)⟩; have n1_ : Aside0 (wc.heap[gb352]? = some (.cells #[.string a0, .string (⟨#[]⟩ : ByteArray), .int .i64 0, .string (⟨#[]⟩ : ByteArray), .string (⟨#[]⟩ : ByteArray), .bool false] 24 (0, 0))) := ⟨by rw [← hq_]; exact (xb_ BK352)⟩; have n2_ : Aside0 (Below w.heap.size w wc) := ⟨by rw [← hq_]; exact (xw_ HB)⟩; clear BK351 BK352 HB hq_; have BK351 := n0_; have BK352 := n1_; have HB := n2_; clear n0_ n1_ n2_)); have hnb18 := NB352_351.out; have hnc18 := NB351_352.out; have ⟨_, _, _, _, _, _, _, _, _, _, _, _⟩ := c6_ BK352))
     (try simp only [Act.put, List.setIfInBounds_toArray, List.set_cons_zero, List.set_cons_succ])
     go_cut [] (fun wc => ∃ (kq : Nat) (x352000_16 : ByteArray) (x352001_16 : ByteArray) (x352002_16 : Int) (x352003_16 : ByteArray) (x352004_16 : ByteArray) (x352005_16 : Bool) (x353002_16 : Int), Aside0 (spec_l1Authority.j2 kq a1 x7_2 a0 t353 x353002_16 (⟨#[]⟩ : ByteArray) (⟨#[]⟩ : ByteArray) false = some (r1, r2, r3, r4, r5, r6, r7)) ∧ Aside0 (kq ≤ kj2) ∧ Aside0 (wc.heap[gb351]? = some (.cells #[.string x352000_16, .string x352001_16, .int .i64 x352002_16, .string x352003_16, .string x352004_16, .bool x352005_16] 24 (0, 0))) ∧ Aside0 (wc.heap[gb352]? = some (.cells #[.string a0, .string t353, .int .i64 x353002_16, .string (⟨#[]⟩ : ByteArray), .string (⟨#[]⟩ : ByteArray), .bool false] 24 (0, 0))) ∧ Aside0 (Below w.heap.size w wc))
     case first =>
      have H := HC17.out
      clear HC17
      by_cases c20 : t355 = true
      ·subst c20
       have H1 : ((spec_l1Int.f kj2 t354).bind fun t356 => (if t356 ≤ 0 then (some ((⟨#[]⟩ : ByteArray), (⟨#[]⟩ : ByteArray), 0, (⟨#[]⟩ : ByteArray), (⟨#[]⟩ : ByteArray), false, false)) else (spec_l1Authority.j2 kj2 a1 x7_2 a0 t353 t356 (⟨#[]⟩ : ByteArray) (⟨#[]⟩ : ByteArray) false))) = some (r1, r2, r3, r4, r5, r6, r7) := by rw [if_pos rfl] at H; exact H
       clear H
       have H := H1
       clear H1
       replace H := Option.bind_eq_some_iff.mp H
       obtain ⟨t356, A210, H⟩ := H
       replace H : (if t356 ≤ 0 then (some ((⟨#[]⟩ : ByteArray), (⟨#[]⟩ : ByteArray), 0, (⟨#[]⟩ : ByteArray), (⟨#[]⟩ : ByteArray), false, false)) else (spec_l1Authority.j2 kj2 a1 x7_2 a0 t353 t356 (⟨#[]⟩ : ByteArray) (⟨#[]⟩ : ByteArray) false)) = some (r1, r2, r3, r4, r5, r6, r7) := H
       have A21 := Aside0.mk A210
       clear A210
       by_cases c22 : t356 ≤ 0
       ·rw [if_pos c22] at H
        have c22b0 : decide (t356 ≤ 0) = true := decide_eq_true c22
        clear c22
        (first | rw [c22b0] | (simp only [i64_w, i32_w]; rw [c22b0]) | skip)
        simp only [Option.some.injEq, Prod.mk.injEq] at H
        obtain ⟨rfl, rfl, rfl, rfl, rfl, rfl, rfl⟩ := H
        go_wp2_with (first | ((with_reducible refine gate_callee (f := 39) rfl ?_); refine xgl_ (some 43) Tryz.func39 #[.string t354] ?_; (with_reducible refine (spec_l1Int.calls kj2 t354 t356 _ A21.out).mono ?_); rintro e w' ⟨rfl, ⟨nd, rfl⟩⟩; refine ⟨_, rfl, ?_⟩; have hnb23 := NB352_351.out; have hnc23 := NB351_352.out; have ⟨_, _, _, _, _, _, _, _, _, _, _, _⟩ := c6_ BK352; have ⟨_, _, _, _, _, _, _, _, _, _, _, _⟩ := c6_ BK351))
        refine bodyPost_ret (results_ct rfl _ _ gb351 24 #[.string (⟨#[]⟩ : ByteArray), .string (⟨#[]⟩ : ByteArray), .int .i64 0, .string (⟨#[]⟩ : ByteArray), .string (⟨#[]⟩ : ByteArray), .bool false] (0, 0) _ rfl (by (with_reducible repeat first | apply bN_ | apply bD_ | apply bA_); refine blk_put (cs := #[.string (⟨#[]⟩ : ByteArray), .string (⟨#[]⟩ : ByteArray), .int .i64 0, .string (⟨#[]⟩ : ByteArray), .string (⟨#[]⟩ : ByteArray), .bool false]) ?_ 5 _ rfl; (with_reducible repeat first | apply bN_ | apply bD_ | apply bA_); refine blk_put (cs := #[.string (⟨#[]⟩ : ByteArray), .string (⟨#[]⟩ : ByteArray), .int .i64 0, .string (⟨#[]⟩ : ByteArray), .string (⟨#[]⟩ : ByteArray), .bool false]) ?_ 4 _ rfl; (with_reducible repeat first | apply bN_ | apply bD_ | apply bA_); refine blk_put (cs := #[.string (⟨#[]⟩ : ByteArray), .string (⟨#[]⟩ : ByteArray), .int .i64 0, .string (⟨#[]⟩ : ByteArray), .string (⟨#[]⟩ : ByteArray), .bool false]) ?_ 3 _ rfl; (with_reducible repeat first | apply bN_ | apply bD_ | apply bA_); refine blk_put (cs := #[.string (⟨#[]⟩ : ByteArray), .string (⟨#[]⟩ : ByteArray), .int .i64 0, .string (⟨#[]⟩ : ByteArray), .string (⟨#[]⟩ : ByteArray), .bool false]) ?_ 2 _ rfl; (with_reducible repeat first | apply bN_ | apply bD_ | apply bA_); refine blk_put (cs := #[.string (⟨#[]⟩ : ByteArray), .string (⟨#[]⟩ : ByteArray), .int .i64 0, .string (⟨#[]⟩ : ByteArray), .string (⟨#[]⟩ : ByteArray), .bool false]) ?_ 1 _ rfl; (with_reducible repeat first | apply bN_ | apply bD_ | apply bA_); refine blk_put (cs := #[.string (⟨#[]⟩ : ByteArray), .string (⟨#[]⟩ : ByteArray), .int .i64 0, .string (⟨#[]⟩ : ByteArray), .string (⟨#[]⟩ : ByteArray), .bool false]) ?_ 0 _ rfl; (with_reducible repeat first | apply bN_ | apply bD_ | apply bA_ | refine blk_far ?_ NB351_352.out _); exact BK351.out) Tryz.underlying24 rfl (by kernel_rfl)) rfl ?_
        exact ⟨by first | rfl | (simp [errW_none, errW_some] <;> rfl) | (simp [*, errW_none, errW_some] <;> rfl), xw_ HB⟩
       ·rw [if_neg c22] at H
        have c22b0 : decide (t356 ≤ 0) = false := decide_eq_false c22
        clear c22
        (first | rw [c22b0] | (simp only [i64_w, i32_w]; rw [c22b0]) | skip)
        have H' := Aside0.mk H
        clear H
        go_wp2_with (first | ((with_reducible refine gate_callee (f := 39) rfl ?_); refine xgl_ (some 43) Tryz.func39 #[.string t354] ?_; (with_reducible refine (spec_l1Int.calls kj2 t354 t356 _ A21.out).mono ?_); rintro e w' ⟨rfl, ⟨nd, rfl⟩⟩; refine ⟨_, rfl, ?_⟩; have hnb26 := NB352_351.out; have hnc26 := NB351_352.out; have ⟨_, _, _, _, _, _, _, _, _, _, _, _⟩ := c6_ BK352))
        go_meet
        case rel => exact ⟨_, ((⟨#[]⟩ : ByteArray)), ((⟨#[]⟩ : ByteArray)), (0), ((⟨#[]⟩ : ByteArray)), ((⟨#[]⟩ : ByteArray)), (false), (t356), H', ⟨by have := HJ2.out; first | omega | exact Nat.le_refl _⟩, ⟨by (with_reducible repeat first | apply bN_ | apply bD_ | apply bA_ | refine blk_far ?_ NB351_352.out _); exact BK351.out⟩, ⟨by (with_reducible repeat first | apply bN_ | apply bD_ | apply bA_); refine blk_put (cs := #[.string a0, .string t353, .int .i64 0, .string (⟨#[]⟩ : ByteArray), .string (⟨#[]⟩ : ByteArray), .bool false]) ?_ 2 _ rfl; (with_reducible repeat first | apply bN_ | apply bD_ | apply bA_); refine blk_put (cs := #[.string a0, .string (⟨#[]⟩ : ByteArray), .int .i64 0, .string (⟨#[]⟩ : ByteArray), .string (⟨#[]⟩ : ByteArray), .bool false]) ?_ 1 _ rfl; (with_reducible repeat first | apply bN_ | apply bD_ | apply bA_); exact BK352.out⟩, ⟨xw_ HB⟩⟩
      ·replace c20 := Bool.eq_false_iff.mpr c20
       subst c20
       have H1 : (spec_l1Authority.j2 kj2 a1 x7_2 a0 t353 0 (⟨#[]⟩ : ByteArray) (⟨#[]⟩ : ByteArray) false) = some (r1, r2, r3, r4, r5, r6, r7) := by rw [if_neg (show ¬ (false = true) by decide)] at H; exact H
       clear H
       have H := H1
       clear H1
       have H' := Aside0.mk H
       clear H
       go_wp2
       go_meet
       case rel => exact ⟨_, ((⟨#[]⟩ : ByteArray)), ((⟨#[]⟩ : ByteArray)), (0), ((⟨#[]⟩ : ByteArray)), ((⟨#[]⟩ : ByteArray)), (false), (0), H', ⟨by have := HJ2.out; first | omega | exact Nat.le_refl _⟩, ⟨by (with_reducible repeat first | apply bN_ | apply bD_ | apply bA_ | refine blk_far ?_ NB351_352.out _); exact BK351.out⟩, ⟨by (with_reducible repeat first | apply bN_ | apply bD_ | apply bA_); refine blk_put (cs := #[.string a0, .string (⟨#[]⟩ : ByteArray), .int .i64 0, .string (⟨#[]⟩ : ByteArray), .string (⟨#[]⟩ : ByteArray), .bool false]) ?_ 1 _ rfl; (with_reducible repeat first | apply bN_ | apply bD_ | apply bA_); exact BK352.out⟩, ⟨xw_ HB⟩⟩
     case rest =>
      clear HC17
      try clear c1
      try clear p1
      try clear q1
      try clear hx1
      try clear c2
      try clear p2
      try clear c3
      try clear c6
      try clear p6
      try clear c8
      try clear c8b0
      try clear c9
      try clear c9b0
      try clear p10
      try clear q10
      try clear hx10
      try clear c11
      try clear c11b0
      try clear c11b1
      try clear p12
      try clear q12
      try clear hx12
      try clear c13
      try clear c13b0
      try clear c13b1
      try clear c14
      try clear c14b0
      try clear c14b1
      try clear c15
      try clear c15b0
      try clear c15b1
      try clear c18
      try clear c19
      try clear c20
      try clear c22
      try clear c22b0
      try clear c23
      try clear c26
      try clear p1
      try clear p10
      try clear p12
      try clear p2
      try clear p6
      try clear q1
      try clear q10
      try clear q12
      obtain ⟨kq, x352000_16, x352001_16, x352002_16, x352003_16, x352004_16, x352005_16, x353002_16, HA, HJ16, BK351, BK352, HB⟩ := hcut
      cases kq with
      | zero => exact absurd HA.out (by simp [spec_l1Authority.j2])
      | succ kj16 =>
       have H := HA.out
       clear HA
       simp only [spec_l1Authority.j2] at H
       by_cases c28 : 0 ≤ x7_2
       ·rw [if_pos c28] at H
        have c28b0 := eq_true c28
        have c28b1 : decide (0 ≤ x7_2) = true := decide_eq_true c28
        clear c28
        by_cases c29 : x7_2 ≤ (a1.size : Int)
        ·rw [if_pos c29] at H
         have c29b0 := eq_true c29
         have c29b1 : decide (x7_2 ≤ (a1.size : Int)) = true := decide_eq_true c29
         clear c29
         replace H := Option.bind_eq_some_iff.mp H
         obtain ⟨⟨t357, t358, t359⟩, A300, H⟩ := H
         replace H : (if t357.toList = ([] : List UInt8) then ((spec_GoodUrl.f kj16 a0 t353 x353002_16 (⟨#[47]⟩ : ByteArray) t358 t359).bind fun t360 => (if t360 = true then (some (a0, t353, x353002_16, (⟨#[47]⟩ : ByteArray), t358, t359, true)) else (some ((⟨#[]⟩ : ByteArray), (⟨#[]⟩ : ByteArray), 0, (⟨#[]⟩ : ByteArray), (⟨#[]⟩ : ByteArray), false, false)))) else ((spec_GoodUrl.f kj16 a0 t353 x353002_16 t357 t358 t359).bind fun t361 => (if t361 = true then (some (a0, t353, x353002_16, t357, t358, t359, true)) else (some ((⟨#[]⟩ : ByteArray), (⟨#[]⟩ : ByteArray), 0, (⟨#[]⟩ : ByteArray), (⟨#[]⟩ : ByteArray), false, false))))) = some (r1, r2, r3, r4, r5, r6, r7) := H
         have A30 := Aside0.mk A300
         clear A300
         by_cases c31 : t357.toList = ([] : List UInt8)
         ·rw [if_pos c31] at H
          have c31b0 : (t357.toList == ([] : List UInt8)) = true := beq_iff_eq.mpr c31
          have c31b1 : (t357.toList != ([] : List UInt8)) = false := bne_eq_false_iff_eq.mpr c31
          clear c31
          replace H := Option.bind_eq_some_iff.mp H
          obtain ⟨t360, A320, H⟩ := H
          replace H : (if t360 = true then (some (a0, t353, x353002_16, (⟨#[47]⟩ : ByteArray), t358, t359, true)) else (some ((⟨#[]⟩ : ByteArray), (⟨#[]⟩ : ByteArray), 0, (⟨#[]⟩ : ByteArray), (⟨#[]⟩ : ByteArray), false, false))) = some (r1, r2, r3, r4, r5, r6, r7) := H
          have A32 := Aside0.mk A320
          clear A320
          by_cases c33 : t360 = true
          ·subst c33
           have H1 : (some (a0, t353, x353002_16, (⟨#[47]⟩ : ByteArray), t358, t359, true)) = some (r1, r2, r3, r4, r5, r6, r7) := by rw [if_pos rfl] at H; exact H
           clear H
           have H := H1
           clear H1
           simp only [Option.some.injEq, Prod.mk.injEq] at H
           obtain ⟨rfl, rfl, rfl, rfl, rfl, rfl, rfl⟩ := H
           go_wp2_with (first | ((with_reducible refine gate_callee (f := 19) rfl ?_); refine xgl_ (some 53) Tryz.func19 #[.string (a1.extract (x7_2 : Int).toNat a1.size), .int .u8 63] ?_; (with_reducible refine (spec_l1Cut.calls kj16 (a1.extract (x7_2 : Int).toNat a1.size) 63 t357 t358 t359 _ A30.out).mono ?_); rintro e w' ⟨rfl, ⟨nd, rfl⟩⟩; refine ⟨_, rfl, ?_⟩; (try (rw [drewN_self wc]; generalize hq_ : World.drewN wc _ = wc; have n0_ : Aside0 (wc.heap[gb351]? = some (.cells #[.string x352000_16, .string x352001_16, .int .i64 x352002_16, .string x352003_16, .string x352004_16, .bool x352005_16] 24 (0, 0))) := ⟨by rw [← hq_]; exact (xb_ BK351)⟩; have n1_ : Aside0 (wc.heap[gb352]? = some (.cells #[.string a0, .string t353, .int .i64 x353002_16, .string (⟨#[]⟩ : ByteArray), .string (⟨#[]⟩ : ByteArray), .bool false] 24 (0, 0))) := ⟨by rw [← hq_]; exact (xb_ BK352)⟩; have n2_ : Aside0 (Below w.heap.size w wc) := ⟨by rw [← hq_]; exact (xw_ HB)⟩; clear BK351 BK352 HB hq_; have BK351 := n0_; have BK352 := n1_; have HB := n2_; clear n0_ n1_ n2_)); have hnb34 := NB352_351.out; have hnc34 := NB351_352.out; have ⟨_, _, _, _, _, _, _, _, _, _, _, _⟩ := c6_ BK352) | ((with_reducible refine gate_callee (f := 16) rfl ?_); refine xgl_ (some 65) Tryz.func16 #[.agg #[.string a0, .string t353, .int .i64 x353002_16, .string (⟨#[47]⟩ : ByteArray), .string t358, .bool t359]] ?_; (with_reducible refine (spec_GoodUrl.calls kj16 a0 t353 x353002_16 (⟨#[47]⟩ : ByteArray) t358 t359 true _ A32.out).mono ?_); rintro e w36 ⟨rfl, hb⟩; refine ⟨_, rfl, ?_⟩; replace BK351 := Aside0.mk (blk_below (g := gb351) (o := .cells #[.string x352000_16, .string x352001_16, .int .i64 x352002_16, .string x352003_16, .string x352004_16, .bool x352005_16] 24 (0, 0)) (by (with_reducible repeat first | apply bN_ | apply bD_ | apply bA_ | refine blk_far ?_ NB351_352.out _); exact BK351.out) hb); replace BK352 := Aside0.mk (blk_below (g := gb352) (o := .cells #[.string a0, .string t353, .int .i64 x353002_16, .string (⟨#[47]⟩ : ByteArray), .string t358, .bool t359] 24 (0, 0)) (by (with_reducible repeat first | apply bN_ | apply bD_ | apply bA_); refine blk_put (cs := #[.string a0, .string t353, .int .i64 x353002_16, .string t357, .string t358, .bool t359]) ?_ 3 _ rfl; (with_reducible repeat first | apply bN_ | apply bD_ | apply bA_); refine blk_put (cs := #[.string a0, .string t353, .int .i64 x353002_16, .string t357, .string t358, .bool false]) ?_ 5 _ rfl; (with_reducible repeat first | apply bN_ | apply bD_ | apply bA_); refine blk_put (cs := #[.string a0, .string t353, .int .i64 x353002_16, .string t357, .string (⟨#[]⟩ : ByteArray), .bool false]) ?_ 4 _ rfl; (with_reducible repeat first | apply bN_ | apply bD_ | apply bA_); refine blk_put (cs := #[.string a0, .string t353, .int .i64 x353002_16, .string (⟨#[]⟩ : ByteArray), .string (⟨#[]⟩ : ByteArray), .bool false]) ?_ 3 _ rfl; (with_reducible repeat first | apply bN_ | apply bD_ | apply bA_); exact BK352.out) hb); replace HB := xws_ HB hb; (try clear hb); (try clear hb2); (try clear hk); (try clear hi); have ⟨_, _, _, _, _, _, _, _, _, _, _, _⟩ := c6_ BK352; have ⟨_, _, _, _, _, _, _, _, _, _, _, _⟩ := c6_ BK351))
           refine bodyPost_ret (results_ct rfl _ _ gb351 24 #[.string a0, .string t353, .int .i64 x353002_16, .string (⟨#[47]⟩ : ByteArray), .string t358, .bool t359] (0, 0) _ rfl (by (with_reducible repeat first | apply bN_ | apply bD_ | apply bA_); refine blk_put (cs := #[.string a0, .string t353, .int .i64 x353002_16, .string (⟨#[47]⟩ : ByteArray), .string t358, .bool x352005_16]) ?_ 5 _ rfl; (with_reducible repeat first | apply bN_ | apply bD_ | apply bA_); refine blk_put (cs := #[.string a0, .string t353, .int .i64 x353002_16, .string (⟨#[47]⟩ : ByteArray), .string x352004_16, .bool x352005_16]) ?_ 4 _ rfl; (with_reducible repeat first | apply bN_ | apply bD_ | apply bA_); refine blk_put (cs := #[.string a0, .string t353, .int .i64 x353002_16, .string x352003_16, .string x352004_16, .bool x352005_16]) ?_ 3 _ rfl; (with_reducible repeat first | apply bN_ | apply bD_ | apply bA_); refine blk_put (cs := #[.string a0, .string t353, .int .i64 x352002_16, .string x352003_16, .string x352004_16, .bool x352005_16]) ?_ 2 _ rfl; (with_reducible repeat first | apply bN_ | apply bD_ | apply bA_); refine blk_put (cs := #[.string a0, .string x352001_16, .int .i64 x352002_16, .string x352003_16, .string x352004_16, .bool x352005_16]) ?_ 1 _ rfl; (with_reducible repeat first | apply bN_ | apply bD_ | apply bA_); refine blk_put (cs := #[.string x352000_16, .string x352001_16, .int .i64 x352002_16, .string x352003_16, .string x352004_16, .bool x352005_16]) ?_ 0 _ rfl; (with_reducible repeat first | apply bN_ | apply bD_ | apply bA_); exact BK351.out) Tryz.underlying24 rfl (by kernel_rfl)) rfl ?_
           exact ⟨by first | rfl | (simp [errW_none, errW_some] <;> rfl) | (simp [*, errW_none, errW_some] <;> rfl), xw_ HB⟩
          ·replace c33 := Bool.eq_false_iff.mpr c33
           subst c33
           have H1 : (some ((⟨#[]⟩ : ByteArray), (⟨#[]⟩ : ByteArray), 0, (⟨#[]⟩ : ByteArray), (⟨#[]⟩ : ByteArray), false, false)) = some (r1, r2, r3, r4, r5, r6, r7) := by rw [if_neg (show ¬ (false = true) by decide)] at H; exact H
           clear H
           have H := H1
           clear H1
           simp only [Option.some.injEq, Prod.mk.injEq] at H
           obtain ⟨rfl, rfl, rfl, rfl, rfl, rfl, rfl⟩ := H
           go_wp2_with (first | ((with_reducible refine gate_callee (f := 19) rfl ?_); refine xgl_ (some 53) Tryz.func19 #[.string (a1.extract (x7_2 : Int).toNat a1.size), .int .u8 63] ?_; (with_reducible refine (spec_l1Cut.calls kj16 (a1.extract (x7_2 : Int).toNat a1.size) 63 t357 t358 t359 _ A30.out).mono ?_); rintro e w' ⟨rfl, ⟨nd, rfl⟩⟩; refine ⟨_, rfl, ?_⟩; (try (rw [drewN_self wc]; generalize hq_ : World.drewN wc _ = wc; have n0_ : Aside0 (wc.heap[gb351]? = some (.cells #[.string x352000_16, .string x352001_16, .int .i64 x352002_16, .string x352003_16, .string x352004_16, .bool x352005_16] 24 (0, 0))) := ⟨by rw [← hq_]; exact (xb_ BK351)⟩; have n1_ : Aside0 (wc.heap[gb352]? = some (.cells #[.string a0, .string t353, .int .i64 x353002_16, .string (⟨#[]⟩ : ByteArray), .string (⟨#[]⟩ : ByteArray), .bool false] 24 (0, 0))) := ⟨by rw [← hq_]; exact (xb_ BK352)⟩; have n2_ : Aside0 (Below w.heap.size w wc) := ⟨by rw [← hq_]; exact (xw_ HB)⟩; clear BK351 BK352 HB hq_; have BK351 := n0_; have BK352 := n1_; have HB := n2_; clear n0_ n1_ n2_)); have hnb39 := NB352_351.out; have hnc39 := NB351_352.out; have ⟨_, _, _, _, _, _, _, _, _, _, _, _⟩ := c6_ BK352) | ((with_reducible refine gate_callee (f := 16) rfl ?_); refine xgl_ (some 65) Tryz.func16 #[.agg #[.string a0, .string t353, .int .i64 x353002_16, .string (⟨#[47]⟩ : ByteArray), .string t358, .bool t359]] ?_; (with_reducible refine (spec_GoodUrl.calls kj16 a0 t353 x353002_16 (⟨#[47]⟩ : ByteArray) t358 t359 false _ A32.out).mono ?_); rintro e w41 ⟨rfl, hb⟩; refine ⟨_, rfl, ?_⟩; replace BK351 := Aside0.mk (blk_below (g := gb351) (o := .cells #[.string x352000_16, .string x352001_16, .int .i64 x352002_16, .string x352003_16, .string x352004_16, .bool x352005_16] 24 (0, 0)) (by (with_reducible repeat first | apply bN_ | apply bD_ | apply bA_ | refine blk_far ?_ NB351_352.out _); exact BK351.out) hb); replace BK352 := Aside0.mk (blk_below (g := gb352) (o := .cells #[.string a0, .string t353, .int .i64 x353002_16, .string (⟨#[47]⟩ : ByteArray), .string t358, .bool t359] 24 (0, 0)) (by (with_reducible repeat first | apply bN_ | apply bD_ | apply bA_); refine blk_put (cs := #[.string a0, .string t353, .int .i64 x353002_16, .string t357, .string t358, .bool t359]) ?_ 3 _ rfl; (with_reducible repeat first | apply bN_ | apply bD_ | apply bA_); refine blk_put (cs := #[.string a0, .string t353, .int .i64 x353002_16, .string t357, .string t358, .bool false]) ?_ 5 _ rfl; (with_reducible repeat first | apply bN_ | apply bD_ | apply bA_); refine blk_put (cs := #[.string a0, .string t353, .int .i64 x353002_16, .string t357, .string (⟨#[]⟩ : ByteArray), .bool false]) ?_ 4 _ rfl; (with_reducible repeat first | apply bN_ | apply bD_ | apply bA_); refine blk_put (cs := #[.string a0, .string t353, .int .i64 x353002_16, .string (⟨#[]⟩ : ByteArray), .string (⟨#[]⟩ : ByteArray), .bool false]) ?_ 3 _ rfl; (with_reducible repeat first | apply bN_ | apply bD_ | apply bA_); exact BK352.out) hb); replace HB := xws_ HB hb; (try clear hb); (try clear hb2); (try clear hk); (try clear hi); have ⟨_, _, _, _, _, _, _, _, _, _, _, _⟩ := c6_ BK351))
           refine bodyPost_ret (results_ct rfl _ _ gb351 24 #[.string (⟨#[]⟩ : ByteArray), .string (⟨#[]⟩ : ByteArray), .int .i64 0, .string (⟨#[]⟩ : ByteArray), .string (⟨#[]⟩ : ByteArray), .bool false] (0, 0) _ rfl (by (with_reducible repeat first | apply bN_ | apply bD_ | apply bA_); refine blk_put (cs := #[.string (⟨#[]⟩ : ByteArray), .string (⟨#[]⟩ : ByteArray), .int .i64 0, .string (⟨#[]⟩ : ByteArray), .string (⟨#[]⟩ : ByteArray), .bool x352005_16]) ?_ 5 _ rfl; (with_reducible repeat first | apply bN_ | apply bD_ | apply bA_); refine blk_put (cs := #[.string (⟨#[]⟩ : ByteArray), .string (⟨#[]⟩ : ByteArray), .int .i64 0, .string (⟨#[]⟩ : ByteArray), .string x352004_16, .bool x352005_16]) ?_ 4 _ rfl; (with_reducible repeat first | apply bN_ | apply bD_ | apply bA_); refine blk_put (cs := #[.string (⟨#[]⟩ : ByteArray), .string (⟨#[]⟩ : ByteArray), .int .i64 0, .string x352003_16, .string x352004_16, .bool x352005_16]) ?_ 3 _ rfl; (with_reducible repeat first | apply bN_ | apply bD_ | apply bA_); refine blk_put (cs := #[.string (⟨#[]⟩ : ByteArray), .string (⟨#[]⟩ : ByteArray), .int .i64 x352002_16, .string x352003_16, .string x352004_16, .bool x352005_16]) ?_ 2 _ rfl; (with_reducible repeat first | apply bN_ | apply bD_ | apply bA_); refine blk_put (cs := #[.string (⟨#[]⟩ : ByteArray), .string x352001_16, .int .i64 x352002_16, .string x352003_16, .string x352004_16, .bool x352005_16]) ?_ 1 _ rfl; (with_reducible repeat first | apply bN_ | apply bD_ | apply bA_); refine blk_put (cs := #[.string x352000_16, .string x352001_16, .int .i64 x352002_16, .string x352003_16, .string x352004_16, .bool x352005_16]) ?_ 0 _ rfl; (with_reducible repeat first | apply bN_ | apply bD_ | apply bA_); exact BK351.out) Tryz.underlying24 rfl (by kernel_rfl)) rfl ?_
           exact ⟨by first | rfl | (simp [errW_none, errW_some] <;> rfl) | (simp [*, errW_none, errW_some] <;> rfl), xw_ HB⟩
         ·rw [if_neg c31] at H
          have c31b0 : (t357.toList == ([] : List UInt8)) = false := beq_eq_false_iff_ne.mpr c31
          have c31b1 : (t357.toList != ([] : List UInt8)) = true := bne_iff_ne.mpr c31
          replace H := Option.bind_eq_some_iff.mp H
          obtain ⟨t361, A430, H⟩ := H
          replace H : (if t361 = true then (some (a0, t353, x353002_16, t357, t358, t359, true)) else (some ((⟨#[]⟩ : ByteArray), (⟨#[]⟩ : ByteArray), 0, (⟨#[]⟩ : ByteArray), (⟨#[]⟩ : ByteArray), false, false))) = some (r1, r2, r3, r4, r5, r6, r7) := H
          have A43 := Aside0.mk A430
          clear A430
          by_cases c44 : t361 = true
          ·subst c44
           have H1 : (some (a0, t353, x353002_16, t357, t358, t359, true)) = some (r1, r2, r3, r4, r5, r6, r7) := by rw [if_pos rfl] at H; exact H
           clear H
           have H := H1
           clear H1
           simp only [Option.some.injEq, Prod.mk.injEq] at H
           obtain ⟨rfl, rfl, rfl, rfl, rfl, rfl, rfl⟩ := H
           go_wp2_with (first | ((with_reducible refine gate_callee (f := 19) rfl ?_); refine xgl_ (some 53) Tryz.func19 #[.string (a1.extract (x7_2 : Int).toNat a1.size), .int .u8 63] ?_; (with_reducible refine (spec_l1Cut.calls kj16 (a1.extract (x7_2 : Int).toNat a1.size) 63 t357 t358 t359 _ A30.out).mono ?_); rintro e w' ⟨rfl, ⟨nd, rfl⟩⟩; refine ⟨_, rfl, ?_⟩; (try (rw [drewN_self wc]; generalize hq_ : World.drewN wc _ = wc; have n0_ : Aside0 (wc.heap[gb351]? = some (.cells #[.string x352000_16, .string x352001_16, .int .i64 x352002_16, .string x352003_16, .string x352004_16, .bool x352005_16] 24 (0, 0))) := ⟨by rw [← hq_]; exact (xb_ BK351)⟩; have n1_ : Aside0 (wc.heap[gb352]? = some (.cells #[.string a0, .string t353, .int .i64 x353002_16, .string (⟨#[]⟩ : ByteArray), .string (⟨#[]⟩ : ByteArray), .bool false] 24 (0, 0))) := ⟨by rw [← hq_]; exact (xb_ BK352)⟩; have n2_ : Aside0 (Below w.heap.size w wc) := ⟨by rw [← hq_]; exact (xw_ HB)⟩; clear BK351 BK352 HB hq_; have BK351 := n0_; have BK352 := n1_; have HB := n2_; clear n0_ n1_ n2_)); have hnb45 := NB352_351.out; have hnc45 := NB351_352.out; have ⟨_, _, _, _, _, _, _, _, _, _, _, _⟩ := c6_ BK352) | ((with_reducible refine gate_callee (f := 16) rfl ?_); refine xgl_ (some 65) Tryz.func16 #[.agg #[.string a0, .string t353, .int .i64 x353002_16, .string t357, .string t358, .bool t359]] ?_; (with_reducible refine (spec_GoodUrl.calls kj16 a0 t353 x353002_16 t357 t358 t359 true _ A43.out).mono ?_); rintro e w47 ⟨rfl, hb⟩; refine ⟨_, rfl, ?_⟩; replace BK351 := Aside0.mk (blk_below (g := gb351) (o := .cells #[.string x352000_16, .string x352001_16, .int .i64 x352002_16, .string x352003_16, .string x352004_16, .bool x352005_16] 24 (0, 0)) (by (with_reducible repeat first | apply bN_ | apply bD_ | apply bA_ | refine blk_far ?_ NB351_352.out _); exact BK351.out) hb); replace BK352 := Aside0.mk (blk_below (g := gb352) (o := .cells #[.string a0, .string t353, .int .i64 x353002_16, .string t357, .string t358, .bool t359] 24 (0, 0)) (by (with_reducible repeat first | apply bN_ | apply bD_ | apply bA_); refine blk_put (cs := #[.string a0, .string t353, .int .i64 x353002_16, .string t357, .string t358, .bool false]) ?_ 5 _ rfl; (with_reducible repeat first | apply bN_ | apply bD_ | apply bA_); refine blk_put (cs := #[.string a0, .string t353, .int .i64 x353002_16, .string t357, .string (⟨#[]⟩ : ByteArray), .bool false]) ?_ 4 _ rfl; (with_reducible repeat first | apply bN_ | apply bD_ | apply bA_); refine blk_put (cs := #[.string a0, .string t353, .int .i64 x353002_16, .string (⟨#[]⟩ : ByteArray), .string (⟨#[]⟩ : ByteArray), .bool false]) ?_ 3 _ rfl; (with_reducible repeat first | apply bN_ | apply bD_ | apply bA_); exact BK352.out) hb); replace HB := xws_ HB hb; (try clear hb); (try clear hb2); (try clear hk); (try clear hi); have ⟨_, _, _, _, _, _, _, _, _, _, _, _⟩ := c6_ BK352; have ⟨_, _, _, _, _, _, _, _, _, _, _, _⟩ := c6_ BK351))
           refine bodyPost_ret (results_ct rfl _ _ gb351 24 #[.string a0, .string t353, .int .i64 x353002_16, .string t357, .string t358, .bool t359] (0, 0) _ rfl (by (with_reducible repeat first | apply bN_ | apply bD_ | apply bA_); refine blk_put (cs := #[.string a0, .string t353, .int .i64 x353002_16, .string t357, .string t358, .bool x352005_16]) ?_ 5 _ rfl; (with_reducible repeat first | apply bN_ | apply bD_ | apply bA_); refine blk_put (cs := #[.string a0, .string t353, .int .i64 x353002_16, .string t357, .string x352004_16, .bool x352005_16]) ?_ 4 _ rfl; (with_reducible repeat first | apply bN_ | apply bD_ | apply bA_); refine blk_put (cs := #[.string a0, .string t353, .int .i64 x353002_16, .string x352003_16, .string x352004_16, .bool x352005_16]) ?_ 3 _ rfl; (with_reducible repeat first | apply bN_ | apply bD_ | apply bA_); refine blk_put (cs := #[.string a0, .string t353, .int .i64 x352002_16, .string x352003_16, .string x352004_16, .bool x352005_16]) ?_ 2 _ rfl; (with_reducible repeat first | apply bN_ | apply bD_ | apply bA_); refine blk_put (cs := #[.string a0, .string x352001_16, .int .i64 x352002_16, .string x352003_16, .string x352004_16, .bool x352005_16]) ?_ 1 _ rfl; (with_reducible repeat first | apply bN_ | apply bD_ | apply bA_); refine blk_put (cs := #[.string x352000_16, .string x352001_16, .int .i64 x352002_16, .string x352003_16, .string x352004_16, .bool x352005_16]) ?_ 0 _ rfl; (with_reducible repeat first | apply bN_ | apply bD_ | apply bA_); exact BK351.out) Tryz.underlying24 rfl (by kernel_rfl)) rfl ?_
           exact ⟨by first | rfl | (simp [errW_none, errW_some] <;> rfl) | (simp [*, errW_none, errW_some] <;> rfl), xw_ HB⟩
          ·replace c44 := Bool.eq_false_iff.mpr c44
           subst c44
           have H1 : (some ((⟨#[]⟩ : ByteArray), (⟨#[]⟩ : ByteArray), 0, (⟨#[]⟩ : ByteArray), (⟨#[]⟩ : ByteArray), false, false)) = some (r1, r2, r3, r4, r5, r6, r7) := by rw [if_neg (show ¬ (false = true) by decide)] at H; exact H
           clear H
           have H := H1
           clear H1
           simp only [Option.some.injEq, Prod.mk.injEq] at H
           obtain ⟨rfl, rfl, rfl, rfl, rfl, rfl, rfl⟩ := H
           go_wp2_with (first | ((with_reducible refine gate_callee (f := 19) rfl ?_); refine xgl_ (some 53) Tryz.func19 #[.string (a1.extract (x7_2 : Int).toNat a1.size), .int .u8 63] ?_; (with_reducible refine (spec_l1Cut.calls kj16 (a1.extract (x7_2 : Int).toNat a1.size) 63 t357 t358 t359 _ A30.out).mono ?_); rintro e w' ⟨rfl, ⟨nd, rfl⟩⟩; refine ⟨_, rfl, ?_⟩; (try (rw [drewN_self wc]; generalize hq_ : World.drewN wc _ = wc; have n0_ : Aside0 (wc.heap[gb351]? = some (.cells #[.string x352000_16, .string x352001_16, .int .i64 x352002_16, .string x352003_16, .string x352004_16, .bool x352005_16] 24 (0, 0))) := ⟨by rw [← hq_]; exact (xb_ BK351)⟩; have n1_ : Aside0 (wc.heap[gb352]? = some (.cells #[.string a0, .string t353, .int .i64 x353002_16, .string (⟨#[]⟩ : ByteArray), .string (⟨#[]⟩ : ByteArray), .bool false] 24 (0, 0))) := ⟨by rw [← hq_]; exact (xb_ BK352)⟩; have n2_ : Aside0 (Below w.heap.size w wc) := ⟨by rw [← hq_]; exact (xw_ HB)⟩; clear BK351 BK352 HB hq_; have BK351 := n0_; have BK352 := n1_; have HB := n2_; clear n0_ n1_ n2_)); have hnb50 := NB352_351.out; have hnc50 := NB351_352.out; have ⟨_, _, _, _, _, _, _, _, _, _, _, _⟩ := c6_ BK352) | ((with_reducible refine gate_callee (f := 16) rfl ?_); refine xgl_ (some 65) Tryz.func16 #[.agg #[.string a0, .string t353, .int .i64 x353002_16, .string t357, .string t358, .bool t359]] ?_; (with_reducible refine (spec_GoodUrl.calls kj16 a0 t353 x353002_16 t357 t358 t359 false _ A43.out).mono ?_); rintro e w52 ⟨rfl, hb⟩; refine ⟨_, rfl, ?_⟩; replace BK351 := Aside0.mk (blk_below (g := gb351) (o := .cells #[.string x352000_16, .string x352001_16, .int .i64 x352002_16, .string x352003_16, .string x352004_16, .bool x352005_16] 24 (0, 0)) (by (with_reducible repeat first | apply bN_ | apply bD_ | apply bA_ | refine blk_far ?_ NB351_352.out _); exact BK351.out) hb); replace BK352 := Aside0.mk (blk_below (g := gb352) (o := .cells #[.string a0, .string t353, .int .i64 x353002_16, .string t357, .string t358, .bool t359] 24 (0, 0)) (by (with_reducible repeat first | apply bN_ | apply bD_ | apply bA_); refine blk_put (cs := #[.string a0, .string t353, .int .i64 x353002_16, .string t357, .string t358, .bool false]) ?_ 5 _ rfl; (with_reducible repeat first | apply bN_ | apply bD_ | apply bA_); refine blk_put (cs := #[.string a0, .string t353, .int .i64 x353002_16, .string t357, .string (⟨#[]⟩ : ByteArray), .bool false]) ?_ 4 _ rfl; (with_reducible repeat first | apply bN_ | apply bD_ | apply bA_); refine blk_put (cs := #[.string a0, .string t353, .int .i64 x353002_16, .string (⟨#[]⟩ : ByteArray), .string (⟨#[]⟩ : ByteArray), .bool false]) ?_ 3 _ rfl; (with_reducible repeat first | apply bN_ | apply bD_ | apply bA_); exact BK352.out) hb); replace HB := xws_ HB hb; (try clear hb); (try clear hb2); (try clear hk); (try clear hi); have ⟨_, _, _, _, _, _, _, _, _, _, _, _⟩ := c6_ BK351))
           refine bodyPost_ret (results_ct rfl _ _ gb351 24 #[.string (⟨#[]⟩ : ByteArray), .string (⟨#[]⟩ : ByteArray), .int .i64 0, .string (⟨#[]⟩ : ByteArray), .string (⟨#[]⟩ : ByteArray), .bool false] (0, 0) _ rfl (by (with_reducible repeat first | apply bN_ | apply bD_ | apply bA_); refine blk_put (cs := #[.string (⟨#[]⟩ : ByteArray), .string (⟨#[]⟩ : ByteArray), .int .i64 0, .string (⟨#[]⟩ : ByteArray), .string (⟨#[]⟩ : ByteArray), .bool x352005_16]) ?_ 5 _ rfl; (with_reducible repeat first | apply bN_ | apply bD_ | apply bA_); refine blk_put (cs := #[.string (⟨#[]⟩ : ByteArray), .string (⟨#[]⟩ : ByteArray), .int .i64 0, .string (⟨#[]⟩ : ByteArray), .string x352004_16, .bool x352005_16]) ?_ 4 _ rfl; (with_reducible repeat first | apply bN_ | apply bD_ | apply bA_); refine blk_put (cs := #[.string (⟨#[]⟩ : ByteArray), .string (⟨#[]⟩ : ByteArray), .int .i64 0, .string x352003_16, .string x352004_16, .bool x352005_16]) ?_ 3 _ rfl; (with_reducible repeat first | apply bN_ | apply bD_ | apply bA_); refine blk_put (cs := #[.string (⟨#[]⟩ : ByteArray), .string (⟨#[]⟩ : ByteArray), .int .i64 x352002_16, .string x352003_16, .string x352004_16, .bool x352005_16]) ?_ 2 _ rfl; (with_reducible repeat first | apply bN_ | apply bD_ | apply bA_); refine blk_put (cs := #[.string (⟨#[]⟩ : ByteArray), .string x352001_16, .int .i64 x352002_16, .string x352003_16, .string x352004_16, .bool x352005_16]) ?_ 1 _ rfl; (with_reducible repeat first | apply bN_ | apply bD_ | apply bA_); refine blk_put (cs := #[.string x352000_16, .string x352001_16, .int .i64 x352002_16, .string x352003_16, .string x352004_16, .bool x352005_16]) ?_ 0 _ rfl; (with_reducible repeat first | apply bN_ | apply bD_ | apply bA_); exact BK351.out) Tryz.underlying24 rfl (by kernel_rfl)) rfl ?_
           exact ⟨by first | rfl | (simp [errW_none, errW_some] <;> rfl) | (simp [*, errW_none, errW_some] <;> rfl), xw_ HB⟩
        ·rw [if_neg c29] at H
         exact absurd H (by simp)
       ·rw [if_neg c28] at H
        exact absurd H (by simp)
    ·rw [if_neg c15] at H
     exact absurd H (by simp)
   ·rw [if_neg c14] at H
    exact absurd H (by simp)

end Go.Proofs.YtklicdjbihmbiaaGreatDoor.PFnResolved
