-- Written by a program of this project (xprint.py) out of the translation; Lean checks it.
import Derived.Test.YtpggepjfhgalkaaGreatDoorPFnExactKeyOfx0
namespace Go.Proofs.YtpggepjfhgalkaaGreatDoor.PFnExactKeyOf
open Go.RowKit Go.Proofs.YtpggepjfhgalkaaGreatDoorW.PrintWords Go.Proofs.YtpggepjfhgalkaaGreatDoorW.PrintLast Go.Proofs.YtpggepjfhgalkaaGreatDoorW.PrintMore
attribute [local go_sem] max2_int min2_int max_two min_two max_three min_three max_four min_four   -- for this text's walks alone
set_option linter.unusedVariables false
set_option linter.unusedSimpArgs false

/-! ### spec_l3Trim: function 139 -/
mutual
def spec_l3Trim.j1 : Nat → ByteArray → Option (ByteArray)
 | 0,_ => none
 | k + 1,x0 => spec_l3Trim.l1 k x0
def spec_l3Trim.l1 : Nat → ByteArray → Option (ByteArray)
 | 0,_ => none
 | k + 1,x0 => if (x0.size : Int) > 0 then (if 0 ≤ (wrap64 ((x0.size : Int) - 1)) then (if (wrap64 ((x0.size : Int) - 1)) < (x0.size : Int) then (if (bt x0 (wrap64 ((x0.size : Int) - 1))) = 32 then (if (wrap64 ((x0.size : Int) - 1)) ≤ (x0.size : Int) then (spec_l3Trim.l1 k (x0.extract 0 ((wrap64 ((x0.size : Int) - 1)) : Int).toNat)) else (none)) else (some x0)) else (none)) else (none)) else (some x0)
def spec_l3Trim.l0 : Nat → ByteArray → Option (ByteArray)
 | 0,_ => none
 | k + 1,x0 => if (x0.size : Int) > 0 then (if 0 < (x0.size : Int) then (if (bt x0 0) = 32 then (if 1 ≤ (x0.size : Int) then (spec_l3Trim.l0 k (x0.extract 1 x0.size)) else (none)) else (spec_l3Trim.j1 k x0)) else (none)) else (spec_l3Trim.j1 k x0)
end
def spec_l3Trim.f (k : Nat) (a0 : ByteArray) : Option (ByteArray):=spec_l3Trim.l0 k a0
set_option maxHeartbeats 8000000 in
set_option maxRecDepth 100000 in
theorem spec_l3Trim.calls (k : Nat) (a0 : ByteArray) (r : ByteArray) (w : World) (h : spec_l3Trim.f k a0 = some r) :
  Calls Tryz.prog 139 #[.string a0] w fun e w' => e = .returned (.string r) ∧ Drawn0 w w':=by
 have H:=h
 unfold spec_l3Trim.f at H
 clear h
 have HC2:=Aside0.mk H
 clear H
 go_enter Tryz.func139,Tryz.ntmps139
 go_upto_block 0 with (fail)
 go_cut [0] (fun v0 wc => ∃ (kq : Nat) (x0_1 : ByteArray),v0 = .string x0_1 ∧ Aside0 (spec_l3Trim.j1 kq x0_1 = some r) ∧ Aside0 (kq ≤ k) ∧ Drawn0 w wc)
 case first =>
  have H:=HC2.out
  clear HC2
  have H':=Aside0.mk H
  clear H
  go_wp2
  go_loopg [0] k (fun kq v0 w' => ∃ (x0_1 : ByteArray),v0 = .string x0_1 ∧ Aside0 (spec_l3Trim.l0 kq x0_1 = some r) ∧ Aside0 (kq ≤ k) ∧ Drawn0 w w')
  case atStart => exact ⟨(a0),me_,H',⟨Nat.le_refl _⟩,by repeat (first | exact Drawn0.refl _ | apply Drawn0.step)⟩
  case round =>
   clear H'
   obtain ⟨x0_1,rfl,HA,HK1,⟨m1,rfl⟩⟩:=hrel
   cases gk with
   | zero => exact absurd HA.out (by simp [spec_l3Trim.l0])
   | succ k1 =>
    have H:=HA.out
    clear HA
    simp only [spec_l3Trim.l0] at H
    by_cases c3 : (x0_1.size : Int) > 0
    ·rw [if_pos c3] at H
     have c3b0 : decide (0 < (x0_1.size : Int)) = true:=decide_eq_true c3
     have c3b1 : decide (0 < x0_1.size) = true:=decide_eq_true (by omega)
     clear c3
     (first | rw [c3b0] | (simp only [i64_w,i32_w];rw [c3b0]) | skip)
     replace H:=mi_ H
     obtain ⟨c4,H⟩:=H
     have c4b0:=decide_eq_true c4
     have c4b1 : decide (0 < x0_1.size) = true:=decide_eq_true (by omega)
     clear c4
     by_cases c6 : (bt x0_1 0) = 32
     ·rw [if_pos c6] at H
      have c6b0 : ((bt x0_1 0) == 32) = true:=beq_iff_eq.mpr c6
      have c6b1 : ((bt x0_1 0) != 32) = false:=bne_eq_false_iff_eq.mpr c6
      clear c6
      replace H:=mi_ H
      obtain ⟨c7,H⟩:=H
      have c7b0:=eq_true c7
      have c7b1:=decide_eq_true c7
      clear c7
      have H':=Aside0.mk H
      clear H
      have p5 : 0 ≤ (0 : Int):=(by omega)
      have q5 : 0 < x0_1.size:=(by have : (0 : Int) < (x0_1.size : Int):=md_;omega)
      have hx5 : ∀ h : 0 < x0_1.size,((x0_1[0]'h).toNat : Int) = bt x0_1 0:=bt_at x0_1 0
      clear p5
      have qi5 : (0 < (x0_1.size : Int)) = True:=eq_true (md_)
      replace q5:=eq_true q5
      go_wp2
      go_roundg k1
      case measure => have:=HK1.out;omega
      case rel => exact ⟨(x0_1.extract 1 x0_1.size),me_,H',⟨by have:=HK1.out;omega⟩,by repeat (first | exact Drawn0.refl _ | apply Drawn0.step)⟩
     ·rw [if_neg c6] at H
      have c6b0 : ((bt x0_1 0) == 32) = false:=beq_eq_false_iff_ne.mpr c6
      have c6b1 : ((bt x0_1 0) != 32) = true:=bne_iff_ne.mpr c6
      have H':=Aside0.mk H
      clear H
      have p5 : 0 ≤ (0 : Int):=(by omega)
      have q5 : 0 < x0_1.size:=(by have : (0 : Int) < (x0_1.size : Int):=md_;omega)
      have hx5 : ∀ h : 0 < x0_1.size,((x0_1[0]'h).toNat : Int) = bt x0_1 0:=bt_at x0_1 0
      clear p5
      have qi5 : (0 < (x0_1.size : Int)) = True:=eq_true (md_)
      replace q5:=eq_true q5
      go_wp2
      go_meet
      case rel => exact ⟨_,(x0_1),me_,H',⟨by have:=HK1.out;first | omega | exact Nat.le_refl _⟩,by repeat (first | exact Drawn0.refl _ | apply Drawn0.step)⟩
    ·rw [if_neg c3] at H
     have c3b0 : decide (0 < (x0_1.size : Int)) = false:=decide_eq_false c3
     have c3b1 : decide (0 < x0_1.size) = false:=decide_eq_false (by omega)
     clear c3
     (first | rw [c3b0] | (simp only [i64_w,i32_w];rw [c3b0]) | skip)
     have H':=Aside0.mk H
     clear H
     go_wp2
     go_meet
     case rel => exact ⟨_,(x0_1),me_,H',⟨by have:=HK1.out;first | omega | exact Nat.le_refl _⟩,by repeat (first | exact Drawn0.refl _ | apply Drawn0.step)⟩
 case rest =>
  clear HC2
  obtain ⟨kq,x0_1,rfl,HA,HJ1,⟨mc1,rfl⟩⟩:=hcut
  cases kq with
  | zero => exact absurd HA.out (by simp [spec_l3Trim.j1])
  | succ kj1 =>
   have H:=HA.out
   clear HA
   simp only [spec_l3Trim.j1] at H
   have H':=Aside0.mk H
   clear H
   go_wp2
   go_loopg [0] kj1 (fun kq v0 w' => ∃ (x0_2 : ByteArray),v0 = .string x0_2 ∧ Aside0 (spec_l3Trim.l1 kq x0_2 = some r) ∧ Aside0 (kq ≤ kj1) ∧ Drawn0 w w')
   case atStart => exact ⟨(x0_1),me_,H',⟨Nat.le_refl _⟩,by repeat (first | exact Drawn0.refl _ | apply Drawn0.step)⟩
   case round =>
    clear H'
    obtain ⟨x0_2,rfl,HA,HK2,⟨m2,rfl⟩⟩:=hrel
    cases gk with
    | zero => exact absurd HA.out (by simp [spec_l3Trim.l1])
    | succ k2 =>
     have H:=HA.out
     clear HA
     simp only [spec_l3Trim.l1] at H
     by_cases c8 : (x0_2.size : Int) > 0
     ·rw [if_pos c8] at H
      have c8b0 : decide (0 < (x0_2.size : Int)) = true:=decide_eq_true c8
      have c8b1 : decide (0 < x0_2.size) = true:=decide_eq_true (by omega)
      clear c8
      obtain ⟨ji9,hji9⟩ : ∃ j_ : Int,(wrap64 ((x0_2.size : Int) - 1)) = j_:=⟨_,rfl⟩
      replace H : (if 0 ≤ (ji9) then (if (ji9) < (x0_2.size : Int) then (if (bt x0_2 (ji9)) = 32 then (if (ji9) ≤ (x0_2.size : Int) then (spec_l3Trim.l1 k2 (x0_2.extract 0 ((ji9) : Int).toNat)) else (none)) else (some x0_2)) else (none)) else (none)) = some r:=by first | (rw [hji9] at H;exact H) | (simp only [hji9] at H ⊢;exact H)
      have hji9w : (IntKind.i64.wrap ((x0_2.size : Int) - 1)) = ji9:=(i64_w _).trans hji9
      replace H:=mi_ H
      obtain ⟨c10,H⟩:=H
      have c10b0:=decide_eq_true c10
      clear c10
      replace H:=mi_ H
      obtain ⟨c11,H⟩:=H
      have c11b0:=decide_eq_true c11
      clear c11
      by_cases c13 : (bt x0_2 (ji9)) = 32
      ·rw [if_pos c13] at H
       have c13b0 : ((bt x0_2 (ji9)) == 32) = true:=beq_iff_eq.mpr c13
       have c13b1 : ((bt x0_2 (ji9)) != 32) = false:=bne_eq_false_iff_eq.mpr c13
       clear c13
       have c14b0:=eq_true (md_ : 0 ≤ (ji9))
       replace H:=mi_ H
       obtain ⟨c15,H⟩:=H
       have c15b0:=eq_true c15
       have c15b1:=decide_eq_true c15
       clear c15
       have H':=Aside0.mk H
       clear H
       have p12 : 0 ≤ ((ji9) : Int):=md_
       have q12 : (ji9) < (x0_2.size : Int):=md_
       have hx12:=bt_at x0_2 (ji9)
       replace p12:=eq_true p12
       replace q12:=eq_true q12
       go_wp2
       go_roundg k2
       case measure => have:=HJ1.out;have:=HK2.out;omega
       case rel => exact ⟨(x0_2.extract 0 ((ji9) : Int).toNat),(by first | rfl | (simp;done) | (simp only [← hji9] <;> (first | rfl | simp)) | (simp [*];done)),H',⟨by have:=HJ1.out;have:=HK2.out;omega⟩,by repeat (first | exact Drawn0.refl _ | apply Drawn0.step)⟩
      ·rw [if_neg c13] at H
       have c13b0 : ((bt x0_2 (ji9)) == 32) = false:=beq_eq_false_iff_ne.mpr c13
       have c13b1 : ((bt x0_2 (ji9)) != 32) = true:=bne_iff_ne.mpr c13
       obtain rfl:=Option.some.inj H
       have p12 : 0 ≤ ((ji9) : Int):=md_
       have q12 : (ji9) < (x0_2.size : Int):=md_
       have hx12:=bt_at x0_2 (ji9)
       replace p12:=eq_true p12
       replace q12:=eq_true q12
       go_wp2
       go_ret
       exact ⟨by first | rfl | (simp;done) | (simp only [← hji9] <;> (first | rfl | simp)) | (simp [*];done),by repeat (first | exact Drawn0.refl _ | apply Drawn0.step)⟩
     ·rw [if_neg c8] at H
      have c8b0 : decide (0 < (x0_2.size : Int)) = false:=decide_eq_false c8
      have c8b1 : decide (0 < x0_2.size) = false:=decide_eq_false (by omega)
      clear c8
      obtain rfl:=Option.some.inj H
      go_wp2
      go_ret
      exact ⟨by first | rfl | (simp;done) | (simp [*];done),by repeat (first | exact Drawn0.refl _ | apply Drawn0.step)⟩

/-! ### spec_l3List: function 88 -/
mutual
def spec_l3List.l0 : Nat → ByteArray → List ByteArray → Int → Bool → Int → Option (List ByteArray × Bool)
 | 0,_,_,_,_,_ => none
 | k + 1,x0,x4,x5,x6,x7 => if x7 ≤ (x0.size : Int) then (if x7 = (x0.size : Int) then (spec_l3List.j1 k x0 x4 x5 x6 x7 true) else (if 0 ≤ x7 then (if x7 < (x0.size : Int) then (if (bt x0 x7) = 44 then (spec_l3List.j1 k x0 x4 x5 x6 x7 (!x6)) else (spec_l3List.j1 k x0 x4 x5 x6 x7 false)) else (none)) else (none))) else (some (x4,!x6))
def spec_l3List.j1 : Nat → ByteArray → List ByteArray → Int → Bool → Int → Bool → Option (List ByteArray × Bool)
 | 0,_,_,_,_,_,_ => none
 | k + 1,x0,x4,x5,x6,x7,x28 => if x28 = true then (if 0 ≤ x5 then (if x5 ≤ x7 then (if x7 ≤ (x0.size : Int) then ((spec_l3Trim.f k (x0.extract (x5 : Int).toNat (x7 : Int).toNat)).bind fun t150 => (if t150.toList = ([] : List UInt8) then (spec_l3List.l0 k x0 x4 (wrap64 (x7 + 1)) x6 (wrap64 (x7 + 1))) else (if x4.length < 8796093022208 then (spec_l3List.l0 k x0 (x4 ++ [t150]) (wrap64 (x7 + 1)) x6 (wrap64 (x7 + 1))) else (none)))) else (none)) else (none)) else (none)) else (if 0 ≤ x7 then (if x7 < (x0.size : Int) then (if (bt x0 x7) = 34 then (spec_l3List.j2 k x0 x4 x5 (!x6) x7) else (spec_l3List.j2 k x0 x4 x5 x6 x7)) else (none)) else (none))
def spec_l3List.j2 : Nat → ByteArray → List ByteArray → Int → Bool → Int → Option (List ByteArray × Bool)
 | 0,_,_,_,_,_ => none
 | k + 1,x0,x4,x5,x6,x7 => if 0 ≤ x7 then (if x7 < (x0.size : Int) then (if (bt x0 x7) = 92 then (spec_l3List.j3 k x0 x4 x5 x6 x7 x6) else (spec_l3List.j3 k x0 x4 x5 x6 x7 false)) else (none)) else (none)
def spec_l3List.j3 : Nat → ByteArray → List ByteArray → Int → Bool → Int → Bool → Option (List ByteArray × Bool)
 | 0,_,_,_,_,_,_ => none
 | k + 1,x0,x4,x5,x6,x7,x54 => if x54 = true then (if (wrap64 (x7 + 1)) = (x0.size : Int) then (some (([] : List ByteArray),false)) else (spec_l3List.l0 k x0 x4 x5 x6 (wrap64 ((wrap64 (x7 + 1)) + 1)))) else (spec_l3List.l0 k x0 x4 x5 x6 (wrap64 (x7 + 1)))
end
def spec_l3List.f (k : Nat) (a0 : ByteArray) : Option (List ByteArray × Bool):=spec_l3List.l0 k a0 ([] : List ByteArray) 0 false 0
set_option maxHeartbeats 8000000 in
set_option maxRecDepth 100000 in
theorem spec_l3List.calls (k : Nat) (a0 : ByteArray) (r1 : List ByteArray) (r2 : Bool) (w : World) (h : spec_l3List.f k a0 = some (r1,r2)) :
  Calls Tryz.prog 88 #[.string a0] w fun e w' => ∃ v0_ : Value,e = .returned (.tuple #[v0_,.bool r2]) ∧ Kd.R Kd.string 9 w' w.heap.size (fun _ => True) v0_ r1 ∧ Below w.heap.size w w':=by
 have HB:=Aside0.mk (Below.refl w.heap.size w)
 have H:=h
 unfold spec_l3List.f at H
 clear h
 have H':=Aside0.mk H
 clear H
 go_enter Tryz.func88,Tryz.ntmps88
 go_wp2
 go_loopg [4,5,6,7] k (fun kq v4 v5 v6 v7 w' => ∃ (x4_1 : List ByteArray) (x5_1 : Int) (x6_1 : Bool) (x7_1 : Int),v5 = .int .i64 x5_1 ∧ v6 = .bool x6_1 ∧ v7 = .int .i64 x7_1 ∧ Aside0 (spec_l3List.l0 kq a0 x4_1 x5_1 x6_1 x7_1 = some (r1,r2)) ∧ Aside0 (kq ≤ k) ∧ Aside0 (Kd.R Kd.string 9 w' w.heap.size (fun _ => True) v4 x4_1) ∧ Aside0 (Below w.heap.size w w'))
 case atStart => exact ⟨(([] : List ByteArray)),(0),(false),(0),me_,me_,me_,H',⟨Nat.le_refl _⟩,⟨by first | exact Kd.R_nil _ _ _ _ _ | exact Kd.N_nil _ _ _ _ _ | exact Kd.V_nil _ _ _ _ _ | exact Kd.Q_nil _ _ _ _ _ | exact Kd.S_nil _ _ _ _ _⟩,⟨xw_ HB⟩⟩
 case round =>
  clear H'
  obtain ⟨x4_1,x5_1,x6_1,x7_1,rfl,rfl,rfl,HA,HK1,HO_4,HB⟩:=hrel
  cases gk with
  | zero => exact absurd HA.out (by simp [spec_l3List.l0])
  | succ k1 =>
   have H:=HA.out
   clear HA
   simp only [spec_l3List.l0] at H
   by_cases c2 : x7_1 ≤ (a0.size : Int)
   ·rw [if_pos c2] at H
    have c2b0:=decide_eq_true c2
    clear c2
    have HC3:=Aside0.mk H
    clear H
    go_upto_region 7 with (fail)
    go_cut [28] (fun v28 wc => ∃ (kq : Nat) (x28_2 : Bool),v28 = .bool x28_2 ∧ Aside0 (spec_l3List.j1 kq a0 x4_1 x5_1 x6_1 x7_1 x28_2 = some (r1,r2)) ∧ Aside0 (kq ≤ k1) ∧ Aside0 (Kd.R Kd.string 9 wc w.heap.size (fun _ => True) u4 x4_1) ∧ Aside0 (Below w.heap.size w wc))
    case first =>
     have H:=HC3.out
     clear HC3
     by_cases c4 : x7_1 = (a0.size : Int)
     ·rw [if_pos c4] at H
      have c4b0 : (x7_1 == (a0.size : Int)) = true:=beq_iff_eq.mpr c4
      have c4b1 : (x7_1 != (a0.size : Int)) = false:=bne_eq_false_iff_eq.mpr c4
      clear c4
      (first | rw [c4b0] | (simp only [i64_w,i32_w];rw [c4b0]) | skip)
      have H':=Aside0.mk H
      clear H
      go_wp2
      go_meet
      case rel => exact ⟨_,(true),me_,H',⟨by have:=HK1.out;first | omega | exact Nat.le_refl _⟩,⟨xr_ HO_4⟩,⟨xw_ HB⟩⟩
     ·rw [if_neg c4] at H
      have c4b0 : (x7_1 == (a0.size : Int)) = false:=beq_eq_false_iff_ne.mpr c4
      have c4b1 : (x7_1 != (a0.size : Int)) = true:=bne_iff_ne.mpr c4
      (first | rw [c4b0] | (simp only [i64_w,i32_w];rw [c4b0]) | skip)
      replace H:=mi_ H
      obtain ⟨c5,H⟩:=H
      have c5b0:=decide_eq_true c5
      clear c5
      replace H:=mi_ H
      obtain ⟨c6,H⟩:=H
      have c6b0:=decide_eq_true c6
      clear c6
      by_cases c8 : (bt a0 x7_1) = 44
      ·rw [if_pos c8] at H
       have c8b0 : ((bt a0 x7_1) == 44) = true:=beq_iff_eq.mpr c8
       have c8b1 : ((bt a0 x7_1) != 44) = false:=bne_eq_false_iff_eq.mpr c8
       clear c8
       have H':=Aside0.mk H
       clear H
       have p7 : 0 ≤ (x7_1 : Int):=md_
       have q7 : x7_1 < (a0.size : Int):=md_
       have hx7:=bt_at a0 x7_1
       replace p7:=eq_true p7
       replace q7:=eq_true q7
       go_wp2
       go_meet
       case rel => exact ⟨_,(!x6_1),me_,H',⟨by have:=HK1.out;first | omega | exact Nat.le_refl _⟩,⟨xr_ HO_4⟩,⟨xw_ HB⟩⟩
      ·rw [if_neg c8] at H
       have c8b0 : ((bt a0 x7_1) == 44) = false:=beq_eq_false_iff_ne.mpr c8
       have c8b1 : ((bt a0 x7_1) != 44) = true:=bne_iff_ne.mpr c8
       have H':=Aside0.mk H
       clear H
       have p7 : 0 ≤ (x7_1 : Int):=md_
       have q7 : x7_1 < (a0.size : Int):=md_
       have hx7:=bt_at a0 x7_1
       replace p7:=eq_true p7
       replace q7:=eq_true q7
       go_wp2
       go_meet
       case rel => exact ⟨_,(false),me_,H',⟨by have:=HK1.out;first | omega | exact Nat.le_refl _⟩,⟨xr_ HO_4⟩,⟨xw_ HB⟩⟩
    case rest =>
     clear HC3
     try clear c2
     try clear c2b0
     obtain ⟨kq,x28_2,rfl,HA,HJ2,HO_4,HB⟩:=hcut
     cases kq with
     | zero => exact absurd HA.out (by simp [spec_l3List.j1])
     | succ kj2 =>
      have H:=HA.out
      clear HA
      simp only [spec_l3List.j1] at H
      by_cases c9 : x28_2 = true
      ·subst c9
       rw [if_pos rfl] at H
       replace H:=mi_ H
       obtain ⟨c10,H⟩:=H
       have c10b0:=eq_true c10
       have c10b1:=decide_eq_true c10
       clear c10
       replace H:=mi_ H
       obtain ⟨c11,H⟩:=H
       have c11b0:=eq_true c11
       have c11b1:=decide_eq_true c11
       clear c11
       replace H:=mi_ H
       obtain ⟨c12,H⟩:=H
       have c12b0:=eq_true c12
       have c12b1:=decide_eq_true c12
       clear c12
       replace H:=mb_ H
       obtain ⟨t150,A13,H⟩:=H
       by_cases c14 : t150.toList = ([] : List UInt8)
       ·rw [if_pos c14] at H
        have c14b0 : (t150.toList == ([] : List UInt8)) = true:=beq_iff_eq.mpr c14
        have c14b1 : (t150.toList != ([] : List UInt8)) = false:=bne_eq_false_iff_eq.mpr c14
        clear c14
        have H':=Aside0.mk H
        clear H
        go_wp2_with (first | ((with_reducible refine gc_ 139 ?_);refine xgl_ (some 33) Tryz.func139 #[.string (a0.extract (x5_1 : Int).toNat (x7_1 : Int).toNat)] ?_;(with_reducible refine (spec_l3Trim.calls kj2 (a0.extract (x5_1 : Int).toNat (x7_1 : Int).toNat) t150 _ A13.out).mono ?_);rintro e w' ⟨rfl,⟨nd,rfl⟩⟩;refine ⟨_,rfl,?_⟩))
        go_roundg kj2
        case measure => have:=HK1.out;have:=HJ2.out;omega
        case rel => exact ⟨(x4_1),(wrap64 (x7_1 + 1)),(x6_1),(wrap64 (x7_1 + 1)),me_,me_,me_,H',⟨by have:=HK1.out;have:=HJ2.out;omega⟩,⟨xr_ HO_4⟩,⟨xw_ HB⟩⟩
       ·rw [if_neg c14] at H
        have c14b0 : (t150.toList == ([] : List UInt8)) = false:=beq_eq_false_iff_ne.mpr c14
        have c14b1 : (t150.toList != ([] : List UInt8)) = true:=bne_iff_ne.mpr c14
        replace H:=mi_ H
        obtain ⟨c15,H⟩:=H
        have LMc15:=Aside0.mk c15
        clear c15
        obtain ⟨y151,hy151⟩ : ∃ y_ : List ByteArray,y_ = (x4_1 ++ [t150]):=⟨_,rfl⟩
        replace H : (spec_l3List.l0 kj2 a0 y151 (wrap64 (x7_1 + 1)) x6_1 (wrap64 (x7_1 + 1))) = some (r1,r2):=by first | (rw [hy151];with_reducible exact H) | (have H2_:=(Option.bind_some _ _).symm.trans H;rw [hy151];with_reducible exact H2_) | (have H2_:=(Option.bind_some _ _).symm.trans H;with_reducible exact H2_) | with_reducible exact H | (rw [hy151];exact H) | exact H
        have Ny151:=Aside0.mk hy151
        clear hy151
        have H':=Aside0.mk H
        clear H
        go_wp2_with (first | ((with_reducible refine gc_ 139 ?_);refine xgl_ (some 33) Tryz.func139 #[.string (a0.extract (x5_1 : Int).toNat (x7_1 : Int).toNat)] ?_;(with_reducible refine (spec_l3Trim.calls kj2 (a0.extract (x5_1 : Int).toNat (x7_1 : Int).toNat) t150 _ A13.out).mono ?_);rintro e w' ⟨rfl,⟨nd,rfl⟩⟩;refine ⟨_,rfl,?_⟩) | ((with_reducible refine gate_builtin (b:=.append) (xs:=#[.tmp 36,.tmp 38]) rfl ?_);at_builtin;refine Kd.R_append Kd.string (w0:=w) w.heap.size rfl (.tmp 36) (.tmp 38) 50 9 (.string ⟨#[]⟩) 16 rfl Tryz.underlying50 info9 rfl (by decide) (by omega) u4 x4_1 t150 [.string t150] (fun _ => True) (fun _ => False) rfl rfl ?aP (fun _ hk => hk.elim) ?aF ?aO ?aB ?aS ?aL ?_;(case aP => exact rfl);(case aB => exact (xw_ HB));(case aF => exact (fun _ _ => trivial));(case aO => exact (xr_ HO_4));(case aS => exact (below_size (xw_ HB)));(case aL => have:=LMc15.out;omega);intro v152 w16 ho hb hg hat;rw [← Ny151.out] at ho;replace HB:=Aside0.mk (hb);have HO153:=Aside0.mk (ho);clear HO_4;clear ho hb hg hat))
        go_roundg kj2
        case measure => have:=HK1.out;have:=HJ2.out;omega
        case rel => exact ⟨(y151),(wrap64 (x7_1 + 1)),(x6_1),(wrap64 (x7_1 + 1)),me_,me_,me_,H',⟨by have:=HK1.out;have:=HJ2.out;omega⟩,⟨xr_ HO153⟩,⟨xw_ HB⟩⟩
      ·replace c9:=Bool.eq_false_iff.mpr c9
       subst c9
       rw [if_neg (show ¬ (false = true) by decide)] at H
       replace H:=mi_ H
       obtain ⟨c17,H⟩:=H
       have c17b0:=decide_eq_true c17
       clear c17
       replace H:=mi_ H
       obtain ⟨c18,H⟩:=H
       have c18b0:=decide_eq_true c18
       clear c18
       have HC20:=Aside0.mk H
       clear H
       have p19 : 0 ≤ (x7_1 : Int):=md_
       have q19 : x7_1 < (a0.size : Int):=md_
       have hx19:=bt_at a0 x7_1
       replace p19:=eq_true p19
       replace q19:=eq_true q19
       go_upto_if 45 with (fail)
       go_cut [6] (fun v6 wc => ∃ (kq : Nat) (x6_19 : Bool),v6 = .bool x6_19 ∧ Aside0 (spec_l3List.j2 kq a0 x4_1 x5_1 x6_19 x7_1 = some (r1,r2)) ∧ Aside0 (kq ≤ kj2) ∧ Aside0 (Kd.R Kd.string 9 wc w.heap.size (fun _ => True) u4 x4_1) ∧ Aside0 (Below w.heap.size w wc))
       case first =>
        have H:=HC20.out
        clear HC20
        by_cases c21 : (bt a0 x7_1) = 34
        ·rw [if_pos c21] at H
         have c21b0 : ((bt a0 x7_1) == 34) = true:=beq_iff_eq.mpr c21
         have c21b1 : ((bt a0 x7_1) != 34) = false:=bne_eq_false_iff_eq.mpr c21
         clear c21
         (first | rw [c21b0] | (simp only [i64_w,i32_w];rw [c21b0]) | skip)
         have H':=Aside0.mk H
         clear H
         go_wp2
         go_meet
         case rel => exact ⟨_,(!x6_1),me_,H',⟨by have:=HK1.out;have:=HJ2.out;first | omega | exact Nat.le_refl _⟩,⟨xr_ HO_4⟩,⟨xw_ HB⟩⟩
        ·rw [if_neg c21] at H
         have c21b0 : ((bt a0 x7_1) == 34) = false:=beq_eq_false_iff_ne.mpr c21
         have c21b1 : ((bt a0 x7_1) != 34) = true:=bne_iff_ne.mpr c21
         (first | rw [c21b0] | (simp only [i64_w,i32_w];rw [c21b0]) | skip)
         have H':=Aside0.mk H
         clear H
         go_wp2
         go_meet
         case rel => exact ⟨_,(x6_1),me_,H',⟨by have:=HK1.out;have:=HJ2.out;first | omega | exact Nat.le_refl _⟩,⟨xr_ HO_4⟩,⟨xw_ HB⟩⟩
       case rest =>
        clear HC20
        try clear c2
        try clear c2b0
        try clear c9
        try clear c10
        try clear c10b0
        try clear c10b1
        try clear c11
        try clear c11b0
        try clear c11b1
        try clear c12
        try clear c12b0
        try clear c12b1
        try clear c14
        try clear c17
        try clear c17b0
        try clear c18
        try clear c18b0
        try clear p19
        try clear q19
        try clear hx19
        try clear p19
        try clear q19
        obtain ⟨kq,x6_19,rfl,HA,HJ19,HO_4,HB⟩:=hcut
        cases kq with
        | zero => exact absurd HA.out (by simp [spec_l3List.j2])
        | succ kj19 =>
         have H:=HA.out
         clear HA
         simp only [spec_l3List.j2] at H
         have HC22:=Aside0.mk H
         clear H
         go_upto_region 14 with (fail)
         go_cut [54] (fun v54 wc => ∃ (kq : Nat) (x54_21 : Bool),v54 = .bool x54_21 ∧ Aside0 (spec_l3List.j3 kq a0 x4_1 x5_1 x6_19 x7_1 x54_21 = some (r1,r2)) ∧ Aside0 (kq ≤ kj19) ∧ Aside0 (Kd.R Kd.string 9 wc w.heap.size (fun _ => True) u4 x4_1) ∧ Aside0 (Below w.heap.size w wc))
         case first =>
          have H:=HC22.out
          clear HC22
          replace H:=mi_ H
          obtain ⟨c23,H⟩:=H
          have c23b0:=decide_eq_true c23
          clear c23
          (first | rw [c23b0] | (simp only [i64_w,i32_w];rw [c23b0]) | skip)
          replace H:=mi_ H
          obtain ⟨c24,H⟩:=H
          have c24b0:=decide_eq_true c24
          clear c24
          by_cases c26 : (bt a0 x7_1) = 92
          ·rw [if_pos c26] at H
           have c26b0 : ((bt a0 x7_1) == 92) = true:=beq_iff_eq.mpr c26
           have c26b1 : ((bt a0 x7_1) != 92) = false:=bne_eq_false_iff_eq.mpr c26
           clear c26
           have H':=Aside0.mk H
           clear H
           have p25 : 0 ≤ (x7_1 : Int):=md_
           have q25 : x7_1 < (a0.size : Int):=md_
           have hx25:=bt_at a0 x7_1
           replace p25:=eq_true p25
           replace q25:=eq_true q25
           go_wp2
           go_meet
           case rel => exact ⟨_,(x6_19),me_,H',⟨by have:=HK1.out;have:=HJ2.out;have:=HJ19.out;first | omega | exact Nat.le_refl _⟩,⟨xr_ HO_4⟩,⟨xw_ HB⟩⟩
          ·rw [if_neg c26] at H
           have c26b0 : ((bt a0 x7_1) == 92) = false:=beq_eq_false_iff_ne.mpr c26
           have c26b1 : ((bt a0 x7_1) != 92) = true:=bne_iff_ne.mpr c26
           have H':=Aside0.mk H
           clear H
           have p25 : 0 ≤ (x7_1 : Int):=md_
           have q25 : x7_1 < (a0.size : Int):=md_
           have hx25:=bt_at a0 x7_1
           replace p25:=eq_true p25
           replace q25:=eq_true q25
           go_wp2
           go_meet
           case rel => exact ⟨_,(false),me_,H',⟨by have:=HK1.out;have:=HJ2.out;have:=HJ19.out;first | omega | exact Nat.le_refl _⟩,⟨xr_ HO_4⟩,⟨xw_ HB⟩⟩
         case rest =>
          clear HC22
          try clear c2
          try clear c2b0
          try clear c9
          try clear c10
          try clear c10b0
          try clear c10b1
          try clear c11
          try clear c11b0
          try clear c11b1
          try clear c12
          try clear c12b0
          try clear c12b1
          try clear c14
          try clear c17
          try clear c17b0
          try clear c18
          try clear c18b0
          try clear p19
          try clear q19
          try clear hx19
          try clear p19
          try clear q19
          obtain ⟨kq,x54_21,rfl,HA,HJ21,HO_4,HB⟩:=hcut
          cases kq with
          | zero => exact absurd HA.out (by simp [spec_l3List.j3])
          | succ kj21 =>
           have H:=HA.out
           clear HA
           simp only [spec_l3List.j3] at H
           by_cases c27 : x54_21 = true
           ·subst c27
            rw [if_pos rfl] at H
            by_cases c28 : (wrap64 (x7_1 + 1)) = (a0.size : Int)
            ·rw [if_pos c28] at H
             have c28b0 : ((wrap64 (x7_1 + 1)) == (a0.size : Int)) = true:=beq_iff_eq.mpr c28
             have c28b1 : ((wrap64 (x7_1 + 1)) != (a0.size : Int)) = false:=bne_eq_false_iff_eq.mpr c28
             clear c28
             simp only [Option.some.injEq,Prod.mk.injEq] at H
             obtain ⟨rfl,rfl⟩:=H
             go_wp2
             go_ret2
             exact ⟨_,mf_,by first | exact Kd.R_nil _ _ _ _ _ | exact Kd.N_nil _ _ _ _ _ | exact Kd.V_nil _ _ _ _ _ | exact Kd.Q_nil _ _ _ _ _ | exact Kd.S_nil _ _ _ _ _,xw_ HB⟩
            ·rw [if_neg c28] at H
             have c28b0 : ((wrap64 (x7_1 + 1)) == (a0.size : Int)) = false:=beq_eq_false_iff_ne.mpr c28
             have c28b1 : ((wrap64 (x7_1 + 1)) != (a0.size : Int)) = true:=bne_iff_ne.mpr c28
             have H':=Aside0.mk H
             clear H
             go_wp2
             go_roundg kj21
             case measure => have:=HK1.out;have:=HJ2.out;have:=HJ19.out;have:=HJ21.out;omega
             case rel => exact ⟨(x4_1),(x5_1),(x6_19),(wrap64 ((wrap64 (x7_1 + 1)) + 1)),me_,me_,me_,H',⟨by have:=HK1.out;have:=HJ2.out;have:=HJ19.out;have:=HJ21.out;omega⟩,⟨xr_ HO_4⟩,⟨xw_ HB⟩⟩
           ·replace c27:=Bool.eq_false_iff.mpr c27
            subst c27
            rw [if_neg (show ¬ (false = true) by decide)] at H
            have H':=Aside0.mk H
            clear H
            go_wp2
            go_roundg kj21
            case measure => have:=HK1.out;have:=HJ2.out;have:=HJ19.out;have:=HJ21.out;omega
            case rel => exact ⟨(x4_1),(x5_1),(x6_19),(wrap64 (x7_1 + 1)),me_,me_,me_,H',⟨by have:=HK1.out;have:=HJ2.out;have:=HJ19.out;have:=HJ21.out;omega⟩,⟨xr_ HO_4⟩,⟨xw_ HB⟩⟩
   ·rw [if_neg c2] at H
    have c2b0:=decide_eq_false c2
    clear c2
    simp only [Option.some.injEq,Prod.mk.injEq] at H
    obtain ⟨rfl,rfl⟩:=H
    go_wp2
    go_ret2
    exact ⟨_,mf_,by (with_reducible repeat (first | apply Kd.R_alloc | apply Kd.R_drewN | apply Kd.R_drew));exact HO_4.out,xw_ HB⟩

end Go.Proofs.YtpggepjfhgalkaaGreatDoor.PFnExactKeyOf
