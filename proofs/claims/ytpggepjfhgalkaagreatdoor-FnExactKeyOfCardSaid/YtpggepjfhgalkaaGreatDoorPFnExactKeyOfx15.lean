-- Written by a program of this project (xprint.py) out of the translation; Lean checks it.
import Derived.Test.YtpggepjfhgalkaaGreatDoorPFnExactKeyOfx0
import Derived.Test.YtpggepjfhgalkaaGreatDoorPFnExactKeyOfx14
namespace Go.Proofs.YtpggepjfhgalkaaGreatDoor.PFnExactKeyOf
open Go.RowKit Go.Proofs.YtpggepjfhgalkaaGreatDoorW.PrintWords Go.Proofs.YtpggepjfhgalkaaGreatDoorW.PrintLast Go.Proofs.YtpggepjfhgalkaaGreatDoorW.PrintMore
attribute [local go_sem] max2_int min2_int max_two min_two max_three min_three max_four min_four   -- for this text's walks alone
set_option linter.unusedVariables false
set_option linter.unusedSimpArgs false

/-! ### impl_percent: function 133 -/
def impl_percent.j0 : Nat → ByteArray → Bool → Option (Int × Bool)
 | 0,_,_ => none
 | k + 1,x0,x23 => if x23 = true then (some (0,false)) else (if 1 < (x0.size : Int) then ((impl_hexValue.f (bt x0 1)).bind fun t315 => (if 2 < (x0.size : Int) then ((impl_hexValue.f (bt x0 2)).bind fun t316 => (some ((Go.bits .or .i64 (wrap64 (t315 * 16)) t316) % 256,true))) else (none))) else (none))
def impl_percent.f (k : Nat) (a0 : ByteArray) : Option (Int × Bool):=if (a0.size : Int) < 3 then (impl_percent.j0 k a0 true) else (if 0 < (a0.size : Int) then (if (bt a0 0) = 37 then (if 1 < (a0.size : Int) then ((impl_hexValue.f (bt a0 1)).bind fun t313 => (if t313 < 0 then (impl_percent.j0 k a0 true) else (if 2 < (a0.size : Int) then ((impl_hexValue.f (bt a0 2)).bind fun t314 => (impl_percent.j0 k a0 (decide (t314 < 0)))) else (none)))) else (none)) else (impl_percent.j0 k a0 true)) else (none))
set_option maxHeartbeats 8000000 in
set_option maxRecDepth 100000 in
theorem impl_percent.calls (k : Nat) (a0 : ByteArray) (r1 : Int) (r2 : Bool) (w : World) (h : impl_percent.f k a0 = some (r1,r2)) :
  Calls Tryz.prog 133 #[.string a0] w fun e w' => e = .returned (.tuple #[.int .u8 r1,.bool r2]) ∧ Drawn0 w w':=by
 have H:=h
 unfold impl_percent.f at H
 clear h
 have HC2:=Aside0.mk H
 clear H
 go_enter Tryz.func133,Tryz.ntmps133
 go_upto_region 1 with (fail)
 repeat (go_quiet (fail);go_upto_region 1 with (fail))
 go_cut [23] (fun v23 wc => ∃ (kq : Nat) (x23_1 : Bool),v23 = .bool x23_1 ∧ Aside0 (impl_percent.j0 kq a0 x23_1 = some (r1,r2)) ∧ Aside0 (kq ≤ k) ∧ Drawn0 w wc)
 case first =>
  have H:=HC2.out
  clear HC2
  by_cases c3 : (a0.size : Int) < 3
  ·rw [if_pos c3] at H
   have c3b0:=decide_eq_true c3
   have c3b1 : decide (a0.size < 3) = true:=decide_eq_true (by omega)
   clear c3
   (first | rw [c3b0] | (simp only [i64_w,i32_w];rw [c3b0]) | skip)
   have H':=Aside0.mk H
   clear H
   go_wp2
   repeat (go_quiet (fail);try go_wp2)
   go_meet
   case rel => exact ⟨_,(true),me_,H',⟨by first | omega | exact Nat.le_refl _⟩,by repeat (first | exact Drawn0.refl _ | apply Drawn0.step)⟩
  ·rw [if_neg c3] at H
   have c3b0:=decide_eq_false c3
   have c3b1 : decide (a0.size < 3) = false:=decide_eq_false (by omega)
   clear c3
   (first | rw [c3b0] | (simp only [i64_w,i32_w];rw [c3b0]) | skip)
   replace H:=mi_ H
   obtain ⟨c4,H⟩:=H
   have c4b0:=decide_eq_true c4
   have c4b1 : decide (0 < a0.size) = true:=decide_eq_true (by omega)
   clear c4
   by_cases c6 : (bt a0 0) = 37
   ·rw [if_pos c6] at H
    have c6b0 : ((bt a0 0) == 37) = true:=beq_iff_eq.mpr c6
    have c6b1 : ((bt a0 0) != 37) = false:=bne_eq_false_iff_eq.mpr c6
    clear c6
    replace H:=mi_ H
    obtain ⟨c7,H⟩:=H
    have c7b0:=decide_eq_true c7
    have c7b1 : decide (1 < a0.size) = true:=decide_eq_true (by omega)
    clear c7
    replace H:=mb_ H
    obtain ⟨t313,A9,H⟩:=H
    by_cases c10 : t313 < 0
    ·rw [if_pos c10] at H
     have c10b0:=decide_eq_true c10
     clear c10
     have H':=Aside0.mk H
     clear H
     have p5 : 0 ≤ (0 : Int):=(by omega)
     have q5 : 0 < a0.size:=(by have : (0 : Int) < (a0.size : Int):=md_;omega)
     have hx5 : ∀ h : 0 < a0.size,((a0[0]'h).toNat : Int) = bt a0 0:=bt_at a0 0
     clear p5
     have qi5 : (0 < (a0.size : Int)) = True:=eq_true (md_)
     replace q5:=eq_true q5
     have p8 : 0 ≤ (1 : Int):=(by omega)
     have q8 : 1 < a0.size:=(by have : (1 : Int) < (a0.size : Int):=md_;omega)
     have hx8 : ∀ h : 1 < a0.size,((a0[1]'h).toNat : Int) = bt a0 1:=bt_at a0 1
     clear p8
     have qi8 : (1 < (a0.size : Int)) = True:=eq_true (md_)
     replace q8:=eq_true q8
     go_wp2_with (first | (go_at_call 170;(with_reducible refine (impl_hexValue.calls (bt a0 1) t313 _ A9.out).mono ?_);rintro e w' ⟨rfl,⟨nd,rfl⟩⟩;(try first | exact ⟨rfl,_,World.drewN_drewN _ _ _⟩ | exact ⟨rfl,_,Eq.trans (World.drewN_drewN _ _ _) (congrArg (World.drewN _) (Nat.add_assoc _ _ _))⟩)))
     repeat (go_quiet (first | (go_at_call 170;(with_reducible refine (impl_hexValue.calls (bt a0 1) t313 _ A9.out).mono ?_);rintro e w' ⟨rfl,⟨nd,rfl⟩⟩;(try first | exact ⟨rfl,_,World.drewN_drewN _ _ _⟩ | exact ⟨rfl,_,Eq.trans (World.drewN_drewN _ _ _) (congrArg (World.drewN _) (Nat.add_assoc _ _ _))⟩)));try go_wp2_with (first | (go_at_call 170;(with_reducible refine (impl_hexValue.calls (bt a0 1) t313 _ A9.out).mono ?_);rintro e w' ⟨rfl,⟨nd,rfl⟩⟩;(try first | exact ⟨rfl,_,World.drewN_drewN _ _ _⟩ | exact ⟨rfl,_,Eq.trans (World.drewN_drewN _ _ _) (congrArg (World.drewN _) (Nat.add_assoc _ _ _))⟩))))
     go_meet
     case rel => exact ⟨_,(true),me_,H',⟨by first | omega | exact Nat.le_refl _⟩,by repeat (first | exact Drawn0.refl _ | apply Drawn0.step)⟩
    ·rw [if_neg c10] at H
     have c10b0:=decide_eq_false c10
     clear c10
     replace H:=mi_ H
     obtain ⟨c11,H⟩:=H
     have c11b0:=decide_eq_true c11
     have c11b1 : decide (2 < a0.size) = true:=decide_eq_true (by omega)
     clear c11
     replace H:=mb_ H
     obtain ⟨t314,A13,H⟩:=H
     have H':=Aside0.mk H
     clear H
     have p5 : 0 ≤ (0 : Int):=(by omega)
     have q5 : 0 < a0.size:=(by have : (0 : Int) < (a0.size : Int):=md_;omega)
     have hx5 : ∀ h : 0 < a0.size,((a0[0]'h).toNat : Int) = bt a0 0:=bt_at a0 0
     clear p5
     have qi5 : (0 < (a0.size : Int)) = True:=eq_true (md_)
     replace q5:=eq_true q5
     have p8 : 0 ≤ (1 : Int):=(by omega)
     have q8 : 1 < a0.size:=(by have : (1 : Int) < (a0.size : Int):=md_;omega)
     have hx8 : ∀ h : 1 < a0.size,((a0[1]'h).toNat : Int) = bt a0 1:=bt_at a0 1
     clear p8
     have qi8 : (1 < (a0.size : Int)) = True:=eq_true (md_)
     replace q8:=eq_true q8
     go_wp2_with (first | (go_at_call 170;(with_reducible refine (impl_hexValue.calls (bt a0 1) t313 _ A9.out).mono ?_);rintro e w' ⟨rfl,⟨nd,rfl⟩⟩;(try first | exact ⟨rfl,_,World.drewN_drewN _ _ _⟩ | exact ⟨rfl,_,Eq.trans (World.drewN_drewN _ _ _) (congrArg (World.drewN _) (Nat.add_assoc _ _ _))⟩);have p12 : 0 ≤ (2 : Int):=(by omega);have q12 : 2 < a0.size:=(by have : (2 : Int) < (a0.size : Int):=md_;omega);have hx12 : ∀ h : 2 < a0.size,((a0[2]'h).toNat : Int) = bt a0 2:=bt_at a0 2;clear p12;have qi12 : (2 < (a0.size : Int)) = True:=eq_true (md_);replace q12:=eq_true q12) | (go_at_call 170;(with_reducible refine (impl_hexValue.calls (bt a0 2) t314 _ A13.out).mono ?_);rintro e w' ⟨rfl,⟨nd,rfl⟩⟩;(try first | exact ⟨rfl,_,World.drewN_drewN _ _ _⟩ | exact ⟨rfl,_,Eq.trans (World.drewN_drewN _ _ _) (congrArg (World.drewN _) (Nat.add_assoc _ _ _))⟩)))
     repeat (go_quiet (first | (go_at_call 170;(with_reducible refine (impl_hexValue.calls (bt a0 1) t313 _ A9.out).mono ?_);rintro e w' ⟨rfl,⟨nd,rfl⟩⟩;(try first | exact ⟨rfl,_,World.drewN_drewN _ _ _⟩ | exact ⟨rfl,_,Eq.trans (World.drewN_drewN _ _ _) (congrArg (World.drewN _) (Nat.add_assoc _ _ _))⟩);have p12 : 0 ≤ (2 : Int):=(by omega);have q12 : 2 < a0.size:=(by have : (2 : Int) < (a0.size : Int):=md_;omega);have hx12 : ∀ h : 2 < a0.size,((a0[2]'h).toNat : Int) = bt a0 2:=bt_at a0 2;clear p12;have qi12 : (2 < (a0.size : Int)) = True:=eq_true (md_);replace q12:=eq_true q12) | (go_at_call 170;(with_reducible refine (impl_hexValue.calls (bt a0 2) t314 _ A13.out).mono ?_);rintro e w' ⟨rfl,⟨nd,rfl⟩⟩;(try first | exact ⟨rfl,_,World.drewN_drewN _ _ _⟩ | exact ⟨rfl,_,Eq.trans (World.drewN_drewN _ _ _) (congrArg (World.drewN _) (Nat.add_assoc _ _ _))⟩)));try go_wp2_with (first | (go_at_call 170;(with_reducible refine (impl_hexValue.calls (bt a0 1) t313 _ A9.out).mono ?_);rintro e w' ⟨rfl,⟨nd,rfl⟩⟩;(try first | exact ⟨rfl,_,World.drewN_drewN _ _ _⟩ | exact ⟨rfl,_,Eq.trans (World.drewN_drewN _ _ _) (congrArg (World.drewN _) (Nat.add_assoc _ _ _))⟩);have p12 : 0 ≤ (2 : Int):=(by omega);have q12 : 2 < a0.size:=(by have : (2 : Int) < (a0.size : Int):=md_;omega);have hx12 : ∀ h : 2 < a0.size,((a0[2]'h).toNat : Int) = bt a0 2:=bt_at a0 2;clear p12;have qi12 : (2 < (a0.size : Int)) = True:=eq_true (md_);replace q12:=eq_true q12) | (go_at_call 170;(with_reducible refine (impl_hexValue.calls (bt a0 2) t314 _ A13.out).mono ?_);rintro e w' ⟨rfl,⟨nd,rfl⟩⟩;(try first | exact ⟨rfl,_,World.drewN_drewN _ _ _⟩ | exact ⟨rfl,_,Eq.trans (World.drewN_drewN _ _ _) (congrArg (World.drewN _) (Nat.add_assoc _ _ _))⟩))))
     go_meet
     case rel => exact ⟨_,(decide (t314 < 0)),me_,H',⟨by first | omega | exact Nat.le_refl _⟩,by repeat (first | exact Drawn0.refl _ | apply Drawn0.step)⟩
   ·rw [if_neg c6] at H
    have c6b0 : ((bt a0 0) == 37) = false:=beq_eq_false_iff_ne.mpr c6
    have c6b1 : ((bt a0 0) != 37) = true:=bne_iff_ne.mpr c6
    have H':=Aside0.mk H
    clear H
    have p5 : 0 ≤ (0 : Int):=(by omega)
    have q5 : 0 < a0.size:=(by have : (0 : Int) < (a0.size : Int):=md_;omega)
    have hx5 : ∀ h : 0 < a0.size,((a0[0]'h).toNat : Int) = bt a0 0:=bt_at a0 0
    clear p5
    have qi5 : (0 < (a0.size : Int)) = True:=eq_true (md_)
    replace q5:=eq_true q5
    go_wp2
    repeat (go_quiet (fail);try go_wp2)
    go_meet
    case rel => exact ⟨_,(true),me_,H',⟨by first | omega | exact Nat.le_refl _⟩,by repeat (first | exact Drawn0.refl _ | apply Drawn0.step)⟩
 case rest =>
  clear HC2
  obtain ⟨kq,x23_1,rfl,HA,HJ1,⟨mc1,rfl⟩⟩:=hcut
  cases kq with
  | zero => exact absurd HA.out (by simp [impl_percent.j0])
  | succ kj1 =>
   have H:=HA.out
   clear HA
   simp only [impl_percent.j0] at H
   by_cases c14 : x23_1 = true
   ·subst c14
    rw [if_pos rfl] at H
    simp only [Option.some.injEq,Prod.mk.injEq] at H
    obtain ⟨rfl,rfl⟩:=H
    go_wp2
    repeat (go_quiet (fail);try go_wp2)
    go_ret2
    exact ⟨by first | rfl | (simp [IntKind.wrap_u8,IntKind.wrap_i64,wrap64];done) | (simp;done) | (simp [*];done),by repeat (first | exact Drawn0.refl _ | apply Drawn0.step)⟩
   ·replace c14:=Bool.eq_false_iff.mpr c14
    subst c14
    rw [if_neg (show ¬ (false = true) by decide)] at H
    replace H:=mi_ H
    obtain ⟨c15,H⟩:=H
    have c15b0:=decide_eq_true c15
    have c15b1 : decide (1 < a0.size) = true:=decide_eq_true (by omega)
    clear c15
    replace H:=mb_ H
    obtain ⟨t315,A17,H⟩:=H
    replace H:=mi_ H
    obtain ⟨c18,H⟩:=H
    have c18b0:=decide_eq_true c18
    have c18b1 : decide (2 < a0.size) = true:=decide_eq_true (by omega)
    clear c18
    replace H:=mb_ H
    obtain ⟨t316,A20,H⟩:=H
    simp only [Option.some.injEq,Prod.mk.injEq] at H
    obtain ⟨rfl,rfl⟩:=H
    have p16 : 0 ≤ (1 : Int):=(by omega)
    have q16 : 1 < a0.size:=(by have : (1 : Int) < (a0.size : Int):=md_;omega)
    have hx16 : ∀ h : 1 < a0.size,((a0[1]'h).toNat : Int) = bt a0 1:=bt_at a0 1
    clear p16
    have qi16 : (1 < (a0.size : Int)) = True:=eq_true (md_)
    replace q16:=eq_true q16
    go_wp2_with (first | (go_at_call 170;(with_reducible refine (impl_hexValue.calls (bt a0 1) t315 _ A17.out).mono ?_);rintro e w' ⟨rfl,⟨nd,rfl⟩⟩;(try first | exact ⟨rfl,_,World.drewN_drewN _ _ _⟩ | exact ⟨rfl,_,Eq.trans (World.drewN_drewN _ _ _) (congrArg (World.drewN _) (Nat.add_assoc _ _ _))⟩);have p19 : 0 ≤ (2 : Int):=(by omega);have q19 : 2 < a0.size:=(by have : (2 : Int) < (a0.size : Int):=md_;omega);have hx19 : ∀ h : 2 < a0.size,((a0[2]'h).toNat : Int) = bt a0 2:=bt_at a0 2;clear p19;have qi19 : (2 < (a0.size : Int)) = True:=eq_true (md_);replace q19:=eq_true q19) | (go_at_call 170;(with_reducible refine (impl_hexValue.calls (bt a0 2) t316 _ A20.out).mono ?_);rintro e w' ⟨rfl,⟨nd,rfl⟩⟩;(try first | exact ⟨rfl,_,World.drewN_drewN _ _ _⟩ | exact ⟨rfl,_,Eq.trans (World.drewN_drewN _ _ _) (congrArg (World.drewN _) (Nat.add_assoc _ _ _))⟩)))
    repeat (go_quiet (first | (go_at_call 170;(with_reducible refine (impl_hexValue.calls (bt a0 1) t315 _ A17.out).mono ?_);rintro e w' ⟨rfl,⟨nd,rfl⟩⟩;(try first | exact ⟨rfl,_,World.drewN_drewN _ _ _⟩ | exact ⟨rfl,_,Eq.trans (World.drewN_drewN _ _ _) (congrArg (World.drewN _) (Nat.add_assoc _ _ _))⟩);have p19 : 0 ≤ (2 : Int):=(by omega);have q19 : 2 < a0.size:=(by have : (2 : Int) < (a0.size : Int):=md_;omega);have hx19 : ∀ h : 2 < a0.size,((a0[2]'h).toNat : Int) = bt a0 2:=bt_at a0 2;clear p19;have qi19 : (2 < (a0.size : Int)) = True:=eq_true (md_);replace q19:=eq_true q19) | (go_at_call 170;(with_reducible refine (impl_hexValue.calls (bt a0 2) t316 _ A20.out).mono ?_);rintro e w' ⟨rfl,⟨nd,rfl⟩⟩;(try first | exact ⟨rfl,_,World.drewN_drewN _ _ _⟩ | exact ⟨rfl,_,Eq.trans (World.drewN_drewN _ _ _) (congrArg (World.drewN _) (Nat.add_assoc _ _ _))⟩)));try go_wp2_with (first | (go_at_call 170;(with_reducible refine (impl_hexValue.calls (bt a0 1) t315 _ A17.out).mono ?_);rintro e w' ⟨rfl,⟨nd,rfl⟩⟩;(try first | exact ⟨rfl,_,World.drewN_drewN _ _ _⟩ | exact ⟨rfl,_,Eq.trans (World.drewN_drewN _ _ _) (congrArg (World.drewN _) (Nat.add_assoc _ _ _))⟩);have p19 : 0 ≤ (2 : Int):=(by omega);have q19 : 2 < a0.size:=(by have : (2 : Int) < (a0.size : Int):=md_;omega);have hx19 : ∀ h : 2 < a0.size,((a0[2]'h).toNat : Int) = bt a0 2:=bt_at a0 2;clear p19;have qi19 : (2 < (a0.size : Int)) = True:=eq_true (md_);replace q19:=eq_true q19) | (go_at_call 170;(with_reducible refine (impl_hexValue.calls (bt a0 2) t316 _ A20.out).mono ?_);rintro e w' ⟨rfl,⟨nd,rfl⟩⟩;(try first | exact ⟨rfl,_,World.drewN_drewN _ _ _⟩ | exact ⟨rfl,_,Eq.trans (World.drewN_drewN _ _ _) (congrArg (World.drewN _) (Nat.add_assoc _ _ _))⟩))))
    go_ret2
    exact ⟨by first | rfl | (simp [IntKind.wrap_u8,IntKind.wrap_i64,wrap64];done) | (simp;done) | (simp [*];done),by repeat (first | exact Drawn0.refl _ | apply Drawn0.step)⟩

/-! ### impl_arePchars: function 124 -/
def impl_arePchars.l0 : Nat → ByteArray → ByteArray → Int → Option (Bool)
 | 0,_,_,_ => none
 | k + 1,x0,x1,x5 => if x5 < (x0.size : Int) then (if 0 ≤ x5 then (if (bt x0 x5) = 37 then (if x5 ≤ (x0.size : Int) then ((impl_percent.f k (x0.extract (x5 : Int).toNat x0.size)).bind fun bt317 => (if bt317.2 = true then (impl_arePchars.l0 k x0 x1 (wrap64 ((wrap64 (x5 + 2)) + 1))) else (some false))) else (none)) else (if 17 + x1.size ≤ 9223372036854775807 then ((impl_isAmong.f (bt x0 x5) ((⟨#[45,46,95,126,33,36,38,39,40,41,42,43,44,59,61,58,64]⟩ : ByteArray) ++ x1)).bind fun t319 => (if t319 = true then (impl_arePchars.l0 k x0 x1 (wrap64 (x5 + 1))) else (some false))) else (none))) else (none)) else (some true)
def impl_arePchars.f (k : Nat) (a0 : ByteArray) (a1 : ByteArray) : Option (Bool):=impl_arePchars.l0 k a0 a1 0
set_option maxHeartbeats 8000000 in
set_option maxRecDepth 100000 in
theorem impl_arePchars.calls (k : Nat) (a0 : ByteArray) (a1 : ByteArray) (r : Bool) (w : World) (h : impl_arePchars.f k a0 a1 = some r) :
  Calls Tryz.prog 124 #[.string a0,.string a1] w fun e w' => e = .returned (.bool r) ∧ Drawn0 w w':=by
 have H:=h
 unfold impl_arePchars.f at H
 clear h
 have H':=Aside0.mk H
 clear H
 go_enter Tryz.func124,Tryz.ntmps124
 go_wp2
 go_loopg [5] k (fun kq v5 w' => ∃ (x5_1 : Int),v5 = .int .i64 x5_1 ∧ Aside0 (impl_arePchars.l0 kq a0 a1 x5_1 = some r) ∧ Aside0 (kq ≤ k) ∧ Drawn0 w w')
 case atStart => exact ⟨(0),me_,H',⟨Nat.le_refl _⟩,by repeat (first | exact Drawn0.refl _ | apply Drawn0.step)⟩
 case round =>
  clear H'
  obtain ⟨x5_1,rfl,HA,HK1,⟨m1,rfl⟩⟩:=hrel
  cases gk with
  | zero => exact absurd HA.out (by simp [impl_arePchars.l0])
  | succ k1 =>
   have H:=HA.out
   clear HA
   simp only [impl_arePchars.l0] at H
   by_cases c3 : x5_1 < (a0.size : Int)
   ·rw [if_pos c3] at H
    have c3b0:=decide_eq_true c3
    clear c3
    replace H:=mi_ H
    obtain ⟨c4,H⟩:=H
    have c4b0:=decide_eq_true c4
    clear c4
    by_cases c6 : (bt a0 x5_1) = 37
    ·rw [if_pos c6] at H
     have c6b0 : ((bt a0 x5_1) == 37) = true:=beq_iff_eq.mpr c6
     have c6b1 : ((bt a0 x5_1) != 37) = false:=bne_eq_false_iff_eq.mpr c6
     clear c6
     have c7b0:=eq_true (md_ : 0 ≤ x5_1)
     replace H:=mi_ H
     obtain ⟨c8,H⟩:=H
     have c8b0:=eq_true c8
     have c8b1:=decide_eq_true c8
     clear c8
     replace H:=mb_ H
     obtain ⟨⟨t317,t318⟩,A9,H⟩:=H
     dsimp only at H
     by_cases c10 : t318 = true
     ·subst c10
      rw [if_pos rfl] at H
      have H':=Aside0.mk H
      clear H
      have p5 : 0 ≤ (x5_1 : Int):=md_
      have q5 : x5_1 < (a0.size : Int):=md_
      have hx5:=bt_at a0 x5_1
      replace p5:=eq_true p5
      replace q5:=eq_true q5
      go_wp2_with (first | ((with_reducible refine gc_ 133 ?_);refine xgl_ (some 22) Tryz.func133 #[.string (a0.extract (x5_1 : Int).toNat a0.size)] ?_;(with_reducible refine (impl_percent.calls k1 (a0.extract (x5_1 : Int).toNat a0.size) t317 true _ A9.out).mono ?_);rintro e w' ⟨rfl,⟨nd,rfl⟩⟩;refine ⟨_,rfl,?_⟩))
      go_roundg k1
      case measure => have:=HK1.out;omega
      case rel => exact ⟨(wrap64 ((wrap64 (x5_1 + 2)) + 1)),me_,H',⟨by have:=HK1.out;omega⟩,by repeat (first | exact Drawn0.refl _ | apply Drawn0.step)⟩
     ·replace c10:=Bool.eq_false_iff.mpr c10
      subst c10
      rw [if_neg (show ¬ (false = true) by decide)] at H
      obtain rfl:=Option.some.inj H
      have p5 : 0 ≤ (x5_1 : Int):=md_
      have q5 : x5_1 < (a0.size : Int):=md_
      have hx5:=bt_at a0 x5_1
      replace p5:=eq_true p5
      replace q5:=eq_true q5
      go_wp2_with (first | ((with_reducible refine gc_ 133 ?_);refine xgl_ (some 22) Tryz.func133 #[.string (a0.extract (x5_1 : Int).toNat a0.size)] ?_;(with_reducible refine (impl_percent.calls k1 (a0.extract (x5_1 : Int).toNat a0.size) t317 false _ A9.out).mono ?_);rintro e w' ⟨rfl,⟨nd,rfl⟩⟩;refine ⟨_,rfl,?_⟩))
      go_ret
      exact ⟨by first | rfl | (simp;done) | (simp [*];done),by repeat (first | exact Drawn0.refl _ | apply Drawn0.step)⟩
    ·rw [if_neg c6] at H
     have c6b0 : ((bt a0 x5_1) == 37) = false:=beq_eq_false_iff_ne.mpr c6
     have c6b1 : ((bt a0 x5_1) != 37) = true:=bne_iff_ne.mpr c6
     replace H:=mi_ H
     obtain ⟨c12,H⟩:=H
     have c12b0:=eq_true c12
     have c12b1:=decide_eq_true c12
     try have c12b2 : (9223372036854775807 < 17 + a1.size) = False:=eq_false (Nat.not_lt.2 c12)
     replace H:=mb_ H
     obtain ⟨t319,A13,H⟩:=H
     by_cases c14 : t319 = true
     ·subst c14
      rw [if_pos rfl] at H
      have H':=Aside0.mk H
      clear H
      have p5 : 0 ≤ (x5_1 : Int):=md_
      have q5 : x5_1 < (a0.size : Int):=md_
      have hx5:=bt_at a0 x5_1
      replace p5:=eq_true p5
      replace q5:=eq_true q5
      have p11 : 0 ≤ (x5_1 : Int):=md_
      have q11 : x5_1 < (a0.size : Int):=md_
      have hx11:=bt_at a0 x5_1
      replace p11:=eq_true p11
      replace q11:=eq_true q11
      go_wp2_with (first | ((with_reducible refine gc_ 122 ?_);refine xgl_ (some 34) Tryz.func122 #[.int .u8 (bt a0 x5_1),.string ((⟨#[45,46,95,126,33,36,38,39,40,41,42,43,44,59,61,58,64]⟩ : ByteArray) ++ a1)] ?_;(with_reducible refine (impl_isAmong.calls (bt a0 x5_1) ((⟨#[45,46,95,126,33,36,38,39,40,41,42,43,44,59,61,58,64]⟩ : ByteArray) ++ a1) true _ A13.out).mono ?_);rintro e w' ⟨rfl,⟨nd,rfl⟩⟩;refine ⟨_,rfl,?_⟩))
      go_roundg k1
      case measure => have:=HK1.out;omega
      case rel => exact ⟨(wrap64 (x5_1 + 1)),me_,H',⟨by have:=HK1.out;omega⟩,by repeat (first | exact Drawn0.refl _ | apply Drawn0.step)⟩
     ·replace c14:=Bool.eq_false_iff.mpr c14
      subst c14
      rw [if_neg (show ¬ (false = true) by decide)] at H
      obtain rfl:=Option.some.inj H
      have p5 : 0 ≤ (x5_1 : Int):=md_
      have q5 : x5_1 < (a0.size : Int):=md_
      have hx5:=bt_at a0 x5_1
      replace p5:=eq_true p5
      replace q5:=eq_true q5
      have p11 : 0 ≤ (x5_1 : Int):=md_
      have q11 : x5_1 < (a0.size : Int):=md_
      have hx11:=bt_at a0 x5_1
      replace p11:=eq_true p11
      replace q11:=eq_true q11
      go_wp2_with (first | ((with_reducible refine gc_ 122 ?_);refine xgl_ (some 34) Tryz.func122 #[.int .u8 (bt a0 x5_1),.string ((⟨#[45,46,95,126,33,36,38,39,40,41,42,43,44,59,61,58,64]⟩ : ByteArray) ++ a1)] ?_;(with_reducible refine (impl_isAmong.calls (bt a0 x5_1) ((⟨#[45,46,95,126,33,36,38,39,40,41,42,43,44,59,61,58,64]⟩ : ByteArray) ++ a1) false _ A13.out).mono ?_);rintro e w' ⟨rfl,⟨nd,rfl⟩⟩;refine ⟨_,rfl,?_⟩))
      go_ret
      exact ⟨by first | rfl | (simp;done) | (simp [*];done),by repeat (first | exact Drawn0.refl _ | apply Drawn0.step)⟩
   ·rw [if_neg c3] at H
    have c3b0:=decide_eq_false c3
    clear c3
    obtain rfl:=Option.some.inj H
    go_wp2
    go_ret
    exact ⟨by first | rfl | (simp;done) | (simp [*];done),by repeat (first | exact Drawn0.refl _ | apply Drawn0.step)⟩

/-- the first place, counted from n, at which p holds; -1 if there is none -/
def idxO {α : Type} (p : α → Option Bool) : List α → Int → Option Int
  | [],_ => some (-1)
  | x :: xs,n => (p x).bind fun b => if b = true then some n else idxO p xs (n + 1)
theorem idxO_at {α : Type} (p : α → Option Bool) (l : List α) (n : Nat) (h : n < l.length) : idxO p (l.drop n) (n : Int) = (p l[n]).bind fun b => if b = true then some (n : Int) else idxO p (l.drop (n + 1)) ((n + 1 : Nat) : Int):=by
  rw [List.drop_eq_getElem_cons h];rfl
theorem idxO_mono {α : Type} (p q : α → Option Bool) (h : ∀ x,LeO (p x) (q x)) (l : List α) : ∀ n,LeO (idxO p l n) (idxO q l n):=by
  induction l with
  | nil => intro n;exact LeO.refl _
  | cons x xs ih => intro n;unfold idxO;exact LeO.bind (h x) (fun b => LeO.ite (LeO.refl _) (ih _))
set_option maxHeartbeats 4000000 in
/-- slices.IndexFunc: the first place at which the predicate holds -/
theorem xIndexFunc_u8 (p : Int → Option Bool) (g : Nat) (lb : Array Value) (eg : ∀ args w,(callFunc g args).run Tryz.prog w = .ok (.enter g args) w) (A0 : Option Addr) (c0 : Nat) (l0 : List Int) (i : Int) (w : World)
    (hr0 : Kd.C (Kd.int .u8) w A0 l0.length l0) (hc0 : l0.length ≤ c0) (hbig : l0.length < 9223372036854775807)
    (hp : ∀ (W : World) (x : Int) (b : Bool),Below w.heap.size w W → p x = some b → Calls Tryz.prog g (#[.int .u8 x] ++ lb) W fun e w' => e = .returned (.bool b) ∧ Below w.heap.size w w')
    (h : idxO p l0 0 = some i) :
    Calls Tryz.prog 218 #[.slice A0 l0.length c0,.func (.func g) #[] lb] w fun e w' => e = .returned (.int .i64 i) ∧ Below w.heap.size w w':=by
  have HR0:=Aside0.mk hr0
  have HC0:=Aside0.mk hc0
  have HP:=Aside0.mk hp
  have HI:=Aside0.mk h
  clear hr0 hc0 hp h
  go_enter Tryz.func218,Tryz.ntmps218
  go_wp2
  go_loopg [5,8] l0.length (fun gg _ s8 wr => ∃ kk : Nat,kk ≤ l0.length ∧ l0.length - kk ≤ gg ∧ s8 = .int .i64 kk ∧ Aside0 (Below w.heap.size w wr) ∧ Aside0 (idxO p (l0.drop kk) (kk : Int) = some i))
  case atStart => exact ⟨0,Nat.zero_le _,by omega,rfl,⟨Below.refl _ w⟩,HI⟩
  case round =>
    obtain ⟨kk,hkk,hg,rfl,BW,A⟩:=hrel
    clear HI
    by_cases hlt : kk < l0.length
    · have hltz : (kk : Int) < (l0.length : Int):=by omega
      have H:=A.out
      clear A
      rw [idxO_at p l0 kk hlt] at H
      obtain ⟨b,hb,H⟩:=Option.bind_eq_some_iff.mp H
      have hcall:=HP.out wr l0[kk] b BW.out hb
      have hrd : rd l0 (kk : Int) = l0[kk]:=by unfold rd;simp [List.getD_eq_getElem?_getD,hlt]
      obtain ⟨ad,he,hy0⟩:=Kd.at_int (Kd.C_below HR0.out BW.out) (kk : Int) (by omega) hltz
      cases he
      have hx0 : wr.cell? (ad.add kk) = some (.int .u8 (l0[kk])):=by rw [← hrd];exact hy0
      clear hy0
      generalize l0[kk] = x at *
      cases b with
      | true =>
        obtain rfl : (kk : Int) = i:=Option.some.inj H
        clear H hb
        go_wp2_with (go_at_fn g;refine hcall.mono ?_;rintro e w' ⟨rfl,hb'⟩)
        go_ret
        exact ⟨rfl,hb'⟩
      | false =>
        have H':=Aside0.mk H
        clear H hb
        go_wp2_with (go_at_fn g;refine hcall.mono ?_;rintro e w' ⟨rfl,hb'⟩)
        go_roundg (l0.length - (kk + 1))
        case measure => omega
        case rel => exact ⟨kk + 1,by omega,by omega,by go_num,⟨hb'⟩,⟨by have z:=H'.out;rw [if_neg (by decide)] at z;exact z⟩⟩
    · have hltz : ¬ (kk : Int) < (l0.length : Int):=by omega
      have H:=A.out
      rw [List.drop_of_length_le (by omega)] at H
      obtain rfl : (-1 : Int) = i:=Option.some.inj H
      clear H A
      go_wp2
      go_ret
      exact ⟨rfl,BW.out⟩
set_option maxHeartbeats 4000000 in
theorem xContainsFunc_u8 (p : Int → Option Bool) (g : Nat) (lb : Array Value) (eg : ∀ args w,(callFunc g args).run Tryz.prog w = .ok (.enter g args) w) (A0 : Option Addr) (c0 : Nat) (l0 : List Int) (i : Int) (w : World)
    (hr0 : Kd.C (Kd.int .u8) w A0 l0.length l0) (hc0 : l0.length ≤ c0) (hbig : l0.length < 9223372036854775807)
    (hp : ∀ (W : World) (x : Int) (b : Bool),Below w.heap.size w W → p x = some b → Calls Tryz.prog g (#[.int .u8 x] ++ lb) W fun e w' => e = .returned (.bool b) ∧ Below w.heap.size w w')
    (h : idxO p l0 0 = some i) :
    Calls Tryz.prog 196 #[.slice A0 l0.length c0,.func (.func g) #[] lb] w fun e w' => e = .returned (.bool (decide (i ≥ 0))) ∧ Below w.heap.size w w':=by
  have hcall:=xIndexFunc_u8 p g lb eg A0 c0 l0 i w hr0 hc0 hbig hp h
  clear hr0 hc0 hbig hp h
  go_enter Tryz.func196,Tryz.ntmps196
  go_wp2_with (go_at_call 218;refine hcall.mono ?_;rintro e w' ⟨rfl,hb'⟩)
  go_ret
  exact ⟨rfl,hb'⟩
/-! ### xAll_u8_impl_GoodUrl_1: function 158, with function 121 -/
def xAll_u8_impl_GoodUrl_1.z (x : Int) : Option Bool:=(impl_GoodUrl_1.f x).bind fun b => some (!b)
def xAll_u8_impl_GoodUrl_1.f (l0 : List Int) : Option (Bool):=if l0.length < 9223372036854775807 then ((idxO (xAll_u8_impl_GoodUrl_1.z) l0 0).bind fun i => some (!decide (i ≥ 0))) else none
set_option maxHeartbeats 8000000 in
set_option maxRecDepth 100000 in
theorem xAll_u8_impl_GoodUrl_1.calls (A0 : Option Addr) (c0 : Nat) (l0 : List Int) (r : Bool) (w : World) (hr0 : Kd.C (Kd.int .u8) w A0 l0.length l0) (hc0 : l0.length ≤ c0) (h : xAll_u8_impl_GoodUrl_1.f l0 = some r) :
    Calls Tryz.prog 158 #[.slice A0 l0.length c0,.func (.func 121) #[] #[]] w fun e w' => e = .returned (.bool r) ∧ Below w.heap.size w w':=by
  have hbig : l0.length < 9223372036854775807:=by
    by_cases c : l0.length < 9223372036854775807
    · exact c
    · unfold xAll_u8_impl_GoodUrl_1.f at h;rw [if_neg c] at h;cases h
  have h1 : ((idxO (xAll_u8_impl_GoodUrl_1.z) l0 0).bind fun i => some (!decide (i ≥ 0))) = some r:=by unfold xAll_u8_impl_GoodUrl_1.f at h;rw [if_pos hbig] at h;exact h
  clear h
  obtain ⟨i,hi1,hi2⟩:=Option.bind_eq_some_iff.mp h1
  clear h1
  obtain rfl:=Option.some.inj hi2
  clear hi2
  have eg : ∀ args w,(callFunc 197 args).run Tryz.prog w = .ok (.enter 197 args) w:=enters_of Tryz.func197 (by kernel_rfl) rfl
  have hb1 : Below w.heap.size w (w.alloc (.cells #[.func (.func 121) #[] #[]] 123)):=(Below.refl _ w).alloc (Nat.le_refl _) _
  have hcall:=xContainsFunc_u8 (xAll_u8_impl_GoodUrl_1.z) 197 #[.pointer (some ⟨w.heap.size,0,none⟩)] eg A0 c0 l0 i (w.alloc (.cells #[.func (.func 121) #[] #[]] 123)) (Kd.C_below hr0 hb1) hc0 hbig
    (by
      intro W x b hb hz
      have hcell : W.cell? ⟨w.heap.size,0,none⟩ = some (.func (.func 121) #[] #[]):=(hb.cell (p:=⟨w.heap.size,0,none⟩) (by simp)).trans (by simp)
      obtain ⟨b2,hq,hb2⟩:=Option.bind_eq_some_iff.mp hz
      obtain rfl : (!b2) = b:=Option.some.inj hb2
      have hq':=Aside0.mk hq
      have hb':=Aside0.mk hb
      clear hb hz hb2 hq
      show Calls Tryz.prog 197 #[.int .u8 x,.pointer (some ⟨w.heap.size,0,none⟩)] W _
      go_enter Tryz.func197,Tryz.ntmps197
      go_wp2_with (go_at_call 121;refine (impl_GoodUrl_1.calls x b2 _ hq'.out).mono ?_;rintro e w' ⟨rfl,⟨nd,rfl⟩⟩)
      go_ret
      exact ⟨rfl,by repeat (first | (with_reducible first | exact hb'.out | apply below_alloc | apply pw_below_drewN | apply below_drew1) | exact hb'.out)⟩)
    hi1
  have hb1':=Aside0.mk hb1
  clear hr0 hc0 hbig hi1 hb1 eg
  go_enter Tryz.func158,Tryz.ntmps158
  go_wp2_with (go_at_call 196;refine hcall.mono ?_;rintro e w' ⟨rfl,hb'⟩)
  go_ret
  exact ⟨rfl,below_then hb1'.out (by simp) hb'⟩
/-! ### xBytes_impl_GoodUrl_1: function 120, with function 121 -/
def xBytes_impl_GoodUrl_1.f (a0 : ByteArray) : Option (Bool):=if a0.size < 100000000 then xAll_u8_impl_GoodUrl_1.f (bytesOf a0) else none
set_option maxHeartbeats 4000000 in
theorem xBytes_impl_GoodUrl_1.calls (a0 : ByteArray) (r : Bool) (w : World) (h : xBytes_impl_GoodUrl_1.f a0 = some r) :
    Calls Tryz.prog 120 #[.string a0,.func (.func 121) #[] #[]] w fun e w' => e = .returned (.bool r) ∧ Below w.heap.size w w':=by
  unfold xBytes_impl_GoodUrl_1.f at h
  by_cases c : a0.size < 100000000
  · rw [if_pos c] at h
    have hcv:=Lib.run_convert_string_bytes (P:=Tryz.prog) w 9 120 5 a0 Tryz.underlying9 Tryz.underlying120 Tryz.underlying5
    have hC : (Kd.int .u8).C (Lib.bytesWorld w 5 a0) (some ⟨w.heap.size,0,none⟩) (bytesOf a0).length (bytesOf a0):=by
      rw [bytesOf_length]
      exact Kd.C_of_reads (d:=(0 : Int)) (bytes_reads w 5 a0 (by omega))
    have hbe:=Lib.bytesWorld_below w 5 a0
    have hcall:=xAll_u8_impl_GoodUrl_1.calls (some ⟨w.heap.size,0,none⟩) (grownCap w a0.size 0 5) (bytesOf a0) r (Lib.bytesWorld w 5 a0) hC (by rw [bytesOf_length];exact grownCap_ge w a0.size 0 5) h
    rw [bytesOf_length] at hcall
    obtain ⟨W0,hW0⟩ : ∃ W0,W0 = Lib.bytesWorld w 5 a0:=⟨_,rfl⟩
    rw [← hW0] at hcv hcall hbe
    have HB0:=Aside0.mk hbe
    clear hW0 hbe c h hC
    go_enter Tryz.func120,Tryz.ntmps120
    go_wp2_with (go_at_call 158;refine hcall.mono ?_;rintro e w' ⟨rfl,hb'⟩)
    go_ret
    exact ⟨rfl,below_step HB0.out hb'⟩
  · rw [if_neg c] at h;cases h

end Go.Proofs.YtpggepjfhgalkaaGreatDoor.PFnExactKeyOf
