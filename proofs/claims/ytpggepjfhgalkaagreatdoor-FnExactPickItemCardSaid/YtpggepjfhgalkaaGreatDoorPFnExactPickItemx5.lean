-- Written by a program of this project (xprint.py) out of the translation; Lean checks it.
import Derived.Test.YtpggepjfhgalkaaGreatDoorPFnExactPickItemx0
import Derived.Test.YtpggepjfhgalkaaGreatDoorPFnExactPickItemx2
import Derived.Test.YtpggepjfhgalkaaGreatDoorPFnExactPickItemx4
namespace Go.Proofs.YtpggepjfhgalkaaGreatDoor.PFnExactPickItem
open Go.RowKit Go.Proofs.YtpggepjfhgalkaaGreatDoorW.PrintWords Go.Proofs.YtpggepjfhgalkaaGreatDoorW.PrintLast Go.Proofs.YtpggepjfhgalkaaGreatDoorW.PrintMore
attribute [local go_sem] max2_int min2_int max_two min_two max_three min_three max_four min_four   -- for this text's walks alone
set_option linter.unusedVariables false
set_option linter.unusedSimpArgs false

/-! ### spec_l2Number: function 154 -/
def spec_l2Number.l0 : Nat → ByteArray → Int → Int → Int → Int → Option (Int)
 | 0, _, _, _, _, _ => none
 | k + 1, x0, x1, x2, x7, x8 => if x8 < (wrap64 (x1 + x2)) then (if 0 ≤ x8 then (if x8 < (x0.size : Int) then ((spec_l1Digit.f (bt x0 x8)).bind fun t165 => (if t165 = true then (spec_l2Number.l0 k x0 x1 x2 (wrap64 ((wrap64 (10 * x7)) + (((bt x0 x8) - 48) % 256))) (wrap64 (x8 + 1))) else (some (-1)))) else (none)) else (none)) else (some x7)
def spec_l2Number.f (k : Nat) (a0 : ByteArray) (a1 : Int) (a2 : Int) : Option (Int) := if (wrap64 (a1 + a2)) > (a0.size : Int) then (some (-1)) else (spec_l2Number.l0 k a0 a1 a2 0 a1)
set_option maxHeartbeats 8000000 in
set_option maxRecDepth 100000 in
theorem spec_l2Number.calls (k : Nat) (a0 : ByteArray) (a1 : Int) (a2 : Int) (r : Int) (w : World) (h : spec_l2Number.f k a0 a1 a2 = some r) :
  Calls Tryz.prog 154 #[.string a0, .int .i64 a1, .int .i64 a2] w fun e w' => e = .returned (.int .i64 r) ∧ Drawn0 w w' := by
 have H := h
 unfold spec_l2Number.f at H
 clear h
 by_cases c4 : (wrap64 (a1 + a2)) > (a0.size : Int)
 ·rw [if_pos c4] at H
  have c4b0 : decide ((a0.size : Int) < (wrap64 (a1 + a2))) = true := decide_eq_true c4
  clear c4
  obtain rfl := Option.some.inj H
  go_enter Tryz.func154, Tryz.ntmps154
  go_wp2
  go_ret
  exact ⟨by first | rfl | (simp; done) | (simp [*]; done), by repeat (first | exact Drawn0.refl _ | apply Drawn0.step)⟩
 ·rw [if_neg c4] at H
  have c4b0 : decide ((a0.size : Int) < (wrap64 (a1 + a2))) = false := decide_eq_false c4
  clear c4
  have H' := Aside0.mk H
  clear H
  go_enter Tryz.func154, Tryz.ntmps154
  go_wp2
  go_loopg [7, 8] k (fun kq v7 v8 w' => ∃ (x7_1 : Int) (x8_1 : Int), v7 = .int .i64 x7_1 ∧ v8 = .int .i64 x8_1 ∧ Aside0 (spec_l2Number.l0 kq a0 a1 a2 x7_1 x8_1 = some r) ∧ Aside0 (kq ≤ k) ∧ Drawn0 w w')
  case atStart => exact ⟨(0), (a1), me_, me_, H', ⟨Nat.le_refl _⟩, by repeat (first | exact Drawn0.refl _ | apply Drawn0.step)⟩
  case round =>
   clear H'
   try clear c4
   try clear c4b0
   obtain ⟨x7_1, x8_1, rfl, rfl, HA, HK1, ⟨m1, rfl⟩⟩ := hrel
   cases gk with
   | zero => exact absurd HA.out (by simp [spec_l2Number.l0])
   | succ k1 =>
    have H := HA.out
    clear HA
    simp only [spec_l2Number.l0] at H
    by_cases c5 : x8_1 < (wrap64 (a1 + a2))
    ·rw [if_pos c5] at H
     have c5b0 := decide_eq_true c5
     clear c5
     replace H := mi_ H
     obtain ⟨c6, H⟩ := H
     have c6b0 := decide_eq_true c6
     clear c6
     replace H := mi_ H
     obtain ⟨c7, H⟩ := H
     have c7b0 := decide_eq_true c7
     clear c7
     replace H := mb_ H
     obtain ⟨t165, A9, H⟩ := H
     by_cases c10 : t165 = true
     ·subst c10
      rw [if_pos rfl] at H
      have H' := Aside0.mk H
      clear H
      have p8 : 0 ≤ (x8_1 : Int) := md_
      have q8 : x8_1 < (a0.size : Int) := md_
      have hx8 := bt_at a0 x8_1
      replace p8 := eq_true p8
      replace q8 := eq_true q8
      go_wp2_with (first | ((with_reducible refine gc_ 106 ?_); refine xgl_ (some 26) Tryz.func106 #[.int .u8 (bt a0 x8_1)] ?_; (with_reducible refine (spec_l1Digit.calls (bt a0 x8_1) true _ A9.out).mono ?_); rintro e w' ⟨rfl, ⟨nd, rfl⟩⟩; refine ⟨_, rfl, ?_⟩; have p11 : 0 ≤ (x8_1 : Int) := md_; have q11 : x8_1 < (a0.size : Int) := md_; have hx11 := bt_at a0 x8_1; replace p11 := eq_true p11; replace q11 := eq_true q11))
      go_roundg k1
      case measure => have := HK1.out; omega
      case rel => exact ⟨(wrap64 ((wrap64 (10 * x7_1)) + (((bt a0 x8_1) - 48) % 256))), (wrap64 (x8_1 + 1)), me_, me_, H', ⟨by have := HK1.out; omega⟩, by repeat (first | exact Drawn0.refl _ | apply Drawn0.step)⟩
     ·replace c10 := Bool.eq_false_iff.mpr c10
      subst c10
      rw [if_neg (show ¬ (false = true) by decide)] at H
      obtain rfl := Option.some.inj H
      have p8 : 0 ≤ (x8_1 : Int) := md_
      have q8 : x8_1 < (a0.size : Int) := md_
      have hx8 := bt_at a0 x8_1
      replace p8 := eq_true p8
      replace q8 := eq_true q8
      go_wp2_with (first | ((with_reducible refine gc_ 106 ?_); refine xgl_ (some 26) Tryz.func106 #[.int .u8 (bt a0 x8_1)] ?_; (with_reducible refine (spec_l1Digit.calls (bt a0 x8_1) false _ A9.out).mono ?_); rintro e w' ⟨rfl, ⟨nd, rfl⟩⟩; refine ⟨_, rfl, ?_⟩))
      go_ret
      exact ⟨by first | rfl | (simp; done) | (simp [*]; done), by repeat (first | exact Drawn0.refl _ | apply Drawn0.step)⟩
    ·rw [if_neg c5] at H
     have c5b0 := decide_eq_false c5
     clear c5
     obtain rfl := Option.some.inj H
     go_wp2
     go_ret
     exact ⟨by first | rfl | (simp; done) | (simp [*]; done), by repeat (first | exact Drawn0.refl _ | apply Drawn0.step)⟩

/-! ### spec_l4Length: function 112 -/
mutual
def spec_l4Length.l0 : Nat → Int → List ByteArray → Int → Int → Option (Int)
 | 0, _, _, _, _ => none
 | k + 1, x3, x12, x13, x14 => if x14 < x13 then (if 0 ≤ x14 then (if x14 < (x12.length : Int) then ((spec_l3List.f k (rdOf ByteArray.empty x12 x14)).bind fun bt170 => (if bt170.2 = true then (spec_l4Length.j1 k x3 bt170.1 x12 x13 x14 ((bt170.1.length : Int) == 0)) else (spec_l4Length.j1 k x3 bt170.1 x12 x13 x14 true))) else (none)) else (none)) else (some x3)
def spec_l4Length.j1 : Nat → Int → List ByteArray → List ByteArray → Int → Int → Bool → Option (Int)
 | 0, _, _, _, _, _, _ => none
 | k + 1, x3, x6, x12, x13, x14, x29 => if x29 = true then (some (-2)) else (spec_l4Length.l1 k x3 x12 x13 x14 x6 (x6.length : Int) 0)
def spec_l4Length.l1 : Nat → Int → List ByteArray → Int → Int → List ByteArray → Int → Int → Option (Int)
 | 0, _, _, _, _, _, _, _ => none
 | k + 1, x3, x12, x13, x14, x30, x31, x32 => if x32 < x31 then (if 0 ≤ x32 then (if x32 < (x30.length : Int) then ((spec_l2Number.f k (rdOf ByteArray.empty x30 x32) 0 ((rdOf ByteArray.empty x30 x32).size : Int)).bind fun t175 => (if t175 < 0 then (some (-2)) else (if ((rdOf ByteArray.empty x30 x32).size : Int) > 9 then (some (-2)) else (if (rdOf ByteArray.empty x30 x32).toList = ([] : List UInt8) then (some (-2)) else (if x3 ≥ 0 then (if x3 = t175 then (spec_l4Length.l1 k t175 x12 x13 x14 x30 x31 (wrap64 (x32 + 1))) else (some (-2))) else (spec_l4Length.l1 k t175 x12 x13 x14 x30 x31 (wrap64 (x32 + 1)))))))) else (none)) else (none)) else (spec_l4Length.l0 k x3 x12 x13 (wrap64 (x14 + 1)))
end
def spec_l4Length.f (k : Nat) (l0 : List (S105)) : Option (Int) := (spec_l3Values.f k l0 (⟨#[99, 111, 110, 116, 101, 110, 116, 45, 108, 101, 110, 103, 116, 104]⟩ : ByteArray)).bind fun t166 => (spec_l4Length.l0 k (-1) t166 (t166.length : Int) 0)
set_option maxHeartbeats 8000000 in
set_option maxRecDepth 100000 in
theorem spec_l4Length.calls (k : Nat) (A0 : Option Addr) (c0 : Nat) (l0 : List (S105)) (r : Int) (w : World) (hr0 : Kd.C k105 w A0 l0.length l0) (hc0 : l0.length ≤ c0) (h : spec_l4Length.f k l0 = some r) :
  Calls Tryz.prog 112 #[.slice A0 l0.length c0] w fun e w' => e = .returned (.int .i64 r) ∧ Below w.heap.size w w' := by
 have HR0 := Aside0.mk hr0
 have HC0 := Aside0.mk hc0
 clear hr0 hc0
 have HB := Aside0.mk (Below.refl w.heap.size w)
 have H := h
 unfold spec_l4Length.f at H
 clear h
 replace H := mb_ H
 obtain ⟨t166, A2, H⟩ := H
 have H' := Aside0.mk H
 clear H
 go_enter Tryz.func112, Tryz.ntmps112
 go_wp2_with (first | ((with_reducible refine gc_ 113 ?_); refine xgl_ (some 12) Tryz.func113 #[.slice A0 l0.length c0, .string (⟨#[99, 111, 110, 116, 101, 110, 116, 45, 108, 101, 110, 103, 116, 104]⟩ : ByteArray)] ?_; (with_reducible refine (spec_l3Values.calls k _ _ l0 (⟨#[99, 111, 110, 116, 101, 110, 116, 45, 108, 101, 110, 103, 116, 104]⟩ : ByteArray) t166 _ ?side1 ?side2 A2.out).mono ?_); (case side1 => repeat (first | exact HR0.out | (with_reducible refine Kd.C_alloc ?_ _) | (with_reducible refine Kd.C_drewN ?_ _) | (with_reducible refine Kd.C_drew ?_))); (case side2 => exact HC0.out); rintro e w3 ⟨v167, rfl, ho0, hb⟩; refine ⟨_, rfl, ?_⟩; have HO168 := Aside0.mk (Kd.R_lower ho0 (below_size (xw_ HB))); replace HB := xws_ HB hb; (try clear hb); (try clear ho0); obtain ⟨Ao4, co4, eo4⟩ := Kd.R_slice HO168.out; subst eo4))
 go_loopg [3, 14] k (fun kq v3 v14 w' => ∃ (x3_1 : Int) (x14_1 : Int), v3 = .int .i64 x3_1 ∧ v14 = .int .i64 x14_1 ∧ Aside0 (spec_l4Length.l0 kq x3_1 t166 (t166.length : Int) x14_1 = some r) ∧ Aside0 (kq ≤ k) ∧ Aside0 (Kd.R Kd.string 9 w' w.heap.size (fun _ => True) (.slice Ao4 t166.length co4) t166) ∧ Aside0 (Below w.heap.size w w'))
 case atStart => exact ⟨((-1)), (0), me_, me_, H', ⟨Nat.le_refl _⟩, ⟨xr_ HO168⟩, ⟨xw_ HB⟩⟩
 case round =>
  clear H'
  obtain ⟨x3_1, x14_1, rfl, rfl, HA, HK1, HO_12, HB⟩ := hrel
  cases gk with
  | zero => exact absurd HA.out (by simp [spec_l4Length.l0])
  | succ k1 =>
   have H := HA.out
   clear HA
   simp only [spec_l4Length.l0] at H
   by_cases c5 : x14_1 < (t166.length : Int)
   ·rw [if_pos c5] at H
    have c5b0 := decide_eq_true c5
    clear c5
    replace H := mi_ H
    obtain ⟨c6, H⟩ := H
    have c6b0 := decide_eq_true c6
    clear c6
    replace H := mi_ H
    obtain ⟨c7, H⟩ := H
    have c7b0 := decide_eq_true c7
    clear c7
    replace H := mb_ H
    obtain ⟨⟨t170, t171⟩, A8, H⟩ := H
    dsimp only at H
    have HC9 := Aside0.mk H
    clear H
    have p169 : 0 ≤ (x14_1 : Int) := md_
    have q169 : x14_1 < (t166.length : Int) := md_
    obtain ⟨ad169, e169, hx169_0⟩ := Kd.at_string (Kd.R_reads' HO_12.out).2.2 x14_1 p169 q169
    cases e169
    replace p169 := eq_true p169
    replace q169 := eq_true q169
    go_upto_region 6 with (first | ((with_reducible refine gc_ 88 ?_); refine xgl_ (some 20) Tryz.func88 #[.string (rdOf ByteArray.empty t166 x14_1)] ?_; (with_reducible refine (spec_l3List.calls k1 (rdOf ByteArray.empty t166 x14_1) t170 t171 _ A8.out).mono ?_); rintro e w10 ⟨v172, rfl, ho0, hb⟩; refine ⟨_, rfl, ?_⟩; have HO173 := Aside0.mk (Kd.R_lower (Kd.R_new' ho0 (Kd.R_lt (xr_ HO_12))) (below_size (xw_ HB))); replace HO_12 := xre_ HO_12 ho0 hb; replace HB := xws_ HB hb; (try clear hb); (try clear ho0)))
    (try simp only [Act.put, List.setIfInBounds_toArray, List.set_cons_zero, List.set_cons_succ])
    go_cut [29] (fun v29 wc => ∃ (kq : Nat) (x29_8 : Bool), v29 = .bool x29_8 ∧ Aside0 (spec_l4Length.j1 kq x3_1 t170 t166 (t166.length : Int) x14_1 x29_8 = some r) ∧ Aside0 (kq ≤ k1) ∧ Aside0 (Kd.R Kd.string 9 wc w.heap.size (fun k_ => some k_ ≠ ((.slice (some ad169) t166.length co4) : Value).ownBlock) v172 t170) ∧ Aside0 (Kd.R Kd.string 9 wc w.heap.size (fun k_ => some k_ ≠ (v172 : Value).ownBlock) (.slice (some ad169) t166.length co4) t166) ∧ Aside0 (Below w.heap.size w wc))
    case first =>
     have H := HC9.out
     clear HC9
     by_cases c11 : t171 = true
     ·subst c11
      rw [if_pos rfl] at H
      have H' := Aside0.mk H
      clear H
      obtain ⟨Ao12, co12, eo12⟩ := Kd.R_slice HO173.out
      subst eo12
      go_wp2
      go_meet
      case rel => exact ⟨_, (((t170.length : Int) == 0)), me_, H', ⟨by have := HK1.out; first | omega | exact Nat.le_refl _⟩, ⟨xrt_ (Kd.R_mono HO173.out (fun _ hk => hk.2))⟩, ⟨xrt_ (Kd.R_mono HO_12.out (fun _ hk => hk.2))⟩, ⟨xw_ HB⟩⟩
     ·replace c11 := Bool.eq_false_iff.mpr c11
      subst c11
      rw [if_neg (show ¬ (false = true) by decide)] at H
      have H' := Aside0.mk H
      clear H
      go_wp2
      go_meet
      case rel => exact ⟨_, (true), me_, H', ⟨by have := HK1.out; first | omega | exact Nat.le_refl _⟩, ⟨xrt_ (Kd.R_mono HO173.out (fun _ hk => hk.2))⟩, ⟨xrt_ (Kd.R_mono HO_12.out (fun _ hk => hk.2))⟩, ⟨xw_ HB⟩⟩
    case rest =>
     clear HC9
     try clear c5
     try clear c5b0
     try clear c6
     try clear c6b0
     try clear c7
     try clear c7b0
     try clear hx169_0
     try clear p169
     try clear q169
     obtain ⟨kq, x29_8, rfl, HA, HJ8, HO_6, HO_12, HB⟩ := hcut
     cases kq with
     | zero => exact absurd HA.out (by simp [spec_l4Length.j1])
     | succ kj8 =>
      have H := HA.out
      clear HA
      simp only [spec_l4Length.j1] at H
      by_cases c13 : x29_8 = true
      ·subst c13
       rw [if_pos rfl] at H
       obtain rfl := Option.some.inj H
       go_wp2
       go_ret
       exact ⟨mf_, xw_ HB⟩
      ·replace c13 := Bool.eq_false_iff.mpr c13
       subst c13
       rw [if_neg (show ¬ (false = true) by decide)] at H
       have H' := Aside0.mk H
       clear H
       obtain ⟨Ao14, co14, eo14⟩ := Kd.R_slice HO_6.out
       subst eo14
       go_wp2
       go_loopg [3, 32] kj8 (fun kq v3 v32 w' => ∃ (x3_3 : Int) (x32_3 : Int), v3 = .int .i64 x3_3 ∧ v32 = .int .i64 x32_3 ∧ Aside0 (spec_l4Length.l1 kq x3_3 t166 (t166.length : Int) x14_1 t170 (t170.length : Int) x32_3 = some r) ∧ Aside0 (kq ≤ kj8) ∧ Aside0 (Kd.R Kd.string 9 w' w.heap.size (fun k_ => some k_ ≠ ((.slice Ao14 t170.length co14) : Value).ownBlock) (.slice (some ad169) t166.length co4) t166) ∧ Aside0 (Kd.R Kd.string 9 w' w.heap.size (fun k_ => some k_ ≠ ((.slice (some ad169) t166.length co4) : Value).ownBlock) (.slice Ao14 t170.length co14) t170) ∧ Aside0 (Below w.heap.size w w'))
       case atStart => exact ⟨(x3_1), (0), me_, me_, H', ⟨Nat.le_refl _⟩, ⟨xr_ HO_12⟩, ⟨xr_ HO_6⟩, ⟨xw_ HB⟩⟩
       case round =>
        clear H'
        try clear c5
        try clear c5b0
        try clear c6
        try clear c6b0
        try clear c7
        try clear c7b0
        try clear c13
        try clear hx169_0
        try clear p169
        try clear q169
        obtain ⟨x3_3, x32_3, rfl, rfl, HA, HK3, HO_12, HO_30, HB⟩ := hrel
        cases gk with
        | zero => exact absurd HA.out (by simp [spec_l4Length.l1])
        | succ k3 =>
         have H := HA.out
         clear HA
         simp only [spec_l4Length.l1] at H
         by_cases c15 : x32_3 < (t170.length : Int)
         ·rw [if_pos c15] at H
          have c15b0 := decide_eq_true c15
          clear c15
          replace H := mi_ H
          obtain ⟨c16, H⟩ := H
          have c16b0 := decide_eq_true c16
          clear c16
          replace H := mi_ H
          obtain ⟨c17, H⟩ := H
          have c17b0 := decide_eq_true c17
          clear c17
          replace H := mb_ H
          obtain ⟨t175, A18, H⟩ := H
          by_cases c19 : t175 < 0
          ·rw [if_pos c19] at H
           have c19b0 := decide_eq_true c19
           clear c19
           obtain rfl := Option.some.inj H
           have p174 : 0 ≤ (x32_3 : Int) := md_
           have q174 : x32_3 < (t170.length : Int) := md_
           obtain ⟨ad174, e174, hx174_0⟩ := Kd.at_string (Kd.R_reads' HO_30.out).2.2 x32_3 p174 q174
           cases e174
           replace p174 := eq_true p174
           replace q174 := eq_true q174
           go_wp2_with (first | ((with_reducible refine gc_ 154 ?_); refine xgl_ (some 39) Tryz.func154 #[.string (rdOf ByteArray.empty t170 x32_3), .int .i64 0, .int .i64 ((rdOf ByteArray.empty t170 x32_3).size : Int)] ?_; (with_reducible refine (spec_l2Number.calls k3 (rdOf ByteArray.empty t170 x32_3) 0 ((rdOf ByteArray.empty t170 x32_3).size : Int) t175 _ A18.out).mono ?_); rintro e w' ⟨rfl, ⟨nd, rfl⟩⟩; refine ⟨_, rfl, ?_⟩))
           go_ret
           exact ⟨mf_, xw_ HB⟩
          ·rw [if_neg c19] at H
           have c19b0 := decide_eq_false c19
           clear c19
           by_cases c20 : ((rdOf ByteArray.empty t170 x32_3).size : Int) > 9
           ·rw [if_pos c20] at H
            have c20b0 : decide (9 < ((rdOf ByteArray.empty t170 x32_3).size : Int)) = true := decide_eq_true c20
            have c20b1 : decide (9 < (rdOf ByteArray.empty t170 x32_3).size) = true := decide_eq_true (by omega)
            clear c20
            obtain rfl := Option.some.inj H
            have p174 : 0 ≤ (x32_3 : Int) := md_
            have q174 : x32_3 < (t170.length : Int) := md_
            obtain ⟨ad174, e174, hx174_0⟩ := Kd.at_string (Kd.R_reads' HO_30.out).2.2 x32_3 p174 q174
            cases e174
            replace p174 := eq_true p174
            replace q174 := eq_true q174
            go_wp2_with (first | ((with_reducible refine gc_ 154 ?_); refine xgl_ (some 39) Tryz.func154 #[.string (rdOf ByteArray.empty t170 x32_3), .int .i64 0, .int .i64 ((rdOf ByteArray.empty t170 x32_3).size : Int)] ?_; (with_reducible refine (spec_l2Number.calls k3 (rdOf ByteArray.empty t170 x32_3) 0 ((rdOf ByteArray.empty t170 x32_3).size : Int) t175 _ A18.out).mono ?_); rintro e w' ⟨rfl, ⟨nd, rfl⟩⟩; refine ⟨_, rfl, ?_⟩))
            go_ret
            exact ⟨mf_, xw_ HB⟩
           ·rw [if_neg c20] at H
            have c20b0 : decide (9 < ((rdOf ByteArray.empty t170 x32_3).size : Int)) = false := decide_eq_false c20
            have c20b1 : decide (9 < (rdOf ByteArray.empty t170 x32_3).size) = false := decide_eq_false (by omega)
            clear c20
            by_cases c21 : (rdOf ByteArray.empty t170 x32_3).toList = ([] : List UInt8)
            ·rw [if_pos c21] at H
             have c21b0 : ((rdOf ByteArray.empty t170 x32_3).toList == ([] : List UInt8)) = true := beq_iff_eq.mpr c21
             have c21b1 : ((rdOf ByteArray.empty t170 x32_3).toList != ([] : List UInt8)) = false := bne_eq_false_iff_eq.mpr c21
             clear c21
             obtain rfl := Option.some.inj H
             have p174 : 0 ≤ (x32_3 : Int) := md_
             have q174 : x32_3 < (t170.length : Int) := md_
             obtain ⟨ad174, e174, hx174_0⟩ := Kd.at_string (Kd.R_reads' HO_30.out).2.2 x32_3 p174 q174
             cases e174
             replace p174 := eq_true p174
             replace q174 := eq_true q174
             go_wp2_with (first | ((with_reducible refine gc_ 154 ?_); refine xgl_ (some 39) Tryz.func154 #[.string (rdOf ByteArray.empty t170 x32_3), .int .i64 0, .int .i64 ((rdOf ByteArray.empty t170 x32_3).size : Int)] ?_; (with_reducible refine (spec_l2Number.calls k3 (rdOf ByteArray.empty t170 x32_3) 0 ((rdOf ByteArray.empty t170 x32_3).size : Int) t175 _ A18.out).mono ?_); rintro e w' ⟨rfl, ⟨nd, rfl⟩⟩; refine ⟨_, rfl, ?_⟩))
             go_ret
             exact ⟨mf_, xw_ HB⟩
            ·rw [if_neg c21] at H
             have c21b0 : ((rdOf ByteArray.empty t170 x32_3).toList == ([] : List UInt8)) = false := beq_eq_false_iff_ne.mpr c21
             have c21b1 : ((rdOf ByteArray.empty t170 x32_3).toList != ([] : List UInt8)) = true := bne_iff_ne.mpr c21
             by_cases c22 : x3_3 ≥ 0
             ·rw [if_pos c22] at H
              have c22b0 : decide (0 ≤ x3_3) = true := decide_eq_true c22
              clear c22
              by_cases c23 : x3_3 = t175
              ·rw [if_pos c23] at H
               have c23b0 : (x3_3 == t175) = true := beq_iff_eq.mpr c23
               have c23b1 : (x3_3 != t175) = false := bne_eq_false_iff_eq.mpr c23
               clear c23
               have H' := Aside0.mk H
               clear H
               have p174 : 0 ≤ (x32_3 : Int) := md_
               have q174 : x32_3 < (t170.length : Int) := md_
               obtain ⟨ad174, e174, hx174_0⟩ := Kd.at_string (Kd.R_reads' HO_30.out).2.2 x32_3 p174 q174
               cases e174
               replace p174 := eq_true p174
               replace q174 := eq_true q174
               go_wp2_with (first | ((with_reducible refine gc_ 154 ?_); refine xgl_ (some 39) Tryz.func154 #[.string (rdOf ByteArray.empty t170 x32_3), .int .i64 0, .int .i64 ((rdOf ByteArray.empty t170 x32_3).size : Int)] ?_; (with_reducible refine (spec_l2Number.calls k3 (rdOf ByteArray.empty t170 x32_3) 0 ((rdOf ByteArray.empty t170 x32_3).size : Int) t175 _ A18.out).mono ?_); rintro e w' ⟨rfl, ⟨nd, rfl⟩⟩; refine ⟨_, rfl, ?_⟩))
               go_roundg k3
               case measure => have := HK1.out; have := HJ8.out; have := HK3.out; omega
               case rel => exact ⟨(t175), (wrap64 (x32_3 + 1)), me_, me_, H', ⟨by have := HK1.out; have := HJ8.out; have := HK3.out; omega⟩, ⟨xr_ HO_12⟩, ⟨xr_ HO_30⟩, ⟨xw_ HB⟩⟩
              ·rw [if_neg c23] at H
               have c23b0 : (x3_3 == t175) = false := beq_eq_false_iff_ne.mpr c23
               have c23b1 : (x3_3 != t175) = true := bne_iff_ne.mpr c23
               obtain rfl := Option.some.inj H
               have p174 : 0 ≤ (x32_3 : Int) := md_
               have q174 : x32_3 < (t170.length : Int) := md_
               obtain ⟨ad174, e174, hx174_0⟩ := Kd.at_string (Kd.R_reads' HO_30.out).2.2 x32_3 p174 q174
               cases e174
               replace p174 := eq_true p174
               replace q174 := eq_true q174
               go_wp2_with (first | ((with_reducible refine gc_ 154 ?_); refine xgl_ (some 39) Tryz.func154 #[.string (rdOf ByteArray.empty t170 x32_3), .int .i64 0, .int .i64 ((rdOf ByteArray.empty t170 x32_3).size : Int)] ?_; (with_reducible refine (spec_l2Number.calls k3 (rdOf ByteArray.empty t170 x32_3) 0 ((rdOf ByteArray.empty t170 x32_3).size : Int) t175 _ A18.out).mono ?_); rintro e w' ⟨rfl, ⟨nd, rfl⟩⟩; refine ⟨_, rfl, ?_⟩))
               go_ret
               exact ⟨mf_, xw_ HB⟩
             ·rw [if_neg c22] at H
              have c22b0 : decide (0 ≤ x3_3) = false := decide_eq_false c22
              clear c22
              have H' := Aside0.mk H
              clear H
              have p174 : 0 ≤ (x32_3 : Int) := md_
              have q174 : x32_3 < (t170.length : Int) := md_
              obtain ⟨ad174, e174, hx174_0⟩ := Kd.at_string (Kd.R_reads' HO_30.out).2.2 x32_3 p174 q174
              cases e174
              replace p174 := eq_true p174
              replace q174 := eq_true q174
              go_wp2_with (first | ((with_reducible refine gc_ 154 ?_); refine xgl_ (some 39) Tryz.func154 #[.string (rdOf ByteArray.empty t170 x32_3), .int .i64 0, .int .i64 ((rdOf ByteArray.empty t170 x32_3).size : Int)] ?_; (with_reducible refine (spec_l2Number.calls k3 (rdOf ByteArray.empty t170 x32_3) 0 ((rdOf ByteArray.empty t170 x32_3).size : Int) t175 _ A18.out).mono ?_); rintro e w' ⟨rfl, ⟨nd, rfl⟩⟩; refine ⟨_, rfl, ?_⟩))
              go_roundg k3
              case measure => have := HK1.out; have := HJ8.out; have := HK3.out; omega
              case rel => exact ⟨(t175), (wrap64 (x32_3 + 1)), me_, me_, H', ⟨by have := HK1.out; have := HJ8.out; have := HK3.out; omega⟩, ⟨xr_ HO_12⟩, ⟨xr_ HO_30⟩, ⟨xw_ HB⟩⟩
         ·rw [if_neg c15] at H
          have c15b0 := decide_eq_false c15
          clear c15
          have H' := Aside0.mk H
          clear H
          go_wp2
          go_roundg k3
          case measure => have := HK1.out; have := HJ8.out; have := HK3.out; omega
          case rel => exact ⟨(x3_3), (wrap64 (x14_1 + 1)), me_, me_, H', ⟨by have := HK1.out; have := HJ8.out; have := HK3.out; omega⟩, ⟨xrt_ (Kd.R_mono HO_12.out (fun _ hk => trivial))⟩, ⟨xw_ HB⟩⟩
   ·rw [if_neg c5] at H
    have c5b0 := decide_eq_false c5
    clear c5
    obtain rfl := Option.some.inj H
    go_wp2
    go_ret
    exact ⟨mf_, xw_ HB⟩

/-! ### spec_l4Framed: function 68 -/
def spec_l4Framed.f (k : Nat) (l0 : List (S105)) (a1 : ByteArray) : Option (Bool) := (spec_l4Length.f k l0).bind fun t176 => (if t176 = (-1) then (if 0 = (a1.size : Int) then (if (a1.size : Int) ≤ 300 then ((spec_l3Values.f k l0 (⟨#[116, 114, 97, 110, 115, 102, 101, 114, 45, 101, 110, 99, 111, 100, 105, 110, 103]⟩ : ByteArray)).bind fun t177 => (some ((t177.length : Int) == 0))) else (some false)) else (some false)) else (if t176 = (a1.size : Int) then (if (a1.size : Int) ≤ 300 then ((spec_l3Values.f k l0 (⟨#[116, 114, 97, 110, 115, 102, 101, 114, 45, 101, 110, 99, 111, 100, 105, 110, 103]⟩ : ByteArray)).bind fun t180 => (some ((t180.length : Int) == 0))) else (some false)) else (some false)))
set_option maxHeartbeats 8000000 in
set_option maxRecDepth 100000 in
theorem spec_l4Framed.calls (k : Nat) (A0 : Option Addr) (c0 : Nat) (l0 : List (S105)) (a1 : ByteArray) (r : Bool) (w : World) (hr0 : Kd.C k105 w A0 l0.length l0) (hc0 : l0.length ≤ c0) (h : spec_l4Framed.f k l0 a1 = some r) :
  Calls Tryz.prog 68 #[.slice A0 l0.length c0, .string a1] w fun e w' => e = .returned (.bool r) ∧ Below w.heap.size w w' := by
 have HR0 := Aside0.mk hr0
 have HC0 := Aside0.mk hc0
 clear hr0 hc0
 have HB := Aside0.mk (Below.refl w.heap.size w)
 have H := h
 unfold spec_l4Framed.f at H
 clear h
 replace H := mb_ H
 obtain ⟨t176, A3, H⟩ := H
 by_cases c4 : t176 = (-1)
 ·rw [if_pos c4] at H
  have c4b0 : (t176 == (-1)) = true := beq_iff_eq.mpr c4
  have c4b1 : (t176 != (-1)) = false := bne_eq_false_iff_eq.mpr c4
  clear c4
  by_cases c5 : 0 = (a1.size : Int)
  ·rw [if_pos c5] at H
   have c5b0 : (0 == (a1.size : Int)) = true := beq_iff_eq.mpr c5
   have c5b1 : (0 != (a1.size : Int)) = false := bne_eq_false_iff_eq.mpr c5
   clear c5
   by_cases c6 : (a1.size : Int) ≤ 300
   ·rw [if_pos c6] at H
    have c6b0 := decide_eq_true c6
    have c6b1 : decide (a1.size ≤ 300) = true := decide_eq_true (by omega)
    clear c6
    replace H := mb_ H
    obtain ⟨t177, A7, H⟩ := H
    obtain rfl := Option.some.inj H
    go_enter Tryz.func68, Tryz.ntmps68
    go_wp2_with (first | ((with_reducible refine gc_ 112 ?_); refine xgl_ (some 7) Tryz.func112 #[.slice A0 l0.length c0] ?_; (with_reducible refine (spec_l4Length.calls k _ _ l0 t176 _ ?side1 ?side2 A3.out).mono ?_); (case side1 => repeat (first | exact HR0.out | (with_reducible refine Kd.C_alloc ?_ _) | (with_reducible refine Kd.C_drewN ?_ _) | (with_reducible refine Kd.C_drew ?_))); (case side2 => exact HC0.out); rintro e w8 ⟨rfl, hb⟩; refine ⟨_, rfl, ?_⟩; replace HB := xws_ HB hb; (try clear hb)) | (go_at_call 113; (with_reducible refine (spec_l3Values.calls k _ _ l0 (⟨#[116, 114, 97, 110, 115, 102, 101, 114, 45, 101, 110, 99, 111, 100, 105, 110, 103]⟩ : ByteArray) t177 _ ?side1 ?side2 A7.out).mono ?_); (case side1 => exact xc_ ((Kd.C_below HR0.out HB.out))); (case side2 => exact HC0.out); rintro e w9 ⟨v178, rfl, ho0, hb⟩; have HO179 := Aside0.mk (Kd.R_lower ho0 (below_size (xw_ HB))); replace HB := xws_ HB hb; (try clear hb); (try clear ho0); obtain ⟨Ao10, co10, eo10⟩ := Kd.R_slice HO179.out; subst eo10))
    go_ret
    exact ⟨mf_, xw_ HB⟩
   ·rw [if_neg c6] at H
    have c6b0 := decide_eq_false c6
    have c6b1 : decide (a1.size ≤ 300) = false := decide_eq_false (by omega)
    clear c6
    obtain rfl := Option.some.inj H
    go_enter Tryz.func68, Tryz.ntmps68
    go_wp2_with (first | ((with_reducible refine gc_ 112 ?_); refine xgl_ (some 7) Tryz.func112 #[.slice A0 l0.length c0] ?_; (with_reducible refine (spec_l4Length.calls k _ _ l0 t176 _ ?side1 ?side2 A3.out).mono ?_); (case side1 => repeat (first | exact HR0.out | (with_reducible refine Kd.C_alloc ?_ _) | (with_reducible refine Kd.C_drewN ?_ _) | (with_reducible refine Kd.C_drew ?_))); (case side2 => exact HC0.out); rintro e w11 ⟨rfl, hb⟩; refine ⟨_, rfl, ?_⟩; replace HB := xws_ HB hb; (try clear hb)))
    go_ret
    exact ⟨mf_, xw_ HB⟩
  ·rw [if_neg c5] at H
   have c5b0 : (0 == (a1.size : Int)) = false := beq_eq_false_iff_ne.mpr c5
   have c5b1 : (0 != (a1.size : Int)) = true := bne_iff_ne.mpr c5
   obtain rfl := Option.some.inj H
   go_enter Tryz.func68, Tryz.ntmps68
   go_wp2_with (first | ((with_reducible refine gc_ 112 ?_); refine xgl_ (some 7) Tryz.func112 #[.slice A0 l0.length c0] ?_; (with_reducible refine (spec_l4Length.calls k _ _ l0 t176 _ ?side1 ?side2 A3.out).mono ?_); (case side1 => repeat (first | exact HR0.out | (with_reducible refine Kd.C_alloc ?_ _) | (with_reducible refine Kd.C_drewN ?_ _) | (with_reducible refine Kd.C_drew ?_))); (case side2 => exact HC0.out); rintro e w12 ⟨rfl, hb⟩; refine ⟨_, rfl, ?_⟩; replace HB := xws_ HB hb; (try clear hb)))
   go_ret
   exact ⟨mf_, xw_ HB⟩
 ·rw [if_neg c4] at H
  have c4b0 : (t176 == (-1)) = false := beq_eq_false_iff_ne.mpr c4
  have c4b1 : (t176 != (-1)) = true := bne_iff_ne.mpr c4
  by_cases c13 : t176 = (a1.size : Int)
  ·rw [if_pos c13] at H
   have c13b0 : (t176 == (a1.size : Int)) = true := beq_iff_eq.mpr c13
   have c13b1 : (t176 != (a1.size : Int)) = false := bne_eq_false_iff_eq.mpr c13
   clear c13
   by_cases c14 : (a1.size : Int) ≤ 300
   ·rw [if_pos c14] at H
    have c14b0 := decide_eq_true c14
    have c14b1 : decide (a1.size ≤ 300) = true := decide_eq_true (by omega)
    clear c14
    replace H := mb_ H
    obtain ⟨t180, A15, H⟩ := H
    obtain rfl := Option.some.inj H
    go_enter Tryz.func68, Tryz.ntmps68
    go_wp2_with (first | ((with_reducible refine gc_ 112 ?_); refine xgl_ (some 7) Tryz.func112 #[.slice A0 l0.length c0] ?_; (with_reducible refine (spec_l4Length.calls k _ _ l0 t176 _ ?side1 ?side2 A3.out).mono ?_); (case side1 => repeat (first | exact HR0.out | (with_reducible refine Kd.C_alloc ?_ _) | (with_reducible refine Kd.C_drewN ?_ _) | (with_reducible refine Kd.C_drew ?_))); (case side2 => exact HC0.out); rintro e w16 ⟨rfl, hb⟩; refine ⟨_, rfl, ?_⟩; replace HB := xws_ HB hb; (try clear hb)) | (go_at_call 113; (with_reducible refine (spec_l3Values.calls k _ _ l0 (⟨#[116, 114, 97, 110, 115, 102, 101, 114, 45, 101, 110, 99, 111, 100, 105, 110, 103]⟩ : ByteArray) t180 _ ?side1 ?side2 A15.out).mono ?_); (case side1 => exact xc_ ((Kd.C_below HR0.out HB.out))); (case side2 => exact HC0.out); rintro e w17 ⟨v181, rfl, ho0, hb⟩; have HO182 := Aside0.mk (Kd.R_lower ho0 (below_size (xw_ HB))); replace HB := xws_ HB hb; (try clear hb); (try clear ho0); obtain ⟨Ao18, co18, eo18⟩ := Kd.R_slice HO182.out; subst eo18))
    go_ret
    exact ⟨mf_, xw_ HB⟩
   ·rw [if_neg c14] at H
    have c14b0 := decide_eq_false c14
    have c14b1 : decide (a1.size ≤ 300) = false := decide_eq_false (by omega)
    clear c14
    obtain rfl := Option.some.inj H
    go_enter Tryz.func68, Tryz.ntmps68
    go_wp2_with (first | ((with_reducible refine gc_ 112 ?_); refine xgl_ (some 7) Tryz.func112 #[.slice A0 l0.length c0] ?_; (with_reducible refine (spec_l4Length.calls k _ _ l0 t176 _ ?side1 ?side2 A3.out).mono ?_); (case side1 => repeat (first | exact HR0.out | (with_reducible refine Kd.C_alloc ?_ _) | (with_reducible refine Kd.C_drewN ?_ _) | (with_reducible refine Kd.C_drew ?_))); (case side2 => exact HC0.out); rintro e w19 ⟨rfl, hb⟩; refine ⟨_, rfl, ?_⟩; replace HB := xws_ HB hb; (try clear hb)))
    go_ret
    exact ⟨mf_, xw_ HB⟩
  ·rw [if_neg c13] at H
   have c13b0 : (t176 == (a1.size : Int)) = false := beq_eq_false_iff_ne.mpr c13
   have c13b1 : (t176 != (a1.size : Int)) = true := bne_iff_ne.mpr c13
   obtain rfl := Option.some.inj H
   go_enter Tryz.func68, Tryz.ntmps68
   go_wp2_with (first | ((with_reducible refine gc_ 112 ?_); refine xgl_ (some 7) Tryz.func112 #[.slice A0 l0.length c0] ?_; (with_reducible refine (spec_l4Length.calls k _ _ l0 t176 _ ?side1 ?side2 A3.out).mono ?_); (case side1 => repeat (first | exact HR0.out | (with_reducible refine Kd.C_alloc ?_ _) | (with_reducible refine Kd.C_drewN ?_ _) | (with_reducible refine Kd.C_drew ?_))); (case side2 => exact HC0.out); rintro e w20 ⟨rfl, hb⟩; refine ⟨_, rfl, ?_⟩; replace HB := xws_ HB hb; (try clear hb)))
   go_ret
   exact ⟨mf_, xw_ HB⟩

/-! ### spec_l4Head: function 69 -/
def spec_l4Head.l0 : Nat → ByteArray → List (S105) → Int → Int → Option (ByteArray)
 | 0, _, _, _, _ => none
 | k + 1, x5, x10, x11, x12 => if x12 < x11 then (if 0 ≤ x12 then (if x12 < (x10.length : Int) then (if ((rd_T105 x10 x12).f0).size + 2 ≤ 9223372036854775807 then (if (((rd_T105 x10 x12).f0) ++ (⟨#[58, 32]⟩ : ByteArray)).size + ((rd_T105 x10 x12).f1).size ≤ 9223372036854775807 then (if ((((rd_T105 x10 x12).f0) ++ (⟨#[58, 32]⟩ : ByteArray)) ++ ((rd_T105 x10 x12).f1)).size + 2 ≤ 9223372036854775807 then (if x5.size + (((((rd_T105 x10 x12).f0) ++ (⟨#[58, 32]⟩ : ByteArray)) ++ ((rd_T105 x10 x12).f1)) ++ (⟨#[13, 10]⟩ : ByteArray)).size ≤ 9223372036854775807 then (spec_l4Head.l0 k (x5 ++ (((((rd_T105 x10 x12).f0) ++ (⟨#[58, 32]⟩ : ByteArray)) ++ ((rd_T105 x10 x12).f1)) ++ (⟨#[13, 10]⟩ : ByteArray))) x10 x11 (wrap64 (x12 + 1))) else (none)) else (none)) else (none)) else (none)) else (none)) else (none)) else (if x5.size + 2 ≤ 9223372036854775807 then (some (x5 ++ (⟨#[13, 10]⟩ : ByteArray))) else (none))
def spec_l4Head.f (k : Nat) (a0 : ByteArray) (l1 : List (S105)) : Option (ByteArray) := if a0.size + 2 ≤ 9223372036854775807 then (spec_l4Head.l0 k (a0 ++ (⟨#[13, 10]⟩ : ByteArray)) l1 (l1.length : Int) 0) else (none)
set_option maxHeartbeats 8000000 in
set_option maxRecDepth 100000 in
theorem spec_l4Head.calls (k : Nat) (a0 : ByteArray) (A1 : Option Addr) (c1 : Nat) (l1 : List (S105)) (r : ByteArray) (w : World) (hr1 : Kd.C k105 w A1 l1.length l1) (hc1 : l1.length ≤ c1) (h : spec_l4Head.f k a0 l1 = some r) :
  Calls Tryz.prog 69 #[.string a0, .slice A1 l1.length c1] w fun e w' => e = .returned (.string r) ∧ Below w.heap.size w w' := by
 have hu105 := Tryz.underlying105
 have HR1 := Aside0.mk hr1
 have HC1 := Aside0.mk hc1
 clear hr1 hc1
 have HB := Aside0.mk (Below.refl w.heap.size w)
 have H := h
 unfold spec_l4Head.f at H
 clear h
 replace H := mi_ H
 obtain ⟨c3, H⟩ := H
 have c3b0 := eq_true c3
 have c3b1 := decide_eq_true c3
 try have c3b2 : (9223372036854775807 < a0.size + 2) = False := eq_false (Nat.not_lt.2 c3)
 have H' := Aside0.mk H
 clear H
 go_enter Tryz.func69, Tryz.ntmps69
 go_wp2
 go_loopg [5, 12] k (fun kq v5 v12 w' => ∃ (x5_1 : ByteArray) (x12_1 : Int), v5 = .string x5_1 ∧ v12 = .int .i64 x12_1 ∧ Aside0 (spec_l4Head.l0 kq x5_1 l1 (l1.length : Int) x12_1 = some r) ∧ Aside0 (kq ≤ k) ∧ Aside0 (Below w.heap.size w w'))
 case atStart => exact ⟨(a0 ++ (⟨#[13, 10]⟩ : ByteArray)), (0), me_, me_, H', ⟨Nat.le_refl _⟩, ⟨xw_ HB⟩⟩
 case round =>
  clear H'
  try clear c3
  try clear c3b0
  try clear c3b1
  try clear c3b2
  obtain ⟨x5_1, x12_1, rfl, rfl, HA, HK1, HB⟩ := hrel
  cases gk with
  | zero => exact absurd HA.out (by simp [spec_l4Head.l0])
  | succ k1 =>
   have H := HA.out
   clear HA
   simp only [spec_l4Head.l0] at H
   by_cases c4 : x12_1 < (l1.length : Int)
   ·rw [if_pos c4] at H
    have c4b0 := decide_eq_true c4
    clear c4
    replace H := mi_ H
    obtain ⟨c5, H⟩ := H
    have c5b0 := decide_eq_true c5
    clear c5
    replace H := mi_ H
    obtain ⟨c6, H⟩ := H
    have c6b0 := decide_eq_true c6
    clear c6
    replace H := mi_ H
    obtain ⟨c7, H⟩ := H
    have c7b0 := eq_true c7
    have c7b1 := decide_eq_true c7
    try have c7b2 : (9223372036854775807 < ((rd_T105 l1 x12_1).f0).size + 2) = False := eq_false (Nat.not_lt.2 c7)
    replace H := mi_ H
    obtain ⟨c8, H⟩ := H
    have c8b0 := eq_true c8
    have c8b1 := decide_eq_true c8
    try have c8b2 : (9223372036854775807 < (((rd_T105 l1 x12_1).f0) ++ (⟨#[58, 32]⟩ : ByteArray)).size + ((rd_T105 l1 x12_1).f1).size) = False := eq_false (Nat.not_lt.2 c8)
    try have c8b3 : (9223372036854775807 < ((rd_T105 l1 x12_1).f0).size + 2 + ((rd_T105 l1 x12_1).f1).size) = False := eq_false (Nat.not_lt.2 (by have z_ := c8; simp only [ByteArray.size_append] at z_; exact z_))
    replace H := mi_ H
    obtain ⟨c9, H⟩ := H
    have c9b0 := eq_true c9
    have c9b1 := decide_eq_true c9
    try have c9b2 : (9223372036854775807 < ((((rd_T105 l1 x12_1).f0) ++ (⟨#[58, 32]⟩ : ByteArray)) ++ ((rd_T105 l1 x12_1).f1)).size + 2) = False := eq_false (Nat.not_lt.2 c9)
    try have c9b3 : (9223372036854775807 < ((rd_T105 l1 x12_1).f0).size + 2 + ((rd_T105 l1 x12_1).f1).size + 2) = False := eq_false (Nat.not_lt.2 (by have z_ := c9; simp only [ByteArray.size_append] at z_; exact z_))
    replace H := mi_ H
    obtain ⟨c10, H⟩ := H
    have c10b0 := eq_true c10
    have c10b1 := decide_eq_true c10
    try have c10b2 : (9223372036854775807 < x5_1.size + (((((rd_T105 l1 x12_1).f0) ++ (⟨#[58, 32]⟩ : ByteArray)) ++ ((rd_T105 l1 x12_1).f1)) ++ (⟨#[13, 10]⟩ : ByteArray)).size) = False := eq_false (Nat.not_lt.2 c10)
    try have c10b3 : (9223372036854775807 < x5_1.size + (((rd_T105 l1 x12_1).f0).size + 2 + ((rd_T105 l1 x12_1).f1).size + 2)) = False := eq_false (Nat.not_lt.2 (by have z_ := c10; simp only [ByteArray.size_append] at z_; exact z_))
    have H' := Aside0.mk H
    clear H
    have p183 : 0 ≤ (x12_1 : Int) := md_
    have q183 : x12_1 < (l1.length : Int) := md_
    obtain ⟨ad183, e183, hx183_0, hx183_1⟩ := at_T105 HR1.out x12_1 p183 q183
    cases e183
    (try replace hx183_0 := (HB.out.cell (World.block_lt_of_cell? w _ hx183_0)).trans hx183_0)
    (try replace hx183_1 := (HB.out.cell (World.block_lt_of_cell? w _ hx183_1)).trans hx183_1)
    replace p183 := eq_true p183
    replace q183 := eq_true q183
    go_wp2_with (first | ((with_reducible refine gd_ 7 ?_); refine xbe_ (N := 7) (cs := #[.string (⟨#[]⟩ : ByteArray), .string (⟨#[]⟩ : ByteArray)]) (t := 105) ?_; intro gb184 hg w11 hbox hb; have BK184 := Aside0.mk (hbox); have GE184 := xge_ HB hg; replace HB := xws_ HB hb; clear hb hbox hg; have ⟨_, _, _, _⟩ := c2_ BK184))
    go_roundg k1
    case measure => have := HK1.out; omega
    case rel => exact ⟨(x5_1 ++ (((((rd_T105 l1 x12_1).f0) ++ (⟨#[58, 32]⟩ : ByteArray)) ++ ((rd_T105 l1 x12_1).f1)) ++ (⟨#[13, 10]⟩ : ByteArray))), (wrap64 (x12_1 + 1)), me_, me_, H', ⟨by have := HK1.out; omega⟩, ⟨xw_ HB⟩⟩
   ·rw [if_neg c4] at H
    have c4b0 := decide_eq_false c4
    clear c4
    replace H := mi_ H
    obtain ⟨c13, H⟩ := H
    have c13b0 := eq_true c13
    have c13b1 := decide_eq_true c13
    try have c13b2 : (9223372036854775807 < x5_1.size + 2) = False := eq_false (Nat.not_lt.2 c13)
    obtain rfl := Option.some.inj H
    go_wp2
    go_ret
    exact ⟨mf_, xw_ HB⟩

/-! ### spec_l4First: function 70 -/
def spec_l4First.f (a0_0 : ByteArray) (a0_1 : ByteArray) (l0_2 : List (S105)) (a0_3 : ByteArray) : Option (ByteArray) := if a0_0.size + 1 ≤ 9223372036854775807 then (if (a0_0 ++ (⟨#[32]⟩ : ByteArray)).size + a0_1.size ≤ 9223372036854775807 then (if ((a0_0 ++ (⟨#[32]⟩ : ByteArray)) ++ a0_1).size + 9 ≤ 9223372036854775807 then (some (((a0_0 ++ (⟨#[32]⟩ : ByteArray)) ++ a0_1) ++ (⟨#[32, 72, 84, 84, 80, 47, 49, 46, 49]⟩ : ByteArray))) else (none)) else (none)) else (none)
set_option maxHeartbeats 8000000 in
set_option maxRecDepth 100000 in
theorem spec_l4First.calls (a0_0 : ByteArray) (a0_1 : ByteArray) (A0_2 : Option Addr) (c0_2 : Nat) (l0_2 : List (S105)) (a0_3 : ByteArray) (r : ByteArray) (w : World) (hr0_2 : Kd.C k105 w A0_2 l0_2.length l0_2) (hc0_2 : l0_2.length ≤ c0_2) (h : spec_l4First.f a0_0 a0_1 l0_2 a0_3 = some r) :
  Calls Tryz.prog 70 #[.agg #[.string a0_0, .string a0_1, .slice A0_2 l0_2.length c0_2, .string a0_3]] w fun e w' => e = .returned (.string r) ∧ Below w.heap.size w w' := by
 have hu35 := Tryz.underlying35
 have HR0_2 := Aside0.mk hr0_2
 have HC0_2 := Aside0.mk hc0_2
 clear hr0_2 hc0_2
 have HB := Aside0.mk (Below.refl w.heap.size w)
 have H := h
 unfold spec_l4First.f at H
 clear h
 replace H := mi_ H
 obtain ⟨c2, H⟩ := H
 have c2b0 := eq_true c2
 have c2b1 := decide_eq_true c2
 try have c2b2 : (9223372036854775807 < a0_0.size + 1) = False := eq_false (Nat.not_lt.2 c2)
 replace H := mi_ H
 obtain ⟨c3, H⟩ := H
 have c3b0 := eq_true c3
 have c3b1 := decide_eq_true c3
 try have c3b2 : (9223372036854775807 < (a0_0 ++ (⟨#[32]⟩ : ByteArray)).size + a0_1.size) = False := eq_false (Nat.not_lt.2 c3)
 try have c3b3 : (9223372036854775807 < a0_0.size + 1 + a0_1.size) = False := eq_false (Nat.not_lt.2 (by have z_ := c3; simp only [ByteArray.size_append] at z_; exact z_))
 replace H := mi_ H
 obtain ⟨c4, H⟩ := H
 have c4b0 := eq_true c4
 have c4b1 := decide_eq_true c4
 try have c4b2 : (9223372036854775807 < ((a0_0 ++ (⟨#[32]⟩ : ByteArray)) ++ a0_1).size + 9) = False := eq_false (Nat.not_lt.2 c4)
 try have c4b3 : (9223372036854775807 < a0_0.size + 1 + a0_1.size + 9) = False := eq_false (Nat.not_lt.2 (by have z_ := c4; simp only [ByteArray.size_append] at z_; exact z_))
 obtain rfl := Option.some.inj H
 go_enter Tryz.func70, Tryz.ntmps70
 go_wp2_with (first | ((with_reducible refine gd_ 1 ?_); refine xbe_ (N := 1) (cs := #[.string a0_0, .string a0_1, .slice A0_2 l0_2.length c0_2, .string a0_3]) (t := 35) ?_; intro gb185 hg w5 hbox hb; have BK185 := Aside0.mk (hbox); have GE185 := xge_ HB hg; replace HB := xws_ HB hb; clear hb hbox hg; have ⟨_, _, _, _, _, _, _, _⟩ := c4_ BK185))
 go_ret
 exact ⟨mf_, xw_ HB⟩

end Go.Proofs.YtpggepjfhgalkaaGreatDoor.PFnExactPickItem
