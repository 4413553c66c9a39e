-- Written by a program of this project (xprint.py) out of the translation; Lean checks it.
import Derived.Test.YtpggepjfhgalkaaGreatDoorPFnExactKeyOfx0
import Derived.Test.YtpggepjfhgalkaaGreatDoorPFnExactKeyOfx6
namespace Go.Proofs.YtpggepjfhgalkaaGreatDoor.PFnExactKeyOf
open Go.RowKit Go.Proofs.YtpggepjfhgalkaaGreatDoorW.PrintWords Go.Proofs.YtpggepjfhgalkaaGreatDoorW.PrintLast Go.Proofs.YtpggepjfhgalkaaGreatDoorW.PrintMore
attribute [local go_sem] max2_int min2_int max_two min_two max_three min_three max_four min_four   -- for this text's walks alone
set_option linter.unusedVariables false
set_option linter.unusedSimpArgs false

/-! ### spec_l4Framed: function 68 -/
def spec_l4Framed.f (k : Nat) (l0 : List (S105)) (a1 : ByteArray) : Option (Bool):=(spec_l4Length.f k l0).bind fun t174 => (if t174 = (-1) then (if 0 = (a1.size : Int) then (if (a1.size : Int) ≤ 300 then ((spec_l3Values.f k l0 (⟨#[116,114,97,110,115,102,101,114,45,101,110,99,111,100,105,110,103]⟩ : ByteArray)).bind fun t175 => (some ((t175.length : Int) == 0))) else (some false)) else (some false)) else (if t174 = (a1.size : Int) then (if (a1.size : Int) ≤ 300 then ((spec_l3Values.f k l0 (⟨#[116,114,97,110,115,102,101,114,45,101,110,99,111,100,105,110,103]⟩ : ByteArray)).bind fun t178 => (some ((t178.length : Int) == 0))) else (some false)) else (some false)))
set_option maxHeartbeats 8000000 in
set_option maxRecDepth 100000 in
theorem spec_l4Framed.calls (k : Nat) (A0 : Option Addr) (c0 : Nat) (l0 : List (S105)) (a1 : ByteArray) (r : Bool) (w : World) (hr0 : Kd.C k105 w A0 l0.length l0) (hc0 : l0.length ≤ c0) (h : spec_l4Framed.f k l0 a1 = some r) :
  Calls Tryz.prog 68 #[.slice A0 l0.length c0,.string a1] w fun e w' => e = .returned (.bool r) ∧ Below w.heap.size w w':=by
 have HR0:=Aside0.mk hr0
 have HC0:=Aside0.mk hc0
 clear hr0 hc0
 have HB:=Aside0.mk (Below.refl w.heap.size w)
 have H:=h
 unfold spec_l4Framed.f at H
 clear h
 replace H:=mb_ H
 obtain ⟨t174,A3,H⟩:=H
 by_cases c4 : t174 = (-1)
 ·rw [if_pos c4] at H
  have c4b0 : (t174 == (-1)) = true:=beq_iff_eq.mpr c4
  have c4b1 : (t174 != (-1)) = false:=bne_eq_false_iff_eq.mpr c4
  clear c4
  by_cases c5 : 0 = (a1.size : Int)
  ·rw [if_pos c5] at H
   have c5b0 : (0 == (a1.size : Int)) = true:=beq_iff_eq.mpr c5
   have c5b1 : (0 != (a1.size : Int)) = false:=bne_eq_false_iff_eq.mpr c5
   clear c5
   by_cases c6 : (a1.size : Int) ≤ 300
   ·rw [if_pos c6] at H
    have c6b0:=decide_eq_true c6
    have c6b1 : decide (a1.size ≤ 300) = true:=decide_eq_true (by omega)
    clear c6
    replace H:=mb_ H
    obtain ⟨t175,A7,H⟩:=H
    obtain rfl:=Option.some.inj H
    go_enter Tryz.func68,Tryz.ntmps68
    go_wp2_with (first | ((with_reducible refine gc_ 112 ?_);refine xgl_ (some 7) Tryz.func112 #[.slice A0 l0.length c0] ?_;(with_reducible refine (spec_l4Length.calls k _ _ l0 t174 _ ?side1 ?side2 A3.out).mono ?_);(case side1 => repeat (first | exact HR0.out | (with_reducible refine Kd.C_alloc ?_ _) | (with_reducible refine Kd.C_drewN ?_ _) | (with_reducible refine Kd.C_drew ?_)));(case side2 => exact HC0.out);rintro e w8 ⟨rfl,hb⟩;refine ⟨_,rfl,?_⟩;replace HB:=xws_ HB hb;(try clear hb)) | (go_at_call 113;(with_reducible refine (spec_l3Values.calls k _ _ l0 (⟨#[116,114,97,110,115,102,101,114,45,101,110,99,111,100,105,110,103]⟩ : ByteArray) t175 _ ?side1 ?side2 A7.out).mono ?_);(case side1 => exact xc_ ((Kd.C_below HR0.out HB.out)));(case side2 => exact HC0.out);rintro e w9 ⟨v176,rfl,ho0,hb⟩;have HO177:=Aside0.mk (Kd.R_lower ho0 (below_size (xw_ HB)));replace HB:=xws_ HB hb;(try clear hb);(try clear ho0);obtain ⟨Ao10,co10,eo10⟩:=Kd.R_slice HO177.out;subst eo10))
    go_ret
    exact ⟨mf_,xw_ HB⟩
   ·rw [if_neg c6] at H
    have c6b0:=decide_eq_false c6
    have c6b1 : decide (a1.size ≤ 300) = false:=decide_eq_false (by omega)
    clear c6
    obtain rfl:=Option.some.inj H
    go_enter Tryz.func68,Tryz.ntmps68
    go_wp2_with (first | ((with_reducible refine gc_ 112 ?_);refine xgl_ (some 7) Tryz.func112 #[.slice A0 l0.length c0] ?_;(with_reducible refine (spec_l4Length.calls k _ _ l0 t174 _ ?side1 ?side2 A3.out).mono ?_);(case side1 => repeat (first | exact HR0.out | (with_reducible refine Kd.C_alloc ?_ _) | (with_reducible refine Kd.C_drewN ?_ _) | (with_reducible refine Kd.C_drew ?_)));(case side2 => exact HC0.out);rintro e w11 ⟨rfl,hb⟩;refine ⟨_,rfl,?_⟩;replace HB:=xws_ HB hb;(try clear hb)))
    go_ret
    exact ⟨mf_,xw_ HB⟩
  ·rw [if_neg c5] at H
   have c5b0 : (0 == (a1.size : Int)) = false:=beq_eq_false_iff_ne.mpr c5
   have c5b1 : (0 != (a1.size : Int)) = true:=bne_iff_ne.mpr c5
   obtain rfl:=Option.some.inj H
   go_enter Tryz.func68,Tryz.ntmps68
   go_wp2_with (first | ((with_reducible refine gc_ 112 ?_);refine xgl_ (some 7) Tryz.func112 #[.slice A0 l0.length c0] ?_;(with_reducible refine (spec_l4Length.calls k _ _ l0 t174 _ ?side1 ?side2 A3.out).mono ?_);(case side1 => repeat (first | exact HR0.out | (with_reducible refine Kd.C_alloc ?_ _) | (with_reducible refine Kd.C_drewN ?_ _) | (with_reducible refine Kd.C_drew ?_)));(case side2 => exact HC0.out);rintro e w12 ⟨rfl,hb⟩;refine ⟨_,rfl,?_⟩;replace HB:=xws_ HB hb;(try clear hb)))
   go_ret
   exact ⟨mf_,xw_ HB⟩
 ·rw [if_neg c4] at H
  have c4b0 : (t174 == (-1)) = false:=beq_eq_false_iff_ne.mpr c4
  have c4b1 : (t174 != (-1)) = true:=bne_iff_ne.mpr c4
  by_cases c13 : t174 = (a1.size : Int)
  ·rw [if_pos c13] at H
   have c13b0 : (t174 == (a1.size : Int)) = true:=beq_iff_eq.mpr c13
   have c13b1 : (t174 != (a1.size : Int)) = false:=bne_eq_false_iff_eq.mpr c13
   clear c13
   by_cases c14 : (a1.size : Int) ≤ 300
   ·rw [if_pos c14] at H
    have c14b0:=decide_eq_true c14
    have c14b1 : decide (a1.size ≤ 300) = true:=decide_eq_true (by omega)
    clear c14
    replace H:=mb_ H
    obtain ⟨t178,A15,H⟩:=H
    obtain rfl:=Option.some.inj H
    go_enter Tryz.func68,Tryz.ntmps68
    go_wp2_with (first | ((with_reducible refine gc_ 112 ?_);refine xgl_ (some 7) Tryz.func112 #[.slice A0 l0.length c0] ?_;(with_reducible refine (spec_l4Length.calls k _ _ l0 t174 _ ?side1 ?side2 A3.out).mono ?_);(case side1 => repeat (first | exact HR0.out | (with_reducible refine Kd.C_alloc ?_ _) | (with_reducible refine Kd.C_drewN ?_ _) | (with_reducible refine Kd.C_drew ?_)));(case side2 => exact HC0.out);rintro e w16 ⟨rfl,hb⟩;refine ⟨_,rfl,?_⟩;replace HB:=xws_ HB hb;(try clear hb)) | (go_at_call 113;(with_reducible refine (spec_l3Values.calls k _ _ l0 (⟨#[116,114,97,110,115,102,101,114,45,101,110,99,111,100,105,110,103]⟩ : ByteArray) t178 _ ?side1 ?side2 A15.out).mono ?_);(case side1 => exact xc_ ((Kd.C_below HR0.out HB.out)));(case side2 => exact HC0.out);rintro e w17 ⟨v179,rfl,ho0,hb⟩;have HO180:=Aside0.mk (Kd.R_lower ho0 (below_size (xw_ HB)));replace HB:=xws_ HB hb;(try clear hb);(try clear ho0);obtain ⟨Ao18,co18,eo18⟩:=Kd.R_slice HO180.out;subst eo18))
    go_ret
    exact ⟨mf_,xw_ HB⟩
   ·rw [if_neg c14] at H
    have c14b0:=decide_eq_false c14
    have c14b1 : decide (a1.size ≤ 300) = false:=decide_eq_false (by omega)
    clear c14
    obtain rfl:=Option.some.inj H
    go_enter Tryz.func68,Tryz.ntmps68
    go_wp2_with (first | ((with_reducible refine gc_ 112 ?_);refine xgl_ (some 7) Tryz.func112 #[.slice A0 l0.length c0] ?_;(with_reducible refine (spec_l4Length.calls k _ _ l0 t174 _ ?side1 ?side2 A3.out).mono ?_);(case side1 => repeat (first | exact HR0.out | (with_reducible refine Kd.C_alloc ?_ _) | (with_reducible refine Kd.C_drewN ?_ _) | (with_reducible refine Kd.C_drew ?_)));(case side2 => exact HC0.out);rintro e w19 ⟨rfl,hb⟩;refine ⟨_,rfl,?_⟩;replace HB:=xws_ HB hb;(try clear hb)))
    go_ret
    exact ⟨mf_,xw_ HB⟩
  ·rw [if_neg c13] at H
   have c13b0 : (t174 == (a1.size : Int)) = false:=beq_eq_false_iff_ne.mpr c13
   have c13b1 : (t174 != (a1.size : Int)) = true:=bne_iff_ne.mpr c13
   obtain rfl:=Option.some.inj H
   go_enter Tryz.func68,Tryz.ntmps68
   go_wp2_with (first | ((with_reducible refine gc_ 112 ?_);refine xgl_ (some 7) Tryz.func112 #[.slice A0 l0.length c0] ?_;(with_reducible refine (spec_l4Length.calls k _ _ l0 t174 _ ?side1 ?side2 A3.out).mono ?_);(case side1 => repeat (first | exact HR0.out | (with_reducible refine Kd.C_alloc ?_ _) | (with_reducible refine Kd.C_drewN ?_ _) | (with_reducible refine Kd.C_drew ?_)));(case side2 => exact HC0.out);rintro e w20 ⟨rfl,hb⟩;refine ⟨_,rfl,?_⟩;replace HB:=xws_ HB hb;(try clear hb)))
   go_ret
   exact ⟨mf_,xw_ HB⟩

/-! ### spec_l4Head: function 69 -/
def spec_l4Head.l0 : Nat → ByteArray → List (S105) → Int → Int → Option (ByteArray)
 | 0,_,_,_,_ => none
 | k + 1,x5,x10,x11,x12 => if x12 < x11 then (if 0 ≤ x12 then (if x12 < (x10.length : Int) then (if ((rd_T105 x10 x12).f0).size + 2 ≤ 9223372036854775807 then (if (((rd_T105 x10 x12).f0) ++ (⟨#[58,32]⟩ : ByteArray)).size + ((rd_T105 x10 x12).f1).size ≤ 9223372036854775807 then (if ((((rd_T105 x10 x12).f0) ++ (⟨#[58,32]⟩ : ByteArray)) ++ ((rd_T105 x10 x12).f1)).size + 2 ≤ 9223372036854775807 then (if x5.size + (((((rd_T105 x10 x12).f0) ++ (⟨#[58,32]⟩ : ByteArray)) ++ ((rd_T105 x10 x12).f1)) ++ (⟨#[13,10]⟩ : ByteArray)).size ≤ 9223372036854775807 then (spec_l4Head.l0 k (x5 ++ (((((rd_T105 x10 x12).f0) ++ (⟨#[58,32]⟩ : ByteArray)) ++ ((rd_T105 x10 x12).f1)) ++ (⟨#[13,10]⟩ : ByteArray))) x10 x11 (wrap64 (x12 + 1))) else (none)) else (none)) else (none)) else (none)) else (none)) else (none)) else (if x5.size + 2 ≤ 9223372036854775807 then (some (x5 ++ (⟨#[13,10]⟩ : ByteArray))) else (none))
def spec_l4Head.f (k : Nat) (a0 : ByteArray) (l1 : List (S105)) : Option (ByteArray):=if a0.size + 2 ≤ 9223372036854775807 then (spec_l4Head.l0 k (a0 ++ (⟨#[13,10]⟩ : ByteArray)) l1 (l1.length : Int) 0) else (none)
set_option maxHeartbeats 8000000 in
set_option maxRecDepth 100000 in
theorem spec_l4Head.calls (k : Nat) (a0 : ByteArray) (A1 : Option Addr) (c1 : Nat) (l1 : List (S105)) (r : ByteArray) (w : World) (hr1 : Kd.C k105 w A1 l1.length l1) (hc1 : l1.length ≤ c1) (h : spec_l4Head.f k a0 l1 = some r) :
  Calls Tryz.prog 69 #[.string a0,.slice A1 l1.length c1] w fun e w' => e = .returned (.string r) ∧ Below w.heap.size w w':=by
 have hu105:=Tryz.underlying105
 have HR1:=Aside0.mk hr1
 have HC1:=Aside0.mk hc1
 clear hr1 hc1
 have HB:=Aside0.mk (Below.refl w.heap.size w)
 have H:=h
 unfold spec_l4Head.f at H
 clear h
 replace H:=mi_ H
 obtain ⟨c3,H⟩:=H
 have c3b0:=eq_true c3
 have c3b1:=decide_eq_true c3
 try have c3b2 : (9223372036854775807 < a0.size + 2) = False:=eq_false (Nat.not_lt.2 c3)
 have H':=Aside0.mk H
 clear H
 go_enter Tryz.func69,Tryz.ntmps69
 go_wp2
 go_loopg [5,12] k (fun kq v5 v12 w' => ∃ (x5_1 : ByteArray) (x12_1 : Int),v5 = .string x5_1 ∧ v12 = .int .i64 x12_1 ∧ Aside0 (spec_l4Head.l0 kq x5_1 l1 (l1.length : Int) x12_1 = some r) ∧ Aside0 (kq ≤ k) ∧ Aside0 (Below w.heap.size w w'))
 case atStart => exact ⟨(a0 ++ (⟨#[13,10]⟩ : ByteArray)),(0),me_,me_,H',⟨Nat.le_refl _⟩,⟨xw_ HB⟩⟩
 case round =>
  clear H'
  try clear c3
  try clear c3b0
  try clear c3b1
  try clear c3b2
  obtain ⟨x5_1,x12_1,rfl,rfl,HA,HK1,HB⟩:=hrel
  cases gk with
  | zero => exact absurd HA.out (by simp [spec_l4Head.l0])
  | succ k1 =>
   have H:=HA.out
   clear HA
   simp only [spec_l4Head.l0] at H
   by_cases c4 : x12_1 < (l1.length : Int)
   ·rw [if_pos c4] at H
    have c4b0:=decide_eq_true c4
    clear c4
    replace H:=mi_ H
    obtain ⟨c5,H⟩:=H
    have c5b0:=decide_eq_true c5
    clear c5
    replace H:=mi_ H
    obtain ⟨c6,H⟩:=H
    have c6b0:=decide_eq_true c6
    clear c6
    replace H:=mi_ H
    obtain ⟨c7,H⟩:=H
    have c7b0:=eq_true c7
    have c7b1:=decide_eq_true c7
    try have c7b2 : (9223372036854775807 < ((rd_T105 l1 x12_1).f0).size + 2) = False:=eq_false (Nat.not_lt.2 c7)
    replace H:=mi_ H
    obtain ⟨c8,H⟩:=H
    have c8b0:=eq_true c8
    have c8b1:=decide_eq_true c8
    try have c8b2 : (9223372036854775807 < (((rd_T105 l1 x12_1).f0) ++ (⟨#[58,32]⟩ : ByteArray)).size + ((rd_T105 l1 x12_1).f1).size) = False:=eq_false (Nat.not_lt.2 c8)
    try have c8b3 : (9223372036854775807 < ((rd_T105 l1 x12_1).f0).size + 2 + ((rd_T105 l1 x12_1).f1).size) = False:=eq_false (Nat.not_lt.2 (by have z_:=c8;simp only [ByteArray.size_append] at z_;exact z_))
    replace H:=mi_ H
    obtain ⟨c9,H⟩:=H
    have c9b0:=eq_true c9
    have c9b1:=decide_eq_true c9
    try have c9b2 : (9223372036854775807 < ((((rd_T105 l1 x12_1).f0) ++ (⟨#[58,32]⟩ : ByteArray)) ++ ((rd_T105 l1 x12_1).f1)).size + 2) = False:=eq_false (Nat.not_lt.2 c9)
    try have c9b3 : (9223372036854775807 < ((rd_T105 l1 x12_1).f0).size + 2 + ((rd_T105 l1 x12_1).f1).size + 2) = False:=eq_false (Nat.not_lt.2 (by have z_:=c9;simp only [ByteArray.size_append] at z_;exact z_))
    replace H:=mi_ H
    obtain ⟨c10,H⟩:=H
    have c10b0:=eq_true c10
    have c10b1:=decide_eq_true c10
    try have c10b2 : (9223372036854775807 < x5_1.size + (((((rd_T105 l1 x12_1).f0) ++ (⟨#[58,32]⟩ : ByteArray)) ++ ((rd_T105 l1 x12_1).f1)) ++ (⟨#[13,10]⟩ : ByteArray)).size) = False:=eq_false (Nat.not_lt.2 c10)
    try have c10b3 : (9223372036854775807 < x5_1.size + (((rd_T105 l1 x12_1).f0).size + 2 + ((rd_T105 l1 x12_1).f1).size + 2)) = False:=eq_false (Nat.not_lt.2 (by have z_:=c10;simp only [ByteArray.size_append] at z_;exact z_))
    have H':=Aside0.mk H
    clear H
    have p181 : 0 ≤ (x12_1 : Int):=md_
    have q181 : x12_1 < (l1.length : Int):=md_
    obtain ⟨ad181,e181,hx181_0,hx181_1⟩:=at_T105 HR1.out x12_1 p181 q181
    cases e181
    (try replace hx181_0:=(HB.out.cell (World.block_lt_of_cell? w _ hx181_0)).trans hx181_0)
    (try replace hx181_1:=(HB.out.cell (World.block_lt_of_cell? w _ hx181_1)).trans hx181_1)
    replace p181:=eq_true p181
    replace q181:=eq_true q181
    go_wp2_with (first | ((with_reducible refine gd_ 7 ?_);refine xbe_ (N:=7) (cs:=#[.string (⟨#[]⟩ : ByteArray),.string (⟨#[]⟩ : ByteArray)]) (t:=105) ?_;intro gb182 hg w11 hbox hb;have BK182:=Aside0.mk (hbox);have GE182:=xge_ HB hg;replace HB:=xws_ HB hb;clear hb hbox hg;have ⟨_,_,_,_⟩:=c2_ BK182))
    go_roundg k1
    case measure => have:=HK1.out;omega
    case rel => exact ⟨(x5_1 ++ (((((rd_T105 l1 x12_1).f0) ++ (⟨#[58,32]⟩ : ByteArray)) ++ ((rd_T105 l1 x12_1).f1)) ++ (⟨#[13,10]⟩ : ByteArray))),(wrap64 (x12_1 + 1)),me_,me_,H',⟨by have:=HK1.out;omega⟩,⟨xw_ HB⟩⟩
   ·rw [if_neg c4] at H
    have c4b0:=decide_eq_false c4
    clear c4
    replace H:=mi_ H
    obtain ⟨c13,H⟩:=H
    have c13b0:=eq_true c13
    have c13b1:=decide_eq_true c13
    try have c13b2 : (9223372036854775807 < x5_1.size + 2) = False:=eq_false (Nat.not_lt.2 c13)
    obtain rfl:=Option.some.inj H
    go_wp2
    go_ret
    exact ⟨mf_,xw_ HB⟩

/-! ### spec_l4First: function 70 -/
def spec_l4First.f (a0_0 : ByteArray) (a0_1 : ByteArray) (l0_2 : List (S105)) (a0_3 : ByteArray) : Option (ByteArray):=if a0_0.size + 1 ≤ 9223372036854775807 then (if (a0_0 ++ (⟨#[32]⟩ : ByteArray)).size + a0_1.size ≤ 9223372036854775807 then (if ((a0_0 ++ (⟨#[32]⟩ : ByteArray)) ++ a0_1).size + 9 ≤ 9223372036854775807 then (some (((a0_0 ++ (⟨#[32]⟩ : ByteArray)) ++ a0_1) ++ (⟨#[32,72,84,84,80,47,49,46,49]⟩ : ByteArray))) else (none)) else (none)) else (none)
set_option maxHeartbeats 8000000 in
set_option maxRecDepth 100000 in
theorem spec_l4First.calls (a0_0 : ByteArray) (a0_1 : ByteArray) (A0_2 : Option Addr) (c0_2 : Nat) (l0_2 : List (S105)) (a0_3 : ByteArray) (r : ByteArray) (w : World) (hr0_2 : Kd.C k105 w A0_2 l0_2.length l0_2) (hc0_2 : l0_2.length ≤ c0_2) (h : spec_l4First.f a0_0 a0_1 l0_2 a0_3 = some r) :
  Calls Tryz.prog 70 #[.agg #[.string a0_0,.string a0_1,.slice A0_2 l0_2.length c0_2,.string a0_3]] w fun e w' => e = .returned (.string r) ∧ Below w.heap.size w w':=by
 have hu35:=Tryz.underlying35
 have HR0_2:=Aside0.mk hr0_2
 have HC0_2:=Aside0.mk hc0_2
 clear hr0_2 hc0_2
 have HB:=Aside0.mk (Below.refl w.heap.size w)
 have H:=h
 unfold spec_l4First.f at H
 clear h
 replace H:=mi_ H
 obtain ⟨c2,H⟩:=H
 have c2b0:=eq_true c2
 have c2b1:=decide_eq_true c2
 try have c2b2 : (9223372036854775807 < a0_0.size + 1) = False:=eq_false (Nat.not_lt.2 c2)
 replace H:=mi_ H
 obtain ⟨c3,H⟩:=H
 have c3b0:=eq_true c3
 have c3b1:=decide_eq_true c3
 try have c3b2 : (9223372036854775807 < (a0_0 ++ (⟨#[32]⟩ : ByteArray)).size + a0_1.size) = False:=eq_false (Nat.not_lt.2 c3)
 try have c3b3 : (9223372036854775807 < a0_0.size + 1 + a0_1.size) = False:=eq_false (Nat.not_lt.2 (by have z_:=c3;simp only [ByteArray.size_append] at z_;exact z_))
 replace H:=mi_ H
 obtain ⟨c4,H⟩:=H
 have c4b0:=eq_true c4
 have c4b1:=decide_eq_true c4
 try have c4b2 : (9223372036854775807 < ((a0_0 ++ (⟨#[32]⟩ : ByteArray)) ++ a0_1).size + 9) = False:=eq_false (Nat.not_lt.2 c4)
 try have c4b3 : (9223372036854775807 < a0_0.size + 1 + a0_1.size + 9) = False:=eq_false (Nat.not_lt.2 (by have z_:=c4;simp only [ByteArray.size_append] at z_;exact z_))
 obtain rfl:=Option.some.inj H
 go_enter Tryz.func70,Tryz.ntmps70
 go_wp2_with (first | ((with_reducible refine gd_ 1 ?_);refine xbe_ (N:=1) (cs:=#[.string a0_0,.string a0_1,.slice A0_2 l0_2.length c0_2,.string a0_3]) (t:=35) ?_;intro gb183 hg w5 hbox hb;have BK183:=Aside0.mk (hbox);have GE183:=xge_ HB hg;replace HB:=xws_ HB hb;clear hb hbox hg;have ⟨_,_,_,_,_,_,_,_⟩:=c4_ BK183))
 go_ret
 exact ⟨mf_,xw_ HB⟩

end Go.Proofs.YtpggepjfhgalkaaGreatDoor.PFnExactKeyOf
