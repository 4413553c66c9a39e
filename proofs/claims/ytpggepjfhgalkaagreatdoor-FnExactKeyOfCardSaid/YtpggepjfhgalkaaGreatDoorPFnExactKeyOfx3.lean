-- Written by a program of this project (xprint.py) out of the translation; Lean checks it.
import Derived.Test.YtpggepjfhgalkaaGreatDoorPFnExactKeyOfx0
import Derived.Test.YtpggepjfhgalkaaGreatDoorPFnExactKeyOfx1
import Derived.Test.YtpggepjfhgalkaaGreatDoorPFnExactKeyOfx2
namespace Go.Proofs.YtpggepjfhgalkaaGreatDoor.PFnExactKeyOf
open Go.RowKit Go.Proofs.YtpggepjfhgalkaaGreatDoorW.PrintWords Go.Proofs.YtpggepjfhgalkaaGreatDoorW.PrintLast Go.Proofs.YtpggepjfhgalkaaGreatDoorW.PrintMore
attribute [local go_sem] max2_int min2_int max_two min_two max_three min_three max_four min_four   -- for this text's walks alone
set_option linter.unusedVariables false
set_option linter.unusedSimpArgs false

/-! ### spec_l1Text: function 64 -/
def spec_l1Text.f (k : Nat) (a0_0 : ByteArray) (a0_1 : ByteArray) (a0_2 : Int) (a0_3 : ByteArray) (a0_4 : ByteArray) (a0_5 : Bool) : Option (ByteArray):=if a0_0.size + 3 ≤ 9223372036854775807 then (if (a0_0 ++ (⟨#[58,47,47]⟩ : ByteArray)).size + a0_1.size ≤ 9223372036854775807 then (if a0_2 = 0 then (if ((a0_0 ++ (⟨#[58,47,47]⟩ : ByteArray)) ++ a0_1).size + a0_3.size ≤ 9223372036854775807 then (if a0_5 = true then (if 1 + a0_4.size ≤ 9223372036854775807 then (if (((a0_0 ++ (⟨#[58,47,47]⟩ : ByteArray)) ++ a0_1) ++ a0_3).size + ((⟨#[63]⟩ : ByteArray) ++ a0_4).size ≤ 9223372036854775807 then (some ((((a0_0 ++ (⟨#[58,47,47]⟩ : ByteArray)) ++ a0_1) ++ a0_3) ++ ((⟨#[63]⟩ : ByteArray) ++ a0_4))) else (none)) else (none)) else (some (((a0_0 ++ (⟨#[58,47,47]⟩ : ByteArray)) ++ a0_1) ++ a0_3))) else (none)) else ((spec_l1Num.f k a0_2).bind fun t127 => (if 1 + t127.size ≤ 9223372036854775807 then (if ((a0_0 ++ (⟨#[58,47,47]⟩ : ByteArray)) ++ a0_1).size + ((⟨#[58]⟩ : ByteArray) ++ t127).size ≤ 9223372036854775807 then (if (((a0_0 ++ (⟨#[58,47,47]⟩ : ByteArray)) ++ a0_1) ++ ((⟨#[58]⟩ : ByteArray) ++ t127)).size + a0_3.size ≤ 9223372036854775807 then (if a0_5 = true then (if 1 + a0_4.size ≤ 9223372036854775807 then (if ((((a0_0 ++ (⟨#[58,47,47]⟩ : ByteArray)) ++ a0_1) ++ ((⟨#[58]⟩ : ByteArray) ++ t127)) ++ a0_3).size + ((⟨#[63]⟩ : ByteArray) ++ a0_4).size ≤ 9223372036854775807 then (some (((((a0_0 ++ (⟨#[58,47,47]⟩ : ByteArray)) ++ a0_1) ++ ((⟨#[58]⟩ : ByteArray) ++ t127)) ++ a0_3) ++ ((⟨#[63]⟩ : ByteArray) ++ a0_4))) else (none)) else (none)) else (some ((((a0_0 ++ (⟨#[58,47,47]⟩ : ByteArray)) ++ a0_1) ++ ((⟨#[58]⟩ : ByteArray) ++ t127)) ++ a0_3))) else (none)) else (none)) else (none)))) else (none)) else (none)
set_option maxHeartbeats 8000000 in
set_option maxRecDepth 100000 in
theorem spec_l1Text.calls (k : Nat) (a0_0 : ByteArray) (a0_1 : ByteArray) (a0_2 : Int) (a0_3 : ByteArray) (a0_4 : ByteArray) (a0_5 : Bool) (r : ByteArray) (w : World) (h : spec_l1Text.f k a0_0 a0_1 a0_2 a0_3 a0_4 a0_5 = some r) :
  Calls Tryz.prog 64 #[.agg #[.string a0_0,.string a0_1,.int .i64 a0_2,.string a0_3,.string a0_4,.bool a0_5]] w fun e w' => e = .returned (.string r) ∧ Below w.heap.size w w':=by
 have hu31:=Tryz.underlying31
 have HB:=Aside0.mk (Below.refl w.heap.size w)
 have H:=h
 unfold spec_l1Text.f at H
 clear h
 replace H:=mi_ H
 obtain ⟨c2,H⟩:=H
 have c2b0:=eq_true c2
 have c2b1:=decide_eq_true c2
 try have c2b2 : (9223372036854775807 < a0_0.size + 3) = False:=eq_false (Nat.not_lt.2 c2)
 replace H:=mi_ H
 obtain ⟨c3,H⟩:=H
 have c3b0:=eq_true c3
 have c3b1:=decide_eq_true c3
 try have c3b2 : (9223372036854775807 < (a0_0 ++ (⟨#[58,47,47]⟩ : ByteArray)).size + a0_1.size) = False:=eq_false (Nat.not_lt.2 c3)
 by_cases c4 : a0_2 = 0
 ·rw [if_pos c4] at H
  have c4b0 : (a0_2 == 0) = true:=beq_iff_eq.mpr c4
  have c4b1 : (a0_2 != 0) = false:=bne_eq_false_iff_eq.mpr c4
  clear c4
  replace H:=mi_ H
  obtain ⟨c5,H⟩:=H
  have c5b0:=eq_true c5
  have c5b1:=decide_eq_true c5
  try have c5b2 : (9223372036854775807 < ((a0_0 ++ (⟨#[58,47,47]⟩ : ByteArray)) ++ a0_1).size + a0_3.size) = False:=eq_false (Nat.not_lt.2 c5)
  by_cases c6 : a0_5 = true
  ·subst c6
   rw [if_pos rfl] at H
   replace H:=mi_ H
   obtain ⟨c7,H⟩:=H
   have c7b0:=eq_true c7
   have c7b1:=decide_eq_true c7
   try have c7b2 : (9223372036854775807 < 1 + a0_4.size) = False:=eq_false (Nat.not_lt.2 c7)
   replace H:=mi_ H
   obtain ⟨c8,H⟩:=H
   have c8b0:=eq_true c8
   have c8b1:=decide_eq_true c8
   try have c8b2 : (9223372036854775807 < (((a0_0 ++ (⟨#[58,47,47]⟩ : ByteArray)) ++ a0_1) ++ a0_3).size + ((⟨#[63]⟩ : ByteArray) ++ a0_4).size) = False:=eq_false (Nat.not_lt.2 c8)
   obtain rfl:=Option.some.inj H
   go_enter Tryz.func64,Tryz.ntmps64
   go_wp2_with (first | ((with_reducible refine gd_ 1 ?_);refine xbe_ (N:=1) (cs:=#[.string a0_0,.string a0_1,.int .i64 a0_2,.string a0_3,.string a0_4,.bool true]) (t:=31) ?_;intro gb126 hg w9 hbox hb;have BK126:=Aside0.mk (hbox);have GE126:=xge_ HB hg;replace HB:=xws_ HB hb;clear hb hbox hg;have ⟨_,_,_,_,_,_,_,_,_,_,_,_⟩:=c6_ BK126))
   go_ret
   exact ⟨mf_,xw_ HB⟩
  ·replace c6:=Bool.eq_false_iff.mpr c6
   subst c6
   rw [if_neg (show ¬ (false = true) by decide)] at H
   obtain rfl:=Option.some.inj H
   go_enter Tryz.func64,Tryz.ntmps64
   go_wp2_with (first | ((with_reducible refine gd_ 1 ?_);refine xbe_ (N:=1) (cs:=#[.string a0_0,.string a0_1,.int .i64 a0_2,.string a0_3,.string a0_4,.bool false]) (t:=31) ?_;intro gb126 hg w11 hbox hb;have BK126:=Aside0.mk (hbox);have GE126:=xge_ HB hg;replace HB:=xws_ HB hb;clear hb hbox hg;have ⟨_,_,_,_,_,_,_,_,_,_,_,_⟩:=c6_ BK126))
   go_ret
   exact ⟨mf_,xw_ HB⟩
 ·rw [if_neg c4] at H
  have c4b0 : (a0_2 == 0) = false:=beq_eq_false_iff_ne.mpr c4
  have c4b1 : (a0_2 != 0) = true:=bne_iff_ne.mpr c4
  replace H:=mb_ H
  obtain ⟨t127,A13,H⟩:=H
  replace H:=mi_ H
  obtain ⟨c14,H⟩:=H
  have c14b0:=eq_true c14
  have c14b1:=decide_eq_true c14
  try have c14b2 : (9223372036854775807 < 1 + t127.size) = False:=eq_false (Nat.not_lt.2 c14)
  replace H:=mi_ H
  obtain ⟨c15,H⟩:=H
  have c15b0:=eq_true c15
  have c15b1:=decide_eq_true c15
  try have c15b2 : (9223372036854775807 < ((a0_0 ++ (⟨#[58,47,47]⟩ : ByteArray)) ++ a0_1).size + ((⟨#[58]⟩ : ByteArray) ++ t127).size) = False:=eq_false (Nat.not_lt.2 c15)
  replace H:=mi_ H
  obtain ⟨c16,H⟩:=H
  have c16b0:=eq_true c16
  have c16b1:=decide_eq_true c16
  try have c16b2 : (9223372036854775807 < (((a0_0 ++ (⟨#[58,47,47]⟩ : ByteArray)) ++ a0_1) ++ ((⟨#[58]⟩ : ByteArray) ++ t127)).size + a0_3.size) = False:=eq_false (Nat.not_lt.2 c16)
  by_cases c17 : a0_5 = true
  ·subst c17
   rw [if_pos rfl] at H
   replace H:=mi_ H
   obtain ⟨c18,H⟩:=H
   have c18b0:=eq_true c18
   have c18b1:=decide_eq_true c18
   try have c18b2 : (9223372036854775807 < 1 + a0_4.size) = False:=eq_false (Nat.not_lt.2 c18)
   replace H:=mi_ H
   obtain ⟨c19,H⟩:=H
   have c19b0:=eq_true c19
   have c19b1:=decide_eq_true c19
   try have c19b2 : (9223372036854775807 < ((((a0_0 ++ (⟨#[58,47,47]⟩ : ByteArray)) ++ a0_1) ++ ((⟨#[58]⟩ : ByteArray) ++ t127)) ++ a0_3).size + ((⟨#[63]⟩ : ByteArray) ++ a0_4).size) = False:=eq_false (Nat.not_lt.2 c19)
   obtain rfl:=Option.some.inj H
   go_enter Tryz.func64,Tryz.ntmps64
   go_wp2_with (first | ((with_reducible refine gd_ 1 ?_);refine xbe_ (N:=1) (cs:=#[.string a0_0,.string a0_1,.int .i64 a0_2,.string a0_3,.string a0_4,.bool true]) (t:=31) ?_;intro gb126 hg w20 hbox hb;have BK126:=Aside0.mk (hbox);have GE126:=xge_ HB hg;replace HB:=xws_ HB hb;clear hb hbox hg;have ⟨_,_,_,_,_,_,_,_,_,_,_,_⟩:=c6_ BK126) | ((with_reducible refine gc_ 110 ?_);refine xgl_ (some 16) Tryz.func110 #[.int .i64 a0_2] ?_;(with_reducible refine (spec_l1Num.calls k a0_2 t127 _ A13.out).mono ?_);rintro e w22 ⟨rfl,hb⟩;refine ⟨_,rfl,?_⟩;replace BK126:=xbb_ BK126 hb;replace HB:=xws_ HB hb;(try clear hb);have ⟨_,_,_,_,_,_,_,_,_,_,_,_⟩:=c6_ BK126))
   go_ret
   exact ⟨mf_,xw_ HB⟩
  ·replace c17:=Bool.eq_false_iff.mpr c17
   subst c17
   rw [if_neg (show ¬ (false = true) by decide)] at H
   obtain rfl:=Option.some.inj H
   go_enter Tryz.func64,Tryz.ntmps64
   go_wp2_with (first | ((with_reducible refine gd_ 1 ?_);refine xbe_ (N:=1) (cs:=#[.string a0_0,.string a0_1,.int .i64 a0_2,.string a0_3,.string a0_4,.bool false]) (t:=31) ?_;intro gb126 hg w24 hbox hb;have BK126:=Aside0.mk (hbox);have GE126:=xge_ HB hg;replace HB:=xws_ HB hb;clear hb hbox hg;have ⟨_,_,_,_,_,_,_,_,_,_,_,_⟩:=c6_ BK126) | ((with_reducible refine gc_ 110 ?_);refine xgl_ (some 16) Tryz.func110 #[.int .i64 a0_2] ?_;(with_reducible refine (spec_l1Num.calls k a0_2 t127 _ A13.out).mono ?_);rintro e w26 ⟨rfl,hb⟩;refine ⟨_,rfl,?_⟩;replace BK126:=xbb_ BK126 hb;replace HB:=xws_ HB hb;(try clear hb);have ⟨_,_,_,_,_,_,_,_,_,_,_,_⟩:=c6_ BK126))
   go_ret
   exact ⟨mf_,xw_ HB⟩

/-! ### spec_GoodUrl: function 34 -/
def spec_GoodUrl.j0 : Nat → Bool → ByteArray → ByteArray → Int → ByteArray → ByteArray → Bool → Option (Bool)
 | 0,_,_,_,_,_,_,_ => none
 | k + 1,x34,x129000,x129001,x129002,x129003,x129004,x129005 => if x34 = true then (some false) else ((spec_l1Chars.f k x129003 (⟨#[47]⟩ : ByteArray)).bind fun t133 => (if t133 = true then ((spec_l1Chars.f k x129004 (⟨#[47,63]⟩ : ByteArray)).bind fun t134 => (if t134 = true then (if x129005 = true then ((spec_l1Text.f k x129000 x129001 x129002 x129003 x129004 x129005).bind fun t135 => (some (decide ((t135.size : Int) ≤ 200)))) else (if x129004.toList = ([] : List UInt8) then ((spec_l1Text.f k x129000 x129001 x129002 x129003 x129004 x129005).bind fun t136 => (some (decide ((t136.size : Int) ≤ 200)))) else (some false))) else (some false))) else (some false)))
def spec_GoodUrl.f (k : Nat) (a0_0 : ByteArray) (a0_1 : ByteArray) (a0_2 : Int) (a0_3 : ByteArray) (a0_4 : ByteArray) (a0_5 : Bool) : Option (Bool):=if a0_0.toList = ([104,116,116,112] : List UInt8) then ((spec_l1Host.f k a0_1).bind fun t129 => (if t129 = true then ((spec_l1In.f a0_2 0 65535).bind fun t130 => (if t130 = true then (if (a0_3.size : Int) = 0 then (spec_GoodUrl.j0 k true a0_0 a0_1 a0_2 a0_3 a0_4 a0_5) else (if 0 < (a0_3.size : Int) then (spec_GoodUrl.j0 k ((bt a0_3 0) != 47) a0_0 a0_1 a0_2 a0_3 a0_4 a0_5) else (none))) else (spec_GoodUrl.j0 k true a0_0 a0_1 a0_2 a0_3 a0_4 a0_5))) else (spec_GoodUrl.j0 k true a0_0 a0_1 a0_2 a0_3 a0_4 a0_5))) else (if a0_0.toList = ([104,116,116,112,115] : List UInt8) then ((spec_l1Host.f k a0_1).bind fun t131 => (if t131 = true then ((spec_l1In.f a0_2 0 65535).bind fun t132 => (if t132 = true then (if (a0_3.size : Int) = 0 then (spec_GoodUrl.j0 k true a0_0 a0_1 a0_2 a0_3 a0_4 a0_5) else (if 0 < (a0_3.size : Int) then (spec_GoodUrl.j0 k ((bt a0_3 0) != 47) a0_0 a0_1 a0_2 a0_3 a0_4 a0_5) else (none))) else (spec_GoodUrl.j0 k true a0_0 a0_1 a0_2 a0_3 a0_4 a0_5))) else (spec_GoodUrl.j0 k true a0_0 a0_1 a0_2 a0_3 a0_4 a0_5))) else (spec_GoodUrl.j0 k true a0_0 a0_1 a0_2 a0_3 a0_4 a0_5))
set_option maxHeartbeats 8000000 in
set_option maxRecDepth 100000 in
theorem spec_GoodUrl.calls (k : Nat) (a0_0 : ByteArray) (a0_1 : ByteArray) (a0_2 : Int) (a0_3 : ByteArray) (a0_4 : ByteArray) (a0_5 : Bool) (r : Bool) (w : World) (h : spec_GoodUrl.f k a0_0 a0_1 a0_2 a0_3 a0_4 a0_5 = some r) :
  Calls Tryz.prog 34 #[.agg #[.string a0_0,.string a0_1,.int .i64 a0_2,.string a0_3,.string a0_4,.bool a0_5]] w fun e w' => e = .returned (.bool r) ∧ Below w.heap.size w w':=by
 have hu31:=Tryz.underlying31
 have HB:=Aside0.mk (Below.refl w.heap.size w)
 have H:=h
 unfold spec_GoodUrl.f at H
 clear h
 have HC2:=Aside0.mk H
 clear H
 go_enter Tryz.func34,Tryz.ntmps34
 go_upto_region 1 with (first | ((with_reducible refine gd_ 1 ?_);(try (refine gate_guard (by rfl) ?_;dsimp only));refine xbe_ (N:=1) (cs:=#[.string a0_0,.string a0_1,.int .i64 a0_2,.string a0_3,.string a0_4,.bool a0_5]) (t:=31) ?_;intro gb128 hg w3 hbox hb;have BK128:=Aside0.mk (hbox);have GE128:=xge_ HB hg;replace HB:=xws_ HB hb;clear hb hbox hg))
 (try simp only [Act.put,List.setIfInBounds_toArray,List.set_cons_zero,List.set_cons_succ])
 go_cut [34] (fun v34 wc => ∃ (kq : Nat) (x34_1 : Bool),v34 = .bool x34_1 ∧ Aside0 (spec_GoodUrl.j0 kq x34_1 a0_0 a0_1 a0_2 a0_3 a0_4 a0_5 = some r) ∧ Aside0 (kq ≤ k) ∧ Aside0 (wc.heap[gb128]? = some (.cells #[.string a0_0,.string a0_1,.int .i64 a0_2,.string a0_3,.string a0_4,.bool a0_5] 31 (0,0))) ∧ Aside0 (Below w.heap.size w wc))
 case first =>
  have H:=HC2.out
  clear HC2
  by_cases c4 : a0_0.toList = ([104,116,116,112] : List UInt8)
  ·rw [if_pos c4] at H
   have c4b0 : (a0_0.toList == ([104,116,116,112] : List UInt8)) = true:=beq_iff_eq.mpr c4
   have c4b1 : (a0_0.toList != ([104,116,116,112] : List UInt8)) = false:=bne_eq_false_iff_eq.mpr c4
   clear c4
   (first | rw [c4b0] | (simp only [i64_w,i32_w];rw [c4b0]) | skip)
   replace H:=mb_ H
   obtain ⟨t129,A5,H⟩:=H
   by_cases c6 : t129 = true
   ·subst c6
    rw [if_pos rfl] at H
    replace H:=mb_ H
    obtain ⟨t130,A7,H⟩:=H
    by_cases c8 : t130 = true
    ·subst c8
     rw [if_pos rfl] at H
     by_cases c9 : (a0_3.size : Int) = 0
     ·rw [if_pos c9] at H
      have c9b0 : ((a0_3.size : Int) == 0) = true:=beq_iff_eq.mpr c9
      have c9b1 : ((a0_3.size : Int) != 0) = false:=bne_eq_false_iff_eq.mpr c9
      clear c9
      have H':=Aside0.mk H
      clear H
      have ⟨_,_,_,_,_,_,_,_,_,_,_,_⟩:=c6_ BK128
      go_wp2_with (first | (go_at_call 61;(with_reducible refine (spec_l1Host.calls k a0_1 true _ A5.out).mono ?_);rintro e w' ⟨rfl,⟨nd,rfl⟩⟩) | (go_at_call 62;(with_reducible refine (spec_l1In.calls a0_2 0 65535 true _ A7.out).mono ?_);rintro e w' ⟨rfl,⟨nd,rfl⟩⟩))
      go_meet
      case rel => exact ⟨_,(true),me_,H',⟨by first | omega | exact Nat.le_refl _⟩,⟨xb_ BK128⟩,⟨xw_ HB⟩⟩
     ·rw [if_neg c9] at H
      have c9b0 : ((a0_3.size : Int) == 0) = false:=beq_eq_false_iff_ne.mpr c9
      have c9b1 : ((a0_3.size : Int) != 0) = true:=bne_iff_ne.mpr c9
      replace H:=mi_ H
      obtain ⟨c11,H⟩:=H
      have c11b0:=decide_eq_true c11
      have c11b1 : decide (0 < a0_3.size) = true:=decide_eq_true (by omega)
      clear c11
      have H':=Aside0.mk H
      clear H
      have ⟨_,_,_,_,_,_,_,_,_,_,_,_⟩:=c6_ BK128
      go_wp2_with (first | (go_at_call 61;(with_reducible refine (spec_l1Host.calls k a0_1 true _ A5.out).mono ?_);rintro e w' ⟨rfl,⟨nd,rfl⟩⟩) | (go_at_call 62;(with_reducible refine (spec_l1In.calls a0_2 0 65535 true _ A7.out).mono ?_);rintro e w' ⟨rfl,⟨nd,rfl⟩⟩;have p12 : 0 ≤ (0 : Int):=(by omega);have q12 : 0 < a0_3.size:=(by have : (0 : Int) < (a0_3.size : Int):=md_;omega);have hx12 : ∀ h : 0 < a0_3.size,((a0_3[0]'h).toNat : Int) = bt a0_3 0:=bt_at a0_3 0;clear p12;have qi12 : (0 < (a0_3.size : Int)) = True:=eq_true (md_);replace q12:=eq_true q12))
      go_meet
      case rel => exact ⟨_,(((bt a0_3 0) != 47)),me_,H',⟨by first | omega | exact Nat.le_refl _⟩,⟨xb_ BK128⟩,⟨xw_ HB⟩⟩
    ·replace c8:=Bool.eq_false_iff.mpr c8
     subst c8
     rw [if_neg (show ¬ (false = true) by decide)] at H
     have H':=Aside0.mk H
     clear H
     have ⟨_,_,_,_,_,_,_,_,_,_,_,_⟩:=c6_ BK128
     go_wp2_with (first | (go_at_call 61;(with_reducible refine (spec_l1Host.calls k a0_1 true _ A5.out).mono ?_);rintro e w' ⟨rfl,⟨nd,rfl⟩⟩) | (go_at_call 62;(with_reducible refine (spec_l1In.calls a0_2 0 65535 false _ A7.out).mono ?_);rintro e w' ⟨rfl,⟨nd,rfl⟩⟩))
     go_meet
     case rel => exact ⟨_,(true),me_,H',⟨by first | omega | exact Nat.le_refl _⟩,⟨xb_ BK128⟩,⟨xw_ HB⟩⟩
   ·replace c6:=Bool.eq_false_iff.mpr c6
    subst c6
    rw [if_neg (show ¬ (false = true) by decide)] at H
    have H':=Aside0.mk H
    clear H
    have ⟨_,_,_,_,_,_,_,_,_,_,_,_⟩:=c6_ BK128
    go_wp2_with (first | (go_at_call 61;(with_reducible refine (spec_l1Host.calls k a0_1 false _ A5.out).mono ?_);rintro e w' ⟨rfl,⟨nd,rfl⟩⟩))
    go_meet
    case rel => exact ⟨_,(true),me_,H',⟨by first | omega | exact Nat.le_refl _⟩,⟨xb_ BK128⟩,⟨xw_ HB⟩⟩
  ·rw [if_neg c4] at H
   have c4b0 : (a0_0.toList == ([104,116,116,112] : List UInt8)) = false:=beq_eq_false_iff_ne.mpr c4
   have c4b1 : (a0_0.toList != ([104,116,116,112] : List UInt8)) = true:=bne_iff_ne.mpr c4
   (first | rw [c4b0] | (simp only [i64_w,i32_w];rw [c4b0]) | skip)
   by_cases c16 : a0_0.toList = ([104,116,116,112,115] : List UInt8)
   ·rw [if_pos c16] at H
    have c16b0 : (a0_0.toList == ([104,116,116,112,115] : List UInt8)) = true:=beq_iff_eq.mpr c16
    have c16b1 : (a0_0.toList != ([104,116,116,112,115] : List UInt8)) = false:=bne_eq_false_iff_eq.mpr c16
    clear c16
    replace H:=mb_ H
    obtain ⟨t131,A17,H⟩:=H
    by_cases c18 : t131 = true
    ·subst c18
     rw [if_pos rfl] at H
     replace H:=mb_ H
     obtain ⟨t132,A19,H⟩:=H
     by_cases c20 : t132 = true
     ·subst c20
      rw [if_pos rfl] at H
      by_cases c21 : (a0_3.size : Int) = 0
      ·rw [if_pos c21] at H
       have c21b0 : ((a0_3.size : Int) == 0) = true:=beq_iff_eq.mpr c21
       have c21b1 : ((a0_3.size : Int) != 0) = false:=bne_eq_false_iff_eq.mpr c21
       clear c21
       have H':=Aside0.mk H
       clear H
       have ⟨_,_,_,_,_,_,_,_,_,_,_,_⟩:=c6_ BK128
       go_wp2_with (first | (go_at_call 61;(with_reducible refine (spec_l1Host.calls k a0_1 true _ A17.out).mono ?_);rintro e w' ⟨rfl,⟨nd,rfl⟩⟩) | (go_at_call 62;(with_reducible refine (spec_l1In.calls a0_2 0 65535 true _ A19.out).mono ?_);rintro e w' ⟨rfl,⟨nd,rfl⟩⟩))
       go_meet
       case rel => exact ⟨_,(true),me_,H',⟨by first | omega | exact Nat.le_refl _⟩,⟨xb_ BK128⟩,⟨xw_ HB⟩⟩
      ·rw [if_neg c21] at H
       have c21b0 : ((a0_3.size : Int) == 0) = false:=beq_eq_false_iff_ne.mpr c21
       have c21b1 : ((a0_3.size : Int) != 0) = true:=bne_iff_ne.mpr c21
       replace H:=mi_ H
       obtain ⟨c23,H⟩:=H
       have c23b0:=decide_eq_true c23
       have c23b1 : decide (0 < a0_3.size) = true:=decide_eq_true (by omega)
       clear c23
       have H':=Aside0.mk H
       clear H
       have ⟨_,_,_,_,_,_,_,_,_,_,_,_⟩:=c6_ BK128
       go_wp2_with (first | (go_at_call 61;(with_reducible refine (spec_l1Host.calls k a0_1 true _ A17.out).mono ?_);rintro e w' ⟨rfl,⟨nd,rfl⟩⟩) | (go_at_call 62;(with_reducible refine (spec_l1In.calls a0_2 0 65535 true _ A19.out).mono ?_);rintro e w' ⟨rfl,⟨nd,rfl⟩⟩;have p24 : 0 ≤ (0 : Int):=(by omega);have q24 : 0 < a0_3.size:=(by have : (0 : Int) < (a0_3.size : Int):=md_;omega);have hx24 : ∀ h : 0 < a0_3.size,((a0_3[0]'h).toNat : Int) = bt a0_3 0:=bt_at a0_3 0;clear p24;have qi24 : (0 < (a0_3.size : Int)) = True:=eq_true (md_);replace q24:=eq_true q24))
       go_meet
       case rel => exact ⟨_,(((bt a0_3 0) != 47)),me_,H',⟨by first | omega | exact Nat.le_refl _⟩,⟨xb_ BK128⟩,⟨xw_ HB⟩⟩
     ·replace c20:=Bool.eq_false_iff.mpr c20
      subst c20
      rw [if_neg (show ¬ (false = true) by decide)] at H
      have H':=Aside0.mk H
      clear H
      have ⟨_,_,_,_,_,_,_,_,_,_,_,_⟩:=c6_ BK128
      go_wp2_with (first | (go_at_call 61;(with_reducible refine (spec_l1Host.calls k a0_1 true _ A17.out).mono ?_);rintro e w' ⟨rfl,⟨nd,rfl⟩⟩) | (go_at_call 62;(with_reducible refine (spec_l1In.calls a0_2 0 65535 false _ A19.out).mono ?_);rintro e w' ⟨rfl,⟨nd,rfl⟩⟩))
      go_meet
      case rel => exact ⟨_,(true),me_,H',⟨by first | omega | exact Nat.le_refl _⟩,⟨xb_ BK128⟩,⟨xw_ HB⟩⟩
    ·replace c18:=Bool.eq_false_iff.mpr c18
     subst c18
     rw [if_neg (show ¬ (false = true) by decide)] at H
     have H':=Aside0.mk H
     clear H
     have ⟨_,_,_,_,_,_,_,_,_,_,_,_⟩:=c6_ BK128
     go_wp2_with (first | (go_at_call 61;(with_reducible refine (spec_l1Host.calls k a0_1 false _ A17.out).mono ?_);rintro e w' ⟨rfl,⟨nd,rfl⟩⟩))
     go_meet
     case rel => exact ⟨_,(true),me_,H',⟨by first | omega | exact Nat.le_refl _⟩,⟨xb_ BK128⟩,⟨xw_ HB⟩⟩
   ·rw [if_neg c16] at H
    have c16b0 : (a0_0.toList == ([104,116,116,112,115] : List UInt8)) = false:=beq_eq_false_iff_ne.mpr c16
    have c16b1 : (a0_0.toList != ([104,116,116,112,115] : List UInt8)) = true:=bne_iff_ne.mpr c16
    have H':=Aside0.mk H
    clear H
    have ⟨_,_,_,_,_,_,_,_,_,_,_,_⟩:=c6_ BK128
    go_wp2
    go_meet
    case rel => exact ⟨_,(true),me_,H',⟨by first | omega | exact Nat.le_refl _⟩,⟨xb_ BK128⟩,⟨xw_ HB⟩⟩
 case rest =>
  clear HC2
  obtain ⟨kq,x34_1,rfl,HA,HJ1,BK128,HB⟩:=hcut
  cases kq with
  | zero => exact absurd HA.out (by simp [spec_GoodUrl.j0])
  | succ kj1 =>
   have H:=HA.out
   clear HA
   simp only [spec_GoodUrl.j0] at H
   by_cases c29 : x34_1 = true
   ·subst c29
    rw [if_pos rfl] at H
    obtain rfl:=Option.some.inj H
    go_wp2
    go_ret
    exact ⟨mf_,xw_ HB⟩
   ·replace c29:=Bool.eq_false_iff.mpr c29
    subst c29
    rw [if_neg (show ¬ (false = true) by decide)] at H
    replace H:=mb_ H
    obtain ⟨t133,A30,H⟩:=H
    by_cases c31 : t133 = true
    ·subst c31
     rw [if_pos rfl] at H
     replace H:=mb_ H
     obtain ⟨t134,A32,H⟩:=H
     by_cases c33 : t134 = true
     ·subst c33
      rw [if_pos rfl] at H
      by_cases c34 : a0_5 = true
      ·subst c34
       rw [if_pos rfl] at H
       replace H:=mb_ H
       obtain ⟨t135,A35,H⟩:=H
       obtain rfl:=Option.some.inj H
       have ⟨_,_,_,_,_,_,_,_,_,_,_,_⟩:=c6_ BK128
       go_wp2_with (first | ((with_reducible refine gc_ 63 ?_);refine xgl_ (some 37) Tryz.func63 #[.string a0_3,.string (⟨#[47]⟩ : ByteArray)] ?_;(with_reducible refine (spec_l1Chars.calls kj1 a0_3 (⟨#[47]⟩ : ByteArray) true _ A30.out).mono ?_);rintro e w' ⟨rfl,⟨nd,rfl⟩⟩;refine ⟨_,rfl,?_⟩) | (go_at_call 63;(with_reducible refine (spec_l1Chars.calls kj1 a0_4 (⟨#[47,63]⟩ : ByteArray) true _ A32.out).mono ?_);rintro e w' ⟨rfl,⟨nd,rfl⟩⟩) | (go_at_call 64;(with_reducible refine (spec_l1Text.calls kj1 a0_0 a0_1 a0_2 a0_3 a0_4 true t135 _ A35.out).mono ?_);rintro e w37 ⟨rfl,hb⟩;replace BK128:=xbb_ BK128 hb;replace HB:=xws_ HB hb;(try clear hb)))
       go_ret
       exact ⟨mf_,xw_ HB⟩
      ·replace c34:=Bool.eq_false_iff.mpr c34
       subst c34
       rw [if_neg (show ¬ (false = true) by decide)] at H
       by_cases c38 : a0_4.toList = ([] : List UInt8)
       ·rw [if_pos c38] at H
        have c38b0 : (a0_4.toList == ([] : List UInt8)) = true:=beq_iff_eq.mpr c38
        have c38b1 : (a0_4.toList != ([] : List UInt8)) = false:=bne_eq_false_iff_eq.mpr c38
        clear c38
        replace H:=mb_ H
        obtain ⟨t136,A39,H⟩:=H
        obtain rfl:=Option.some.inj H
        have ⟨_,_,_,_,_,_,_,_,_,_,_,_⟩:=c6_ BK128
        go_wp2_with (first | ((with_reducible refine gc_ 63 ?_);refine xgl_ (some 37) Tryz.func63 #[.string a0_3,.string (⟨#[47]⟩ : ByteArray)] ?_;(with_reducible refine (spec_l1Chars.calls kj1 a0_3 (⟨#[47]⟩ : ByteArray) true _ A30.out).mono ?_);rintro e w' ⟨rfl,⟨nd,rfl⟩⟩;refine ⟨_,rfl,?_⟩) | (go_at_call 63;(with_reducible refine (spec_l1Chars.calls kj1 a0_4 (⟨#[47,63]⟩ : ByteArray) true _ A32.out).mono ?_);rintro e w' ⟨rfl,⟨nd,rfl⟩⟩) | (go_at_call 64;(with_reducible refine (spec_l1Text.calls kj1 a0_0 a0_1 a0_2 a0_3 a0_4 false t136 _ A39.out).mono ?_);rintro e w41 ⟨rfl,hb⟩;replace BK128:=xbb_ BK128 hb;replace HB:=xws_ HB hb;(try clear hb)))
        go_ret
        exact ⟨mf_,xw_ HB⟩
       ·rw [if_neg c38] at H
        have c38b0 : (a0_4.toList == ([] : List UInt8)) = false:=beq_eq_false_iff_ne.mpr c38
        have c38b1 : (a0_4.toList != ([] : List UInt8)) = true:=bne_iff_ne.mpr c38
        obtain rfl:=Option.some.inj H
        have ⟨_,_,_,_,_,_,_,_,_,_,_,_⟩:=c6_ BK128
        go_wp2_with (first | ((with_reducible refine gc_ 63 ?_);refine xgl_ (some 37) Tryz.func63 #[.string a0_3,.string (⟨#[47]⟩ : ByteArray)] ?_;(with_reducible refine (spec_l1Chars.calls kj1 a0_3 (⟨#[47]⟩ : ByteArray) true _ A30.out).mono ?_);rintro e w' ⟨rfl,⟨nd,rfl⟩⟩;refine ⟨_,rfl,?_⟩) | (go_at_call 63;(with_reducible refine (spec_l1Chars.calls kj1 a0_4 (⟨#[47,63]⟩ : ByteArray) true _ A32.out).mono ?_);rintro e w' ⟨rfl,⟨nd,rfl⟩⟩))
        go_ret
        exact ⟨mf_,xw_ HB⟩
     ·replace c33:=Bool.eq_false_iff.mpr c33
      subst c33
      rw [if_neg (show ¬ (false = true) by decide)] at H
      obtain rfl:=Option.some.inj H
      have ⟨_,_,_,_,_,_,_,_,_,_,_,_⟩:=c6_ BK128
      go_wp2_with (first | ((with_reducible refine gc_ 63 ?_);refine xgl_ (some 37) Tryz.func63 #[.string a0_3,.string (⟨#[47]⟩ : ByteArray)] ?_;(with_reducible refine (spec_l1Chars.calls kj1 a0_3 (⟨#[47]⟩ : ByteArray) true _ A30.out).mono ?_);rintro e w' ⟨rfl,⟨nd,rfl⟩⟩;refine ⟨_,rfl,?_⟩) | (go_at_call 63;(with_reducible refine (spec_l1Chars.calls kj1 a0_4 (⟨#[47,63]⟩ : ByteArray) false _ A32.out).mono ?_);rintro e w' ⟨rfl,⟨nd,rfl⟩⟩))
      go_ret
      exact ⟨mf_,xw_ HB⟩
    ·replace c31:=Bool.eq_false_iff.mpr c31
     subst c31
     rw [if_neg (show ¬ (false = true) by decide)] at H
     obtain rfl:=Option.some.inj H
     have ⟨_,_,_,_,_,_,_,_,_,_,_,_⟩:=c6_ BK128
     go_wp2_with (first | ((with_reducible refine gc_ 63 ?_);refine xgl_ (some 37) Tryz.func63 #[.string a0_3,.string (⟨#[47]⟩ : ByteArray)] ?_;(with_reducible refine (spec_l1Chars.calls kj1 a0_3 (⟨#[47]⟩ : ByteArray) false _ A30.out).mono ?_);rintro e w' ⟨rfl,⟨nd,rfl⟩⟩;refine ⟨_,rfl,?_⟩))
     go_ret
     exact ⟨mf_,xw_ HB⟩

/-! ### spec_l3TokenByte: function 140 -/
def spec_l3TokenByte.f (k : Nat) (a0 : Int) : Option (Bool):=(spec_l1Letter.f a0).bind fun t137 => (if t137 = true then (some true) else ((spec_l1Digit.f a0).bind fun t138 => (if t138 = true then (some true) else ((spec_l1Has.f k (⟨#[33,35,36,37,38,39,42,43,45,46,94,95,124,126]⟩ : ByteArray) a0).bind fun t139 => (if t139 = true then (some true) else (some (a0 == 96)))))))
theorem spec_l3TokenByte.mono : ∀ a0 k,LeO (spec_l3TokenByte.f k a0) (spec_l3TokenByte.f (k + 1) a0):=by
 intro a0 k
 unfold spec_l3TokenByte.f
 repeat' first
   | (with_reducible exact spec_l1Has.mono _ _ _)
   | (with_reducible exact LeO.refl _)
   | (with_reducible exact LeO.none _)
   | (with_reducible refine LeO.ite ?_ ?_)
   | (with_reducible refine LeO.bind ?_ (fun _ => ?_))
   | exact spec_l1Has.mono _ _ _
   | exact LeO.none _
   | refine LeO.ite ?_ ?_
   | refine LeO.bind ?_ (fun _ => ?_)
set_option maxHeartbeats 8000000 in
set_option maxRecDepth 100000 in
theorem spec_l3TokenByte.calls (k : Nat) (a0 : Int) (r : Bool) (w : World) (h : spec_l3TokenByte.f k a0 = some r) :
  Calls Tryz.prog 140 #[.int .u8 a0] w fun e w' => e = .returned (.bool r) ∧ Drawn0 w w':=by
 have H:=h
 unfold spec_l3TokenByte.f at H
 clear h
 replace H:=mb_ H
 obtain ⟨t137,A2,H⟩:=H
 by_cases c3 : t137 = true
 ·subst c3
  rw [if_pos rfl] at H
  obtain rfl:=Option.some.inj H
  go_enter Tryz.func140,Tryz.ntmps140
  go_wp2_with (first | ((with_reducible refine gc_ 105 ?_);refine xgl_ (some 4) Tryz.func105 #[.int .u8 a0] ?_;(with_reducible refine (spec_l1Letter.calls a0 true _ A2.out).mono ?_);rintro e w' ⟨rfl,⟨nd,rfl⟩⟩;refine ⟨_,rfl,?_⟩))
  go_ret
  exact ⟨by first | rfl | (simp;done) | (simp [*];done),by repeat (first | exact Drawn0.refl _ | apply Drawn0.step)⟩
 ·replace c3:=Bool.eq_false_iff.mpr c3
  subst c3
  rw [if_neg (show ¬ (false = true) by decide)] at H
  replace H:=mb_ H
  obtain ⟨t138,A4,H⟩:=H
  by_cases c5 : t138 = true
  ·subst c5
   rw [if_pos rfl] at H
   obtain rfl:=Option.some.inj H
   go_enter Tryz.func140,Tryz.ntmps140
   go_wp2_with (first | ((with_reducible refine gc_ 105 ?_);refine xgl_ (some 4) Tryz.func105 #[.int .u8 a0] ?_;(with_reducible refine (spec_l1Letter.calls a0 false _ A2.out).mono ?_);rintro e w' ⟨rfl,⟨nd,rfl⟩⟩;refine ⟨_,rfl,?_⟩) | (go_at_call 106;(with_reducible refine (spec_l1Digit.calls a0 true _ A4.out).mono ?_);rintro e w' ⟨rfl,⟨nd,rfl⟩⟩))
   go_ret
   exact ⟨by first | rfl | (simp;done) | (simp [*];done),by repeat (first | exact Drawn0.refl _ | apply Drawn0.step)⟩
  ·replace c5:=Bool.eq_false_iff.mpr c5
   subst c5
   rw [if_neg (show ¬ (false = true) by decide)] at H
   replace H:=mb_ H
   obtain ⟨t139,A6,H⟩:=H
   by_cases c7 : t139 = true
   ·subst c7
    rw [if_pos rfl] at H
    obtain rfl:=Option.some.inj H
    go_enter Tryz.func140,Tryz.ntmps140
    go_wp2_with (first | ((with_reducible refine gc_ 105 ?_);refine xgl_ (some 4) Tryz.func105 #[.int .u8 a0] ?_;(with_reducible refine (spec_l1Letter.calls a0 false _ A2.out).mono ?_);rintro e w' ⟨rfl,⟨nd,rfl⟩⟩;refine ⟨_,rfl,?_⟩) | (go_at_call 106;(with_reducible refine (spec_l1Digit.calls a0 false _ A4.out).mono ?_);rintro e w' ⟨rfl,⟨nd,rfl⟩⟩) | (go_at_call 108;(with_reducible refine (spec_l1Has.calls k (⟨#[33,35,36,37,38,39,42,43,45,46,94,95,124,126]⟩ : ByteArray) a0 true _ A6.out).mono ?_);rintro e w' ⟨rfl,⟨nd,rfl⟩⟩))
    go_ret
    exact ⟨by first | rfl | (simp;done) | (simp [*];done),by repeat (first | exact Drawn0.refl _ | apply Drawn0.step)⟩
   ·replace c7:=Bool.eq_false_iff.mpr c7
    subst c7
    rw [if_neg (show ¬ (false = true) by decide)] at H
    obtain rfl:=Option.some.inj H
    go_enter Tryz.func140,Tryz.ntmps140
    go_wp2_with (first | ((with_reducible refine gc_ 105 ?_);refine xgl_ (some 4) Tryz.func105 #[.int .u8 a0] ?_;(with_reducible refine (spec_l1Letter.calls a0 false _ A2.out).mono ?_);rintro e w' ⟨rfl,⟨nd,rfl⟩⟩;refine ⟨_,rfl,?_⟩) | (go_at_call 106;(with_reducible refine (spec_l1Digit.calls a0 false _ A4.out).mono ?_);rintro e w' ⟨rfl,⟨nd,rfl⟩⟩) | (go_at_call 108;(with_reducible refine (spec_l1Has.calls k (⟨#[33,35,36,37,38,39,42,43,45,46,94,95,124,126]⟩ : ByteArray) a0 false _ A6.out).mono ?_);rintro e w' ⟨rfl,⟨nd,rfl⟩⟩))
    go_ret
    exact ⟨by first | rfl | (simp;done) | (simp [*];done),by repeat (first | exact Drawn0.refl _ | apply Drawn0.step)⟩

end Go.Proofs.YtpggepjfhgalkaaGreatDoor.PFnExactKeyOf
