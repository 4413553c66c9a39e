-- Written by a program of this project (xprint.py) out of the translation; Lean checks it.
import Derived.Test.YtpggepjfhgalkaaGreatDoorPFnExactKeyOfx0
import Derived.Test.YtpggepjfhgalkaaGreatDoorPFnExactKeyOfx14
import Derived.Test.YtpggepjfhgalkaaGreatDoorPFnExactKeyOfx15
namespace Go.Proofs.YtpggepjfhgalkaaGreatDoor.PFnExactKeyOf
open Go.RowKit Go.Proofs.YtpggepjfhgalkaaGreatDoorW.PrintWords Go.Proofs.YtpggepjfhgalkaaGreatDoorW.PrintLast Go.Proofs.YtpggepjfhgalkaaGreatDoorW.PrintMore
attribute [local go_sem] max2_int min2_int max_two min_two max_three min_three max_four min_four   -- for this text's walks alone
set_option linter.unusedVariables false
set_option linter.unusedSimpArgs false

/-! ### impl_GoodUrl: function 74 -/
def impl_GoodUrl.f (k : Nat) (a0_0 : ByteArray) (a0_1 : ByteArray) (a0_2 : Int) (a0_3 : ByteArray) (a0_4 : ByteArray) (a0_5 : Bool) : Option (Bool):=if a0_0.toList = ([104,116,116,112] : List UInt8) then ((impl_within.f (a0_1.size : Int) 1 60).bind fun t321 => (if t321 = true then ((xBytes_impl_GoodUrl_1.f a0_1).bind fun t322 => (if t322 = true then ((impl_within.f a0_2 0 65535).bind fun t323 => (if t323 = true then ((strings_HasPrefix.f a0_3 (⟨#[47]⟩ : ByteArray)).bind fun t324 => (if t324 = true then ((impl_arePchars.f k a0_3 (⟨#[47]⟩ : ByteArray)).bind fun t325 => (if t325 = true then ((impl_arePchars.f k a0_4 (⟨#[47,63]⟩ : ByteArray)).bind fun t326 => (if t326 = true then (if a0_5 = true then ((impl_urlText.f a0_0 a0_1 a0_2 a0_3 a0_4 a0_5).bind fun t327 => (some (decide ((t327.size : Int) ≤ 200)))) else (if a0_4.toList = ([] : List UInt8) then ((impl_urlText.f a0_0 a0_1 a0_2 a0_3 a0_4 a0_5).bind fun t328 => (some (decide ((t328.size : Int) ≤ 200)))) else (some false))) else (some false))) else (some false))) else (some false))) else (some false))) else (some false))) else (some false))) else (if a0_0.toList = ([104,116,116,112,115] : List UInt8) then ((impl_within.f (a0_1.size : Int) 1 60).bind fun t329 => (if t329 = true then ((xBytes_impl_GoodUrl_1.f a0_1).bind fun t330 => (if t330 = true then ((impl_within.f a0_2 0 65535).bind fun t331 => (if t331 = true then ((strings_HasPrefix.f a0_3 (⟨#[47]⟩ : ByteArray)).bind fun t332 => (if t332 = true then ((impl_arePchars.f k a0_3 (⟨#[47]⟩ : ByteArray)).bind fun t333 => (if t333 = true then ((impl_arePchars.f k a0_4 (⟨#[47,63]⟩ : ByteArray)).bind fun t334 => (if t334 = true then (if a0_5 = true then ((impl_urlText.f a0_0 a0_1 a0_2 a0_3 a0_4 a0_5).bind fun t335 => (some (decide ((t335.size : Int) ≤ 200)))) else (if a0_4.toList = ([] : List UInt8) then ((impl_urlText.f a0_0 a0_1 a0_2 a0_3 a0_4 a0_5).bind fun t336 => (some (decide ((t336.size : Int) ≤ 200)))) else (some false))) else (some false))) else (some false))) else (some false))) else (some false))) else (some false))) else (some false))) else (some false))
set_option maxHeartbeats 8000000 in
set_option maxRecDepth 100000 in
theorem impl_GoodUrl.calls (k : Nat) (a0_0 : ByteArray) (a0_1 : ByteArray) (a0_2 : Int) (a0_3 : ByteArray) (a0_4 : ByteArray) (a0_5 : Bool) (r : Bool) (w : World) (h : impl_GoodUrl.f k a0_0 a0_1 a0_2 a0_3 a0_4 a0_5 = some r) (hT_ : TabOk w) :
  Calls Tryz.prog 74 #[.agg #[.string a0_0,.string a0_1,.int .i64 a0_2,.string a0_3,.string a0_4,.bool a0_5]] w fun e w' => e = .returned (.bool r) ∧ Below w.heap.size w w':=by
 have HTB_:=Aside0.mk hT_
 clear hT_
 have hu31:=Tryz.underlying31
 have HB:=Aside0.mk (Below.refl w.heap.size w)
 have H:=h
 unfold impl_GoodUrl.f at H
 clear h
 by_cases c2 : a0_0.toList = ([104,116,116,112] : List UInt8)
 ·rw [if_pos c2] at H
  have c2b0 : (a0_0.toList == ([104,116,116,112] : List UInt8)) = true:=beq_iff_eq.mpr c2
  have c2b1 : (a0_0.toList != ([104,116,116,112] : List UInt8)) = false:=bne_eq_false_iff_eq.mpr c2
  clear c2
  replace H:=mb_ H
  obtain ⟨t321,A3,H⟩:=H
  by_cases c4 : t321 = true
  ·subst c4
   rw [if_pos rfl] at H
   replace H:=mb_ H
   obtain ⟨t322,A5,H⟩:=H
   by_cases c6 : t322 = true
   ·subst c6
    rw [if_pos rfl] at H
    replace H:=mb_ H
    obtain ⟨t323,A7,H⟩:=H
    by_cases c8 : t323 = true
    ·subst c8
     rw [if_pos rfl] at H
     replace H:=mb_ H
     obtain ⟨t324,A9,H⟩:=H
     by_cases c10 : t324 = true
     ·subst c10
      rw [if_pos rfl] at H
      replace H:=mb_ H
      obtain ⟨t325,A11,H⟩:=H
      by_cases c12 : t325 = true
      ·subst c12
       rw [if_pos rfl] at H
       replace H:=mb_ H
       obtain ⟨t326,A13,H⟩:=H
       by_cases c14 : t326 = true
       ·subst c14
        rw [if_pos rfl] at H
        by_cases c15 : a0_5 = true
        ·subst c15
         rw [if_pos rfl] at H
         replace H:=mb_ H
         obtain ⟨t327,A16,H⟩:=H
         obtain rfl:=Option.some.inj H
         go_enter Tryz.func74,Tryz.ntmps74
         go_wp2_with (first | ((with_reducible refine gd_ 1 ?_);(try (refine gate_guard (by rfl) ?_;dsimp only));refine xbe_ (N:=1) (cs:=#[.string a0_0,.string a0_1,.int .i64 a0_2,.string a0_3,.string a0_4,.bool true]) (t:=31) ?_;intro gb320 hg w17 hbox hb;have BK320:=Aside0.mk (hbox);have GE320:=xge_ HB hg;replace HB:=xws_ HB hb;clear hb hbox hg;have ⟨_,_,_,_,_,_,_,_,_,_,_,_⟩:=c6_ BK320) | (go_at_call 119;(with_reducible refine (impl_within.calls (a0_1.size : Int) 1 60 true _ A3.out).mono ?_);rintro e w' ⟨rfl,⟨nd,rfl⟩⟩) | (go_at_call 120;(with_reducible refine (xBytes_impl_GoodUrl_1.calls a0_1  true _ A5.out).mono ?_);rintro e w19 ⟨rfl,hb⟩;replace BK320:=xbb_ BK320 hb;replace HB:=xws_ HB hb;(try clear hb);have ⟨_,_,_,_,_,_,_,_,_,_,_,_⟩:=c6_ BK320) | (go_at_call 119;(with_reducible refine (impl_within.calls a0_2 0 65535 true _ A7.out).mono ?_);rintro e w' ⟨rfl,⟨nd,rfl⟩⟩) | (go_at_call 123;(with_reducible refine (strings_HasPrefix.calls a0_3 (⟨#[47]⟩ : ByteArray) true _ A9.out).mono ?_);rintro e w' ⟨rfl,⟨nd,rfl⟩⟩) | (go_at_call 124;(with_reducible refine (impl_arePchars.calls k a0_3 (⟨#[47]⟩ : ByteArray) true _ A11.out).mono ?_);rintro e w' ⟨rfl,⟨nd,rfl⟩⟩) | (go_at_call 124;(with_reducible refine (impl_arePchars.calls k a0_4 (⟨#[47,63]⟩ : ByteArray) true _ A13.out).mono ?_);rintro e w' ⟨rfl,⟨nd,rfl⟩⟩) | (go_at_call 80;(with_reducible refine (impl_urlText.calls a0_0 a0_1 a0_2 a0_3 a0_4 true t327 _ A16.out (HTB_.out.below (by first | (with_reducible exact Below.refl _ _) | (repeat (first | (with_reducible first | exact HB.out | exact Below.refl _ _ | apply below_alloc | apply pw_below_drewN | apply below_drew1 | refine below_set ?_ GE320.out) | exact HB.out)) | (repeat (first | exact Below.refl _ _ | apply below_alloc | apply pw_below_drewN | apply below_drew1 | refine below_set ?_ GE320.out))))).mono ?_);rintro e w21 ⟨rfl,hb⟩;replace BK320:=xbb_ BK320 hb;replace HB:=xws_ HB hb;(try clear hb)))
         go_ret
         exact ⟨mf_,xw_ HB⟩
        ·replace c15:=Bool.eq_false_iff.mpr c15
         subst c15
         rw [if_neg (show ¬ (false = true) by decide)] at H
         by_cases c22 : a0_4.toList = ([] : List UInt8)
         ·rw [if_pos c22] at H
          have c22b0 : (a0_4.toList == ([] : List UInt8)) = true:=beq_iff_eq.mpr c22
          have c22b1 : (a0_4.toList != ([] : List UInt8)) = false:=bne_eq_false_iff_eq.mpr c22
          clear c22
          replace H:=mb_ H
          obtain ⟨t328,A23,H⟩:=H
          obtain rfl:=Option.some.inj H
          go_enter Tryz.func74,Tryz.ntmps74
          go_wp2_with (first | ((with_reducible refine gd_ 1 ?_);(try (refine gate_guard (by rfl) ?_;dsimp only));refine xbe_ (N:=1) (cs:=#[.string a0_0,.string a0_1,.int .i64 a0_2,.string a0_3,.string a0_4,.bool false]) (t:=31) ?_;intro gb320 hg w24 hbox hb;have BK320:=Aside0.mk (hbox);have GE320:=xge_ HB hg;replace HB:=xws_ HB hb;clear hb hbox hg;have ⟨_,_,_,_,_,_,_,_,_,_,_,_⟩:=c6_ BK320) | (go_at_call 119;(with_reducible refine (impl_within.calls (a0_1.size : Int) 1 60 true _ A3.out).mono ?_);rintro e w' ⟨rfl,⟨nd,rfl⟩⟩) | (go_at_call 120;(with_reducible refine (xBytes_impl_GoodUrl_1.calls a0_1  true _ A5.out).mono ?_);rintro e w26 ⟨rfl,hb⟩;replace BK320:=xbb_ BK320 hb;replace HB:=xws_ HB hb;(try clear hb);have ⟨_,_,_,_,_,_,_,_,_,_,_,_⟩:=c6_ BK320) | (go_at_call 119;(with_reducible refine (impl_within.calls a0_2 0 65535 true _ A7.out).mono ?_);rintro e w' ⟨rfl,⟨nd,rfl⟩⟩) | (go_at_call 123;(with_reducible refine (strings_HasPrefix.calls a0_3 (⟨#[47]⟩ : ByteArray) true _ A9.out).mono ?_);rintro e w' ⟨rfl,⟨nd,rfl⟩⟩) | (go_at_call 124;(with_reducible refine (impl_arePchars.calls k a0_3 (⟨#[47]⟩ : ByteArray) true _ A11.out).mono ?_);rintro e w' ⟨rfl,⟨nd,rfl⟩⟩) | (go_at_call 124;(with_reducible refine (impl_arePchars.calls k a0_4 (⟨#[47,63]⟩ : ByteArray) true _ A13.out).mono ?_);rintro e w' ⟨rfl,⟨nd,rfl⟩⟩) | (go_at_call 80;(with_reducible refine (impl_urlText.calls a0_0 a0_1 a0_2 a0_3 a0_4 false t328 _ A23.out (HTB_.out.below (by first | (with_reducible exact Below.refl _ _) | (repeat (first | (with_reducible first | exact HB.out | exact Below.refl _ _ | apply below_alloc | apply pw_below_drewN | apply below_drew1 | refine below_set ?_ GE320.out) | exact HB.out)) | (repeat (first | exact Below.refl _ _ | apply below_alloc | apply pw_below_drewN | apply below_drew1 | refine below_set ?_ GE320.out))))).mono ?_);rintro e w28 ⟨rfl,hb⟩;replace BK320:=xbb_ BK320 hb;replace HB:=xws_ HB hb;(try clear hb)))
          go_ret
          exact ⟨mf_,xw_ HB⟩
         ·rw [if_neg c22] at H
          have c22b0 : (a0_4.toList == ([] : List UInt8)) = false:=beq_eq_false_iff_ne.mpr c22
          have c22b1 : (a0_4.toList != ([] : List UInt8)) = true:=bne_iff_ne.mpr c22
          obtain rfl:=Option.some.inj H
          go_enter Tryz.func74,Tryz.ntmps74
          go_wp2_with (first | ((with_reducible refine gd_ 1 ?_);(try (refine gate_guard (by rfl) ?_;dsimp only));refine xbe_ (N:=1) (cs:=#[.string a0_0,.string a0_1,.int .i64 a0_2,.string a0_3,.string a0_4,.bool false]) (t:=31) ?_;intro gb320 hg w29 hbox hb;have BK320:=Aside0.mk (hbox);have GE320:=xge_ HB hg;replace HB:=xws_ HB hb;clear hb hbox hg;have ⟨_,_,_,_,_,_,_,_,_,_,_,_⟩:=c6_ BK320) | (go_at_call 119;(with_reducible refine (impl_within.calls (a0_1.size : Int) 1 60 true _ A3.out).mono ?_);rintro e w' ⟨rfl,⟨nd,rfl⟩⟩) | (go_at_call 120;(with_reducible refine (xBytes_impl_GoodUrl_1.calls a0_1  true _ A5.out).mono ?_);rintro e w31 ⟨rfl,hb⟩;replace BK320:=xbb_ BK320 hb;replace HB:=xws_ HB hb;(try clear hb);have ⟨_,_,_,_,_,_,_,_,_,_,_,_⟩:=c6_ BK320) | (go_at_call 119;(with_reducible refine (impl_within.calls a0_2 0 65535 true _ A7.out).mono ?_);rintro e w' ⟨rfl,⟨nd,rfl⟩⟩) | (go_at_call 123;(with_reducible refine (strings_HasPrefix.calls a0_3 (⟨#[47]⟩ : ByteArray) true _ A9.out).mono ?_);rintro e w' ⟨rfl,⟨nd,rfl⟩⟩) | (go_at_call 124;(with_reducible refine (impl_arePchars.calls k a0_3 (⟨#[47]⟩ : ByteArray) true _ A11.out).mono ?_);rintro e w' ⟨rfl,⟨nd,rfl⟩⟩) | (go_at_call 124;(with_reducible refine (impl_arePchars.calls k a0_4 (⟨#[47,63]⟩ : ByteArray) true _ A13.out).mono ?_);rintro e w' ⟨rfl,⟨nd,rfl⟩⟩))
          go_ret
          exact ⟨mf_,xw_ HB⟩
       ·replace c14:=Bool.eq_false_iff.mpr c14
        subst c14
        rw [if_neg (show ¬ (false = true) by decide)] at H
        obtain rfl:=Option.some.inj H
        go_enter Tryz.func74,Tryz.ntmps74
        go_wp2_with (first | ((with_reducible refine gd_ 1 ?_);(try (refine gate_guard (by rfl) ?_;dsimp only));refine xbe_ (N:=1) (cs:=#[.string a0_0,.string a0_1,.int .i64 a0_2,.string a0_3,.string a0_4,.bool a0_5]) (t:=31) ?_;intro gb320 hg w33 hbox hb;have BK320:=Aside0.mk (hbox);have GE320:=xge_ HB hg;replace HB:=xws_ HB hb;clear hb hbox hg;have ⟨_,_,_,_,_,_,_,_,_,_,_,_⟩:=c6_ BK320) | (go_at_call 119;(with_reducible refine (impl_within.calls (a0_1.size : Int) 1 60 true _ A3.out).mono ?_);rintro e w' ⟨rfl,⟨nd,rfl⟩⟩) | (go_at_call 120;(with_reducible refine (xBytes_impl_GoodUrl_1.calls a0_1  true _ A5.out).mono ?_);rintro e w35 ⟨rfl,hb⟩;replace BK320:=xbb_ BK320 hb;replace HB:=xws_ HB hb;(try clear hb);have ⟨_,_,_,_,_,_,_,_,_,_,_,_⟩:=c6_ BK320) | (go_at_call 119;(with_reducible refine (impl_within.calls a0_2 0 65535 true _ A7.out).mono ?_);rintro e w' ⟨rfl,⟨nd,rfl⟩⟩) | (go_at_call 123;(with_reducible refine (strings_HasPrefix.calls a0_3 (⟨#[47]⟩ : ByteArray) true _ A9.out).mono ?_);rintro e w' ⟨rfl,⟨nd,rfl⟩⟩) | (go_at_call 124;(with_reducible refine (impl_arePchars.calls k a0_3 (⟨#[47]⟩ : ByteArray) true _ A11.out).mono ?_);rintro e w' ⟨rfl,⟨nd,rfl⟩⟩) | (go_at_call 124;(with_reducible refine (impl_arePchars.calls k a0_4 (⟨#[47,63]⟩ : ByteArray) false _ A13.out).mono ?_);rintro e w' ⟨rfl,⟨nd,rfl⟩⟩))
        go_ret
        exact ⟨mf_,xw_ HB⟩
      ·replace c12:=Bool.eq_false_iff.mpr c12
       subst c12
       rw [if_neg (show ¬ (false = true) by decide)] at H
       obtain rfl:=Option.some.inj H
       go_enter Tryz.func74,Tryz.ntmps74
       go_wp2_with (first | ((with_reducible refine gd_ 1 ?_);(try (refine gate_guard (by rfl) ?_;dsimp only));refine xbe_ (N:=1) (cs:=#[.string a0_0,.string a0_1,.int .i64 a0_2,.string a0_3,.string a0_4,.bool a0_5]) (t:=31) ?_;intro gb320 hg w37 hbox hb;have BK320:=Aside0.mk (hbox);have GE320:=xge_ HB hg;replace HB:=xws_ HB hb;clear hb hbox hg;have ⟨_,_,_,_,_,_,_,_,_,_,_,_⟩:=c6_ BK320) | (go_at_call 119;(with_reducible refine (impl_within.calls (a0_1.size : Int) 1 60 true _ A3.out).mono ?_);rintro e w' ⟨rfl,⟨nd,rfl⟩⟩) | (go_at_call 120;(with_reducible refine (xBytes_impl_GoodUrl_1.calls a0_1  true _ A5.out).mono ?_);rintro e w39 ⟨rfl,hb⟩;replace BK320:=xbb_ BK320 hb;replace HB:=xws_ HB hb;(try clear hb);have ⟨_,_,_,_,_,_,_,_,_,_,_,_⟩:=c6_ BK320) | (go_at_call 119;(with_reducible refine (impl_within.calls a0_2 0 65535 true _ A7.out).mono ?_);rintro e w' ⟨rfl,⟨nd,rfl⟩⟩) | (go_at_call 123;(with_reducible refine (strings_HasPrefix.calls a0_3 (⟨#[47]⟩ : ByteArray) true _ A9.out).mono ?_);rintro e w' ⟨rfl,⟨nd,rfl⟩⟩) | (go_at_call 124;(with_reducible refine (impl_arePchars.calls k a0_3 (⟨#[47]⟩ : ByteArray) false _ A11.out).mono ?_);rintro e w' ⟨rfl,⟨nd,rfl⟩⟩))
       go_ret
       exact ⟨mf_,xw_ HB⟩
     ·replace c10:=Bool.eq_false_iff.mpr c10
      subst c10
      rw [if_neg (show ¬ (false = true) by decide)] at H
      obtain rfl:=Option.some.inj H
      go_enter Tryz.func74,Tryz.ntmps74
      go_wp2_with (first | ((with_reducible refine gd_ 1 ?_);(try (refine gate_guard (by rfl) ?_;dsimp only));refine xbe_ (N:=1) (cs:=#[.string a0_0,.string a0_1,.int .i64 a0_2,.string a0_3,.string a0_4,.bool a0_5]) (t:=31) ?_;intro gb320 hg w41 hbox hb;have BK320:=Aside0.mk (hbox);have GE320:=xge_ HB hg;replace HB:=xws_ HB hb;clear hb hbox hg;have ⟨_,_,_,_,_,_,_,_,_,_,_,_⟩:=c6_ BK320) | (go_at_call 119;(with_reducible refine (impl_within.calls (a0_1.size : Int) 1 60 true _ A3.out).mono ?_);rintro e w' ⟨rfl,⟨nd,rfl⟩⟩) | (go_at_call 120;(with_reducible refine (xBytes_impl_GoodUrl_1.calls a0_1  true _ A5.out).mono ?_);rintro e w43 ⟨rfl,hb⟩;replace BK320:=xbb_ BK320 hb;replace HB:=xws_ HB hb;(try clear hb);have ⟨_,_,_,_,_,_,_,_,_,_,_,_⟩:=c6_ BK320) | (go_at_call 119;(with_reducible refine (impl_within.calls a0_2 0 65535 true _ A7.out).mono ?_);rintro e w' ⟨rfl,⟨nd,rfl⟩⟩) | (go_at_call 123;(with_reducible refine (strings_HasPrefix.calls a0_3 (⟨#[47]⟩ : ByteArray) false _ A9.out).mono ?_);rintro e w' ⟨rfl,⟨nd,rfl⟩⟩))
      go_ret
      exact ⟨mf_,xw_ HB⟩
    ·replace c8:=Bool.eq_false_iff.mpr c8
     subst c8
     rw [if_neg (show ¬ (false = true) by decide)] at H
     obtain rfl:=Option.some.inj H
     go_enter Tryz.func74,Tryz.ntmps74
     go_wp2_with (first | ((with_reducible refine gd_ 1 ?_);(try (refine gate_guard (by rfl) ?_;dsimp only));refine xbe_ (N:=1) (cs:=#[.string a0_0,.string a0_1,.int .i64 a0_2,.string a0_3,.string a0_4,.bool a0_5]) (t:=31) ?_;intro gb320 hg w45 hbox hb;have BK320:=Aside0.mk (hbox);have GE320:=xge_ HB hg;replace HB:=xws_ HB hb;clear hb hbox hg;have ⟨_,_,_,_,_,_,_,_,_,_,_,_⟩:=c6_ BK320) | (go_at_call 119;(with_reducible refine (impl_within.calls (a0_1.size : Int) 1 60 true _ A3.out).mono ?_);rintro e w' ⟨rfl,⟨nd,rfl⟩⟩) | (go_at_call 120;(with_reducible refine (xBytes_impl_GoodUrl_1.calls a0_1  true _ A5.out).mono ?_);rintro e w47 ⟨rfl,hb⟩;replace BK320:=xbb_ BK320 hb;replace HB:=xws_ HB hb;(try clear hb);have ⟨_,_,_,_,_,_,_,_,_,_,_,_⟩:=c6_ BK320) | (go_at_call 119;(with_reducible refine (impl_within.calls a0_2 0 65535 false _ A7.out).mono ?_);rintro e w' ⟨rfl,⟨nd,rfl⟩⟩))
     go_ret
     exact ⟨mf_,xw_ HB⟩
   ·replace c6:=Bool.eq_false_iff.mpr c6
    subst c6
    rw [if_neg (show ¬ (false = true) by decide)] at H
    obtain rfl:=Option.some.inj H
    go_enter Tryz.func74,Tryz.ntmps74
    go_wp2_with (first | ((with_reducible refine gd_ 1 ?_);(try (refine gate_guard (by rfl) ?_;dsimp only));refine xbe_ (N:=1) (cs:=#[.string a0_0,.string a0_1,.int .i64 a0_2,.string a0_3,.string a0_4,.bool a0_5]) (t:=31) ?_;intro gb320 hg w49 hbox hb;have BK320:=Aside0.mk (hbox);have GE320:=xge_ HB hg;replace HB:=xws_ HB hb;clear hb hbox hg;have ⟨_,_,_,_,_,_,_,_,_,_,_,_⟩:=c6_ BK320) | (go_at_call 119;(with_reducible refine (impl_within.calls (a0_1.size : Int) 1 60 true _ A3.out).mono ?_);rintro e w' ⟨rfl,⟨nd,rfl⟩⟩) | (go_at_call 120;(with_reducible refine (xBytes_impl_GoodUrl_1.calls a0_1  false _ A5.out).mono ?_);rintro e w51 ⟨rfl,hb⟩;replace BK320:=xbb_ BK320 hb;replace HB:=xws_ HB hb;(try clear hb)))
    go_ret
    exact ⟨mf_,xw_ HB⟩
  ·replace c4:=Bool.eq_false_iff.mpr c4
   subst c4
   rw [if_neg (show ¬ (false = true) by decide)] at H
   obtain rfl:=Option.some.inj H
   go_enter Tryz.func74,Tryz.ntmps74
   go_wp2_with (first | ((with_reducible refine gd_ 1 ?_);(try (refine gate_guard (by rfl) ?_;dsimp only));refine xbe_ (N:=1) (cs:=#[.string a0_0,.string a0_1,.int .i64 a0_2,.string a0_3,.string a0_4,.bool a0_5]) (t:=31) ?_;intro gb320 hg w52 hbox hb;have BK320:=Aside0.mk (hbox);have GE320:=xge_ HB hg;replace HB:=xws_ HB hb;clear hb hbox hg;have ⟨_,_,_,_,_,_,_,_,_,_,_,_⟩:=c6_ BK320) | (go_at_call 119;(with_reducible refine (impl_within.calls (a0_1.size : Int) 1 60 false _ A3.out).mono ?_);rintro e w' ⟨rfl,⟨nd,rfl⟩⟩))
   go_ret
   exact ⟨mf_,xw_ HB⟩
 ·rw [if_neg c2] at H
  have c2b0 : (a0_0.toList == ([104,116,116,112] : List UInt8)) = false:=beq_eq_false_iff_ne.mpr c2
  have c2b1 : (a0_0.toList != ([104,116,116,112] : List UInt8)) = true:=bne_iff_ne.mpr c2
  by_cases c54 : a0_0.toList = ([104,116,116,112,115] : List UInt8)
  ·rw [if_pos c54] at H
   have c54b0 : (a0_0.toList == ([104,116,116,112,115] : List UInt8)) = true:=beq_iff_eq.mpr c54
   have c54b1 : (a0_0.toList != ([104,116,116,112,115] : List UInt8)) = false:=bne_eq_false_iff_eq.mpr c54
   clear c54
   replace H:=mb_ H
   obtain ⟨t329,A55,H⟩:=H
   by_cases c56 : t329 = true
   ·subst c56
    rw [if_pos rfl] at H
    replace H:=mb_ H
    obtain ⟨t330,A57,H⟩:=H
    by_cases c58 : t330 = true
    ·subst c58
     rw [if_pos rfl] at H
     replace H:=mb_ H
     obtain ⟨t331,A59,H⟩:=H
     by_cases c60 : t331 = true
     ·subst c60
      rw [if_pos rfl] at H
      replace H:=mb_ H
      obtain ⟨t332,A61,H⟩:=H
      by_cases c62 : t332 = true
      ·subst c62
       rw [if_pos rfl] at H
       replace H:=mb_ H
       obtain ⟨t333,A63,H⟩:=H
       by_cases c64 : t333 = true
       ·subst c64
        rw [if_pos rfl] at H
        replace H:=mb_ H
        obtain ⟨t334,A65,H⟩:=H
        by_cases c66 : t334 = true
        ·subst c66
         rw [if_pos rfl] at H
         by_cases c67 : a0_5 = true
         ·subst c67
          rw [if_pos rfl] at H
          replace H:=mb_ H
          obtain ⟨t335,A68,H⟩:=H
          obtain rfl:=Option.some.inj H
          go_enter Tryz.func74,Tryz.ntmps74
          go_wp2_with (first | ((with_reducible refine gd_ 1 ?_);(try (refine gate_guard (by rfl) ?_;dsimp only));refine xbe_ (N:=1) (cs:=#[.string a0_0,.string a0_1,.int .i64 a0_2,.string a0_3,.string a0_4,.bool true]) (t:=31) ?_;intro gb320 hg w69 hbox hb;have BK320:=Aside0.mk (hbox);have GE320:=xge_ HB hg;replace HB:=xws_ HB hb;clear hb hbox hg;have ⟨_,_,_,_,_,_,_,_,_,_,_,_⟩:=c6_ BK320) | (go_at_call 119;(with_reducible refine (impl_within.calls (a0_1.size : Int) 1 60 true _ A55.out).mono ?_);rintro e w' ⟨rfl,⟨nd,rfl⟩⟩) | (go_at_call 120;(with_reducible refine (xBytes_impl_GoodUrl_1.calls a0_1  true _ A57.out).mono ?_);rintro e w71 ⟨rfl,hb⟩;replace BK320:=xbb_ BK320 hb;replace HB:=xws_ HB hb;(try clear hb);have ⟨_,_,_,_,_,_,_,_,_,_,_,_⟩:=c6_ BK320) | (go_at_call 119;(with_reducible refine (impl_within.calls a0_2 0 65535 true _ A59.out).mono ?_);rintro e w' ⟨rfl,⟨nd,rfl⟩⟩) | (go_at_call 123;(with_reducible refine (strings_HasPrefix.calls a0_3 (⟨#[47]⟩ : ByteArray) true _ A61.out).mono ?_);rintro e w' ⟨rfl,⟨nd,rfl⟩⟩) | (go_at_call 124;(with_reducible refine (impl_arePchars.calls k a0_3 (⟨#[47]⟩ : ByteArray) true _ A63.out).mono ?_);rintro e w' ⟨rfl,⟨nd,rfl⟩⟩) | (go_at_call 124;(with_reducible refine (impl_arePchars.calls k a0_4 (⟨#[47,63]⟩ : ByteArray) true _ A65.out).mono ?_);rintro e w' ⟨rfl,⟨nd,rfl⟩⟩) | (go_at_call 80;(with_reducible refine (impl_urlText.calls a0_0 a0_1 a0_2 a0_3 a0_4 true t335 _ A68.out (HTB_.out.below (by first | (with_reducible exact Below.refl _ _) | (repeat (first | (with_reducible first | exact HB.out | exact Below.refl _ _ | apply below_alloc | apply pw_below_drewN | apply below_drew1 | refine below_set ?_ GE320.out) | exact HB.out)) | (repeat (first | exact Below.refl _ _ | apply below_alloc | apply pw_below_drewN | apply below_drew1 | refine below_set ?_ GE320.out))))).mono ?_);rintro e w73 ⟨rfl,hb⟩;replace BK320:=xbb_ BK320 hb;replace HB:=xws_ HB hb;(try clear hb)))
          go_ret
          exact ⟨mf_,xw_ HB⟩
         ·replace c67:=Bool.eq_false_iff.mpr c67
          subst c67
          rw [if_neg (show ¬ (false = true) by decide)] at H
          by_cases c74 : a0_4.toList = ([] : List UInt8)
          ·rw [if_pos c74] at H
           have c74b0 : (a0_4.toList == ([] : List UInt8)) = true:=beq_iff_eq.mpr c74
           have c74b1 : (a0_4.toList != ([] : List UInt8)) = false:=bne_eq_false_iff_eq.mpr c74
           clear c74
           replace H:=mb_ H
           obtain ⟨t336,A75,H⟩:=H
           obtain rfl:=Option.some.inj H
           go_enter Tryz.func74,Tryz.ntmps74
           go_wp2_with (first | ((with_reducible refine gd_ 1 ?_);(try (refine gate_guard (by rfl) ?_;dsimp only));refine xbe_ (N:=1) (cs:=#[.string a0_0,.string a0_1,.int .i64 a0_2,.string a0_3,.string a0_4,.bool false]) (t:=31) ?_;intro gb320 hg w76 hbox hb;have BK320:=Aside0.mk (hbox);have GE320:=xge_ HB hg;replace HB:=xws_ HB hb;clear hb hbox hg;have ⟨_,_,_,_,_,_,_,_,_,_,_,_⟩:=c6_ BK320) | (go_at_call 119;(with_reducible refine (impl_within.calls (a0_1.size : Int) 1 60 true _ A55.out).mono ?_);rintro e w' ⟨rfl,⟨nd,rfl⟩⟩) | (go_at_call 120;(with_reducible refine (xBytes_impl_GoodUrl_1.calls a0_1  true _ A57.out).mono ?_);rintro e w78 ⟨rfl,hb⟩;replace BK320:=xbb_ BK320 hb;replace HB:=xws_ HB hb;(try clear hb);have ⟨_,_,_,_,_,_,_,_,_,_,_,_⟩:=c6_ BK320) | (go_at_call 119;(with_reducible refine (impl_within.calls a0_2 0 65535 true _ A59.out).mono ?_);rintro e w' ⟨rfl,⟨nd,rfl⟩⟩) | (go_at_call 123;(with_reducible refine (strings_HasPrefix.calls a0_3 (⟨#[47]⟩ : ByteArray) true _ A61.out).mono ?_);rintro e w' ⟨rfl,⟨nd,rfl⟩⟩) | (go_at_call 124;(with_reducible refine (impl_arePchars.calls k a0_3 (⟨#[47]⟩ : ByteArray) true _ A63.out).mono ?_);rintro e w' ⟨rfl,⟨nd,rfl⟩⟩) | (go_at_call 124;(with_reducible refine (impl_arePchars.calls k a0_4 (⟨#[47,63]⟩ : ByteArray) true _ A65.out).mono ?_);rintro e w' ⟨rfl,⟨nd,rfl⟩⟩) | (go_at_call 80;(with_reducible refine (impl_urlText.calls a0_0 a0_1 a0_2 a0_3 a0_4 false t336 _ A75.out (HTB_.out.below (by first | (with_reducible exact Below.refl _ _) | (repeat (first | (with_reducible first | exact HB.out | exact Below.refl _ _ | apply below_alloc | apply pw_below_drewN | apply below_drew1 | refine below_set ?_ GE320.out) | exact HB.out)) | (repeat (first | exact Below.refl _ _ | apply below_alloc | apply pw_below_drewN | apply below_drew1 | refine below_set ?_ GE320.out))))).mono ?_);rintro e w80 ⟨rfl,hb⟩;replace BK320:=xbb_ BK320 hb;replace HB:=xws_ HB hb;(try clear hb)))
           go_ret
           exact ⟨mf_,xw_ HB⟩
          ·rw [if_neg c74] at H
           have c74b0 : (a0_4.toList == ([] : List UInt8)) = false:=beq_eq_false_iff_ne.mpr c74
           have c74b1 : (a0_4.toList != ([] : List UInt8)) = true:=bne_iff_ne.mpr c74
           obtain rfl:=Option.some.inj H
           go_enter Tryz.func74,Tryz.ntmps74
           go_wp2_with (first | ((with_reducible refine gd_ 1 ?_);(try (refine gate_guard (by rfl) ?_;dsimp only));refine xbe_ (N:=1) (cs:=#[.string a0_0,.string a0_1,.int .i64 a0_2,.string a0_3,.string a0_4,.bool false]) (t:=31) ?_;intro gb320 hg w81 hbox hb;have BK320:=Aside0.mk (hbox);have GE320:=xge_ HB hg;replace HB:=xws_ HB hb;clear hb hbox hg;have ⟨_,_,_,_,_,_,_,_,_,_,_,_⟩:=c6_ BK320) | (go_at_call 119;(with_reducible refine (impl_within.calls (a0_1.size : Int) 1 60 true _ A55.out).mono ?_);rintro e w' ⟨rfl,⟨nd,rfl⟩⟩) | (go_at_call 120;(with_reducible refine (xBytes_impl_GoodUrl_1.calls a0_1  true _ A57.out).mono ?_);rintro e w83 ⟨rfl,hb⟩;replace BK320:=xbb_ BK320 hb;replace HB:=xws_ HB hb;(try clear hb);have ⟨_,_,_,_,_,_,_,_,_,_,_,_⟩:=c6_ BK320) | (go_at_call 119;(with_reducible refine (impl_within.calls a0_2 0 65535 true _ A59.out).mono ?_);rintro e w' ⟨rfl,⟨nd,rfl⟩⟩) | (go_at_call 123;(with_reducible refine (strings_HasPrefix.calls a0_3 (⟨#[47]⟩ : ByteArray) true _ A61.out).mono ?_);rintro e w' ⟨rfl,⟨nd,rfl⟩⟩) | (go_at_call 124;(with_reducible refine (impl_arePchars.calls k a0_3 (⟨#[47]⟩ : ByteArray) true _ A63.out).mono ?_);rintro e w' ⟨rfl,⟨nd,rfl⟩⟩) | (go_at_call 124;(with_reducible refine (impl_arePchars.calls k a0_4 (⟨#[47,63]⟩ : ByteArray) true _ A65.out).mono ?_);rintro e w' ⟨rfl,⟨nd,rfl⟩⟩))
           go_ret
           exact ⟨mf_,xw_ HB⟩
        ·replace c66:=Bool.eq_false_iff.mpr c66
         subst c66
         rw [if_neg (show ¬ (false = true) by decide)] at H
         obtain rfl:=Option.some.inj H
         go_enter Tryz.func74,Tryz.ntmps74
         go_wp2_with (first | ((with_reducible refine gd_ 1 ?_);(try (refine gate_guard (by rfl) ?_;dsimp only));refine xbe_ (N:=1) (cs:=#[.string a0_0,.string a0_1,.int .i64 a0_2,.string a0_3,.string a0_4,.bool a0_5]) (t:=31) ?_;intro gb320 hg w85 hbox hb;have BK320:=Aside0.mk (hbox);have GE320:=xge_ HB hg;replace HB:=xws_ HB hb;clear hb hbox hg;have ⟨_,_,_,_,_,_,_,_,_,_,_,_⟩:=c6_ BK320) | (go_at_call 119;(with_reducible refine (impl_within.calls (a0_1.size : Int) 1 60 true _ A55.out).mono ?_);rintro e w' ⟨rfl,⟨nd,rfl⟩⟩) | (go_at_call 120;(with_reducible refine (xBytes_impl_GoodUrl_1.calls a0_1  true _ A57.out).mono ?_);rintro e w87 ⟨rfl,hb⟩;replace BK320:=xbb_ BK320 hb;replace HB:=xws_ HB hb;(try clear hb);have ⟨_,_,_,_,_,_,_,_,_,_,_,_⟩:=c6_ BK320) | (go_at_call 119;(with_reducible refine (impl_within.calls a0_2 0 65535 true _ A59.out).mono ?_);rintro e w' ⟨rfl,⟨nd,rfl⟩⟩) | (go_at_call 123;(with_reducible refine (strings_HasPrefix.calls a0_3 (⟨#[47]⟩ : ByteArray) true _ A61.out).mono ?_);rintro e w' ⟨rfl,⟨nd,rfl⟩⟩) | (go_at_call 124;(with_reducible refine (impl_arePchars.calls k a0_3 (⟨#[47]⟩ : ByteArray) true _ A63.out).mono ?_);rintro e w' ⟨rfl,⟨nd,rfl⟩⟩) | (go_at_call 124;(with_reducible refine (impl_arePchars.calls k a0_4 (⟨#[47,63]⟩ : ByteArray) false _ A65.out).mono ?_);rintro e w' ⟨rfl,⟨nd,rfl⟩⟩))
         go_ret
         exact ⟨mf_,xw_ HB⟩
       ·replace c64:=Bool.eq_false_iff.mpr c64
        subst c64
        rw [if_neg (show ¬ (false = true) by decide)] at H
        obtain rfl:=Option.some.inj H
        go_enter Tryz.func74,Tryz.ntmps74
        go_wp2_with (first | ((with_reducible refine gd_ 1 ?_);(try (refine gate_guard (by rfl) ?_;dsimp only));refine xbe_ (N:=1) (cs:=#[.string a0_0,.string a0_1,.int .i64 a0_2,.string a0_3,.string a0_4,.bool a0_5]) (t:=31) ?_;intro gb320 hg w89 hbox hb;have BK320:=Aside0.mk (hbox);have GE320:=xge_ HB hg;replace HB:=xws_ HB hb;clear hb hbox hg;have ⟨_,_,_,_,_,_,_,_,_,_,_,_⟩:=c6_ BK320) | (go_at_call 119;(with_reducible refine (impl_within.calls (a0_1.size : Int) 1 60 true _ A55.out).mono ?_);rintro e w' ⟨rfl,⟨nd,rfl⟩⟩) | (go_at_call 120;(with_reducible refine (xBytes_impl_GoodUrl_1.calls a0_1  true _ A57.out).mono ?_);rintro e w91 ⟨rfl,hb⟩;replace BK320:=xbb_ BK320 hb;replace HB:=xws_ HB hb;(try clear hb);have ⟨_,_,_,_,_,_,_,_,_,_,_,_⟩:=c6_ BK320) | (go_at_call 119;(with_reducible refine (impl_within.calls a0_2 0 65535 true _ A59.out).mono ?_);rintro e w' ⟨rfl,⟨nd,rfl⟩⟩) | (go_at_call 123;(with_reducible refine (strings_HasPrefix.calls a0_3 (⟨#[47]⟩ : ByteArray) true _ A61.out).mono ?_);rintro e w' ⟨rfl,⟨nd,rfl⟩⟩) | (go_at_call 124;(with_reducible refine (impl_arePchars.calls k a0_3 (⟨#[47]⟩ : ByteArray) false _ A63.out).mono ?_);rintro e w' ⟨rfl,⟨nd,rfl⟩⟩))
        go_ret
        exact ⟨mf_,xw_ HB⟩
      ·replace c62:=Bool.eq_false_iff.mpr c62
       subst c62
       rw [if_neg (show ¬ (false = true) by decide)] at H
       obtain rfl:=Option.some.inj H
       go_enter Tryz.func74,Tryz.ntmps74
       go_wp2_with (first | ((with_reducible refine gd_ 1 ?_);(try (refine gate_guard (by rfl) ?_;dsimp only));refine xbe_ (N:=1) (cs:=#[.string a0_0,.string a0_1,.int .i64 a0_2,.string a0_3,.string a0_4,.bool a0_5]) (t:=31) ?_;intro gb320 hg w93 hbox hb;have BK320:=Aside0.mk (hbox);have GE320:=xge_ HB hg;replace HB:=xws_ HB hb;clear hb hbox hg;have ⟨_,_,_,_,_,_,_,_,_,_,_,_⟩:=c6_ BK320) | (go_at_call 119;(with_reducible refine (impl_within.calls (a0_1.size : Int) 1 60 true _ A55.out).mono ?_);rintro e w' ⟨rfl,⟨nd,rfl⟩⟩) | (go_at_call 120;(with_reducible refine (xBytes_impl_GoodUrl_1.calls a0_1  true _ A57.out).mono ?_);rintro e w95 ⟨rfl,hb⟩;replace BK320:=xbb_ BK320 hb;replace HB:=xws_ HB hb;(try clear hb);have ⟨_,_,_,_,_,_,_,_,_,_,_,_⟩:=c6_ BK320) | (go_at_call 119;(with_reducible refine (impl_within.calls a0_2 0 65535 true _ A59.out).mono ?_);rintro e w' ⟨rfl,⟨nd,rfl⟩⟩) | (go_at_call 123;(with_reducible refine (strings_HasPrefix.calls a0_3 (⟨#[47]⟩ : ByteArray) false _ A61.out).mono ?_);rintro e w' ⟨rfl,⟨nd,rfl⟩⟩))
       go_ret
       exact ⟨mf_,xw_ HB⟩
     ·replace c60:=Bool.eq_false_iff.mpr c60
      subst c60
      rw [if_neg (show ¬ (false = true) by decide)] at H
      obtain rfl:=Option.some.inj H
      go_enter Tryz.func74,Tryz.ntmps74
      go_wp2_with (first | ((with_reducible refine gd_ 1 ?_);(try (refine gate_guard (by rfl) ?_;dsimp only));refine xbe_ (N:=1) (cs:=#[.string a0_0,.string a0_1,.int .i64 a0_2,.string a0_3,.string a0_4,.bool a0_5]) (t:=31) ?_;intro gb320 hg w97 hbox hb;have BK320:=Aside0.mk (hbox);have GE320:=xge_ HB hg;replace HB:=xws_ HB hb;clear hb hbox hg;have ⟨_,_,_,_,_,_,_,_,_,_,_,_⟩:=c6_ BK320) | (go_at_call 119;(with_reducible refine (impl_within.calls (a0_1.size : Int) 1 60 true _ A55.out).mono ?_);rintro e w' ⟨rfl,⟨nd,rfl⟩⟩) | (go_at_call 120;(with_reducible refine (xBytes_impl_GoodUrl_1.calls a0_1  true _ A57.out).mono ?_);rintro e w99 ⟨rfl,hb⟩;replace BK320:=xbb_ BK320 hb;replace HB:=xws_ HB hb;(try clear hb);have ⟨_,_,_,_,_,_,_,_,_,_,_,_⟩:=c6_ BK320) | (go_at_call 119;(with_reducible refine (impl_within.calls a0_2 0 65535 false _ A59.out).mono ?_);rintro e w' ⟨rfl,⟨nd,rfl⟩⟩))
      go_ret
      exact ⟨mf_,xw_ HB⟩
    ·replace c58:=Bool.eq_false_iff.mpr c58
     subst c58
     rw [if_neg (show ¬ (false = true) by decide)] at H
     obtain rfl:=Option.some.inj H
     go_enter Tryz.func74,Tryz.ntmps74
     go_wp2_with (first | ((with_reducible refine gd_ 1 ?_);(try (refine gate_guard (by rfl) ?_;dsimp only));refine xbe_ (N:=1) (cs:=#[.string a0_0,.string a0_1,.int .i64 a0_2,.string a0_3,.string a0_4,.bool a0_5]) (t:=31) ?_;intro gb320 hg w101 hbox hb;have BK320:=Aside0.mk (hbox);have GE320:=xge_ HB hg;replace HB:=xws_ HB hb;clear hb hbox hg;have ⟨_,_,_,_,_,_,_,_,_,_,_,_⟩:=c6_ BK320) | (go_at_call 119;(with_reducible refine (impl_within.calls (a0_1.size : Int) 1 60 true _ A55.out).mono ?_);rintro e w' ⟨rfl,⟨nd,rfl⟩⟩) | (go_at_call 120;(with_reducible refine (xBytes_impl_GoodUrl_1.calls a0_1  false _ A57.out).mono ?_);rintro e w103 ⟨rfl,hb⟩;replace BK320:=xbb_ BK320 hb;replace HB:=xws_ HB hb;(try clear hb)))
     go_ret
     exact ⟨mf_,xw_ HB⟩
   ·replace c56:=Bool.eq_false_iff.mpr c56
    subst c56
    rw [if_neg (show ¬ (false = true) by decide)] at H
    obtain rfl:=Option.some.inj H
    go_enter Tryz.func74,Tryz.ntmps74
    go_wp2_with (first | ((with_reducible refine gd_ 1 ?_);(try (refine gate_guard (by rfl) ?_;dsimp only));refine xbe_ (N:=1) (cs:=#[.string a0_0,.string a0_1,.int .i64 a0_2,.string a0_3,.string a0_4,.bool a0_5]) (t:=31) ?_;intro gb320 hg w104 hbox hb;have BK320:=Aside0.mk (hbox);have GE320:=xge_ HB hg;replace HB:=xws_ HB hb;clear hb hbox hg;have ⟨_,_,_,_,_,_,_,_,_,_,_,_⟩:=c6_ BK320) | (go_at_call 119;(with_reducible refine (impl_within.calls (a0_1.size : Int) 1 60 false _ A55.out).mono ?_);rintro e w' ⟨rfl,⟨nd,rfl⟩⟩))
    go_ret
    exact ⟨mf_,xw_ HB⟩
  ·rw [if_neg c54] at H
   have c54b0 : (a0_0.toList == ([104,116,116,112,115] : List UInt8)) = false:=beq_eq_false_iff_ne.mpr c54
   have c54b1 : (a0_0.toList != ([104,116,116,112,115] : List UInt8)) = true:=bne_iff_ne.mpr c54
   obtain rfl:=Option.some.inj H
   go_enter Tryz.func74,Tryz.ntmps74
   go_wp2_with (first | ((with_reducible refine gd_ 1 ?_);(try (refine gate_guard (by rfl) ?_;dsimp only));refine xbe_ (N:=1) (cs:=#[.string a0_0,.string a0_1,.int .i64 a0_2,.string a0_3,.string a0_4,.bool a0_5]) (t:=31) ?_;intro gb320 hg w106 hbox hb;have BK320:=Aside0.mk (hbox);have GE320:=xge_ HB hg;replace HB:=xws_ HB hb;clear hb hbox hg;have ⟨_,_,_,_,_,_,_,_,_,_,_,_⟩:=c6_ BK320))
   go_ret
   exact ⟨mf_,xw_ HB⟩

/-! ### strings_Cut: function 126 -/
def strings_Cut.f (a0 a1 : ByteArray) : Option (ByteArray × ByteArray × Bool):=if a0.size < 1000000000 then some (⟨(Lib.cut a0.data.toList a1.data.toList).1.toArray⟩,⟨(Lib.cut a0.data.toList a1.data.toList).2.1.toArray⟩,(Lib.cut a0.data.toList a1.data.toList).2.2) else none
theorem strings_Cut.calls (a0 a1 : ByteArray) (r1 r2 : ByteArray) (r3 : Bool) (w : World) (h : strings_Cut.f a0 a1 = some (r1,r2,r3)) (hT : TabOk w) :
    Calls Tryz.prog 126 #[.string a0,.string a1] w fun e w' => e = .returned (.tuple #[.string r1,.string r2,.bool r3]) ∧ Below w.heap.size w w':=by
  unfold strings_Cut.f at h
  by_cases c : a0.size < 1000000000
  · rw [if_pos c] at h
    obtain ⟨rfl,rfl,rfl⟩:=(show _ = _ ∧ _ = _ ∧ _ = _ from by simpa using Option.some.inj h)
    obtain ⟨m,hm⟩:=hT.1
    exact (Tryz.strings_Cut a0 a1 m w (by omega) hm).mono fun e w' hq => ⟨hq.1,(Drawn0.mk hq.2).below⟩
  · rw [if_neg c] at h;cases h

/-! ### strconv_Atoi: function 199 -/
def strconv_Atoi.f (a0 : ByteArray) : Option (Int × Option Int):=if a0.size < 1000000000000 then (match Lib.atoiAll a0.data.toList with | .ok v => some (v,none) | .«syntax» => some (0,some 0) | .range => some (Lib.atoiSat a0.data.toList,some 0)) else none
theorem strconv_Atoi.calls (a0 : ByteArray) (r1 : Int) (r2 : Option Int) (w : World) (h : strconv_Atoi.f a0 = some (r1,r2)) (hn : r2 = none:=by rfl) :
    Calls Tryz.prog 199 #[.string a0] w fun e w' => e = .returned (.tuple #[.int .i64 r1,errW r2]) ∧ Below w.heap.size w w':=by
  subst hn
  unfold strconv_Atoi.f at h
  by_cases c : a0.size < 1000000000000
  · rw [if_pos c] at h
    cases hq : Lib.atoiAll a0.data.toList with
    | ok v =>
      rw [hq] at h
      obtain ⟨rfl,_⟩:=Prod.mk.inj (Option.some.inj h)
      refine (Tryz.strconv_Atoi_ok a0 (by omega) v hq w).mono fun e w' hq => ⟨hq.1,?_⟩
      rcases hq.2 with rfl | ⟨t,rfl⟩
      · exact Below.refl _ _
      · exact Lib.bytesWorld_below w 5 t
    | «syntax» => rw [hq] at h;exact absurd (congrArg Prod.snd (Option.some.inj h)) (by simp)
    | range => rw [hq] at h;exact absurd (congrArg Prod.snd (Option.some.inj h)) (by simp)
  · rw [if_neg c] at h;cases h
/-- where it is no numeral, or one too great: an error that is not nil -/
theorem strconv_AtoiF.calls (a0 : ByteArray) (r1 q : Int) (w : World) (h : strconv_Atoi.f a0 = some (r1,some q)) (hT : TabOk w) :
    Calls Tryz.prog 199 #[.string a0] w fun e w' => ∃ te pe,e = .returned (.tuple #[.int .i64 r1,.iface te pe]) ∧ Below w.heap.size w w':=by
  unfold strconv_Atoi.f at h
  by_cases c : a0.size < 1000000000000
  · rw [if_pos c] at h
    cases hq : Lib.atoiAll a0.data.toList with
    | ok v => rw [hq] at h;exact absurd (congrArg Prod.snd (Option.some.inj h)) (by simp)
    | «syntax» =>
      rw [hq] at h
      obtain ⟨rfl,_⟩:=Prod.mk.inj (Option.some.inj h)
      obtain ⟨ev,h1,h2⟩:=hT.syn
      exact (Tryz.strconv_Atoi_syntax a0 (by omega) hq ev w h1 h2).mono fun e w' ⟨N,he,_,_,hb⟩ => ⟨_,_,he,hb⟩
    | range =>
      rw [hq] at h
      obtain ⟨rfl,_⟩:=Prod.mk.inj (Option.some.inj h)
      obtain ⟨ev,h1,h2⟩:=hT.rng
      exact (Tryz.strconv_Atoi_range a0 (by omega) hq ev w h1 h2).mono fun e w' ⟨N,he,_,_,hb⟩ => ⟨_,_,he,hb⟩
  · rw [if_neg c] at h;cases h

/-! ### impl_number: function 163 -/
def impl_number.f (a0 : ByteArray) : Option (Int × Bool):=(strconv_Atoi.f a0).bind fun bt337 => (if bt337.2.isNone = true then ((strconv_Itoa.f bt337.1).bind fun t340 => (if t340.toList = a0.toList then (some (bt337.1,decide (bt337.1 ≥ 0))) else (some (bt337.1,false)))) else (some (bt337.1,false)))
set_option maxHeartbeats 8000000 in
set_option maxRecDepth 100000 in
theorem impl_number.calls (a0 : ByteArray) (r1 : Int) (r2 : Bool) (w : World) (h : impl_number.f a0 = some (r1,r2)) (hT_ : TabOk w) :
  Calls Tryz.prog 163 #[.string a0] w fun e w' => e = .returned (.tuple #[.int .i64 r1,.bool r2]) ∧ Below w.heap.size w w':=by
 have HTB_:=Aside0.mk hT_
 clear hT_
 have hu147:=Tryz.underlying147
 have HB:=Aside0.mk (Below.refl w.heap.size w)
 have H:=h
 unfold impl_number.f at H
 clear h
 replace H:=mb_ H
 obtain ⟨⟨t337,t338⟩,A2,H⟩:=H
 dsimp only at H
 rcases t338 with _ | q339
 ·rw [if_pos (show (none : Option Int).isNone = true by rfl)] at H
  try simp only [errW_none,errW_some]
  replace H:=mb_ H
  obtain ⟨t340,A3,H⟩:=H
  by_cases c4 : t340.toList = a0.toList
  ·rw [if_pos c4] at H
   have c4b0 : (t340.toList == a0.toList) = true:=beq_iff_eq.mpr c4
   have c4b1 : (t340.toList != a0.toList) = false:=bne_eq_false_iff_eq.mpr c4
   clear c4
   simp only [Option.some.injEq,Prod.mk.injEq] at H
   obtain ⟨rfl,rfl⟩:=H
   go_enter Tryz.func163,Tryz.ntmps163
   go_wp2_with (first | ((with_reducible refine gc_ 199 ?_);refine xgl_ (some 8) Tryz.func199 #[.string a0] ?_;(with_reducible refine (strconv_Atoi.calls a0 t337 none _ A2.out).mono ?_);rintro e w5 ⟨rfl,hb⟩;refine ⟨_,rfl,?_⟩;replace HB:=xws_ HB hb;(try clear hb);(try simp only [errW_none,errW_some])) | (go_at_call 132;(with_reducible refine (strconv_Itoa.calls t337 t340 _ A3.out (HTB_.out.below (by first | (with_reducible exact Below.refl _ _) | (repeat (first | (with_reducible first | exact HB.out | exact Below.refl _ _ | apply below_alloc | apply pw_below_drewN | apply below_drew1) | exact HB.out)) | (repeat (first | exact Below.refl _ _ | apply below_alloc | apply pw_below_drewN | apply below_drew1))))).mono ?_);rintro e w6 ⟨rfl,hb⟩;replace HB:=xws_ HB hb;(try clear hb)))
   go_ret2
   exact ⟨mf_,xw_ HB⟩
  ·rw [if_neg c4] at H
   have c4b0 : (t340.toList == a0.toList) = false:=beq_eq_false_iff_ne.mpr c4
   have c4b1 : (t340.toList != a0.toList) = true:=bne_iff_ne.mpr c4
   simp only [Option.some.injEq,Prod.mk.injEq] at H
   obtain ⟨rfl,rfl⟩:=H
   go_enter Tryz.func163,Tryz.ntmps163
   go_wp2_with (first | ((with_reducible refine gc_ 199 ?_);refine xgl_ (some 8) Tryz.func199 #[.string a0] ?_;(with_reducible refine (strconv_Atoi.calls a0 t337 none _ A2.out).mono ?_);rintro e w7 ⟨rfl,hb⟩;refine ⟨_,rfl,?_⟩;replace HB:=xws_ HB hb;(try clear hb);(try simp only [errW_none,errW_some])) | (go_at_call 132;(with_reducible refine (strconv_Itoa.calls t337 t340 _ A3.out (HTB_.out.below (by first | (with_reducible exact Below.refl _ _) | (repeat (first | (with_reducible first | exact HB.out | exact Below.refl _ _ | apply below_alloc | apply pw_below_drewN | apply below_drew1) | exact HB.out)) | (repeat (first | exact Below.refl _ _ | apply below_alloc | apply pw_below_drewN | apply below_drew1))))).mono ?_);rintro e w8 ⟨rfl,hb⟩;replace HB:=xws_ HB hb;(try clear hb)))
   go_ret2
   exact ⟨mf_,xw_ HB⟩
 ·rw [if_neg (show ¬ (some q339).isNone = true by simp)] at H
  try simp only [errW_none,errW_some]
  simp only [Option.some.injEq,Prod.mk.injEq] at H
  obtain ⟨rfl,rfl⟩:=H
  go_enter Tryz.func163,Tryz.ntmps163
  go_wp2_with (first | ((with_reducible refine gc_ 199 ?_);refine xgl_ (some 8) Tryz.func199 #[.string a0] ?_;(with_reducible refine (strconv_AtoiF.calls a0 t337 q339 _ A2.out (HTB_.out.below (by first | (with_reducible exact Below.refl _ _) | (repeat (first | (with_reducible first | exact HB.out | exact Below.refl _ _ | apply below_alloc | apply pw_below_drewN | apply below_drew1) | exact HB.out)) | (repeat (first | exact Below.refl _ _ | apply below_alloc | apply pw_below_drewN | apply below_drew1))))).mono ?_);rintro e w9 ⟨te_,pe_,rfl,hb⟩;refine ⟨_,rfl,?_⟩;replace HB:=xws_ HB hb;(try clear hb);(try simp only [errW_none,errW_some])))
  go_ret2
  exact ⟨mf_,xw_ HB⟩

/-! ### strings.IndexByte, its world named anew -/
def index_byte_in.f (a0 : ByteArray) (a1 : Int) : Option (Int):=strings_IndexByte.f a0 a1
theorem index_byte_in.calls (a0 : ByteArray) (a1 : Int) (r : Int) (w : World) (h : index_byte_in.f a0 a1 = some r) :
    Calls Tryz.prog 161 #[.string a0,.int .u8 a1] w fun e w' => e = .returned (.int .i64 r) ∧ Below w.heap.size w w' :=
  (strings_IndexByte.calls a0 a1 r w h).mono fun e w' hq => ⟨hq.1,hq.2.below⟩

end Go.Proofs.YtpggepjfhgalkaaGreatDoor.PFnExactKeyOf
