-- Written by a program of this project (xprint.py) out of the translation; Lean checks it.
import Derived.Test.YtpggepjfhgalkaaGreatDoorPFnExactKeyOfx0
import Derived.Test.YtpggepjfhgalkaaGreatDoorPFnExactKeyOfx14
import Derived.Test.YtpggepjfhgalkaaGreatDoorPFnExactKeyOfx16
import Derived.Test.YtpggepjfhgalkaaGreatDoorPFnExactKeyOfx17
namespace Go.Proofs.YtpggepjfhgalkaaGreatDoor.PFnExactKeyOf
open Go.RowKit Go.Proofs.YtpggepjfhgalkaaGreatDoorW.PrintWords Go.Proofs.YtpggepjfhgalkaaGreatDoorW.PrintLast Go.Proofs.YtpggepjfhgalkaaGreatDoorW.PrintMore
attribute [local go_sem] max2_int min2_int max_two min_two max_three min_three max_four min_four   -- for this text's walks alone
set_option linter.unusedVariables false
set_option linter.unusedSimpArgs false

/-! ### bytealg_LastIndexByteString: function 165 -/
def bytealg_LastIndexByteString.l0 : Nat → ByteArray → Int → Int → Option (Int)
 | 0,_,_,_ => none
 | k + 1,x0,x1,x5 => if x5 ≥ 0 then (if 0 ≤ x5 then (if x5 < (x0.size : Int) then (if (bt x0 x5) = x1 then (some x5) else (bytealg_LastIndexByteString.l0 k x0 x1 (wrap64 (x5 - 1)))) else (none)) else (none)) else (some (-1))
def bytealg_LastIndexByteString.f (k : Nat) (a0 : ByteArray) (a1 : Int) : Option (Int):=bytealg_LastIndexByteString.l0 k a0 a1 (wrap64 ((a0.size : Int) - 1))
set_option maxHeartbeats 8000000 in
set_option maxRecDepth 100000 in
theorem bytealg_LastIndexByteString.calls (k : Nat) (a0 : ByteArray) (a1 : Int) (r : Int) (w : World) (h : bytealg_LastIndexByteString.f k a0 a1 = some r) :
  Calls Tryz.prog 165 #[.string a0,.int .u8 a1] w fun e w' => e = .returned (.int .i64 r) ∧ Drawn0 w w':=by
 have H:=h
 unfold bytealg_LastIndexByteString.f at H
 clear h
 have H':=Aside0.mk H
 clear H
 go_enter Tryz.func165,Tryz.ntmps165
 go_wp2
 go_loopg [5] k (fun kq v5 w' => ∃ (x5_1 : Int),v5 = .int .i64 x5_1 ∧ Aside0 (bytealg_LastIndexByteString.l0 kq a0 a1 x5_1 = some r) ∧ Aside0 (kq ≤ k) ∧ Drawn0 w w')
 case atStart => exact ⟨(wrap64 ((a0.size : Int) - 1)),me_,H',⟨Nat.le_refl _⟩,by repeat (first | exact Drawn0.refl _ | apply Drawn0.step)⟩
 case round =>
  clear H'
  obtain ⟨x5_1,rfl,HA,HK1,⟨m1,rfl⟩⟩:=hrel
  cases gk with
  | zero => exact absurd HA.out (by simp [bytealg_LastIndexByteString.l0])
  | succ k1 =>
   have H:=HA.out
   clear HA
   simp only [bytealg_LastIndexByteString.l0] at H
   by_cases c3 : x5_1 ≥ 0
   ·rw [if_pos c3] at H
    have c3b0 : decide (0 ≤ x5_1) = true:=decide_eq_true c3
    clear c3
    replace H:=mi_ H
    obtain ⟨c4,H⟩:=H
    have c4b0:=decide_eq_true c4
    clear c4
    replace H:=mi_ H
    obtain ⟨c5,H⟩:=H
    have c5b0:=decide_eq_true c5
    clear c5
    by_cases c7 : (bt a0 x5_1) = a1
    ·rw [if_pos c7] at H
     have c7b0 : ((bt a0 x5_1) == a1) = true:=beq_iff_eq.mpr c7
     have c7b1 : ((bt a0 x5_1) != a1) = false:=bne_eq_false_iff_eq.mpr c7
     clear c7
     obtain rfl:=Option.some.inj H
     have p6 : 0 ≤ (x5_1 : Int):=md_
     have q6 : x5_1 < (a0.size : Int):=md_
     have hx6:=bt_at a0 x5_1
     replace p6:=eq_true p6
     replace q6:=eq_true q6
     go_wp2
     go_ret
     exact ⟨by first | rfl | (simp;done) | (simp [*];done),by repeat (first | exact Drawn0.refl _ | apply Drawn0.step)⟩
    ·rw [if_neg c7] at H
     have c7b0 : ((bt a0 x5_1) == a1) = false:=beq_eq_false_iff_ne.mpr c7
     have c7b1 : ((bt a0 x5_1) != a1) = true:=bne_iff_ne.mpr c7
     have H':=Aside0.mk H
     clear H
     have p6 : 0 ≤ (x5_1 : Int):=md_
     have q6 : x5_1 < (a0.size : Int):=md_
     have hx6:=bt_at a0 x5_1
     replace p6:=eq_true p6
     replace q6:=eq_true q6
     go_wp2
     go_roundg k1
     case measure => have:=HK1.out;omega
     case rel => exact ⟨(wrap64 (x5_1 - 1)),me_,H',⟨by have:=HK1.out;omega⟩,by repeat (first | exact Drawn0.refl _ | apply Drawn0.step)⟩
   ·rw [if_neg c3] at H
    have c3b0 : decide (0 ≤ x5_1) = false:=decide_eq_false c3
    clear c3
    obtain rfl:=Option.some.inj H
    go_wp2
    go_ret
    exact ⟨by first | rfl | (simp;done) | (simp [*];done),by repeat (first | exact Drawn0.refl _ | apply Drawn0.step)⟩

/-! ### strings_LastIndexByte: function 127 -/
def strings_LastIndexByte.f (k : Nat) (a0 : ByteArray) (a1 : Int) : Option (Int):=(bytealg_LastIndexByteString.f k a0 a1).bind fun t357 => (some t357)
set_option maxHeartbeats 8000000 in
set_option maxRecDepth 100000 in
theorem strings_LastIndexByte.calls (k : Nat) (a0 : ByteArray) (a1 : Int) (r : Int) (w : World) (h : strings_LastIndexByte.f k a0 a1 = some r) :
  Calls Tryz.prog 127 #[.string a0,.int .u8 a1] w fun e w' => e = .returned (.int .i64 r) ∧ Drawn0 w w':=by
 have H:=h
 unfold strings_LastIndexByte.f at H
 clear h
 replace H:=mb_ H
 obtain ⟨t357,A3,H⟩:=H
 obtain rfl:=Option.some.inj H
 go_enter Tryz.func127,Tryz.ntmps127
 go_wp2_with (first | ((with_reducible refine gc_ 165 ?_);refine xgl_ (some 7) Tryz.func165 #[.string a0,.int .u8 a1] ?_;(with_reducible refine (bytealg_LastIndexByteString.calls k a0 a1 t357 _ A3.out).mono ?_);rintro e w' ⟨rfl,⟨nd,rfl⟩⟩;refine ⟨_,rfl,?_⟩))
 go_ret
 exact ⟨by first | rfl | (simp;done) | (simp [*];done),by repeat (first | exact Drawn0.refl _ | apply Drawn0.step)⟩

/-! ### strings.HasPrefix, its world named anew -/
def has_prefix_in.f (a0 : ByteArray) (a1 : ByteArray) : Option (Bool):=strings_HasPrefix.f a0 a1
theorem has_prefix_in.calls (a0 : ByteArray) (a1 : ByteArray) (r : Bool) (w : World) (h : has_prefix_in.f a0 a1 = some r) :
    Calls Tryz.prog 123 #[.string a0,.string a1] w fun e w' => e = .returned (.bool r) ∧ Below w.heap.size w w' :=
  (strings_HasPrefix.calls a0 a1 r w h).mono fun e w' hq => ⟨hq.1,hq.2.below⟩

/-! ### impl_resolved: function 75 -/
def impl_resolved.f (k : Nat) (a0_0 : ByteArray) (a0_1 : ByteArray) (a0_2 : Int) (a0_3 : ByteArray) (a0_4 : ByteArray) (a0_5 : Bool) (a1 : ByteArray) : Option (ByteArray × ByteArray × Int × ByteArray × ByteArray × Bool × Bool):=(impl_ReadUrl.f k a1).bind fun bt360 => (if bt360.2.2.2.2.2.2 = true then (some (bt360.1,bt360.2.1,bt360.2.2.1,bt360.2.2.2.1,bt360.2.2.2.2.1,bt360.2.2.2.2.2.1,true)) else ((has_prefix_in.f a1 (⟨#[47,47]⟩ : ByteArray)).bind fun t368 => (if t368 = true then (if a0_0.size + 1 ≤ 9223372036854775807 then (if (a0_0 ++ (⟨#[58]⟩ : ByteArray)).size + a1.size ≤ 9223372036854775807 then ((impl_ReadUrl.f k ((a0_0 ++ (⟨#[58]⟩ : ByteArray)) ++ a1)).bind fun bt369 => (some (bt369.1,bt369.2.1,bt369.2.2.1,bt369.2.2.2.1,bt369.2.2.2.2.1,bt369.2.2.2.2.2.1,bt369.2.2.2.2.2.2))) else (none)) else (none)) else ((strings_Cut.f a1 (⟨#[63]⟩ : ByteArray)).bind fun bt376 => ((has_prefix_in.f bt376.1 (⟨#[47]⟩ : ByteArray)).bind fun t380 => (if t380 = true then (some (a0_0,a0_1,a0_2,bt376.1,bt376.2.1,bt376.2.2,true)) else (if bt376.1.toList = ([] : List UInt8) then (some (a0_0,a0_1,a0_2,a0_3,bt376.2.1,bt376.2.2,true)) else ((strings_LastIndexByte.f k a0_3 47).bind fun t381 => (if 0 ≤ (wrap64 (t381 + 1)) then (if (wrap64 (t381 + 1)) ≤ (a0_3.size : Int) then (if (a0_3.extract 0 ((wrap64 (t381 + 1)) : Int).toNat).size + bt376.1.size ≤ 9223372036854775807 then (some (a0_0,a0_1,a0_2,(a0_3.extract 0 ((wrap64 (t381 + 1)) : Int).toNat) ++ bt376.1,bt376.2.1,bt376.2.2,true)) else (none)) else (none)) else (none))))))))))
def impl_resolved.T12 : Bool × List (List Nat × List Nat):=(true,[([],[]),([0],[0]),([],[]),([2],[2]),([3],[3]),([4],[4]),([1,5],[1,5]),([],[]),([6,7],[6,7]),([0,1,2,3,4,5,6,7,8],[]),([9,8,4,0,1,2,3,4,5,6,7,8],[8,9])])
def impl_resolved.B12 : List Nat:=[0,1,0,4,12,28,63,0,255,511,1023]
theorem impl_resolved.tab12 : rtab .any (opsOf Tryz.f75 12) = impl_resolved.T12:=by kernel_rfl
theorem impl_resolved.bits12 : waitsOk impl_resolved.T12.2 impl_resolved.B12 = true:=by kernel_rfl
set_option maxHeartbeats 8000000 in
set_option maxRecDepth 100000 in
theorem impl_resolved.calls (k : Nat) (a0_0 : ByteArray) (a0_1 : ByteArray) (a0_2 : Int) (a0_3 : ByteArray) (a0_4 : ByteArray) (a0_5 : Bool) (a1 : ByteArray) (r1 : ByteArray) (r2 : ByteArray) (r3 : Int) (r4 : ByteArray) (r5 : ByteArray) (r6 : Bool) (r7 : Bool) (w : World) (h : impl_resolved.f k a0_0 a0_1 a0_2 a0_3 a0_4 a0_5 a1 = some (r1,r2,r3,r4,r5,r6,r7)) (hT_ : TabOk w) :
  Calls Tryz.prog 75 #[.agg #[.string a0_0,.string a0_1,.int .i64 a0_2,.string a0_3,.string a0_4,.bool a0_5],.string a1] w fun e w' => e = .returned (.tuple #[.agg #[.string r1,.string r2,.int .i64 r3,.string r4,.string r5,.bool r6],.bool r7]) ∧ Below w.heap.size w w':=by
 have HTB_:=Aside0.mk hT_
 clear hT_
 have hu31:=Tryz.underlying31
 have HB:=Aside0.mk (Below.refl w.heap.size w)
 have H:=h
 unfold impl_resolved.f at H
 clear h
 replace H:=mb_ H
 obtain ⟨⟨t360,t361,t362,t363,t364,t365,t366⟩,A3,H⟩:=H
 dsimp only at H
 by_cases c4 : t366 = true
 ·subst c4
  rw [if_pos rfl] at H
  simp only [Option.some.injEq,Prod.mk.injEq] at H
  obtain ⟨rfl,rfl,rfl,rfl,rfl,rfl,rfl⟩:=H
  go_enter Tryz.func75,Tryz.ntmps75
  go_wp2_with (first | ((with_reducible refine gd_ 2 ?_);refine xbe_ (N:=2) (cs:=#[.string a0_0,.string a0_1,.int .i64 a0_2,.string a0_3,.string a0_4,.bool a0_5]) (t:=31) ?_;intro gb358 hg w5 hbox hb;have BK358:=Aside0.mk (hbox);have GE358:=xge_ HB hg;replace HB:=xws_ HB hb;clear hb hbox hg) | ((with_reducible refine gd_ 4 ?_);refine xbe_ (N:=4) (cs:=#[.string (⟨#[]⟩ : ByteArray),.string (⟨#[]⟩ : ByteArray),.int .i64 0,.string (⟨#[]⟩ : ByteArray),.string (⟨#[]⟩ : ByteArray),.bool false]) (t:=31) ?_;intro gb359 hg w6 hbox hb;have BK359:=Aside0.mk (hbox);have GE359:=xge_ HB hg;replace HB:=xws_ HB hb;have NB358_359:=xlt_ BK358 hg;have NB359_358:=xgt_ BK358 hg;replace BK358:=xbb_ BK358 hb;clear hb hbox hg) | ((with_reducible refine gc_ 125 ?_);refine xgl_ (some 14) Tryz.func125 #[.string a1] ?_;(with_reducible refine (impl_ReadUrl.calls k a1 t360 t361 t362 t363 t364 t365 true _ A3.out (HTB_.out.below (by first | (with_reducible exact Below.refl _ _) | (repeat (first | (with_reducible first | exact HB.out | exact Below.refl _ _ | apply below_alloc | apply pw_below_drewN | apply below_drew1 | refine below_set ?_ GE358.out | refine below_set ?_ GE359.out | refine below_set ?_ GE367.out | refine below_set ?_ GE379.out) | exact HB.out)) | (repeat (first | exact Below.refl _ _ | apply below_alloc | apply pw_below_drewN | apply below_drew1 | refine below_set ?_ GE358.out | refine below_set ?_ GE359.out | refine below_set ?_ GE367.out | refine below_set ?_ GE379.out))))).mono ?_);rintro e w7 ⟨rfl,hb⟩;refine ⟨_,rfl,?_⟩;replace BK358:=xbb_ BK358 hb;replace BK359:=xbb_ BK359 hb;replace HB:=xws_ HB hb;(try clear hb)) | ((with_reducible refine gd_ 6 ?_);refine xbe_ (N:=6) (cs:=#[.string (⟨#[]⟩ : ByteArray),.string (⟨#[]⟩ : ByteArray),.int .i64 0,.string (⟨#[]⟩ : ByteArray),.string (⟨#[]⟩ : ByteArray),.bool false]) (t:=31) ?_;intro gb367 hg w8 hbox hb;have BK367:=Aside0.mk (hbox);have GE367:=xge_ HB hg;replace HB:=xws_ HB hb;have NB358_367:=xlt_ BK358 hg;have NB367_358:=xgt_ BK358 hg;replace BK358:=xbb_ BK358 hb;have NB359_367:=xlt_ BK359 hg;have NB367_359:=xgt_ BK359 hg;replace BK359:=xbb_ BK359 hb;clear hb hbox hg;have hnb9:=NB367_358.out;have hnc9:=NB358_367.out;have hnb10:=NB367_359.out;have hnc10:=NB359_367.out;have ⟨_,_,_,_,_,_,_,_,_,_,_,_⟩:=c6_ BK367;have hnb12:=NB359_358.out;have hnc12:=NB358_359.out;have ⟨_,_,_,_,_,_,_,_,_,_,_,_⟩:=c6_ BK359))
  refine bodyPost_ret (results_ct rfl _ _ gb359 31 #[.string t360,.string t361,.int .i64 t362,.string t363,.string t364,.bool t365] (0,0) _ rfl (mx_ BK359) Tryz.underlying31 rfl (by kernel_rfl)) rfl ?_
  exact ⟨mf_,xw_ HB⟩
 ·replace c4:=Bool.eq_false_iff.mpr c4
  subst c4
  rw [if_neg (show ¬ (false = true) by decide)] at H
  replace H:=mb_ H
  obtain ⟨t368,A14,H⟩:=H
  by_cases c15 : t368 = true
  ·subst c15
   rw [if_pos rfl] at H
   replace H:=mi_ H
   obtain ⟨c16,H⟩:=H
   have c16b0:=eq_true c16
   have c16b1:=decide_eq_true c16
   try have c16b2 : (9223372036854775807 < a0_0.size + 1) = False:=eq_false (Nat.not_lt.2 c16)
   replace H:=mi_ H
   obtain ⟨c17,H⟩:=H
   have c17b0:=eq_true c17
   have c17b1:=decide_eq_true c17
   try have c17b2 : (9223372036854775807 < (a0_0 ++ (⟨#[58]⟩ : ByteArray)).size + a1.size) = False:=eq_false (Nat.not_lt.2 c17)
   try have c17b3 : (9223372036854775807 < a0_0.size + 1 + a1.size) = False:=eq_false (Nat.not_lt.2 (by have z_:=c17;simp only [ByteArray.size_append] at z_;exact z_))
   replace H:=mb_ H
   obtain ⟨⟨t369,t370,t371,t372,t373,t374,t375⟩,A18,H⟩:=H
   dsimp only at H
   simp only [Option.some.injEq,Prod.mk.injEq] at H
   obtain ⟨rfl,rfl,rfl,rfl,rfl,rfl,rfl⟩:=H
   go_enter Tryz.func75,Tryz.ntmps75
   go_wp2_with (first | ((with_reducible refine gd_ 2 ?_);refine xbe_ (N:=2) (cs:=#[.string a0_0,.string a0_1,.int .i64 a0_2,.string a0_3,.string a0_4,.bool a0_5]) (t:=31) ?_;intro gb358 hg w19 hbox hb;have BK358:=Aside0.mk (hbox);have GE358:=xge_ HB hg;replace HB:=xws_ HB hb;clear hb hbox hg) | ((with_reducible refine gd_ 4 ?_);refine xbe_ (N:=4) (cs:=#[.string (⟨#[]⟩ : ByteArray),.string (⟨#[]⟩ : ByteArray),.int .i64 0,.string (⟨#[]⟩ : ByteArray),.string (⟨#[]⟩ : ByteArray),.bool false]) (t:=31) ?_;intro gb359 hg w20 hbox hb;have BK359:=Aside0.mk (hbox);have GE359:=xge_ HB hg;replace HB:=xws_ HB hb;have NB358_359:=xlt_ BK358 hg;have NB359_358:=xgt_ BK358 hg;replace BK358:=xbb_ BK358 hb;clear hb hbox hg) | ((with_reducible refine gc_ 125 ?_);refine xgl_ (some 14) Tryz.func125 #[.string a1] ?_;(with_reducible refine (impl_ReadUrl.calls k a1 t360 t361 t362 t363 t364 t365 false _ A3.out (HTB_.out.below (by first | (with_reducible exact Below.refl _ _) | (repeat (first | (with_reducible first | exact HB.out | exact Below.refl _ _ | apply below_alloc | apply pw_below_drewN | apply below_drew1 | refine below_set ?_ GE358.out | refine below_set ?_ GE359.out | refine below_set ?_ GE367.out | refine below_set ?_ GE379.out) | exact HB.out)) | (repeat (first | exact Below.refl _ _ | apply below_alloc | apply pw_below_drewN | apply below_drew1 | refine below_set ?_ GE358.out | refine below_set ?_ GE359.out | refine below_set ?_ GE367.out | refine below_set ?_ GE379.out))))).mono ?_);rintro e w21 ⟨rfl,hb⟩;refine ⟨_,rfl,?_⟩;replace BK358:=xbb_ BK358 hb;replace BK359:=xbb_ BK359 hb;replace HB:=xws_ HB hb;(try clear hb)) | ((with_reducible refine gd_ 6 ?_);refine xbe_ (N:=6) (cs:=#[.string (⟨#[]⟩ : ByteArray),.string (⟨#[]⟩ : ByteArray),.int .i64 0,.string (⟨#[]⟩ : ByteArray),.string (⟨#[]⟩ : ByteArray),.bool false]) (t:=31) ?_;intro gb367 hg w22 hbox hb;have BK367:=Aside0.mk (hbox);have GE367:=xge_ HB hg;replace HB:=xws_ HB hb;have NB358_367:=xlt_ BK358 hg;have NB367_358:=xgt_ BK358 hg;replace BK358:=xbb_ BK358 hb;have NB359_367:=xlt_ BK359 hg;have NB367_359:=xgt_ BK359 hg;replace BK359:=xbb_ BK359 hb;clear hb hbox hg;have hnb23:=NB367_358.out;have hnc23:=NB358_367.out;have hnb24:=NB367_359.out;have hnc24:=NB359_367.out;have ⟨_,_,_,_,_,_,_,_,_,_,_,_⟩:=c6_ BK367) | ((with_reducible refine gc_ 123 ?_);refine xgl_ (some 20) Tryz.func123 #[.string a1,.string (⟨#[47,47]⟩ : ByteArray)] ?_;(with_reducible refine (has_prefix_in.calls a1 (⟨#[47,47]⟩ : ByteArray) true _ A14.out).mono ?_);rintro e w26 ⟨rfl,hb⟩;refine ⟨_,rfl,?_⟩;replace BK358:=mxb_ (o':=.cells #[.string a0_0,.string a0_1,.int .i64 a0_2,.string a0_3,.string a0_4,.bool a0_5] 31 (0,0)) BK358 hb;replace BK359:=mxb_ (o':=.cells #[.string (⟨#[]⟩ : ByteArray),.string (⟨#[]⟩ : ByteArray),.int .i64 0,.string (⟨#[]⟩ : ByteArray),.string (⟨#[]⟩ : ByteArray),.bool false] 31 (0,0)) BK359 hb;replace BK367:=mxb_ (o':=.cells #[.string t360,.string t361,.int .i64 t362,.string t363,.string t364,.bool t365] 31 (0,0)) BK367 hb;replace HB:=xws_ HB hb;(try clear hb);have hnb27:=NB358_359.out;have hnc27:=NB359_358.out;have ⟨_,_,_,_,_,_,_,_,_,_,_,_⟩:=c6_ BK358) | ((with_reducible refine gc_ 125 ?_);refine xgl_ (some 26) Tryz.func125 #[.string ((a0_0 ++ (⟨#[58]⟩ : ByteArray)) ++ a1)] ?_;(with_reducible refine (impl_ReadUrl.calls k ((a0_0 ++ (⟨#[58]⟩ : ByteArray)) ++ a1) t369 t370 t371 t372 t373 t374 t375 _ A18.out (HTB_.out.below (by first | (with_reducible exact Below.refl _ _) | (repeat (first | (with_reducible first | exact HB.out | exact Below.refl _ _ | apply below_alloc | apply pw_below_drewN | apply below_drew1 | refine below_set ?_ GE358.out | refine below_set ?_ GE359.out | refine below_set ?_ GE367.out | refine below_set ?_ GE379.out) | exact HB.out)) | (repeat (first | exact Below.refl _ _ | apply below_alloc | apply pw_below_drewN | apply below_drew1 | refine below_set ?_ GE358.out | refine below_set ?_ GE359.out | refine below_set ?_ GE367.out | refine below_set ?_ GE379.out))))).mono ?_);rintro e w29 ⟨rfl,hb⟩;refine ⟨_,rfl,?_⟩;replace BK358:=xbb_ BK358 hb;replace BK359:=xbb_ BK359 hb;replace BK367:=xbb_ BK367 hb;replace HB:=xws_ HB hb;(try clear hb);have ⟨_,_,_,_,_,_,_,_,_,_,_,_⟩:=c6_ BK359))
   refine bodyPost_ret (results_ct rfl _ _ gb359 31 #[.string t369,.string t370,.int .i64 t371,.string t372,.string t373,.bool t374] (0,0) _ rfl (mx_ BK359) Tryz.underlying31 rfl (by kernel_rfl)) rfl ?_
   exact ⟨mf_,xw_ HB⟩
  ·replace c15:=Bool.eq_false_iff.mpr c15
   subst c15
   rw [if_neg (show ¬ (false = true) by decide)] at H
   replace H:=mb_ H
   obtain ⟨⟨t376,t377,t378⟩,A31,H⟩:=H
   dsimp only at H
   replace H:=mb_ H
   obtain ⟨t380,A32,H⟩:=H
   by_cases c33 : t380 = true
   ·subst c33
    rw [if_pos rfl] at H
    simp only [Option.some.injEq,Prod.mk.injEq] at H
    obtain ⟨rfl,rfl,rfl,rfl,rfl,rfl,rfl⟩:=H
    go_enter Tryz.func75,Tryz.ntmps75
    go_wp2_with (first | ((with_reducible refine gd_ 2 ?_);refine xbe_ (N:=2) (cs:=#[.string a0_0,.string a0_1,.int .i64 a0_2,.string a0_3,.string a0_4,.bool a0_5]) (t:=31) ?_;intro gb358 hg w34 hbox hb;have BK358:=Aside0.mk (hbox);have GE358:=xge_ HB hg;replace HB:=xws_ HB hb;clear hb hbox hg) | ((with_reducible refine gd_ 4 ?_);refine xbe_ (N:=4) (cs:=#[.string (⟨#[]⟩ : ByteArray),.string (⟨#[]⟩ : ByteArray),.int .i64 0,.string (⟨#[]⟩ : ByteArray),.string (⟨#[]⟩ : ByteArray),.bool false]) (t:=31) ?_;intro gb359 hg w35 hbox hb;have BK359:=Aside0.mk (hbox);have GE359:=xge_ HB hg;replace HB:=xws_ HB hb;have NB358_359:=xlt_ BK358 hg;have NB359_358:=xgt_ BK358 hg;replace BK358:=xbb_ BK358 hb;clear hb hbox hg) | ((with_reducible refine gc_ 125 ?_);refine xgl_ (some 14) Tryz.func125 #[.string a1] ?_;(with_reducible refine (impl_ReadUrl.calls k a1 t360 t361 t362 t363 t364 t365 false _ A3.out (HTB_.out.below (by first | (with_reducible exact Below.refl _ _) | (repeat (first | (with_reducible first | exact HB.out | exact Below.refl _ _ | apply below_alloc | apply pw_below_drewN | apply below_drew1 | refine below_set ?_ GE358.out | refine below_set ?_ GE359.out | refine below_set ?_ GE367.out | refine below_set ?_ GE379.out) | exact HB.out)) | (repeat (first | exact Below.refl _ _ | apply below_alloc | apply pw_below_drewN | apply below_drew1 | refine below_set ?_ GE358.out | refine below_set ?_ GE359.out | refine below_set ?_ GE367.out | refine below_set ?_ GE379.out))))).mono ?_);rintro e w36 ⟨rfl,hb⟩;refine ⟨_,rfl,?_⟩;replace BK358:=xbb_ BK358 hb;replace BK359:=xbb_ BK359 hb;replace HB:=xws_ HB hb;(try clear hb)) | ((with_reducible refine gd_ 6 ?_);refine xbe_ (N:=6) (cs:=#[.string (⟨#[]⟩ : ByteArray),.string (⟨#[]⟩ : ByteArray),.int .i64 0,.string (⟨#[]⟩ : ByteArray),.string (⟨#[]⟩ : ByteArray),.bool false]) (t:=31) ?_;intro gb367 hg w37 hbox hb;have BK367:=Aside0.mk (hbox);have GE367:=xge_ HB hg;replace HB:=xws_ HB hb;have NB358_367:=xlt_ BK358 hg;have NB367_358:=xgt_ BK358 hg;replace BK358:=xbb_ BK358 hb;have NB359_367:=xlt_ BK359 hg;have NB367_359:=xgt_ BK359 hg;replace BK359:=xbb_ BK359 hb;clear hb hbox hg;have hnb38:=NB367_358.out;have hnc38:=NB358_367.out;have hnb39:=NB367_359.out;have hnc39:=NB359_367.out;have ⟨_,_,_,_,_,_,_,_,_,_,_,_⟩:=c6_ BK367) | ((with_reducible refine gc_ 123 ?_);refine xgl_ (some 20) Tryz.func123 #[.string a1,.string (⟨#[47,47]⟩ : ByteArray)] ?_;(with_reducible refine (has_prefix_in.calls a1 (⟨#[47,47]⟩ : ByteArray) false _ A14.out).mono ?_);rintro e w41 ⟨rfl,hb⟩;refine ⟨_,rfl,?_⟩;replace BK358:=mxb_ (o':=.cells #[.string a0_0,.string a0_1,.int .i64 a0_2,.string a0_3,.string a0_4,.bool a0_5] 31 (0,0)) BK358 hb;replace BK359:=mxb_ (o':=.cells #[.string (⟨#[]⟩ : ByteArray),.string (⟨#[]⟩ : ByteArray),.int .i64 0,.string (⟨#[]⟩ : ByteArray),.string (⟨#[]⟩ : ByteArray),.bool false] 31 (0,0)) BK359 hb;replace BK367:=mxb_ (o':=.cells #[.string t360,.string t361,.int .i64 t362,.string t363,.string t364,.bool t365] 31 (0,0)) BK367 hb;replace HB:=xws_ HB hb;(try clear hb)) | ((with_reducible refine gc_ 126 ?_);refine xgl_ (some 31) Tryz.func126 #[.string a1,.string (⟨#[63]⟩ : ByteArray)] ?_;(with_reducible refine (strings_Cut.calls a1 (⟨#[63]⟩ : ByteArray) t376 t377 t378 _ A31.out (HTB_.out.below (by first | (with_reducible exact Below.refl _ _) | (repeat (first | (with_reducible first | exact HB.out | exact Below.refl _ _ | apply below_alloc | apply pw_below_drewN | apply below_drew1 | refine below_set ?_ GE358.out | refine below_set ?_ GE359.out | refine below_set ?_ GE367.out | refine below_set ?_ GE379.out) | exact HB.out)) | (repeat (first | exact Below.refl _ _ | apply below_alloc | apply pw_below_drewN | apply below_drew1 | refine below_set ?_ GE358.out | refine below_set ?_ GE359.out | refine below_set ?_ GE367.out | refine below_set ?_ GE379.out))))).mono ?_);rintro e w42 ⟨rfl,hb⟩;refine ⟨_,rfl,?_⟩;replace BK358:=xbb_ BK358 hb;replace BK359:=xbb_ BK359 hb;replace BK367:=xbb_ BK367 hb;replace HB:=xws_ HB hb;(try clear hb);have hnb43:=NB358_359.out;have hnc43:=NB359_358.out;have ⟨_,_,_,_,_,_,_,_,_,_,_,_⟩:=c6_ BK358) | ((with_reducible refine gd_ 11 ?_);refine xbe_ (N:=11) (cs:=#[.string (⟨#[]⟩ : ByteArray),.string (⟨#[]⟩ : ByteArray),.int .i64 0,.string (⟨#[]⟩ : ByteArray),.string (⟨#[]⟩ : ByteArray),.bool false]) (t:=31) ?_;intro gb379 hg w45 hbox hb;have BK379:=Aside0.mk (hbox);have GE379:=xge_ HB hg;replace HB:=xws_ HB hb;have NB358_379:=xlt_ BK358 hg;have NB379_358:=xgt_ BK358 hg;replace BK358:=xbb_ BK358 hb;have NB359_379:=xlt_ BK359 hg;have NB379_359:=xgt_ BK359 hg;replace BK359:=xbb_ BK359 hb;have NB367_379:=xlt_ BK367 hg;have NB379_367:=xgt_ BK367 hg;replace BK367:=xbb_ BK367 hb;clear hb hbox hg;have hnb46:=NB379_358.out;have hnc46:=NB358_379.out;have hnb47:=NB379_359.out;have hnc47:=NB359_379.out;have hnb48:=NB379_367.out;have hnc48:=NB367_379.out;have ⟨_,_,_,_,_,_,_,_,_,_,_,_⟩:=c6_ BK379) | ((with_reducible refine gc_ 123 ?_);refine xgl_ (some 42) Tryz.func123 #[.string t376,.string (⟨#[47]⟩ : ByteArray)] ?_;(with_reducible refine (has_prefix_in.calls t376 (⟨#[47]⟩ : ByteArray) true _ A32.out).mono ?_);rintro e w50 ⟨rfl,hb⟩;refine ⟨_,rfl,?_⟩;replace BK358:=mxb_ (o':=.cells #[.string a0_0,.string a0_1,.int .i64 a0_2,.string a0_3,.string a0_4,.bool a0_5] 31 (0,0)) BK358 hb;replace BK359:=mxb_ (o':=.cells #[.string (⟨#[]⟩ : ByteArray),.string (⟨#[]⟩ : ByteArray),.int .i64 0,.string (⟨#[]⟩ : ByteArray),.string (⟨#[]⟩ : ByteArray),.bool false] 31 (0,0)) BK359 hb;replace BK367:=mxb_ (o':=.cells #[.string t360,.string t361,.int .i64 t362,.string t363,.string t364,.bool t365] 31 (0,0)) BK367 hb;replace BK379:=mxb_ (o':=.cells #[.string a0_0,.string a0_1,.int .i64 a0_2,.string a0_3,.string t377,.bool t378] 31 (0,0)) BK379 hb;replace HB:=xws_ HB hb;(try clear hb);have ⟨_,_,_,_,_,_,_,_,_,_,_,_⟩:=c6_ BK379;have ⟨_,_,_,_,_,_,_,_,_,_,_,_⟩:=c6_ BK359))
    refine bodyPost_ret (results_ct rfl _ _ gb359 31 #[.string a0_0,.string a0_1,.int .i64 a0_2,.string t376,.string t377,.bool t378] (0,0) _ rfl (mx_ BK359) Tryz.underlying31 rfl (by kernel_rfl)) rfl ?_
    exact ⟨mf_,xw_ HB⟩
   ·replace c33:=Bool.eq_false_iff.mpr c33
    subst c33
    rw [if_neg (show ¬ (false = true) by decide)] at H
    by_cases c53 : t376.toList = ([] : List UInt8)
    ·rw [if_pos c53] at H
     have c53b0 : (t376.toList == ([] : List UInt8)) = true:=beq_iff_eq.mpr c53
     have c53b1 : (t376.toList != ([] : List UInt8)) = false:=bne_eq_false_iff_eq.mpr c53
     clear c53
     simp only [Option.some.injEq,Prod.mk.injEq] at H
     obtain ⟨rfl,rfl,rfl,rfl,rfl,rfl,rfl⟩:=H
     go_enter Tryz.func75,Tryz.ntmps75
     go_wp2_with (first | ((with_reducible refine gd_ 2 ?_);refine xbe_ (N:=2) (cs:=#[.string a0_0,.string a0_1,.int .i64 a0_2,.string a0_3,.string a0_4,.bool a0_5]) (t:=31) ?_;intro gb358 hg w54 hbox hb;have BK358:=Aside0.mk (hbox);have GE358:=xge_ HB hg;replace HB:=xws_ HB hb;clear hb hbox hg) | ((with_reducible refine gd_ 4 ?_);refine xbe_ (N:=4) (cs:=#[.string (⟨#[]⟩ : ByteArray),.string (⟨#[]⟩ : ByteArray),.int .i64 0,.string (⟨#[]⟩ : ByteArray),.string (⟨#[]⟩ : ByteArray),.bool false]) (t:=31) ?_;intro gb359 hg w55 hbox hb;have BK359:=Aside0.mk (hbox);have GE359:=xge_ HB hg;replace HB:=xws_ HB hb;have NB358_359:=xlt_ BK358 hg;have NB359_358:=xgt_ BK358 hg;replace BK358:=xbb_ BK358 hb;clear hb hbox hg) | ((with_reducible refine gc_ 125 ?_);refine xgl_ (some 14) Tryz.func125 #[.string a1] ?_;(with_reducible refine (impl_ReadUrl.calls k a1 t360 t361 t362 t363 t364 t365 false _ A3.out (HTB_.out.below (by first | (with_reducible exact Below.refl _ _) | (repeat (first | (with_reducible first | exact HB.out | exact Below.refl _ _ | apply below_alloc | apply pw_below_drewN | apply below_drew1 | refine below_set ?_ GE358.out | refine below_set ?_ GE359.out | refine below_set ?_ GE367.out | refine below_set ?_ GE379.out) | exact HB.out)) | (repeat (first | exact Below.refl _ _ | apply below_alloc | apply pw_below_drewN | apply below_drew1 | refine below_set ?_ GE358.out | refine below_set ?_ GE359.out | refine below_set ?_ GE367.out | refine below_set ?_ GE379.out))))).mono ?_);rintro e w56 ⟨rfl,hb⟩;refine ⟨_,rfl,?_⟩;replace BK358:=xbb_ BK358 hb;replace BK359:=xbb_ BK359 hb;replace HB:=xws_ HB hb;(try clear hb)) | ((with_reducible refine gd_ 6 ?_);refine xbe_ (N:=6) (cs:=#[.string (⟨#[]⟩ : ByteArray),.string (⟨#[]⟩ : ByteArray),.int .i64 0,.string (⟨#[]⟩ : ByteArray),.string (⟨#[]⟩ : ByteArray),.bool false]) (t:=31) ?_;intro gb367 hg w57 hbox hb;have BK367:=Aside0.mk (hbox);have GE367:=xge_ HB hg;replace HB:=xws_ HB hb;have NB358_367:=xlt_ BK358 hg;have NB367_358:=xgt_ BK358 hg;replace BK358:=xbb_ BK358 hb;have NB359_367:=xlt_ BK359 hg;have NB367_359:=xgt_ BK359 hg;replace BK359:=xbb_ BK359 hb;clear hb hbox hg;have hnb58:=NB367_358.out;have hnc58:=NB358_367.out;have hnb59:=NB367_359.out;have hnc59:=NB359_367.out;have ⟨_,_,_,_,_,_,_,_,_,_,_,_⟩:=c6_ BK367) | ((with_reducible refine gc_ 123 ?_);refine xgl_ (some 20) Tryz.func123 #[.string a1,.string (⟨#[47,47]⟩ : ByteArray)] ?_;(with_reducible refine (has_prefix_in.calls a1 (⟨#[47,47]⟩ : ByteArray) false _ A14.out).mono ?_);rintro e w61 ⟨rfl,hb⟩;refine ⟨_,rfl,?_⟩;replace BK358:=mxb_ (o':=.cells #[.string a0_0,.string a0_1,.int .i64 a0_2,.string a0_3,.string a0_4,.bool a0_5] 31 (0,0)) BK358 hb;replace BK359:=mxb_ (o':=.cells #[.string (⟨#[]⟩ : ByteArray),.string (⟨#[]⟩ : ByteArray),.int .i64 0,.string (⟨#[]⟩ : ByteArray),.string (⟨#[]⟩ : ByteArray),.bool false] 31 (0,0)) BK359 hb;replace BK367:=mxb_ (o':=.cells #[.string t360,.string t361,.int .i64 t362,.string t363,.string t364,.bool t365] 31 (0,0)) BK367 hb;replace HB:=xws_ HB hb;(try clear hb)) | ((with_reducible refine gc_ 126 ?_);refine xgl_ (some 31) Tryz.func126 #[.string a1,.string (⟨#[63]⟩ : ByteArray)] ?_;(with_reducible refine (strings_Cut.calls a1 (⟨#[63]⟩ : ByteArray) t376 t377 t378 _ A31.out (HTB_.out.below (by first | (with_reducible exact Below.refl _ _) | (repeat (first | (with_reducible first | exact HB.out | exact Below.refl _ _ | apply below_alloc | apply pw_below_drewN | apply below_drew1 | refine below_set ?_ GE358.out | refine below_set ?_ GE359.out | refine below_set ?_ GE367.out | refine below_set ?_ GE379.out) | exact HB.out)) | (repeat (first | exact Below.refl _ _ | apply below_alloc | apply pw_below_drewN | apply below_drew1 | refine below_set ?_ GE358.out | refine below_set ?_ GE359.out | refine below_set ?_ GE367.out | refine below_set ?_ GE379.out))))).mono ?_);rintro e w62 ⟨rfl,hb⟩;refine ⟨_,rfl,?_⟩;replace BK358:=xbb_ BK358 hb;replace BK359:=xbb_ BK359 hb;replace BK367:=xbb_ BK367 hb;replace HB:=xws_ HB hb;(try clear hb);have hnb63:=NB358_359.out;have hnc63:=NB359_358.out;have ⟨_,_,_,_,_,_,_,_,_,_,_,_⟩:=c6_ BK358) | ((with_reducible refine gd_ 11 ?_);refine xbe_ (N:=11) (cs:=#[.string (⟨#[]⟩ : ByteArray),.string (⟨#[]⟩ : ByteArray),.int .i64 0,.string (⟨#[]⟩ : ByteArray),.string (⟨#[]⟩ : ByteArray),.bool false]) (t:=31) ?_;intro gb379 hg w65 hbox hb;have BK379:=Aside0.mk (hbox);have GE379:=xge_ HB hg;replace HB:=xws_ HB hb;have NB358_379:=xlt_ BK358 hg;have NB379_358:=xgt_ BK358 hg;replace BK358:=xbb_ BK358 hb;have NB359_379:=xlt_ BK359 hg;have NB379_359:=xgt_ BK359 hg;replace BK359:=xbb_ BK359 hb;have NB367_379:=xlt_ BK367 hg;have NB379_367:=xgt_ BK367 hg;replace BK367:=xbb_ BK367 hb;clear hb hbox hg;have hnb66:=NB379_358.out;have hnc66:=NB358_379.out;have hnb67:=NB379_359.out;have hnc67:=NB359_379.out;have hnb68:=NB379_367.out;have hnc68:=NB367_379.out;have ⟨_,_,_,_,_,_,_,_,_,_,_,_⟩:=c6_ BK379) | ((with_reducible refine gc_ 123 ?_);refine xgl_ (some 42) Tryz.func123 #[.string t376,.string (⟨#[47]⟩ : ByteArray)] ?_;(with_reducible refine (has_prefix_in.calls t376 (⟨#[47]⟩ : ByteArray) false _ A32.out).mono ?_);rintro e w70 ⟨rfl,hb⟩;refine ⟨_,rfl,?_⟩;replace BK358:=mxb_ (o':=.cells #[.string a0_0,.string a0_1,.int .i64 a0_2,.string a0_3,.string a0_4,.bool a0_5] 31 (0,0)) BK358 hb;replace BK359:=mxb_ (o':=.cells #[.string (⟨#[]⟩ : ByteArray),.string (⟨#[]⟩ : ByteArray),.int .i64 0,.string (⟨#[]⟩ : ByteArray),.string (⟨#[]⟩ : ByteArray),.bool false] 31 (0,0)) BK359 hb;replace BK367:=mxb_ (o':=.cells #[.string t360,.string t361,.int .i64 t362,.string t363,.string t364,.bool t365] 31 (0,0)) BK367 hb;replace BK379:=mxb_ (o':=.cells #[.string a0_0,.string a0_1,.int .i64 a0_2,.string a0_3,.string t377,.bool t378] 31 (0,0)) BK379 hb;replace HB:=xws_ HB hb;(try clear hb);have ⟨_,_,_,_,_,_,_,_,_,_,_,_⟩:=c6_ BK379;have ⟨_,_,_,_,_,_,_,_,_,_,_,_⟩:=c6_ BK359))
     refine bodyPost_ret (results_ct rfl _ _ gb359 31 #[.string a0_0,.string a0_1,.int .i64 a0_2,.string a0_3,.string t377,.bool t378] (0,0) _ rfl (mx_ BK359) Tryz.underlying31 rfl (by kernel_rfl)) rfl ?_
     exact ⟨mf_,xw_ HB⟩
    ·rw [if_neg c53] at H
     have c53b0 : (t376.toList == ([] : List UInt8)) = false:=beq_eq_false_iff_ne.mpr c53
     have c53b1 : (t376.toList != ([] : List UInt8)) = true:=bne_iff_ne.mpr c53
     replace H:=mb_ H
     obtain ⟨t381,A73,H⟩:=H
     obtain ⟨ji74,hji74⟩ : ∃ j_ : Int,(wrap64 (t381 + 1)) = j_:=⟨_,rfl⟩
     replace H : (if 0 ≤ (ji74) then (if (ji74) ≤ (a0_3.size : Int) then (if (a0_3.extract 0 ((ji74) : Int).toNat).size + t376.size ≤ 9223372036854775807 then (some (a0_0,a0_1,a0_2,(a0_3.extract 0 ((ji74) : Int).toNat) ++ t376,t377,t378,true)) else (none)) else (none)) else (none)) = some (r1,r2,r3,r4,r5,r6,r7):=by first | (rw [hji74] at H;exact H) | (simp only [hji74] at H ⊢;exact H)
     (try rw [hji74] at A3)
     (try rw [hji74] at A14)
     (try rw [hji74] at A31)
     (try rw [hji74] at A32)
     (try rw [hji74] at A73)
     have hji74w : (IntKind.i64.wrap (t381 + 1)) = ji74:=(i64_w _).trans hji74
     replace H:=mi_ H
     obtain ⟨c75,H⟩:=H
     have c75b0:=eq_true c75
     have c75b1:=decide_eq_true c75
     clear c75
     replace H:=mi_ H
     obtain ⟨c76,H⟩:=H
     have c76b0:=eq_true c76
     have c76b1:=decide_eq_true c76
     clear c76
     replace H:=mi_ H
     obtain ⟨c77,H⟩:=H
     have c77b0:=eq_true c77
     have c77b1:=decide_eq_true c77
     try have c77b2 : (9223372036854775807 < (a0_3.extract 0 ((ji74) : Int).toNat).size + t376.size) = False:=eq_false (Nat.not_lt.2 c77)
     try have c77b4 : (9223372036854775807 < (ji74 : Int).toNat + t376.size) = False:=eq_false (fun hh_ => absurd c77 (by rw [ByteArray.size_extract];have hm_:=of_decide_eq_true c76b1;omega))
     simp only [Option.some.injEq,Prod.mk.injEq] at H
     obtain ⟨rfl,rfl,rfl,rfl,rfl,rfl,rfl⟩:=H
     go_enter Tryz.func75,Tryz.ntmps75
     try go_wp2_with (first | ((with_reducible refine gd_ 2 ?_);refine xbe_ (N:=2) (cs:=#[.string a0_0,.string a0_1,.int .i64 a0_2,.string a0_3,.string a0_4,.bool a0_5]) (t:=31) ?_;intro gb358 hg w78 hbox hb;have BK358:=Aside0.mk (hbox);have GE358:=xge_ HB hg;replace HB:=xws_ HB hb;clear hb hbox hg) | ((with_reducible refine gd_ 4 ?_);refine xbe_ (N:=4) (cs:=#[.string (⟨#[]⟩ : ByteArray),.string (⟨#[]⟩ : ByteArray),.int .i64 0,.string (⟨#[]⟩ : ByteArray),.string (⟨#[]⟩ : ByteArray),.bool false]) (t:=31) ?_;intro gb359 hg w79 hbox hb;have BK359:=Aside0.mk (hbox);have GE359:=xge_ HB hg;replace HB:=xws_ HB hb;have NB358_359:=xlt_ BK358 hg;have NB359_358:=xgt_ BK358 hg;replace BK358:=xbb_ BK358 hb;clear hb hbox hg) | ((with_reducible refine gc_ 125 ?_);refine xgl_ (some 14) Tryz.func125 #[.string a1] ?_;(with_reducible refine (impl_ReadUrl.calls k a1 t360 t361 t362 t363 t364 t365 false _ A3.out (HTB_.out.below (by first | (with_reducible exact Below.refl _ _) | (repeat (first | (with_reducible first | exact HB.out | exact Below.refl _ _ | apply below_alloc | apply pw_below_drewN | apply below_drew1 | refine below_set ?_ GE358.out | refine below_set ?_ GE359.out | refine below_set ?_ GE367.out | refine below_set ?_ GE379.out) | exact HB.out)) | (repeat (first | exact Below.refl _ _ | apply below_alloc | apply pw_below_drewN | apply below_drew1 | refine below_set ?_ GE358.out | refine below_set ?_ GE359.out | refine below_set ?_ GE367.out | refine below_set ?_ GE379.out))))).mono ?_);rintro e w80 ⟨rfl,hb⟩;refine ⟨_,rfl,?_⟩;replace BK358:=xbb_ BK358 hb;replace BK359:=xbb_ BK359 hb;replace HB:=xws_ HB hb;(try clear hb)) | ((with_reducible refine gd_ 6 ?_);refine xbe_ (N:=6) (cs:=#[.string (⟨#[]⟩ : ByteArray),.string (⟨#[]⟩ : ByteArray),.int .i64 0,.string (⟨#[]⟩ : ByteArray),.string (⟨#[]⟩ : ByteArray),.bool false]) (t:=31) ?_;intro gb367 hg w81 hbox hb;have BK367:=Aside0.mk (hbox);have GE367:=xge_ HB hg;replace HB:=xws_ HB hb;have NB358_367:=xlt_ BK358 hg;have NB367_358:=xgt_ BK358 hg;replace BK358:=xbb_ BK358 hb;have NB359_367:=xlt_ BK359 hg;have NB367_359:=xgt_ BK359 hg;replace BK359:=xbb_ BK359 hb;clear hb hbox hg;have hnb82:=NB367_358.out;have hnc82:=NB358_367.out;have hnb83:=NB367_359.out;have hnc83:=NB359_367.out;have ⟨_,_,_,_,_,_,_,_,_,_,_,_⟩:=c6_ BK367) | ((with_reducible refine gc_ 123 ?_);refine xgl_ (some 20) Tryz.func123 #[.string a1,.string (⟨#[47,47]⟩ : ByteArray)] ?_;(with_reducible refine (has_prefix_in.calls a1 (⟨#[47,47]⟩ : ByteArray) false _ A14.out).mono ?_);rintro e w85 ⟨rfl,hb⟩;refine ⟨_,rfl,?_⟩;replace BK358:=mxb_ (o':=.cells #[.string a0_0,.string a0_1,.int .i64 a0_2,.string a0_3,.string a0_4,.bool a0_5] 31 (0,0)) BK358 hb;replace BK359:=mxb_ (o':=.cells #[.string (⟨#[]⟩ : ByteArray),.string (⟨#[]⟩ : ByteArray),.int .i64 0,.string (⟨#[]⟩ : ByteArray),.string (⟨#[]⟩ : ByteArray),.bool false] 31 (0,0)) BK359 hb;replace BK367:=mxb_ (o':=.cells #[.string t360,.string t361,.int .i64 t362,.string t363,.string t364,.bool t365] 31 (0,0)) BK367 hb;replace HB:=xws_ HB hb;(try clear hb)) | ((with_reducible refine gc_ 126 ?_);refine xgl_ (some 31) Tryz.func126 #[.string a1,.string (⟨#[63]⟩ : ByteArray)] ?_;(with_reducible refine (strings_Cut.calls a1 (⟨#[63]⟩ : ByteArray) t376 t377 t378 _ A31.out (HTB_.out.below (by first | (with_reducible exact Below.refl _ _) | (repeat (first | (with_reducible first | exact HB.out | exact Below.refl _ _ | apply below_alloc | apply pw_below_drewN | apply below_drew1 | refine below_set ?_ GE358.out | refine below_set ?_ GE359.out | refine below_set ?_ GE367.out | refine below_set ?_ GE379.out) | exact HB.out)) | (repeat (first | exact Below.refl _ _ | apply below_alloc | apply pw_below_drewN | apply below_drew1 | refine below_set ?_ GE358.out | refine below_set ?_ GE359.out | refine below_set ?_ GE367.out | refine below_set ?_ GE379.out))))).mono ?_);rintro e w86 ⟨rfl,hb⟩;refine ⟨_,rfl,?_⟩;replace BK358:=xbb_ BK358 hb;replace BK359:=xbb_ BK359 hb;replace BK367:=xbb_ BK367 hb;replace HB:=xws_ HB hb;(try clear hb);have hnb87:=NB358_359.out;have hnc87:=NB359_358.out;have ⟨_,_,_,_,_,_,_,_,_,_,_,_⟩:=c6_ BK358) | ((with_reducible refine gd_ 11 ?_);refine xbe_ (N:=11) (cs:=#[.string (⟨#[]⟩ : ByteArray),.string (⟨#[]⟩ : ByteArray),.int .i64 0,.string (⟨#[]⟩ : ByteArray),.string (⟨#[]⟩ : ByteArray),.bool false]) (t:=31) ?_;intro gb379 hg w89 hbox hb;have BK379:=Aside0.mk (hbox);have GE379:=xge_ HB hg;replace HB:=xws_ HB hb;have NB358_379:=xlt_ BK358 hg;have NB379_358:=xgt_ BK358 hg;replace BK358:=xbb_ BK358 hb;have NB359_379:=xlt_ BK359 hg;have NB379_359:=xgt_ BK359 hg;replace BK359:=xbb_ BK359 hb;have NB367_379:=xlt_ BK367 hg;have NB379_367:=xgt_ BK367 hg;replace BK367:=xbb_ BK367 hb;clear hb hbox hg;have hnb90:=NB379_358.out;have hnc90:=NB358_379.out;have hnb91:=NB379_359.out;have hnc91:=NB359_379.out;have hnb92:=NB379_367.out;have hnc92:=NB367_379.out;have ⟨_,_,_,_,_,_,_,_,_,_,_,_⟩:=c6_ BK379) | ((with_reducible refine gc_ 123 ?_);refine xgl_ (some 42) Tryz.func123 #[.string t376,.string (⟨#[47]⟩ : ByteArray)] ?_;(with_reducible refine (has_prefix_in.calls t376 (⟨#[47]⟩ : ByteArray) false _ A32.out).mono ?_);rintro e w94 ⟨rfl,hb⟩;refine ⟨_,rfl,?_⟩;replace BK358:=mxb_ (o':=.cells #[.string a0_0,.string a0_1,.int .i64 a0_2,.string a0_3,.string a0_4,.bool a0_5] 31 (0,0)) BK358 hb;replace BK359:=mxb_ (o':=.cells #[.string (⟨#[]⟩ : ByteArray),.string (⟨#[]⟩ : ByteArray),.int .i64 0,.string (⟨#[]⟩ : ByteArray),.string (⟨#[]⟩ : ByteArray),.bool false] 31 (0,0)) BK359 hb;replace BK367:=mxb_ (o':=.cells #[.string t360,.string t361,.int .i64 t362,.string t363,.string t364,.bool t365] 31 (0,0)) BK367 hb;replace BK379:=mxb_ (o':=.cells #[.string a0_0,.string a0_1,.int .i64 a0_2,.string a0_3,.string t377,.bool t378] 31 (0,0)) BK379 hb;replace HB:=xws_ HB hb;(try clear hb)))
     replace BK358:=Aside0.mk (blk_drew BK358.out)
     replace BK359:=Aside0.mk (blk_drew BK359.out)
     replace BK367:=Aside0.mk (blk_drew BK367.out)
     replace BK379:=Aside0.mk (blk_drew BK379.out)
     replace HB:=Aside0.mk (below_drew1 HB.out)
     refine ms_ 11 (fun w' => w'.cell? ⟨gb358,0,none⟩ = some (.string a0_0) ∧ w'.cell? ⟨gb358,1,none⟩ = some (.string a0_1) ∧ w'.cell? ⟨gb358,2,none⟩ = some (.int .i64 a0_2) ∧ w'.cell? ⟨gb358,3,none⟩ = some (.string a0_3) ∧ w'.cell? ⟨gb358,4,none⟩ = some (.string a0_4) ∧ w'.cell? ⟨gb358,5,none⟩ = some (.bool a0_5)) impl_resolved.tab12 impl_resolved.bits12 ⟨xk_ BK358 0,xk_ BK358 1,xk_ BK358 2,xk_ BK358 3,xk_ BK358 4,xk_ BK358 5⟩ (fun hHeld HT_ HW_ => ?_)
     generalize w94.drew = w95 at BK358 BK359 BK367 BK379 HB hHeld ⊢
     refine mp_ 0 48 ?_
     refine mp_ 2 50 ?_
     refine mp_ 7 55 ?_
     refine mt_ 1 49 hHeld ?_
     refine mt_ 3 51 hHeld ?_
     refine m1_ 4 52 Tryz.func127 #[.string a0_3,.int .u8 47] ?_
     with_reducible refine (strings_LastIndexByte.calls k a0_3 47 t381 _ A73.out).mono ?_
     rintro e w' ⟨rfl,⟨nd,rfl⟩⟩
     refine ⟨_,rfl,?_⟩
     refine ⟨⟨xk_ BK358 0,xk_ BK358 1,xk_ BK358 2,xk_ BK358 3,xk_ BK358 4,xk_ BK358 5⟩,fun hHeld => ?_⟩
     refine mn_ 52 ?_
     refine mp_ 5 53 ?_
     refine mp_ 6 54 ?_
     refine mp_ 8 56 ?_
     refine mp_ 9 57 ?_
     refine one_ (i:=10) (N:=none) #[true,true,true,true,true,true,true,true,true,true,true] rfl rfl (one_of HT_.out (by kernel_rfl)) (by decide) (fun K hK => ?_)
     have hs96 : w95.cell? ⟨gb379,3,none⟩ = some (.string a0_3):=xk_ BK379 3
     have hfs96:=blk_frozen BK379.out 3
     have hns96_0:=NB358_379.out
     have hns96_1:=NB359_379.out
     have hns96_2:=NB367_379.out
     have hms96_0:=NB379_358.out
     have hms96_1:=NB379_359.out
     have hms96_2:=NB379_367.out
     refine skip_ (w1:=?_) (by rfl) rfl ?_ ?_
     rotate_left
     ·go_simp
      rfl
     refine hK.out _ _ ⟨((cell_far (p:=⟨gb379,_,none⟩) NB358_379.out _).trans (hHeld.1)),((cell_far (p:=⟨gb379,_,none⟩) NB358_379.out _).trans (hHeld.2.1)),((cell_far (p:=⟨gb379,_,none⟩) NB358_379.out _).trans (hHeld.2.2.1)),((cell_far (p:=⟨gb379,_,none⟩) NB358_379.out _).trans (hHeld.2.2.2.1)),((cell_far (p:=⟨gb379,_,none⟩) NB358_379.out _).trans (hHeld.2.2.2.2.1)),((cell_far (p:=⟨gb379,_,none⟩) NB358_379.out _).trans (hHeld.2.2.2.2.2))⟩ (fun hHeld => ?_)
     clear hK K
     refine done_ (done_of HT_.out (by kernel_rfl)) ?_
     have ⟨_,_,_,_,_,_,_,_,_,_,_,_⟩:=c6_ BK379
     have ⟨_,_,_,_,_,_,_,_,_,_,_,_⟩:=c6_ BK359
     try go_wp2
     refine bodyPost_ret (results_ct rfl _ _ gb359 31 #[.string a0_0,.string a0_1,.int .i64 a0_2,.string ((a0_3.extract 0 ((ji74) : Int).toNat) ++ t376),.string t377,.bool t378] (0,0) _ rfl (mx_ BK359) Tryz.underlying31 rfl (by kernel_rfl)) rfl ?_
     exact ⟨by first | rfl | (simp [errW_none,errW_some] <;> rfl) | (simp only [← hji74];first | rfl | (simp [errW_none,errW_some] <;> rfl)) | (simp [*,errW_none,errW_some] <;> rfl),xw_ HB⟩

/-! ### strings_Join: function 94 -/
def strings_Join.f (l0 : List ByteArray) (a1 : ByteArray) : Option (ByteArray):=if l0.length < 100000000 then (if (Lib.join (l0.map (·.data.toList)) a1.data.toList).length < 1000000000 then some ⟨(Lib.join (l0.map (·.data.toList)) a1.data.toList).toArray⟩ else none) else none
theorem strings_Join.calls (A0 : Option Addr) (c0 : Nat) (l0 : List ByteArray) (a1 : ByteArray) (r : ByteArray) (w : World) (hr0 : Kd.C Kd.string w A0 l0.length l0) (hc0 : l0.length ≤ c0) (h : strings_Join.f l0 a1 = some r) :
    Calls Tryz.prog 94 #[.slice A0 l0.length c0,.string a1] w fun e w' => e = .returned (.string r) ∧ Below w.heap.size w w':=by
  unfold strings_Join.f at h
  by_cases c : l0.length < 100000000
  · rw [if_pos c] at h
    by_cases c2 : (Lib.join (l0.map (·.data.toList)) a1.data.toList).length < 1000000000
    · rw [if_pos c2] at h
      obtain rfl:=Option.some.inj h
      cases l0 with
      | nil => exact (Tryz.strings_Join_none A0 c0 a1 w).mono fun e w' hq => ⟨hq.1,by rw [hq.2];exact Below.refl _ _⟩
      | cons x0 xs =>
        obtain ⟨ad,rfl,h0⟩:=Kd.at_string hr0 0 (by omega) (by simp)
        have h0' : w.cell? ad = some (.string (rdOf ByteArray.empty (x0 :: xs) 0)):=by
          have : ad.add (0 : Int).toNat = ad:=by simp [Addr.add]
          rw [this] at h0;exact h0
        obtain ⟨bk,o,sp⟩:=ad
        have hsp : sp = none:=by
          cases sp with
          | none => rfl
          | some q =>
            unfold World.cell? at h0'
            simp at h0'
            split at h0' <;> cases h0'
        subst hsp
        have hbk : bk < w.heap.size:=World.block_lt_of_cell? w _ h0'
        refine Tryz.strings_Join bk o c0 (x0 :: xs) a1 w ?_ hbk (by omega) hc0 (by omega)
        intro j x hx
        have hj : j < (x0 :: xs).length:=(List.getElem?_eq_some_iff.mp hx).1
        obtain ⟨ad2,e2,h2⟩:=Kd.at_string hr0 (j : Int) (by omega) (by omega)
        cases e2
        have hv : rdOf ByteArray.empty (x0 :: xs) (j : Int) = x:=by
          unfold rdOf
          rw [List.getD_eq_getElem?_getD,Int.toNat_natCast,hx];rfl
        rw [hv,Int.toNat_natCast] at h2
        have ha : (⟨bk,o,none⟩ : Addr).add j = ⟨bk,o + j,none⟩:=by
          unfold Addr.add
          split
          · rename_i hz;subst hz;rfl
          · rfl
        rw [ha] at h2
        exact h2
    · rw [if_neg c2] at h;cases h
  · rw [if_neg c] at h;cases h

/-! ### strings_Split: function 128 -/
def strings_Split.f (a0 : ByteArray) (a1 : ByteArray) : Option (List ByteArray):=if a0.size < 1000000000 then (if 1 ≤ a1.size then some (Lib.splitB a1 0 (Lib.countB a0 a1) a0) else none) else none
theorem strings_Split.calls (a0 : ByteArray) (a1 : ByteArray) (r : List ByteArray) (w : World) (h : strings_Split.f a0 a1 = some r) (hT : TabOk w) :
    Calls Tryz.prog 128 #[.string a0,.string a1] w fun e w' => ∃ v0_ : Value,e = .returned (v0_) ∧ Kd.R Kd.string 9 w' w.heap.size (fun _ => True) v0_ r ∧ Below w.heap.size w w':=by
  unfold strings_Split.f at h
  by_cases c : a0.size < 1000000000
  · rw [if_pos c] at h
    by_cases c2 : 1 ≤ a1.size
    · rw [if_pos c2] at h
      obtain rfl:=Option.some.inj h
      obtain ⟨m,hm⟩:=hT.1
      refine (Tryz.strings_Split a0 a1 m w (by omega) hm c2).mono fun e w' hq => ⟨_,hq.1,?_,by rw [hq.2];exact below_alloc (Below.refl _ _) _⟩
      have hl:=Lib.splitB_all a1 c2 0 _ a0 rfl
      have hle:=Lib.countB_le a1 c2 _ a0 (Nat.le_refl _)
      rw [hq.2,← hl]
      refine Kd.R_of_own ?_ (fun _ _ => trivial)
      refine ⟨by simp [encs],Or.inr ⟨w.heap.size,(Lib.splitB a1 0 (Lib.countB a0 a1) a0).length,((Lib.splitB a1 0 (Lib.countB a0 a1) a0).map Value.string).toArray,rfl,Nat.le_refl _,?_,Nat.le_refl _,?_,?_,?_⟩⟩
      · show (w.heap.push _)[w.heap.size]? = _
        rw [Array.getElem?_push_size]
      · rw [hl];unfold maxLen;omega
      · simp
      · simp only [encs,Nat.mul_one]
        exact List.take_of_length_le (by simp)
    · rw [if_neg c2] at h;cases h
  · rw [if_neg c] at h;cases h

end Go.Proofs.YtpggepjfhgalkaaGreatDoor.PFnExactKeyOf
