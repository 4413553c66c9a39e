-- Written by a program of this project (xprint.py) out of the translation; Lean checks it.
import Derived.Test.YtpggepjfhgalkaaGreatDoorPFnExactKeyOfx0
import Derived.Test.YtpggepjfhgalkaaGreatDoorPFnExactKeyOfx14
import Derived.Test.YtpggepjfhgalkaaGreatDoorPFnExactKeyOfx19
import Derived.Test.YtpggepjfhgalkaaGreatDoorPFnExactKeyOfx24
import Derived.Test.YtpggepjfhgalkaaGreatDoorPFnExactKeyOfx25
namespace Go.Proofs.YtpggepjfhgalkaaGreatDoor.PFnExactKeyOf
open Go.RowKit Go.Proofs.YtpggepjfhgalkaaGreatDoorW.PrintWords Go.Proofs.YtpggepjfhgalkaaGreatDoorW.PrintLast Go.Proofs.YtpggepjfhgalkaaGreatDoorW.PrintMore
attribute [local go_sem] max2_int min2_int max_two min_two max_three min_three max_four min_four   -- for this text's walks alone
set_option linter.unusedVariables false
set_option linter.unusedSimpArgs false

/-! ### impl_KeyOf: function 12 -/
def impl_KeyOf.j0 : Nat → Bool → ByteArray → ByteArray → Int → ByteArray → ByteArray → Bool → Option (ByteArray × Bool)
 | 0,_,_,_,_,_,_,_ => none
 | k + 1,x21,x508000,x508001,x508002,x508003,x508004,x508005 => if x21 = true then (some ((⟨#[]⟩ : ByteArray),false)) else ((impl_normal.f k x508000 x508001 x508002 x508003 x508004 x508005).bind fun bt509 => ((impl_UrlText.f k bt509.1 bt509.2.1 bt509.2.2.1 bt509.2.2.2.1 bt509.2.2.2.2.1 bt509.2.2.2.2.2).bind fun bt515 => (some (bt515.1,bt515.2))))
def impl_KeyOf.f (k : Nat) (a0_0 : ByteArray) (a0_1 : ByteArray) (a0_2 : Int) (a0_3 : ByteArray) (a0_4 : ByteArray) (a0_5 : Bool) (a1_0 : ByteArray) (a1_1 : ByteArray) (l1_2 : List (S105)) (a1_3 : ByteArray) : Option (ByteArray × Bool):=(impl_ResolveUrl.f k a0_0 a0_1 a0_2 a0_3 a0_4 a0_5 a1_1).bind fun bt500 => (if bt500.2.2.2.2.2.2 = true then ((impl_GoodRequest.f k a1_0 a1_1 l1_2 a1_3).bind fun t508 => (impl_KeyOf.j0 k (!t508) bt500.1 bt500.2.1 bt500.2.2.1 bt500.2.2.2.1 bt500.2.2.2.2.1 bt500.2.2.2.2.2.1)) else (impl_KeyOf.j0 k true bt500.1 bt500.2.1 bt500.2.2.1 bt500.2.2.2.1 bt500.2.2.2.2.1 bt500.2.2.2.2.2.1))
set_option maxHeartbeats 8000000 in
set_option maxRecDepth 100000 in
theorem impl_KeyOf.calls (k : Nat) (a0_0 : ByteArray) (a0_1 : ByteArray) (a0_2 : Int) (a0_3 : ByteArray) (a0_4 : ByteArray) (a0_5 : Bool) (a1_0 : ByteArray) (a1_1 : ByteArray) (A1_2 : Option Addr) (c1_2 : Nat) (l1_2 : List (S105)) (a1_3 : ByteArray) (r1 : ByteArray) (r2 : Bool) (w : World) (hr1_2 : Kd.C k105 w A1_2 l1_2.length l1_2) (hc1_2 : l1_2.length ≤ c1_2) (h : impl_KeyOf.f k a0_0 a0_1 a0_2 a0_3 a0_4 a0_5 a1_0 a1_1 l1_2 a1_3 = some (r1,r2)) (hT_ : TabOk w) :
  Calls Tryz.prog 12 #[.agg #[.string a0_0,.string a0_1,.int .i64 a0_2,.string a0_3,.string a0_4,.bool a0_5],.agg #[.string a1_0,.string a1_1,.slice A1_2 l1_2.length c1_2,.string a1_3]] w fun e w' => e = .returned (.tuple #[.string r1,.bool r2]) ∧ Below w.heap.size w w':=by
 have HTB_:=Aside0.mk hT_
 clear hT_
 have hu31:=Tryz.underlying31
 have hu35:=Tryz.underlying35
 have HR1_2:=Aside0.mk hr1_2
 have HC1_2:=Aside0.mk hc1_2
 clear hr1_2 hc1_2
 have HB:=Aside0.mk (Below.refl w.heap.size w)
 have H:=h
 unfold impl_KeyOf.f at H
 clear h
 replace H:=mb_ H
 obtain ⟨⟨t500,t501,t502,t503,t504,t505,t506⟩,A3,H⟩:=H
 dsimp only at H
 have HC4:=Aside0.mk H
 clear H
 go_enter Tryz.func12,Tryz.ntmps12
 go_upto_region 2 with (first | ((with_reducible refine gd_ 2 ?_);refine xbe_ (N:=2) (cs:=#[.string a0_0,.string a0_1,.int .i64 a0_2,.string a0_3,.string a0_4,.bool a0_5]) (t:=31) ?_;intro gb498 hg w5 hbox hb;have BK498:=Aside0.mk (hbox);have GE498:=xge_ HB hg;replace HB:=xws_ HB hb;clear hb hbox hg) | ((with_reducible refine gd_ 3 ?_);refine xbe_ (N:=3) (cs:=#[.string a1_0,.string a1_1,.slice A1_2 l1_2.length c1_2,.string a1_3]) (t:=35) ?_;intro gb499 hg w6 hbox hb;have BK499:=Aside0.mk (hbox);have GE499:=xge_ HB hg;replace HB:=xws_ HB hb;have NB498_499:=xlt_ BK498 hg;have NB499_498:=xgt_ BK498 hg;replace BK498:=xbb_ BK498 hb;clear hb hbox hg;have hnb7:=NB498_499.out;have hnc7:=NB499_498.out;have ⟨_,_,_,_,_,_,_,_,_,_,_,_⟩:=c6_ BK498;have ⟨_,_,_,_,_,_,_,_⟩:=c4_ BK499) | ((with_reducible refine gc_ 38 ?_);refine xgl_ (some 12) Tryz.func38 #[.agg #[.string a0_0,.string a0_1,.int .i64 a0_2,.string a0_3,.string a0_4,.bool a0_5],.string a1_1] ?_;(with_reducible refine (impl_ResolveUrl.calls k a0_0 a0_1 a0_2 a0_3 a0_4 a0_5 a1_1 t500 t501 t502 t503 t504 t505 t506 _ A3.out (HTB_.out.below (by first | (with_reducible exact Below.refl _ _) | (repeat (first | (with_reducible first | exact HB.out | exact Below.refl _ _ | apply below_alloc | apply pw_below_drewN | apply below_drew1 | refine below_set ?_ GE498.out | refine below_set ?_ GE499.out | refine below_set ?_ GE507.out) | exact HB.out)) | (repeat (first | exact Below.refl _ _ | apply below_alloc | apply pw_below_drewN | apply below_drew1 | refine below_set ?_ GE498.out | refine below_set ?_ GE499.out | refine below_set ?_ GE507.out))))).mono ?_);rintro e w10 ⟨rfl,hb⟩;refine ⟨_,rfl,?_⟩;replace BK498:=xbb_ BK498 hb;replace BK499:=xbb_ BK499 hb;replace HB:=xws_ HB hb;(try clear hb)) | ((with_reducible refine gd_ 6 ?_);refine xbe_ (N:=6) (cs:=#[.string (⟨#[]⟩ : ByteArray),.string (⟨#[]⟩ : ByteArray),.int .i64 0,.string (⟨#[]⟩ : ByteArray),.string (⟨#[]⟩ : ByteArray),.bool false]) (t:=31) ?_;intro gb507 hg w11 hbox hb;have BK507:=Aside0.mk (hbox);have GE507:=xge_ HB hg;replace HB:=xws_ HB hb;have NB498_507:=xlt_ BK498 hg;have NB507_498:=xgt_ BK498 hg;replace BK498:=xbb_ BK498 hb;have NB499_507:=xlt_ BK499 hg;have NB507_499:=xgt_ BK499 hg;replace BK499:=xbb_ BK499 hb;clear hb hbox hg;have hnb12:=NB507_498.out;have hnc12:=NB498_507.out;have hnb13:=NB507_499.out;have hnc13:=NB499_507.out;have ⟨_,_,_,_,_,_,_,_,_,_,_,_⟩:=c6_ BK507))
 (try simp only [Act.put,List.setIfInBounds_toArray,List.set_cons_zero,List.set_cons_succ])
 go_cut [21] (fun v21 wc => ∃ (kq : Nat) (x21_3 : Bool),v21 = .bool x21_3 ∧ Aside0 (impl_KeyOf.j0 kq x21_3 t500 t501 t502 t503 t504 t505 = some (r1,r2)) ∧ Aside0 (kq ≤ k) ∧ Aside0 (wc.heap[gb498]? = some (.cells #[.string a0_0,.string a0_1,.int .i64 a0_2,.string a0_3,.string a0_4,.bool a0_5] 31 (0,0))) ∧ Aside0 (wc.heap[gb499]? = some (.cells #[.string a1_0,.string a1_1,(.slice A1_2 l1_2.length c1_2),.string a1_3] 35 (0,0))) ∧ Aside0 (wc.heap[gb507]? = some (.cells #[.string t500,.string t501,.int .i64 t502,.string t503,.string t504,.bool t505] 31 (0,0))) ∧ Aside0 (Below w.heap.size w wc))
 case first =>
  have H:=HC4.out
  clear HC4
  by_cases c15 : t506 = true
  ·subst c15
   rw [if_pos rfl] at H
   replace H:=mb_ H
   obtain ⟨t508,A16,H⟩:=H
   have H':=Aside0.mk H
   clear H
   have hnb17:=NB499_498.out
   have hnc17:=NB498_499.out
   have hnb18:=NB499_507.out
   have hnc18:=NB507_499.out
   have ⟨_,_,_,_,_,_,_,_⟩:=c4_ BK499
   go_wp2_with (first | (go_at_call 39;(with_reducible refine (impl_GoodRequest.calls k a1_0 a1_1 _ _ l1_2 a1_3 t508 _ ?side1 ?side2 A16.out (HTB_.out.below (by first | (with_reducible exact Below.refl _ _) | (repeat (first | (with_reducible first | exact HB.out | exact Below.refl _ _ | apply below_alloc | apply pw_below_drewN | apply below_drew1 | refine below_set ?_ GE498.out | refine below_set ?_ GE499.out | refine below_set ?_ GE507.out) | exact HB.out)) | (repeat (first | exact Below.refl _ _ | apply below_alloc | apply pw_below_drewN | apply below_drew1 | refine below_set ?_ GE498.out | refine below_set ?_ GE499.out | refine below_set ?_ GE507.out))))).mono ?_);(case side1 => exact Kd.C_below HR1_2.out (xw_ HB));(case side2 => exact HC1_2.out);rintro e w20 ⟨rfl,hb⟩;replace BK498:=mxb_ (o':=.cells #[.string a0_0,.string a0_1,.int .i64 a0_2,.string a0_3,.string a0_4,.bool a0_5] 31 (0,0)) BK498 hb;replace BK499:=mxb_ (o':=.cells #[.string a1_0,.string a1_1,.slice A1_2 l1_2.length c1_2,.string a1_3] 35 (0,0)) BK499 hb;replace BK507:=mxb_ (o':=.cells #[.string t500,.string t501,.int .i64 t502,.string t503,.string t504,.bool t505] 31 (0,0)) BK507 hb;replace HB:=xws_ HB hb;(try clear hb)))
   go_meet
   case rel => exact ⟨_,(!t508),me_,H',⟨by first | omega | exact Nat.le_refl _⟩,⟨xb_ BK498⟩,⟨xb_ BK499⟩,⟨xb_ BK507⟩,⟨xw_ HB⟩⟩
  ·replace c15:=Bool.eq_false_iff.mpr c15
   subst c15
   rw [if_neg (show ¬ (false = true) by decide)] at H
   have H':=Aside0.mk H
   clear H
   go_wp2
   go_meet
   case rel => exact ⟨_,(true),me_,H',⟨by first | omega | exact Nat.le_refl _⟩,⟨mx_ BK498⟩,⟨mx_ BK499⟩,⟨mx_ BK507⟩,⟨xw_ HB⟩⟩
 case rest =>
  clear HC4
  obtain ⟨kq,x21_3,rfl,HA,HJ3,BK498,BK499,BK507,HB⟩:=hcut
  cases kq with
  | zero => exact absurd HA.out (by simp [impl_KeyOf.j0])
  | succ kj3 =>
   have H:=HA.out
   clear HA
   simp only [impl_KeyOf.j0] at H
   by_cases c21 : x21_3 = true
   ·subst c21
    rw [if_pos rfl] at H
    simp only [Option.some.injEq,Prod.mk.injEq] at H
    obtain ⟨rfl,rfl⟩:=H
    go_wp2
    go_ret2
    exact ⟨mf_,xw_ HB⟩
   ·replace c21:=Bool.eq_false_iff.mpr c21
    subst c21
    rw [if_neg (show ¬ (false = true) by decide)] at H
    replace H:=mb_ H
    obtain ⟨⟨t509,t510,t511,t512,t513,t514⟩,A22,H⟩:=H
    dsimp only at H
    replace H:=mb_ H
    obtain ⟨⟨t515,t516⟩,A23,H⟩:=H
    dsimp only at H
    simp only [Option.some.injEq,Prod.mk.injEq] at H
    obtain ⟨rfl,rfl⟩:=H
    have hnb24:=NB507_498.out
    have hnc24:=NB498_507.out
    have hnb25:=NB507_499.out
    have hnc25:=NB499_507.out
    have ⟨_,_,_,_,_,_,_,_,_,_,_,_⟩:=c6_ BK507
    go_wp2_with (first | ((with_reducible refine gc_ 41 ?_);refine xgl_ (some 23) Tryz.func41 #[.agg #[.string t500,.string t501,.int .i64 t502,.string t503,.string t504,.bool t505]] ?_;(with_reducible refine (impl_normal.calls kj3 t500 t501 t502 t503 t504 t505 t509 t510 t511 t512 t513 t514 _ A22.out (HTB_.out.below (by first | (with_reducible exact Below.refl _ _) | (repeat (first | (with_reducible first | exact HB.out | exact Below.refl _ _ | apply below_alloc | apply pw_below_drewN | apply below_drew1 | refine below_set ?_ GE498.out | refine below_set ?_ GE499.out | refine below_set ?_ GE507.out) | exact HB.out)) | (repeat (first | exact Below.refl _ _ | apply below_alloc | apply pw_below_drewN | apply below_drew1 | refine below_set ?_ GE498.out | refine below_set ?_ GE499.out | refine below_set ?_ GE507.out))))).mono ?_);rintro e w27 ⟨rfl,hb⟩;refine ⟨_,rfl,?_⟩;replace BK498:=xbb_ BK498 hb;replace BK499:=xbb_ BK499 hb;replace BK507:=xbb_ BK507 hb;replace HB:=xws_ HB hb;(try clear hb)) | ((with_reducible refine gc_ 40 ?_);refine xgl_ (some 24) Tryz.func40 #[.agg #[.string t509,.string t510,.int .i64 t511,.string t512,.string t513,.bool t514]] ?_;(with_reducible refine (impl_UrlText.calls kj3 t509 t510 t511 t512 t513 t514 t515 t516 _ A23.out (HTB_.out.below (by first | (with_reducible exact Below.refl _ _) | (repeat (first | (with_reducible first | exact HB.out | exact Below.refl _ _ | apply below_alloc | apply pw_below_drewN | apply below_drew1 | refine below_set ?_ GE498.out | refine below_set ?_ GE499.out | refine below_set ?_ GE507.out) | exact HB.out)) | (repeat (first | exact Below.refl _ _ | apply below_alloc | apply pw_below_drewN | apply below_drew1 | refine below_set ?_ GE498.out | refine below_set ?_ GE499.out | refine below_set ?_ GE507.out))))).mono ?_);rintro e w28 ⟨rfl,hb⟩;refine ⟨_,rfl,?_⟩;replace BK498:=xbb_ BK498 hb;replace BK499:=xbb_ BK499 hb;replace BK507:=xbb_ BK507 hb;replace HB:=xws_ HB hb;(try clear hb)))
    go_ret2
    exact ⟨mf_,xw_ HB⟩

/-! ### laws_eqField: function 83 -/
def laws_eqField.f (a0_0 : ByteArray) (a0_1 : ByteArray) (a1_0 : ByteArray) (a1_1 : ByteArray) : Option (Bool):=if a0_0.toList = a1_0.toList then (if a0_1.toList = a1_1.toList then (some true) else (some false)) else (some false)
set_option maxHeartbeats 8000000 in
set_option maxRecDepth 100000 in
theorem laws_eqField.calls (a0_0 : ByteArray) (a0_1 : ByteArray) (a1_0 : ByteArray) (a1_1 : ByteArray) (r : Bool) (w : World) (h : laws_eqField.f a0_0 a0_1 a1_0 a1_1 = some r) :
  Calls Tryz.prog 83 #[.agg #[.string a0_0,.string a0_1],.agg #[.string a1_0,.string a1_1]] w fun e w' => e = .returned (.bool r) ∧ Below w.heap.size w w':=by
 have hu105:=Tryz.underlying105
 have HB:=Aside0.mk (Below.refl w.heap.size w)
 have H:=h
 unfold laws_eqField.f at H
 clear h
 by_cases c3 : a0_0.toList = a1_0.toList
 ·rw [if_pos c3] at H
  have c3b0 : (a0_0.toList == a1_0.toList) = true:=beq_iff_eq.mpr c3
  have c3b1 : (a0_0.toList != a1_0.toList) = false:=bne_eq_false_iff_eq.mpr c3
  clear c3
  by_cases c4 : a0_1.toList = a1_1.toList
  ·rw [if_pos c4] at H
   have c4b0 : (a0_1.toList == a1_1.toList) = true:=beq_iff_eq.mpr c4
   have c4b1 : (a0_1.toList != a1_1.toList) = false:=bne_eq_false_iff_eq.mpr c4
   clear c4
   obtain rfl:=Option.some.inj H
   go_enter Tryz.func83,Tryz.ntmps83
   go_wp2_with (first | ((with_reducible refine gd_ 2 ?_);refine xbe_ (N:=2) (cs:=#[.string a0_0,.string a0_1]) (t:=105) ?_;intro gb517 hg w5 hbox hb;have BK517:=Aside0.mk (hbox);have GE517:=xge_ HB hg;replace HB:=xws_ HB hb;clear hb hbox hg) | ((with_reducible refine gd_ 3 ?_);refine xbe_ (N:=3) (cs:=#[.string a1_0,.string a1_1]) (t:=105) ?_;intro gb518 hg w6 hbox hb;have BK518:=Aside0.mk (hbox);have GE518:=xge_ HB hg;replace HB:=xws_ HB hb;have NB517_518:=xlt_ BK517 hg;have NB518_517:=xgt_ BK517 hg;replace BK517:=xbb_ BK517 hb;clear hb hbox hg;have hnb7:=NB517_518.out;have hnc7:=NB518_517.out;have ⟨_,_,_,_⟩:=c2_ BK517;have ⟨_,_,_,_⟩:=c2_ BK518))
   go_ret
   exact ⟨mf_,xw_ HB⟩
  ·rw [if_neg c4] at H
   have c4b0 : (a0_1.toList == a1_1.toList) = false:=beq_eq_false_iff_ne.mpr c4
   have c4b1 : (a0_1.toList != a1_1.toList) = true:=bne_iff_ne.mpr c4
   obtain rfl:=Option.some.inj H
   go_enter Tryz.func83,Tryz.ntmps83
   go_wp2_with (first | ((with_reducible refine gd_ 2 ?_);refine xbe_ (N:=2) (cs:=#[.string a0_0,.string a0_1]) (t:=105) ?_;intro gb517 hg w10 hbox hb;have BK517:=Aside0.mk (hbox);have GE517:=xge_ HB hg;replace HB:=xws_ HB hb;clear hb hbox hg) | ((with_reducible refine gd_ 3 ?_);refine xbe_ (N:=3) (cs:=#[.string a1_0,.string a1_1]) (t:=105) ?_;intro gb518 hg w11 hbox hb;have BK518:=Aside0.mk (hbox);have GE518:=xge_ HB hg;replace HB:=xws_ HB hb;have NB517_518:=xlt_ BK517 hg;have NB518_517:=xgt_ BK517 hg;replace BK517:=xbb_ BK517 hb;clear hb hbox hg;have hnb12:=NB517_518.out;have hnc12:=NB518_517.out;have ⟨_,_,_,_⟩:=c2_ BK517;have ⟨_,_,_,_⟩:=c2_ BK518))
   go_ret
   exact ⟨mf_,xw_ HB⟩
 ·rw [if_neg c3] at H
  have c3b0 : (a0_0.toList == a1_0.toList) = false:=beq_eq_false_iff_ne.mpr c3
  have c3b1 : (a0_0.toList != a1_0.toList) = true:=bne_iff_ne.mpr c3
  obtain rfl:=Option.some.inj H
  go_enter Tryz.func83,Tryz.ntmps83
  go_wp2_with (first | ((with_reducible refine gd_ 2 ?_);refine xbe_ (N:=2) (cs:=#[.string a0_0,.string a0_1]) (t:=105) ?_;intro gb517 hg w15 hbox hb;have BK517:=Aside0.mk (hbox);have GE517:=xge_ HB hg;replace HB:=xws_ HB hb;clear hb hbox hg) | ((with_reducible refine gd_ 3 ?_);refine xbe_ (N:=3) (cs:=#[.string a1_0,.string a1_1]) (t:=105) ?_;intro gb518 hg w16 hbox hb;have BK518:=Aside0.mk (hbox);have GE518:=xge_ HB hg;replace HB:=xws_ HB hb;have NB517_518:=xlt_ BK517 hg;have NB518_517:=xgt_ BK517 hg;replace BK517:=xbb_ BK517 hb;clear hb hbox hg;have hnb17:=NB517_518.out;have hnc17:=NB518_517.out;have ⟨_,_,_,_⟩:=c2_ BK517;have ⟨_,_,_,_⟩:=c2_ BK518))
  go_ret
  exact ⟨mf_,xw_ HB⟩

/-! ### laws_eqFieldS: function 42 -/
def laws_eqFieldS.l0 : Nat → List (S105) → List (S105) → Int → Option (Bool)
 | 0,_,_,_ => none
 | k + 1,x0,x1,x5 => if x5 < (x0.length : Int) then (if 0 ≤ x5 then (if x5 < (x1.length : Int) then ((laws_eqField.f ((rd_T105 x0 x5).f0) ((rd_T105 x0 x5).f1) ((rd_T105 x1 x5).f0) ((rd_T105 x1 x5).f1)).bind fun t521 => (if t521 = true then (laws_eqFieldS.l0 k x0 x1 (wrap64 (x5 + 1))) else (some false))) else (none)) else (none)) else (some true)
def laws_eqFieldS.f (k : Nat) (l0 : List (S105)) (l1 : List (S105)) : Option (Bool):=if (l0.length : Int) = (l1.length : Int) then (laws_eqFieldS.l0 k l0 l1 0) else (some false)
def laws_eqFieldS.T6 : Bool × List (List Nat × List Nat):=(true,[([],[]),([],[]),([0,1],[0,1]),([2],[2]),([],[]),([],[]),([4,5],[4,5]),([6],[6]),([3,7],[3,7]),([8],[8])])
def laws_eqFieldS.B6 : List Nat:=[0,0,3,7,0,0,48,112,255,511]
theorem laws_eqFieldS.tab6 : rtab .any (opsOf Tryz.f42 6) = laws_eqFieldS.T6:=by kernel_rfl
theorem laws_eqFieldS.bits6 : waitsOk laws_eqFieldS.T6.2 laws_eqFieldS.B6 = true:=by kernel_rfl
set_option maxHeartbeats 8000000 in
set_option maxRecDepth 100000 in
theorem laws_eqFieldS.calls (k : Nat) (A0 : Option Addr) (c0 : Nat) (l0 : List (S105)) (A1 : Option Addr) (c1 : Nat) (l1 : List (S105)) (r : Bool) (w : World) (hr0 : Kd.C k105 w A0 l0.length l0) (hc0 : l0.length ≤ c0) (hr1 : Kd.C k105 w A1 l1.length l1) (hc1 : l1.length ≤ c1) (h : laws_eqFieldS.f k l0 l1 = some r) :
  Calls Tryz.prog 42 #[.slice A0 l0.length c0,.slice A1 l1.length c1] w fun e w' => e = .returned (.bool r) ∧ Below w.heap.size w w':=by
 have hu105:=Tryz.underlying105
 have HR0:=Aside0.mk hr0
 have HC0:=Aside0.mk hc0
 clear hr0 hc0
 have HR1:=Aside0.mk hr1
 have HC1:=Aside0.mk hc1
 clear hr1 hc1
 have HB:=Aside0.mk (Below.refl w.heap.size w)
 have H:=h
 unfold laws_eqFieldS.f at H
 clear h
 by_cases c3 : (l0.length : Int) = (l1.length : Int)
 ·rw [if_pos c3] at H
  have c3b0 : ((l0.length : Int) == (l1.length : Int)) = true:=beq_iff_eq.mpr c3
  have c3b1 : ((l0.length : Int) != (l1.length : Int)) = false:=bne_eq_false_iff_eq.mpr c3
  have c3b2 : (l0.length == l1.length) = true:=by first | simpa using c3 | (simp at c3 ⊢;omega)
  clear c3
  have H':=Aside0.mk H
  clear H
  go_enter Tryz.func42,Tryz.ntmps42
  go_wp2
  go_loopg [5] k (fun kq v5 w' => ∃ (x5_1 : Int),v5 = .int .i64 x5_1 ∧ Aside0 (laws_eqFieldS.l0 kq l0 l1 x5_1 = some r) ∧ Aside0 (kq ≤ k) ∧ Aside0 (Below w.heap.size w w'))
  case atStart => exact ⟨(0),me_,H',⟨Nat.le_refl _⟩,⟨xw_ HB⟩⟩
  case round =>
   clear H'
   try clear c3
   try clear c3b0
   try clear c3b1
   try clear c3b2
   obtain ⟨x5_1,rfl,HA,HK1,HB⟩:=hrel
   cases gk with
   | zero => exact absurd HA.out (by simp [laws_eqFieldS.l0])
   | succ k1 =>
    have H:=HA.out
    clear HA
    simp only [laws_eqFieldS.l0] at H
    by_cases c4 : x5_1 < (l0.length : Int)
    ·rw [if_pos c4] at H
     have c4b0:=decide_eq_true c4
     clear c4
     replace H:=mi_ H
     obtain ⟨c5,H⟩:=H
     have c5b0:=decide_eq_true c5
     clear c5
     replace H:=mi_ H
     obtain ⟨c6,H⟩:=H
     have c6b0:=decide_eq_true c6
     clear c6
     replace H:=mb_ H
     obtain ⟨t521,A7,H⟩:=H
     by_cases c8 : t521 = true
     ·subst c8
      rw [if_pos rfl] at H
      have H':=Aside0.mk H
      clear H
      try go_wp2
      replace HB:=Aside0.mk (below_drew1 HB.out)
      have p519 : 0 ≤ (x5_1 : Int):=md_
      have q519 : x5_1 < (l0.length : Int):=md_
      obtain ⟨ad519,e519,hx519_0,hx519_1⟩:=at_T105 HR0.out x5_1 p519 q519
      have hw519_1:=hx519_1
      have hw519_0:=hx519_0
      cases e519
      (try replace hx519_0:=(HB.out.cell (World.block_lt_of_cell? w _ hx519_0)).trans hx519_0)
      (try replace hx519_1:=(HB.out.cell (World.block_lt_of_cell? w _ hx519_1)).trans hx519_1)
      replace p519:=eq_true p519
      replace q519:=eq_true q519
      have p520 : 0 ≤ (x5_1 : Int):=md_
      have q520 : x5_1 < (l1.length : Int):=md_
      obtain ⟨ad520,e520,hx520_0,hx520_1⟩:=at_T105 HR1.out x5_1 p520 q520
      have hw520_1:=hx520_1
      have hw520_0:=hx520_0
      cases e520
      (try replace hx520_0:=(HB.out.cell (World.block_lt_of_cell? w _ hx520_0)).trans hx520_0)
      (try replace hx520_1:=(HB.out.cell (World.block_lt_of_cell? w _ hx520_1)).trans hx520_1)
      replace p520:=eq_true p520
      replace q520:=eq_true q520
      refine ms_ 10 (fun w' => w'.cell? (ad519.add ((x5_1).toNat * 2)) = some (.string ((rd_T105 l0 x5_1).f0)) ∧ w'.cell? ⟨(ad519.add ((x5_1).toNat * 2)).block,(ad519.add ((x5_1).toNat * 2)).off + 1,none⟩ = some (.string ((rd_T105 l0 x5_1).f1)) ∧ w'.cell? (ad520.add ((x5_1).toNat * 2)) = some (.string ((rd_T105 l1 x5_1).f0)) ∧ w'.cell? ⟨(ad520.add ((x5_1).toNat * 2)).block,(ad520.add ((x5_1).toNat * 2)).off + 1,none⟩ = some (.string ((rd_T105 l1 x5_1).f1))) laws_eqFieldS.tab6 laws_eqFieldS.bits6 ⟨((HB.out.cell (World.block_lt_of_cell? w _ hw519_0)).trans hw519_0),((HB.out.cell (World.block_lt_of_cell? w _ hw519_1)).trans hw519_1),((HB.out.cell (World.block_lt_of_cell? w _ hw520_0)).trans hw520_0),((HB.out.cell (World.block_lt_of_cell? w _ hw520_1)).trans hw520_1)⟩ (fun hHeld HT_ HW_ => ?_)
      generalize wr.drew = w9 at HB hx519_0 hx519_1 hx520_0 hx520_1 hHeld ⊢
      refine mp_ 0 17 ?_
      refine mp_ 1 18 ?_
      refine mp_ 2 19 ?_
      refine mp_ 4 21 ?_
      refine mp_ 5 22 ?_
      refine mp_ 6 23 ?_
      refine mt_ 3 20 hHeld ?_
      refine mt_ 7 24 hHeld ?_
      refine m1_ 8 25 Tryz.func83 #[.agg #[.string ((rd_T105 l0 x5_1).f0),.string ((rd_T105 l0 x5_1).f1)],.agg #[.string ((rd_T105 l1 x5_1).f0),.string ((rd_T105 l1 x5_1).f1)]] ?_
      with_reducible refine (laws_eqField.calls ((rd_T105 l0 x5_1).f0) ((rd_T105 l0 x5_1).f1) ((rd_T105 l1 x5_1).f0) ((rd_T105 l1 x5_1).f1) true _ A7.out).mono ?_
      rintro e w10 ⟨rfl,hb⟩
      refine ⟨_,rfl,?_⟩
      replace HB:=xws_ HB hb
      (try clear hb)
      refine ⟨⟨((HB.out.cell (World.block_lt_of_cell? w _ hw519_0)).trans hw519_0),((HB.out.cell (World.block_lt_of_cell? w _ hw519_1)).trans hw519_1),((HB.out.cell (World.block_lt_of_cell? w _ hw520_0)).trans hw520_0),((HB.out.cell (World.block_lt_of_cell? w _ hw520_1)).trans hw520_1)⟩,fun hHeld => ?_⟩
      refine mn_ 25 ?_
      refine mp_ 9 26 ?_
      refine done_ (done_of HT_.out (by kernel_rfl)) ?_
      try go_wp2
      go_roundg k1
      case measure => have:=HK1.out;omega
      case rel => exact ⟨(wrap64 (x5_1 + 1)),me_,H',⟨by have:=HK1.out;omega⟩,⟨xw_ HB⟩⟩
     ·replace c8:=Bool.eq_false_iff.mpr c8
      subst c8
      rw [if_neg (show ¬ (false = true) by decide)] at H
      obtain rfl:=Option.some.inj H
      try go_wp2
      replace HB:=Aside0.mk (below_drew1 HB.out)
      have p519 : 0 ≤ (x5_1 : Int):=md_
      have q519 : x5_1 < (l0.length : Int):=md_
      obtain ⟨ad519,e519,hx519_0,hx519_1⟩:=at_T105 HR0.out x5_1 p519 q519
      have hw519_1:=hx519_1
      have hw519_0:=hx519_0
      cases e519
      (try replace hx519_0:=(HB.out.cell (World.block_lt_of_cell? w _ hx519_0)).trans hx519_0)
      (try replace hx519_1:=(HB.out.cell (World.block_lt_of_cell? w _ hx519_1)).trans hx519_1)
      replace p519:=eq_true p519
      replace q519:=eq_true q519
      have p520 : 0 ≤ (x5_1 : Int):=md_
      have q520 : x5_1 < (l1.length : Int):=md_
      obtain ⟨ad520,e520,hx520_0,hx520_1⟩:=at_T105 HR1.out x5_1 p520 q520
      have hw520_1:=hx520_1
      have hw520_0:=hx520_0
      cases e520
      (try replace hx520_0:=(HB.out.cell (World.block_lt_of_cell? w _ hx520_0)).trans hx520_0)
      (try replace hx520_1:=(HB.out.cell (World.block_lt_of_cell? w _ hx520_1)).trans hx520_1)
      replace p520:=eq_true p520
      replace q520:=eq_true q520
      refine ms_ 10 (fun w' => w'.cell? (ad519.add ((x5_1).toNat * 2)) = some (.string ((rd_T105 l0 x5_1).f0)) ∧ w'.cell? ⟨(ad519.add ((x5_1).toNat * 2)).block,(ad519.add ((x5_1).toNat * 2)).off + 1,none⟩ = some (.string ((rd_T105 l0 x5_1).f1)) ∧ w'.cell? (ad520.add ((x5_1).toNat * 2)) = some (.string ((rd_T105 l1 x5_1).f0)) ∧ w'.cell? ⟨(ad520.add ((x5_1).toNat * 2)).block,(ad520.add ((x5_1).toNat * 2)).off + 1,none⟩ = some (.string ((rd_T105 l1 x5_1).f1))) laws_eqFieldS.tab6 laws_eqFieldS.bits6 ⟨((HB.out.cell (World.block_lt_of_cell? w _ hw519_0)).trans hw519_0),((HB.out.cell (World.block_lt_of_cell? w _ hw519_1)).trans hw519_1),((HB.out.cell (World.block_lt_of_cell? w _ hw520_0)).trans hw520_0),((HB.out.cell (World.block_lt_of_cell? w _ hw520_1)).trans hw520_1)⟩ (fun hHeld HT_ HW_ => ?_)
      generalize wr.drew = w11 at HB hx519_0 hx519_1 hx520_0 hx520_1 hHeld ⊢
      refine mp_ 0 17 ?_
      refine mp_ 1 18 ?_
      refine mp_ 2 19 ?_
      refine mp_ 4 21 ?_
      refine mp_ 5 22 ?_
      refine mp_ 6 23 ?_
      refine mt_ 3 20 hHeld ?_
      refine mt_ 7 24 hHeld ?_
      refine m1_ 8 25 Tryz.func83 #[.agg #[.string ((rd_T105 l0 x5_1).f0),.string ((rd_T105 l0 x5_1).f1)],.agg #[.string ((rd_T105 l1 x5_1).f0),.string ((rd_T105 l1 x5_1).f1)]] ?_
      with_reducible refine (laws_eqField.calls ((rd_T105 l0 x5_1).f0) ((rd_T105 l0 x5_1).f1) ((rd_T105 l1 x5_1).f0) ((rd_T105 l1 x5_1).f1) false _ A7.out).mono ?_
      rintro e w12 ⟨rfl,hb⟩
      refine ⟨_,rfl,?_⟩
      replace HB:=xws_ HB hb
      (try clear hb)
      refine ⟨⟨((HB.out.cell (World.block_lt_of_cell? w _ hw519_0)).trans hw519_0),((HB.out.cell (World.block_lt_of_cell? w _ hw519_1)).trans hw519_1),((HB.out.cell (World.block_lt_of_cell? w _ hw520_0)).trans hw520_0),((HB.out.cell (World.block_lt_of_cell? w _ hw520_1)).trans hw520_1)⟩,fun hHeld => ?_⟩
      refine mn_ 25 ?_
      refine mp_ 9 26 ?_
      refine done_ (done_of HT_.out (by kernel_rfl)) ?_
      try go_wp2
      go_ret
      exact ⟨mf_,xw_ HB⟩
    ·rw [if_neg c4] at H
     have c4b0:=decide_eq_false c4
     clear c4
     obtain rfl:=Option.some.inj H
     go_wp2
     go_ret
     exact ⟨mf_,xw_ HB⟩
 ·rw [if_neg c3] at H
  have c3b0 : ((l0.length : Int) == (l1.length : Int)) = false:=beq_eq_false_iff_ne.mpr c3
  have c3b1 : ((l0.length : Int) != (l1.length : Int)) = true:=bne_iff_ne.mpr c3
  have c3b2 : (l0.length == l1.length) = false:=by first | simpa using c3 | (simp at c3 ⊢;omega)
  obtain rfl:=Option.some.inj H
  go_enter Tryz.func42,Tryz.ntmps42
  go_wp2
  go_ret
  exact ⟨mf_,xw_ HB⟩

/-! ### laws_eqRequest: function 13 -/
def laws_eqRequest.f (k : Nat) (a0_0 : ByteArray) (a0_1 : ByteArray) (l0_2 : List (S105)) (a0_3 : ByteArray) (a1_0 : ByteArray) (a1_1 : ByteArray) (l1_2 : List (S105)) (a1_3 : ByteArray) : Option (Bool):=if a0_0.toList = a1_0.toList then (if a0_1.toList = a1_1.toList then ((laws_eqFieldS.f k l0_2 l1_2).bind fun t524 => (if t524 = true then (if a0_3.toList = a1_3.toList then (some true) else (some false)) else (some false))) else (some false)) else (some false)
set_option maxHeartbeats 8000000 in
set_option maxRecDepth 100000 in
theorem laws_eqRequest.calls (k : Nat) (a0_0 : ByteArray) (a0_1 : ByteArray) (A0_2 : Option Addr) (c0_2 : Nat) (l0_2 : List (S105)) (a0_3 : ByteArray) (a1_0 : ByteArray) (a1_1 : ByteArray) (A1_2 : Option Addr) (c1_2 : Nat) (l1_2 : List (S105)) (a1_3 : ByteArray) (r : Bool) (w : World) (hr0_2 : Kd.C k105 w A0_2 l0_2.length l0_2) (hc0_2 : l0_2.length ≤ c0_2) (hr1_2 : Kd.C k105 w A1_2 l1_2.length l1_2) (hc1_2 : l1_2.length ≤ c1_2) (h : laws_eqRequest.f k a0_0 a0_1 l0_2 a0_3 a1_0 a1_1 l1_2 a1_3 = some r) :
  Calls Tryz.prog 13 #[.agg #[.string a0_0,.string a0_1,.slice A0_2 l0_2.length c0_2,.string a0_3],.agg #[.string a1_0,.string a1_1,.slice A1_2 l1_2.length c1_2,.string a1_3]] w fun e w' => e = .returned (.bool r) ∧ Below w.heap.size w w':=by
 have hu35:=Tryz.underlying35
 have HR0_2:=Aside0.mk hr0_2
 have HC0_2:=Aside0.mk hc0_2
 clear hr0_2 hc0_2
 have HR1_2:=Aside0.mk hr1_2
 have HC1_2:=Aside0.mk hc1_2
 clear hr1_2 hc1_2
 have HB:=Aside0.mk (Below.refl w.heap.size w)
 have H:=h
 unfold laws_eqRequest.f at H
 clear h
 by_cases c3 : a0_0.toList = a1_0.toList
 ·rw [if_pos c3] at H
  have c3b0 : (a0_0.toList == a1_0.toList) = true:=beq_iff_eq.mpr c3
  have c3b1 : (a0_0.toList != a1_0.toList) = false:=bne_eq_false_iff_eq.mpr c3
  clear c3
  by_cases c4 : a0_1.toList = a1_1.toList
  ·rw [if_pos c4] at H
   have c4b0 : (a0_1.toList == a1_1.toList) = true:=beq_iff_eq.mpr c4
   have c4b1 : (a0_1.toList != a1_1.toList) = false:=bne_eq_false_iff_eq.mpr c4
   clear c4
   replace H:=mb_ H
   obtain ⟨t524,A5,H⟩:=H
   by_cases c6 : t524 = true
   ·subst c6
    rw [if_pos rfl] at H
    by_cases c7 : a0_3.toList = a1_3.toList
    ·rw [if_pos c7] at H
     have c7b0 : (a0_3.toList == a1_3.toList) = true:=beq_iff_eq.mpr c7
     have c7b1 : (a0_3.toList != a1_3.toList) = false:=bne_eq_false_iff_eq.mpr c7
     clear c7
     obtain rfl:=Option.some.inj H
     go_enter Tryz.func13,Tryz.ntmps13
     go_wp2_with (first | ((with_reducible refine gd_ 2 ?_);refine xbe_ (N:=2) (cs:=#[.string a0_0,.string a0_1,.slice A0_2 l0_2.length c0_2,.string a0_3]) (t:=35) ?_;intro gb522 hg w8 hbox hb;have BK522:=Aside0.mk (hbox);have GE522:=xge_ HB hg;replace HB:=xws_ HB hb;clear hb hbox hg) | ((with_reducible refine gd_ 3 ?_);refine xbe_ (N:=3) (cs:=#[.string a1_0,.string a1_1,.slice A1_2 l1_2.length c1_2,.string a1_3]) (t:=35) ?_;intro gb523 hg w9 hbox hb;have BK523:=Aside0.mk (hbox);have GE523:=xge_ HB hg;replace HB:=xws_ HB hb;have NB522_523:=xlt_ BK522 hg;have NB523_522:=xgt_ BK522 hg;replace BK522:=xbb_ BK522 hb;clear hb hbox hg;have hnb10:=NB522_523.out;have hnc10:=NB523_522.out;have ⟨_,_,_,_,_,_,_,_⟩:=c4_ BK522;have ⟨_,_,_,_,_,_,_,_⟩:=c4_ BK523) | ((with_reducible refine gc_ 42 ?_);refine xgl_ (some 19) Tryz.func42 #[.slice A0_2 l0_2.length c0_2,.slice A1_2 l1_2.length c1_2] ?_;(with_reducible refine (laws_eqFieldS.calls k _ _ l0_2 _ _ l1_2 true _ ?side1 ?side2 ?side3 ?side4 A5.out).mono ?_);(case side1 => exact xc_ ((Kd.C_below HR0_2.out HB.out)));(case side2 => exact HC0_2.out);(case side3 => exact xc_ ((Kd.C_below HR1_2.out HB.out)));(case side4 => exact HC1_2.out);rintro e w13 ⟨rfl,hb⟩;refine ⟨_,rfl,?_⟩;replace BK522:=xbb_ BK522 hb;replace BK523:=xbb_ BK523 hb;replace HB:=xws_ HB hb;(try clear hb);have ⟨_,_,_,_,_,_,_,_⟩:=c4_ BK522;have ⟨_,_,_,_,_,_,_,_⟩:=c4_ BK523))
     go_ret
     exact ⟨mf_,xw_ HB⟩
    ·rw [if_neg c7] at H
     have c7b0 : (a0_3.toList == a1_3.toList) = false:=beq_eq_false_iff_ne.mpr c7
     have c7b1 : (a0_3.toList != a1_3.toList) = true:=bne_iff_ne.mpr c7
     obtain rfl:=Option.some.inj H
     go_enter Tryz.func13,Tryz.ntmps13
     go_wp2_with (first | ((with_reducible refine gd_ 2 ?_);refine xbe_ (N:=2) (cs:=#[.string a0_0,.string a0_1,.slice A0_2 l0_2.length c0_2,.string a0_3]) (t:=35) ?_;intro gb522 hg w16 hbox hb;have BK522:=Aside0.mk (hbox);have GE522:=xge_ HB hg;replace HB:=xws_ HB hb;clear hb hbox hg) | ((with_reducible refine gd_ 3 ?_);refine xbe_ (N:=3) (cs:=#[.string a1_0,.string a1_1,.slice A1_2 l1_2.length c1_2,.string a1_3]) (t:=35) ?_;intro gb523 hg w17 hbox hb;have BK523:=Aside0.mk (hbox);have GE523:=xge_ HB hg;replace HB:=xws_ HB hb;have NB522_523:=xlt_ BK522 hg;have NB523_522:=xgt_ BK522 hg;replace BK522:=xbb_ BK522 hb;clear hb hbox hg;have hnb18:=NB522_523.out;have hnc18:=NB523_522.out;have ⟨_,_,_,_,_,_,_,_⟩:=c4_ BK522;have ⟨_,_,_,_,_,_,_,_⟩:=c4_ BK523) | ((with_reducible refine gc_ 42 ?_);refine xgl_ (some 19) Tryz.func42 #[.slice A0_2 l0_2.length c0_2,.slice A1_2 l1_2.length c1_2] ?_;(with_reducible refine (laws_eqFieldS.calls k _ _ l0_2 _ _ l1_2 true _ ?side1 ?side2 ?side3 ?side4 A5.out).mono ?_);(case side1 => exact xc_ ((Kd.C_below HR0_2.out HB.out)));(case side2 => exact HC0_2.out);(case side3 => exact xc_ ((Kd.C_below HR1_2.out HB.out)));(case side4 => exact HC1_2.out);rintro e w21 ⟨rfl,hb⟩;refine ⟨_,rfl,?_⟩;replace BK522:=xbb_ BK522 hb;replace BK523:=xbb_ BK523 hb;replace HB:=xws_ HB hb;(try clear hb);have ⟨_,_,_,_,_,_,_,_⟩:=c4_ BK522;have ⟨_,_,_,_,_,_,_,_⟩:=c4_ BK523))
     go_ret
     exact ⟨mf_,xw_ HB⟩
   ·replace c6:=Bool.eq_false_iff.mpr c6
    subst c6
    rw [if_neg (show ¬ (false = true) by decide)] at H
    obtain rfl:=Option.some.inj H
    go_enter Tryz.func13,Tryz.ntmps13
    go_wp2_with (first | ((with_reducible refine gd_ 2 ?_);refine xbe_ (N:=2) (cs:=#[.string a0_0,.string a0_1,.slice A0_2 l0_2.length c0_2,.string a0_3]) (t:=35) ?_;intro gb522 hg w24 hbox hb;have BK522:=Aside0.mk (hbox);have GE522:=xge_ HB hg;replace HB:=xws_ HB hb;clear hb hbox hg) | ((with_reducible refine gd_ 3 ?_);refine xbe_ (N:=3) (cs:=#[.string a1_0,.string a1_1,.slice A1_2 l1_2.length c1_2,.string a1_3]) (t:=35) ?_;intro gb523 hg w25 hbox hb;have BK523:=Aside0.mk (hbox);have GE523:=xge_ HB hg;replace HB:=xws_ HB hb;have NB522_523:=xlt_ BK522 hg;have NB523_522:=xgt_ BK522 hg;replace BK522:=xbb_ BK522 hb;clear hb hbox hg;have hnb26:=NB522_523.out;have hnc26:=NB523_522.out;have ⟨_,_,_,_,_,_,_,_⟩:=c4_ BK522;have ⟨_,_,_,_,_,_,_,_⟩:=c4_ BK523) | ((with_reducible refine gc_ 42 ?_);refine xgl_ (some 19) Tryz.func42 #[.slice A0_2 l0_2.length c0_2,.slice A1_2 l1_2.length c1_2] ?_;(with_reducible refine (laws_eqFieldS.calls k _ _ l0_2 _ _ l1_2 false _ ?side1 ?side2 ?side3 ?side4 A5.out).mono ?_);(case side1 => exact xc_ ((Kd.C_below HR0_2.out HB.out)));(case side2 => exact HC0_2.out);(case side3 => exact xc_ ((Kd.C_below HR1_2.out HB.out)));(case side4 => exact HC1_2.out);rintro e w29 ⟨rfl,hb⟩;refine ⟨_,rfl,?_⟩;replace BK522:=xbb_ BK522 hb;replace BK523:=xbb_ BK523 hb;replace HB:=xws_ HB hb;(try clear hb)))
    go_ret
    exact ⟨mf_,xw_ HB⟩
  ·rw [if_neg c4] at H
   have c4b0 : (a0_1.toList == a1_1.toList) = false:=beq_eq_false_iff_ne.mpr c4
   have c4b1 : (a0_1.toList != a1_1.toList) = true:=bne_iff_ne.mpr c4
   obtain rfl:=Option.some.inj H
   go_enter Tryz.func13,Tryz.ntmps13
   go_wp2_with (first | ((with_reducible refine gd_ 2 ?_);refine xbe_ (N:=2) (cs:=#[.string a0_0,.string a0_1,.slice A0_2 l0_2.length c0_2,.string a0_3]) (t:=35) ?_;intro gb522 hg w30 hbox hb;have BK522:=Aside0.mk (hbox);have GE522:=xge_ HB hg;replace HB:=xws_ HB hb;clear hb hbox hg) | ((with_reducible refine gd_ 3 ?_);refine xbe_ (N:=3) (cs:=#[.string a1_0,.string a1_1,.slice A1_2 l1_2.length c1_2,.string a1_3]) (t:=35) ?_;intro gb523 hg w31 hbox hb;have BK523:=Aside0.mk (hbox);have GE523:=xge_ HB hg;replace HB:=xws_ HB hb;have NB522_523:=xlt_ BK522 hg;have NB523_522:=xgt_ BK522 hg;replace BK522:=xbb_ BK522 hb;clear hb hbox hg;have hnb32:=NB522_523.out;have hnc32:=NB523_522.out;have ⟨_,_,_,_,_,_,_,_⟩:=c4_ BK522;have ⟨_,_,_,_,_,_,_,_⟩:=c4_ BK523))
   go_ret
   exact ⟨mf_,xw_ HB⟩
 ·rw [if_neg c3] at H
  have c3b0 : (a0_0.toList == a1_0.toList) = false:=beq_eq_false_iff_ne.mpr c3
  have c3b1 : (a0_0.toList != a1_0.toList) = true:=bne_iff_ne.mpr c3
  obtain rfl:=Option.some.inj H
  go_enter Tryz.func13,Tryz.ntmps13
  go_wp2_with (first | ((with_reducible refine gd_ 2 ?_);refine xbe_ (N:=2) (cs:=#[.string a0_0,.string a0_1,.slice A0_2 l0_2.length c0_2,.string a0_3]) (t:=35) ?_;intro gb522 hg w35 hbox hb;have BK522:=Aside0.mk (hbox);have GE522:=xge_ HB hg;replace HB:=xws_ HB hb;clear hb hbox hg) | ((with_reducible refine gd_ 3 ?_);refine xbe_ (N:=3) (cs:=#[.string a1_0,.string a1_1,.slice A1_2 l1_2.length c1_2,.string a1_3]) (t:=35) ?_;intro gb523 hg w36 hbox hb;have BK523:=Aside0.mk (hbox);have GE523:=xge_ HB hg;replace HB:=xws_ HB hb;have NB522_523:=xlt_ BK522 hg;have NB523_522:=xgt_ BK522 hg;replace BK522:=xbb_ BK522 hb;clear hb hbox hg;have hnb37:=NB522_523.out;have hnc37:=NB523_522.out;have ⟨_,_,_,_,_,_,_,_⟩:=c4_ BK522;have ⟨_,_,_,_,_,_,_,_⟩:=c4_ BK523))
  go_ret
  exact ⟨mf_,xw_ HB⟩

end Go.Proofs.YtpggepjfhgalkaaGreatDoor.PFnExactKeyOf
