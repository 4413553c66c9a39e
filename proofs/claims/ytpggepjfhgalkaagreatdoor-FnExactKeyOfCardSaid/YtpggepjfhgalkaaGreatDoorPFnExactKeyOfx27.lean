-- Written by a program of this project (xprint.py) out of the translation; Lean checks it.
import Derived.Test.YtpggepjfhgalkaaGreatDoorPFnExactKeyOfx0
import Derived.Test.YtpggepjfhgalkaaGreatDoorPFnExactKeyOfx1
import Derived.Test.YtpggepjfhgalkaaGreatDoorPFnExactKeyOfx13
import Derived.Test.YtpggepjfhgalkaaGreatDoorPFnExactKeyOfx14
import Derived.Test.YtpggepjfhgalkaaGreatDoorPFnExactKeyOfx26
namespace Go.Proofs.YtpggepjfhgalkaaGreatDoor.PFnExactKeyOf
open Go.RowKit Go.Proofs.YtpggepjfhgalkaaGreatDoorW.PrintWords Go.Proofs.YtpggepjfhgalkaaGreatDoorW.PrintLast Go.Proofs.YtpggepjfhgalkaaGreatDoorW.PrintMore
attribute [local go_sem] max2_int min2_int max_two min_two max_three min_three max_four min_four   -- for this text's walks alone
set_option linter.unusedVariables false
set_option linter.unusedSimpArgs false

/-! ### laws_FnExactKeyOf: function 3 -/
def laws_FnExactKeyOf.j0 : Nat → Bool → ByteArray → ByteArray → List (S97) → ByteArray → ByteArray → ByteArray → List (S105) → ByteArray → Option (Bool)
 | 0,_,_,_,_,_,_,_,_,_ => none
 | k + 1,x45,x527000,x527001,x527002,x527003,x550000,x550001,x550002,x550003 => if x45 = true then (some false) else ((laws_toRequest.f k x527000 x527001 x527002 x527003).bind fun bt558 => ((laws_eqRequest.f k x550000 x550001 x550002 x550003 bt558.1 bt558.2.1 bt558.2.2.1 bt558.2.2.2).bind fun t564 => (if t564 = true then (some true) else (some false))))
def laws_FnExactKeyOf.f (k : Nat) (a0_0 : ByteArray) (a0_1 : ByteArray) (a0_2 : Int) (a0_3 : ByteArray) (a0_4 : ByteArray) (a0_5 : Bool) (a1_0 : ByteArray) (a1_1 : ByteArray) (l1_2 : List (S97)) (a1_3 : ByteArray) : Option (Bool):=(laws_szUrl.f a0_0 a0_1 a0_2 a0_3 a0_4 a0_5 1048576).bind fun t527 => (if t527 < 0 then (some true) else ((laws_szRequest.f k a1_0 a1_1 l1_2 a1_3 t527).bind fun t528 => (if t528 < 0 then (some true) else ((laws_toUrl.f a0_0 a0_1 a0_2 a0_3 a0_4 a0_5).bind fun bt529 => ((laws_toRequest.f k a1_0 a1_1 l1_2 a1_3).bind fun bt535 => ((spec_KeyOf.f k bt529.1 bt529.2.1 bt529.2.2.1 bt529.2.2.2.1 bt529.2.2.2.2.1 bt529.2.2.2.2.2 bt535.1 bt535.2.1 bt535.2.2.1 bt535.2.2.2).bind fun bt541 => ((laws_toRequest.f k a1_0 a1_1 l1_2 a1_3).bind fun bt543 => ((laws_toUrl.f a0_0 a0_1 a0_2 a0_3 a0_4 a0_5).bind fun bt550 => ((impl_KeyOf.f k bt550.1 bt550.2.1 bt550.2.2.1 bt550.2.2.2.1 bt550.2.2.2.2.1 bt550.2.2.2.2.2 bt543.1 bt543.2.1 bt543.2.2.1 bt543.2.2.2).bind fun bt556 => (if bt556.1.toList = bt541.1.toList then (laws_FnExactKeyOf.j0 k (bt556.2 != bt541.2) a1_0 a1_1 l1_2 a1_3 bt543.1 bt543.2.1 bt543.2.2.1 bt543.2.2.2) else (laws_FnExactKeyOf.j0 k true a1_0 a1_1 l1_2 a1_3 bt543.1 bt543.2.1 bt543.2.2.1 bt543.2.2.2)))))))))))
def laws_FnExactKeyOf.T8 : Bool × List (List Nat × List Nat):=(true,[([],[]),([0],[0]),([],[]),([2,1],[2]),([1,3,3],[1,3]),([4],[4]),([5],[5]),([5],[5]),([6,4,0,1,2,3,4,5,6],[6]),([7,8,0,1,2,3,4,5,6,7,8],[7])])
def laws_FnExactKeyOf.B8 : List Nat:=[0,1,0,7,15,31,63,63,127,511]
theorem laws_FnExactKeyOf.tab8 : rtab .any (opsOf Tryz.f3 8) = laws_FnExactKeyOf.T8:=by kernel_rfl
theorem laws_FnExactKeyOf.bits8 : waitsOk laws_FnExactKeyOf.T8.2 laws_FnExactKeyOf.B8 = true:=by kernel_rfl
def laws_FnExactKeyOf.T10 : Bool × List (List Nat × List Nat):=(true,[([],[]),([0],[0]),([],[]),([1,2,1],[1,2]),([3],[3]),([4],[4]),([4],[4]),([5,3,0,1,2,3,4,5],[5]),([6,7,0,1,2,3,4,5,6,7],[6])])
def laws_FnExactKeyOf.B10 : List Nat:=[0,1,0,7,15,31,31,63,255]
theorem laws_FnExactKeyOf.tab10 : rtab .any (opsOf Tryz.f3 10) = laws_FnExactKeyOf.T10:=by kernel_rfl
theorem laws_FnExactKeyOf.bits10 : waitsOk laws_FnExactKeyOf.T10.2 laws_FnExactKeyOf.B10 = true:=by kernel_rfl
set_option maxHeartbeats 8000000 in
set_option maxRecDepth 100000 in
theorem laws_FnExactKeyOf.calls (k : Nat) (a0_0 : ByteArray) (a0_1 : ByteArray) (a0_2 : Int) (a0_3 : ByteArray) (a0_4 : ByteArray) (a0_5 : Bool) (a1_0 : ByteArray) (a1_1 : ByteArray) (A1_2 : Option Addr) (c1_2 : Nat) (l1_2 : List (S97)) (a1_3 : ByteArray) (r : Bool) (w : World) (hr1_2 : Kd.C k97 w A1_2 l1_2.length l1_2) (hc1_2 : l1_2.length ≤ c1_2) (h : laws_FnExactKeyOf.f k a0_0 a0_1 a0_2 a0_3 a0_4 a0_5 a1_0 a1_1 l1_2 a1_3 = some r) (hT_ : TabOk w) :
  Calls Tryz.prog 3 #[.agg #[.string a0_0,.string a0_1,.int .i64 a0_2,.string a0_3,.string a0_4,.bool a0_5],.agg #[.string a1_0,.string a1_1,.slice A1_2 l1_2.length c1_2,.string a1_3]] w fun e w' => e = .returned (.bool r) ∧ Below w.heap.size w w':=by
 have HTB_:=Aside0.mk hT_
 clear hT_
 have hu23:=Tryz.underlying23
 have hu26:=Tryz.underlying26
 have hu35:=Tryz.underlying35
 have HR1_2:=Aside0.mk hr1_2
 have HC1_2:=Aside0.mk hc1_2
 clear hr1_2 hc1_2
 have HB:=Aside0.mk (Below.refl w.heap.size w)
 have H:=h
 unfold laws_FnExactKeyOf.f at H
 clear h
 replace H:=mb_ H
 obtain ⟨t527,A3,H⟩:=H
 by_cases c4 : t527 < 0
 ·rw [if_pos c4] at H
  have c4b0:=decide_eq_true c4
  clear c4
  obtain rfl:=Option.some.inj H
  go_enter Tryz.func3,Tryz.ntmps3
  go_wp2_with (first | ((with_reducible refine gd_ 2 ?_);refine xbe_ (N:=2) (cs:=#[.string a0_0,.string a0_1,.int .i64 a0_2,.string a0_3,.string a0_4,.bool a0_5]) (t:=23) ?_;intro gb525 hg w5 hbox hb;have BK525:=Aside0.mk (hbox);have GE525:=xge_ HB hg;replace HB:=xws_ HB hb;clear hb hbox hg) | ((with_reducible refine gd_ 3 ?_);refine xbe_ (N:=3) (cs:=#[.string a1_0,.string a1_1,.slice A1_2 l1_2.length c1_2,.string a1_3]) (t:=26) ?_;intro gb526 hg w6 hbox hb;have BK526:=Aside0.mk (hbox);have GE526:=xge_ HB hg;replace HB:=xws_ HB hb;have NB525_526:=xlt_ BK525 hg;have NB526_525:=xgt_ BK525 hg;replace BK525:=xbb_ BK525 hb;clear hb hbox hg;have hnb7:=NB525_526.out;have hnc7:=NB526_525.out;have ⟨_,_,_,_,_,_,_,_,_,_,_,_⟩:=c6_ BK525) | ((with_reducible refine gc_ 7 ?_);refine xgl_ (some 13) Tryz.func7 #[.agg #[.string a0_0,.string a0_1,.int .i64 a0_2,.string a0_3,.string a0_4,.bool a0_5],.int .i64 1048576] ?_;(with_reducible refine (laws_szUrl.calls a0_0 a0_1 a0_2 a0_3 a0_4 a0_5 1048576 t527 _ A3.out).mono ?_);rintro e w9 ⟨rfl,hb⟩;refine ⟨_,rfl,?_⟩;replace BK525:=xbb_ BK525 hb;replace BK526:=xbb_ BK526 hb;replace HB:=xws_ HB hb;(try clear hb)))
  go_ret
  exact ⟨mf_,xw_ HB⟩
 ·rw [if_neg c4] at H
  have c4b0:=decide_eq_false c4
  clear c4
  replace H:=mb_ H
  obtain ⟨t528,A10,H⟩:=H
  by_cases c11 : t528 < 0
  ·rw [if_pos c11] at H
   have c11b0:=decide_eq_true c11
   clear c11
   obtain rfl:=Option.some.inj H
   go_enter Tryz.func3,Tryz.ntmps3
   go_wp2_with (first | ((with_reducible refine gd_ 2 ?_);refine xbe_ (N:=2) (cs:=#[.string a0_0,.string a0_1,.int .i64 a0_2,.string a0_3,.string a0_4,.bool a0_5]) (t:=23) ?_;intro gb525 hg w12 hbox hb;have BK525:=Aside0.mk (hbox);have GE525:=xge_ HB hg;replace HB:=xws_ HB hb;clear hb hbox hg) | ((with_reducible refine gd_ 3 ?_);refine xbe_ (N:=3) (cs:=#[.string a1_0,.string a1_1,.slice A1_2 l1_2.length c1_2,.string a1_3]) (t:=26) ?_;intro gb526 hg w13 hbox hb;have BK526:=Aside0.mk (hbox);have GE526:=xge_ HB hg;replace HB:=xws_ HB hb;have NB525_526:=xlt_ BK525 hg;have NB526_525:=xgt_ BK525 hg;replace BK525:=xbb_ BK525 hb;clear hb hbox hg;have hnb14:=NB525_526.out;have hnc14:=NB526_525.out;have ⟨_,_,_,_,_,_,_,_,_,_,_,_⟩:=c6_ BK525) | ((with_reducible refine gc_ 7 ?_);refine xgl_ (some 13) Tryz.func7 #[.agg #[.string a0_0,.string a0_1,.int .i64 a0_2,.string a0_3,.string a0_4,.bool a0_5],.int .i64 1048576] ?_;(with_reducible refine (laws_szUrl.calls a0_0 a0_1 a0_2 a0_3 a0_4 a0_5 1048576 t527 _ A3.out).mono ?_);rintro e w16 ⟨rfl,hb⟩;refine ⟨_,rfl,?_⟩;replace BK525:=xbb_ BK525 hb;replace BK526:=xbb_ BK526 hb;replace HB:=xws_ HB hb;(try clear hb);have ⟨_,_,_,_,_,_,_,_⟩:=c4_ BK526) | ((with_reducible refine gc_ 8 ?_);refine xgl_ (some 18) Tryz.func8 #[.agg #[.string a1_0,.string a1_1,.slice A1_2 l1_2.length c1_2,.string a1_3],.int .i64 t527] ?_;(with_reducible refine (laws_szRequest.calls k a1_0 a1_1 _ _ l1_2 a1_3 t527 t528 _ ?side1 ?side2 A10.out).mono ?_);(case side1 => exact xc_ ((Kd.C_below HR1_2.out HB.out)));(case side2 => exact HC1_2.out);rintro e w18 ⟨rfl,hb⟩;refine ⟨_,rfl,?_⟩;replace BK525:=xbb_ BK525 hb;replace BK526:=xbb_ BK526 hb;replace HB:=xws_ HB hb;(try clear hb)))
   go_ret
   exact ⟨mf_,xw_ HB⟩
  ·rw [if_neg c11] at H
   have c11b0:=decide_eq_false c11
   clear c11
   replace H:=mb_ H
   obtain ⟨⟨t529,t530,t531,t532,t533,t534⟩,A19,H⟩:=H
   dsimp only at H
   replace H:=mb_ H
   obtain ⟨⟨t535,t536,t537,t540⟩,A20,H⟩:=H
   dsimp only at H
   replace H:=mb_ H
   obtain ⟨⟨t541,t542⟩,A21,H⟩:=H
   dsimp only at H
   replace H:=mb_ H
   obtain ⟨⟨t543,t544,t545,t548⟩,A22,H⟩:=H
   dsimp only at H
   replace H:=mb_ H
   obtain ⟨⟨t550,t551,t552,t553,t554,t555⟩,A23,H⟩:=H
   dsimp only at H
   replace H:=mb_ H
   obtain ⟨⟨t556,t557⟩,A24,H⟩:=H
   dsimp only at H
   have HC25:=Aside0.mk H
   clear H
   go_enter Tryz.func3,Tryz.ntmps3
   try go_wp2_with (first | ((with_reducible refine gd_ 2 ?_);refine xbe_ (N:=2) (cs:=#[.string a0_0,.string a0_1,.int .i64 a0_2,.string a0_3,.string a0_4,.bool a0_5]) (t:=23) ?_;intro gb525 hg w26 hbox hb;have BK525:=Aside0.mk (hbox);have GE525:=xge_ HB hg;replace HB:=xws_ HB hb;clear hb hbox hg) | ((with_reducible refine gd_ 3 ?_);refine xbe_ (N:=3) (cs:=#[.string a1_0,.string a1_1,.slice A1_2 l1_2.length c1_2,.string a1_3]) (t:=26) ?_;intro gb526 hg w27 hbox hb;have BK526:=Aside0.mk (hbox);have GE526:=xge_ HB hg;replace HB:=xws_ HB hb;have NB525_526:=xlt_ BK525 hg;have NB526_525:=xgt_ BK525 hg;replace BK525:=xbb_ BK525 hb;clear hb hbox hg;have hnb28:=NB525_526.out;have hnc28:=NB526_525.out;have ⟨_,_,_,_,_,_,_,_,_,_,_,_⟩:=c6_ BK525) | ((with_reducible refine gc_ 7 ?_);refine xgl_ (some 13) Tryz.func7 #[.agg #[.string a0_0,.string a0_1,.int .i64 a0_2,.string a0_3,.string a0_4,.bool a0_5],.int .i64 1048576] ?_;(with_reducible refine (laws_szUrl.calls a0_0 a0_1 a0_2 a0_3 a0_4 a0_5 1048576 t527 _ A3.out).mono ?_);rintro e w30 ⟨rfl,hb⟩;refine ⟨_,rfl,?_⟩;replace BK525:=xbb_ BK525 hb;replace BK526:=xbb_ BK526 hb;replace HB:=xws_ HB hb;(try clear hb);have ⟨_,_,_,_,_,_,_,_⟩:=c4_ BK526) | ((with_reducible refine gc_ 8 ?_);refine xgl_ (some 18) Tryz.func8 #[.agg #[.string a1_0,.string a1_1,.slice A1_2 l1_2.length c1_2,.string a1_3],.int .i64 t527] ?_;(with_reducible refine (laws_szRequest.calls k a1_0 a1_1 _ _ l1_2 a1_3 t527 t528 _ ?side1 ?side2 A10.out).mono ?_);(case side1 => exact xc_ ((Kd.C_below HR1_2.out HB.out)));(case side2 => exact HC1_2.out);rintro e w32 ⟨rfl,hb⟩;refine ⟨_,rfl,?_⟩;replace BK525:=xbb_ BK525 hb;replace BK526:=xbb_ BK526 hb;replace HB:=xws_ HB hb;(try clear hb)))
   replace BK525:=Aside0.mk (blk_drew BK525.out)
   replace BK526:=Aside0.mk (blk_drew BK526.out)
   replace HB:=Aside0.mk (below_drew1 HB.out)
   refine ms_ 10 (fun w' => w'.cell? ⟨gb525,0,none⟩ = some (.string a0_0) ∧ w'.cell? ⟨gb525,1,none⟩ = some (.string a0_1) ∧ w'.cell? ⟨gb525,2,none⟩ = some (.int .i64 a0_2) ∧ w'.cell? ⟨gb525,3,none⟩ = some (.string a0_3) ∧ w'.cell? ⟨gb525,4,none⟩ = some (.string a0_4) ∧ w'.cell? ⟨gb525,5,none⟩ = some (.bool a0_5) ∧ w'.cell? ⟨gb526,0,none⟩ = some (.string a1_0) ∧ w'.cell? ⟨gb526,1,none⟩ = some (.string a1_1) ∧ w'.cell? ⟨gb526,2,none⟩ = some (.slice A1_2 l1_2.length c1_2) ∧ w'.cell? ⟨gb526,3,none⟩ = some (.string a1_3)) laws_FnExactKeyOf.tab8 laws_FnExactKeyOf.bits8 ⟨xk_ BK525 0,xk_ BK525 1,xk_ BK525 2,xk_ BK525 3,xk_ BK525 4,xk_ BK525 5,xk_ BK526 0,xk_ BK526 1,xk_ BK526 2,xk_ BK526 3⟩ (fun hHeld HT_ HW_ => ?_)
   generalize w32.drew = w33 at BK525 BK526 HB hHeld ⊢
   refine mt_ 0 22 hHeld ?_
   refine mt_ 2 24 hHeld ?_
   refine m1_ 1 23 Tryz.func10 #[.agg #[.string a0_0,.string a0_1,.int .i64 a0_2,.string a0_3,.string a0_4,.bool a0_5]] ?_
   with_reducible refine (laws_toUrl.calls a0_0 a0_1 a0_2 a0_3 a0_4 a0_5 t529 t530 t531 t532 t533 t534 _ A19.out).mono ?_
   rintro e w34 ⟨rfl,hb⟩
   refine ⟨_,rfl,?_⟩
   replace BK525:=xbb_ BK525 hb
   replace BK526:=xbb_ BK526 hb
   replace HB:=xws_ HB hb
   (try clear hb)
   refine ⟨⟨xk_ BK525 0,xk_ BK525 1,xk_ BK525 2,xk_ BK525 3,xk_ BK525 4,xk_ BK525 5,xk_ BK526 0,xk_ BK526 1,xk_ BK526 2,xk_ BK526 3⟩,fun hHeld => ?_⟩
   refine mn_ 23 ?_
   refine m1_ 3 25 Tryz.func11 #[.agg #[.string a1_0,.string a1_1,.slice A1_2 l1_2.length c1_2,.string a1_3]] ?_
   with_reducible refine (laws_toRequest.calls k a1_0 a1_1 _ _ l1_2 a1_3 t535 t536 t537 t540 _ ?side1 ?side2 A20.out).mono ?_
   (case side1 => exact xc_ ((Kd.C_below HR1_2.out HB.out)))
   (case side2 => exact HC1_2.out)
   rintro e w35 ⟨v538,rfl,ho0,hb⟩
   refine ⟨_,rfl,?_⟩
   have HO539:=Aside0.mk (Kd.R_lower ho0 (below_size (xw_ HB)))
   replace BK525:=xbb_ BK525 hb
   replace BK526:=xbb_ BK526 hb
   replace HB:=xws_ HB hb
   (try clear hb)
   (try clear ho0)
   obtain ⟨Ao36,co36,eo36⟩:=Kd.R_slice HO539.out
   (first | subst eo36 | (injection eo36 with f1_ f2_ f3_;have f4_:=f1_.symm;have f5_:=f3_.symm;clear f1_ f2_ f3_;subst f4_;subst f5_))
   refine ⟨⟨xk_ BK525 0,xk_ BK525 1,xk_ BK525 2,xk_ BK525 3,xk_ BK525 4,xk_ BK525 5,xk_ BK526 0,xk_ BK526 1,xk_ BK526 2,xk_ BK526 3⟩,fun hHeld => ?_⟩
   refine mn_ 25 ?_
   refine m1_ 4 26 Tryz.func9 #[.agg #[.string t529,.string t530,.int .i64 t531,.string t532,.string t533,.bool t534],.agg #[.string t535,.string t536,.slice Ao36 t537.length co36,.string t540]] ?_
   with_reducible refine (spec_KeyOf.calls k t529 t530 t531 t532 t533 t534 t535 t536 _ _ t537 t540 t541 t542 _ ?side1 ?side2 A21.out).mono ?_
   (case side1 => exact xc_ ((Kd.R_reads' HO539.out).2.2))
   (case side2 => exact (Kd.R_reads' HO539.out).2.1)
   rintro e w37 ⟨rfl,hb⟩
   refine ⟨_,rfl,?_⟩
   replace HO539:=xrb_ HO539 hb
   replace BK525:=xbb_ BK525 hb
   replace BK526:=xbb_ BK526 hb
   replace HB:=xws_ HB hb
   (try clear hb)
   refine ⟨⟨xk_ BK525 0,xk_ BK525 1,xk_ BK525 2,xk_ BK525 3,xk_ BK525 4,xk_ BK525 5,xk_ BK526 0,xk_ BK526 1,xk_ BK526 2,xk_ BK526 3⟩,fun hHeld => ?_⟩
   refine mn_ 26 ?_
   refine mp_ 5 21 ?_
   refine mp_ 6 27 ?_
   refine mp_ 7 28 ?_
   refine mp_ 8 6 ?_
   refine mp_ 9 7 ?_
   refine done_ (done_of HT_.out (by kernel_rfl)) ?_
   have ⟨_,_,_,_,_,_,_,_⟩:=c4_ BK526
   try go_wp2_with (first | ((with_reducible refine gc_ 11 ?_);refine xgl_ (some 30) Tryz.func11 #[.agg #[.string a1_0,.string a1_1,.slice A1_2 l1_2.length c1_2,.string a1_3]] ?_;(with_reducible refine (laws_toRequest.calls k a1_0 a1_1 _ _ l1_2 a1_3 t543 t544 t545 t548 _ ?side1 ?side2 A22.out).mono ?_);(case side1 => exact xc_ ((Kd.C_below HR1_2.out HB.out)));(case side2 => exact HC1_2.out);rintro e w39 ⟨v546,rfl,ho0,hb⟩;refine ⟨_,rfl,?_⟩;have HO547:=Aside0.mk (Kd.R_lower (Kd.R_new' ho0 (Kd.R_lt (xr_ HO539))) (below_size (xw_ HB)));replace HO539:=xre_ HO539 ho0 hb;replace BK525:=xbb_ BK525 hb;replace BK526:=xbb_ BK526 hb;replace HB:=xws_ HB hb;(try clear hb);(try clear ho0)) | ((with_reducible refine gd_ 8 ?_);refine xbe_ (N:=8) (cs:=#[.string (⟨#[]⟩ : ByteArray),.string (⟨#[]⟩ : ByteArray),.slice none 0 0,.string (⟨#[]⟩ : ByteArray)]) (t:=35) ?_;intro gb549 hg w40 hbox hb;replace HO539:=xrb_ HO539 hb;replace HO547:=xrb_ HO547 hb;have BK549:=Aside0.mk (hbox);have GE549:=xge_ HB hg;replace HB:=xws_ HB hb;have NB525_549:=xlt_ BK525 hg;have NB549_525:=xgt_ BK525 hg;replace BK525:=xbb_ BK525 hb;have NB526_549:=xlt_ BK526 hg;have NB549_526:=xgt_ BK526 hg;replace BK526:=xbb_ BK526 hb;clear hb hbox hg;have hnb41:=NB549_525.out;have hnc41:=NB525_549.out;have hnb42:=NB549_526.out;have hnc42:=NB526_549.out;have ⟨_,_,_,_,_,_,_,_⟩:=c4_ BK549;obtain ⟨Ao44,co44,eo44⟩:=Kd.R_slice HO547.out;subst eo44))
   have n0_ : Aside0 (Kd.R k105 105 ((((w40.setCell ⟨gb549,0,none⟩ (.string t543)).setCell ⟨gb549,1,none⟩ (.string t544)).setCell ⟨gb549,2,none⟩ (.slice Ao44 t545.length co44)).setCell ⟨gb549,3,none⟩ (.string t548)) w.heap.size (fun k_ => some k_ ≠ (.slice Ao44 t545.length co44 : Value).ownBlock) (.slice Ao36 t537.length co36) t537):=⟨xrt_ (Kd.R_mono (Kd.R_far (p:=⟨gb549,3,none⟩) (Kd.R_far (p:=⟨gb549,2,none⟩) (Kd.R_far (p:=⟨gb549,1,none⟩) (Kd.R_far (p:=⟨gb549,0,none⟩) (Kd.R_types HO539.out BK549.out (by decide)) (fun _ hk => hk.2) (.string t543)) (fun _ hk => hk.2) (.string t544)) (fun _ hk => hk.2) (.slice Ao44 t545.length co44)) (fun _ hk => hk.2) (.string t548)) (fun _ hk => hk.1.2))⟩
   have n1_ : Aside0 (Kd.R k105 105 ((((w40.setCell ⟨gb549,0,none⟩ (.string t543)).setCell ⟨gb549,1,none⟩ (.string t544)).setCell ⟨gb549,2,none⟩ (.slice Ao44 t545.length co44)).setCell ⟨gb549,3,none⟩ (.string t548)) w.heap.size (fun k_ => some k_ ≠ (.slice Ao36 t537.length co36 : Value).ownBlock) (.slice Ao44 t545.length co44) t545):=⟨xrt_ (Kd.R_mono (Kd.R_far (p:=⟨gb549,3,none⟩) (Kd.R_far (p:=⟨gb549,2,none⟩) (Kd.R_far (p:=⟨gb549,1,none⟩) (Kd.R_far (p:=⟨gb549,0,none⟩) (Kd.R_types HO547.out BK549.out (by decide)) (fun _ hk => hk.2) (.string t543)) (fun _ hk => hk.2) (.string t544)) (fun _ hk => hk.2) (.slice Ao44 t545.length co44)) (fun _ hk => hk.2) (.string t548)) (fun _ hk => hk.1.2))⟩
   have n2_ : Aside0 (((((w40.setCell ⟨gb549,0,none⟩ (.string t543)).setCell ⟨gb549,1,none⟩ (.string t544)).setCell ⟨gb549,2,none⟩ (.slice Ao44 t545.length co44)).setCell ⟨gb549,3,none⟩ (.string t548)).heap[gb525]? = some (.cells #[.string a0_0,.string a0_1,.int .i64 a0_2,.string a0_3,.string a0_4,.bool a0_5] 23 (0,0))):=⟨mx_ BK525⟩
   have n3_ : Aside0 (((((w40.setCell ⟨gb549,0,none⟩ (.string t543)).setCell ⟨gb549,1,none⟩ (.string t544)).setCell ⟨gb549,2,none⟩ (.slice Ao44 t545.length co44)).setCell ⟨gb549,3,none⟩ (.string t548)).heap[gb526]? = some (.cells #[.string a1_0,.string a1_1,.slice A1_2 l1_2.length c1_2,.string a1_3] 26 (0,0))):=⟨mx_ BK526⟩
   have n4_ : Aside0 (((((w40.setCell ⟨gb549,0,none⟩ (.string t543)).setCell ⟨gb549,1,none⟩ (.string t544)).setCell ⟨gb549,2,none⟩ (.slice Ao44 t545.length co44)).setCell ⟨gb549,3,none⟩ (.string t548)).heap[gb549]? = some (.cells #[.string t543,.string t544,.slice Ao44 t545.length co44,.string t548] 35 (0,0))):=⟨mx_ BK549⟩
   have n5_ : Aside0 (Below w.heap.size w ((((w40.setCell ⟨gb549,0,none⟩ (.string t543)).setCell ⟨gb549,1,none⟩ (.string t544)).setCell ⟨gb549,2,none⟩ (.slice Ao44 t545.length co44)).setCell ⟨gb549,3,none⟩ (.string t548))):=⟨xw_ HB⟩
   (try clear HO539)
   (try clear HO547)
   (try clear BK525)
   (try clear BK526)
   (try clear BK549)
   (try clear HB)
   generalize ((((w40.setCell ⟨gb549,0,none⟩ (.string t543)).setCell ⟨gb549,1,none⟩ (.string t544)).setCell ⟨gb549,2,none⟩ (.slice Ao44 t545.length co44)).setCell ⟨gb549,3,none⟩ (.string t548)) = w45 at n0_ n1_ n2_ n3_ n4_ n5_ ⊢
   have HO539:=n0_
   have HO547:=n1_
   have BK525:=n2_
   have BK526:=n3_
   have BK549:=n4_
   have HB:=n5_
   clear n0_ n1_ n2_ n3_ n4_ n5_
   replace HO539:=Aside0.mk (Kd.R_drew HO539.out)
   replace HO547:=Aside0.mk (Kd.R_drew HO547.out)
   replace BK525:=Aside0.mk (blk_drew BK525.out)
   replace BK526:=Aside0.mk (blk_drew BK526.out)
   replace BK549:=Aside0.mk (blk_drew BK549.out)
   replace HB:=Aside0.mk (below_drew1 HB.out)
   refine ms_ 9 (fun w' => w'.cell? ⟨gb525,0,none⟩ = some (.string a0_0) ∧ w'.cell? ⟨gb525,1,none⟩ = some (.string a0_1) ∧ w'.cell? ⟨gb525,2,none⟩ = some (.int .i64 a0_2) ∧ w'.cell? ⟨gb525,3,none⟩ = some (.string a0_3) ∧ w'.cell? ⟨gb525,4,none⟩ = some (.string a0_4) ∧ w'.cell? ⟨gb525,5,none⟩ = some (.bool a0_5) ∧ w'.cell? ⟨gb549,0,none⟩ = some (.string t543) ∧ w'.cell? ⟨gb549,1,none⟩ = some (.string t544) ∧ w'.cell? ⟨gb549,2,none⟩ = some (.slice Ao44 t545.length co44) ∧ w'.cell? ⟨gb549,3,none⟩ = some (.string t548)) laws_FnExactKeyOf.tab10 laws_FnExactKeyOf.bits10 ⟨xk_ BK525 0,xk_ BK525 1,xk_ BK525 2,xk_ BK525 3,xk_ BK525 4,xk_ BK525 5,xk_ BK549 0,xk_ BK549 1,xk_ BK549 2,xk_ BK549 3⟩ (fun hHeld HT_ HW_ => ?_)
   generalize w45.drew = w46 at HO539 HO547 BK525 BK526 BK549 HB hHeld ⊢
   refine mt_ 0 32 hHeld ?_
   refine mt_ 2 34 hHeld ?_
   refine m1_ 1 33 Tryz.func10 #[.agg #[.string a0_0,.string a0_1,.int .i64 a0_2,.string a0_3,.string a0_4,.bool a0_5]] ?_
   with_reducible refine (laws_toUrl.calls a0_0 a0_1 a0_2 a0_3 a0_4 a0_5 t550 t551 t552 t553 t554 t555 _ A23.out).mono ?_
   rintro e w47 ⟨rfl,hb⟩
   refine ⟨_,rfl,?_⟩
   replace HO539:=xrb_ HO539 hb
   replace HO547:=xrb_ HO547 hb
   replace BK525:=xbb_ BK525 hb
   replace BK526:=xbb_ BK526 hb
   replace BK549:=xbb_ BK549 hb
   replace HB:=xws_ HB hb
   (try clear hb)
   (try clear hk)
   refine ⟨⟨xk_ BK525 0,xk_ BK525 1,xk_ BK525 2,xk_ BK525 3,xk_ BK525 4,xk_ BK525 5,xk_ BK549 0,xk_ BK549 1,xk_ BK549 2,xk_ BK549 3⟩,fun hHeld => ?_⟩
   refine mn_ 33 ?_
   refine m1_ 3 35 Tryz.func12 #[.agg #[.string t550,.string t551,.int .i64 t552,.string t553,.string t554,.bool t555],.agg #[.string t543,.string t544,.slice Ao44 t545.length co44,.string t548]] ?_
   with_reducible refine (impl_KeyOf.calls k t550 t551 t552 t553 t554 t555 t543 t544 _ _ t545 t548 t556 t557 _ ?side1 ?side2 A24.out (HTB_.out.below (by first | (with_reducible exact Below.refl _ _) | (repeat (first | (with_reducible first | exact HB.out | exact Below.refl _ _ | apply below_alloc | apply pw_below_drewN | apply below_drew1 | refine below_set ?_ GE525.out | refine below_set ?_ GE526.out | refine below_set ?_ GE549.out) | exact HB.out)) | (repeat (first | exact Below.refl _ _ | apply below_alloc | apply pw_below_drewN | apply below_drew1 | refine below_set ?_ GE525.out | refine below_set ?_ GE526.out | refine below_set ?_ GE549.out))))).mono ?_
   (case side1 => exact xc_ ((Kd.R_reads' HO547.out).2.2))
   (case side2 => exact (Kd.R_reads' HO547.out).2.1)
   rintro e w48 ⟨rfl,hb⟩
   refine ⟨_,rfl,?_⟩
   replace HO539:=xrb_ HO539 hb
   replace HO547:=xrb_ HO547 hb
   replace BK525:=xbb_ BK525 hb
   replace BK526:=xbb_ BK526 hb
   replace BK549:=xbb_ BK549 hb
   replace HB:=xws_ HB hb
   (try clear hb)
   (try clear hk)
   refine ⟨⟨xk_ BK525 0,xk_ BK525 1,xk_ BK525 2,xk_ BK525 3,xk_ BK525 4,xk_ BK525 5,xk_ BK549 0,xk_ BK549 1,xk_ BK549 2,xk_ BK549 3⟩,fun hHeld => ?_⟩
   refine mn_ 35 ?_
   refine mp_ 4 31 ?_
   refine mp_ 5 36 ?_
   refine mp_ 6 37 ?_
   refine mp_ 7 9 ?_
   refine mp_ 8 10 ?_
   refine done_ (done_of HT_.out (by kernel_rfl)) ?_
   go_upto_region 11 with (fail)
   go_cut [45] (fun v45 wc => ∃ (kq : Nat) (x45_24 : Bool),v45 = .bool x45_24 ∧ Aside0 (laws_FnExactKeyOf.j0 kq x45_24 a1_0 a1_1 l1_2 a1_3 t543 t544 t545 t548 = some r) ∧ Aside0 (kq ≤ k) ∧ Aside0 (Kd.R k105 105 wc w.heap.size (fun _ => True) (.slice Ao44 t545.length co44) t545) ∧ Aside0 (wc.heap[gb525]? = some (.cells #[.string a0_0,.string a0_1,.int .i64 a0_2,.string a0_3,.string a0_4,.bool a0_5] 23 (0,0))) ∧ Aside0 (wc.heap[gb526]? = some (.cells #[.string a1_0,.string a1_1,(.slice A1_2 l1_2.length c1_2),.string a1_3] 26 (0,0))) ∧ Aside0 (wc.heap[gb549]? = some (.cells #[.string t543,.string t544,(.slice Ao44 t545.length co44),.string t548] 35 (0,0))) ∧ Aside0 (Below w.heap.size w wc))
   case first =>
    have H:=HC25.out
    clear HC25
    by_cases c49 : t556.toList = t541.toList
    ·rw [if_pos c49] at H
     have c49b0 : (t556.toList == t541.toList) = true:=beq_iff_eq.mpr c49
     have c49b1 : (t556.toList != t541.toList) = false:=bne_eq_false_iff_eq.mpr c49
     clear c49
     (first | rw [c49b0] | (simp only [i64_w,i32_w];rw [c49b0]) | skip)
     have H':=Aside0.mk H
     clear H
     go_wp2
     go_meet
     case rel => exact ⟨_,((t557 != t542)),me_,H',⟨by first | omega | exact Nat.le_refl _⟩,⟨xrt_ (Kd.R_mono HO547.out (fun _ hk => trivial))⟩,⟨xb_ BK525⟩,⟨xb_ BK526⟩,⟨xb_ BK549⟩,⟨xw_ HB⟩⟩
    ·rw [if_neg c49] at H
     have c49b0 : (t556.toList == t541.toList) = false:=beq_eq_false_iff_ne.mpr c49
     have c49b1 : (t556.toList != t541.toList) = true:=bne_iff_ne.mpr c49
     (first | rw [c49b0] | (simp only [i64_w,i32_w];rw [c49b0]) | skip)
     have H':=Aside0.mk H
     clear H
     go_wp2
     go_meet
     case rel => exact ⟨_,(true),me_,H',⟨by first | omega | exact Nat.le_refl _⟩,⟨xrt_ (Kd.R_mono HO547.out (fun _ hk => trivial))⟩,⟨xb_ BK525⟩,⟨xb_ BK526⟩,⟨xb_ BK549⟩,⟨xw_ HB⟩⟩
   case rest =>
    clear HC25
    try clear c4
    try clear c4b0
    try clear c11
    try clear c11b0
    obtain ⟨kq,x45_24,rfl,HA,HJ24,HO_550002,BK525,BK526,BK549,HB⟩:=hcut
    cases kq with
    | zero => exact absurd HA.out (by simp [laws_FnExactKeyOf.j0])
    | succ kj24 =>
     have H:=HA.out
     clear HA
     simp only [laws_FnExactKeyOf.j0] at H
     by_cases c50 : x45_24 = true
     ·subst c50
      rw [if_pos rfl] at H
      obtain rfl:=Option.some.inj H
      go_wp2
      go_ret
      exact ⟨mf_,xw_ HB⟩
     ·replace c50:=Bool.eq_false_iff.mpr c50
      subst c50
      rw [if_neg (show ¬ (false = true) by decide)] at H
      replace H:=mb_ H
      obtain ⟨⟨t558,t559,t560,t563⟩,A51,H⟩:=H
      dsimp only at H
      replace H:=mb_ H
      obtain ⟨t564,A52,H⟩:=H
      by_cases c53 : t564 = true
      ·subst c53
       rw [if_pos rfl] at H
       obtain rfl:=Option.some.inj H
       try go_wp2
       replace HO_550002:=Aside0.mk (Kd.R_drew HO_550002.out)
       replace BK525:=Aside0.mk (blk_drew BK525.out)
       replace BK526:=Aside0.mk (blk_drew BK526.out)
       replace BK549:=Aside0.mk (blk_drew BK549.out)
       replace HB:=Aside0.mk (below_drew1 HB.out)
       refine start_ (n:=5) (S:=fun w' => w'.cell? ⟨gb549,0,none⟩ = some (.string t543) ∧ w'.cell? ⟨gb549,1,none⟩ = some (.string t544) ∧ w'.cell? ⟨gb549,2,none⟩ = some (.slice Ao44 t545.length co44) ∧ w'.cell? ⟨gb549,3,none⟩ = some (.string t548) ∧ w'.cell? ⟨gb526,0,none⟩ = some (.string a1_0) ∧ w'.cell? ⟨gb526,1,none⟩ = some (.string a1_1) ∧ w'.cell? ⟨gb526,2,none⟩ = some (.slice A1_2 l1_2.length c1_2) ∧ w'.cell? ⟨gb526,3,none⟩ = some (.string a1_3)) (ds:=[]) #[false,false,false,false,false] (by kernel_rfl) rfl rfl ⟨xk_ BK549 0,xk_ BK549 1,xk_ BK549 2,xk_ BK549 3,xk_ BK526 0,xk_ BK526 1,xk_ BK526 2,xk_ BK526 3⟩ (fun hHeld => ?_)
       generalize wc.drew = w54 at HO_550002 BK525 BK526 BK549 HB hHeld ⊢
       refine take_ (i:=0) (N:=some 46) (v:=?_) (a':=?_) #[true,false,false,false,false] rfl rfl (by kernel_rfl) (fun _ _ _ h => h) (Or.inl ⟨by rfl,?_⟩) hHeld ?_ ?_
       rotate_left
       ·rintro w' ⟨s0,s1,s2,s3,s4,s5,s6,s7⟩
        go_simp
        with_reducible rfl
       rotate_left
       ·simp only [Act.put,List.setIfInBounds_toArray,List.set_cons_zero,List.set_cons_succ,i64_w,i32_w]
        rfl
       refine take_ (i:=1) (N:=some 47) (v:=?_) (a':=?_) #[true,true,false,false,false] rfl rfl (by kernel_rfl) (fun _ _ _ h => h) (Or.inl ⟨by rfl,?_⟩) hHeld ?_ ?_
       rotate_left
       ·rintro w' ⟨s0,s1,s2,s3,s4,s5,s6,s7⟩
        go_simp
        with_reducible rfl
       rotate_left
       ·simp only [Act.put,List.setIfInBounds_toArray,List.set_cons_zero,List.set_cons_succ,i64_w,i32_w]
        rfl
       refine one_ (i:=2) (N:=some 48) #[true,true,true,false,false] rfl rfl (by kernel_rfl) (by decide) (fun K hK => ?_)
       refine xgo_ Tryz.func11 #[.agg #[.string a1_0,.string a1_1,.slice A1_2 l1_2.length c1_2,.string a1_3]] ?_
       with_reducible refine (laws_toRequest.calls kj24 a1_0 a1_1 _ _ l1_2 a1_3 t558 t559 t560 t563 _ ?side1 ?side2 A51.out).mono ?_
       (case side1 => exact xc_ ((Kd.C_below HR1_2.out HB.out)))
       (case side2 => exact HC1_2.out)
       rintro e w55 ⟨v561,rfl,ho0,hb⟩
       refine ⟨_,rfl,?_⟩
       have HO562:=Aside0.mk (Kd.R_lower (Kd.R_new' ho0 (Kd.R_lt (xr_ HO_550002))) (below_size (xw_ HB)))
       replace HO_550002:=xre_ HO_550002 ho0 hb
       replace BK525:=xbb_ BK525 hb
       replace BK526:=xbb_ BK526 hb
       replace BK549:=xbb_ BK549 hb
       replace HB:=xws_ HB hb
       (try clear hb)
       (try clear hk)
       (try clear ho0)
       obtain ⟨Ao56,co56,eo56⟩:=Kd.R_slice HO562.out
       (first | subst eo56 | (injection eo56 with f1_ f2_ f3_;have f4_:=f1_.symm;have f5_:=f3_.symm;clear f1_ f2_ f3_;subst f4_;subst f5_))
       refine hK.out _ _ ⟨xk_ BK549 0,xk_ BK549 1,xk_ BK549 2,xk_ BK549 3,xk_ BK526 0,xk_ BK526 1,xk_ BK526 2,xk_ BK526 3⟩ (fun hHeld => ?_)
       clear hK K
       refine mn_ 48 ?_
       refine one_ (i:=3) (N:=some 49) #[true,true,true,true,false] rfl rfl (by kernel_rfl) (by decide) (fun K hK => ?_)
       refine xgo_ Tryz.func13 #[.agg #[.string t543,.string t544,.slice Ao44 t545.length co44,.string t548],.agg #[.string t558,.string t559,.slice Ao56 t560.length co56,.string t563]] ?_
       with_reducible refine (laws_eqRequest.calls kj24 t543 t544 _ _ t545 t548 t558 t559 _ _ t560 t563 true _ ?side1 ?side2 ?side3 ?side4 A52.out).mono ?_
       (case side1 => exact xc_ ((Kd.R_reads' HO_550002.out).2.2))
       (case side2 => exact (Kd.R_reads' HO_550002.out).2.1)
       (case side3 => exact xc_ ((Kd.R_reads' HO562.out).2.2))
       (case side4 => exact (Kd.R_reads' HO562.out).2.1)
       rintro e w57 ⟨rfl,hb⟩
       refine ⟨_,rfl,?_⟩
       replace HO_550002:=xrb_ HO_550002 hb
       replace HO562:=xrb_ HO562 hb
       replace BK525:=xbb_ BK525 hb
       replace BK526:=xbb_ BK526 hb
       replace BK549:=xbb_ BK549 hb
       replace HB:=xws_ HB hb
       (try clear hb)
       (try clear hk)
       refine hK.out _ _ ⟨xk_ BK549 0,xk_ BK549 1,xk_ BK549 2,xk_ BK549 3,xk_ BK526 0,xk_ BK526 1,xk_ BK526 2,xk_ BK526 3⟩ (fun hHeld => ?_)
       clear hK K
       refine mn_ 49 ?_
       refine pure_ (i:=4) (N:=some 50) (v:=?_) (a':=?_) #[true,true,true,true,true] rfl rfl (by kernel_rfl) (fun _ _ _ h => h) (Or.inl ⟨by rfl,?_⟩) ?_ ?_
       rotate_left
       ·intro w'
        go_simp
        with_reducible rfl
       rotate_left
       ·simp only [Act.put,List.setIfInBounds_toArray,List.set_cons_zero,List.set_cons_succ,i64_w,i32_w]
        rfl
       refine done_ (by kernel_rfl) ?_
       try go_wp2
       go_ret
       exact ⟨mf_,xw_ HB⟩
      ·replace c53:=Bool.eq_false_iff.mpr c53
       subst c53
       rw [if_neg (show ¬ (false = true) by decide)] at H
       obtain rfl:=Option.some.inj H
       try go_wp2
       replace HO_550002:=Aside0.mk (Kd.R_drew HO_550002.out)
       replace BK525:=Aside0.mk (blk_drew BK525.out)
       replace BK526:=Aside0.mk (blk_drew BK526.out)
       replace BK549:=Aside0.mk (blk_drew BK549.out)
       replace HB:=Aside0.mk (below_drew1 HB.out)
       refine start_ (n:=5) (S:=fun w' => w'.cell? ⟨gb549,0,none⟩ = some (.string t543) ∧ w'.cell? ⟨gb549,1,none⟩ = some (.string t544) ∧ w'.cell? ⟨gb549,2,none⟩ = some (.slice Ao44 t545.length co44) ∧ w'.cell? ⟨gb549,3,none⟩ = some (.string t548) ∧ w'.cell? ⟨gb526,0,none⟩ = some (.string a1_0) ∧ w'.cell? ⟨gb526,1,none⟩ = some (.string a1_1) ∧ w'.cell? ⟨gb526,2,none⟩ = some (.slice A1_2 l1_2.length c1_2) ∧ w'.cell? ⟨gb526,3,none⟩ = some (.string a1_3)) (ds:=[]) #[false,false,false,false,false] (by kernel_rfl) rfl rfl ⟨xk_ BK549 0,xk_ BK549 1,xk_ BK549 2,xk_ BK549 3,xk_ BK526 0,xk_ BK526 1,xk_ BK526 2,xk_ BK526 3⟩ (fun hHeld => ?_)
       generalize wc.drew = w58 at HO_550002 BK525 BK526 BK549 HB hHeld ⊢
       refine take_ (i:=0) (N:=some 46) (v:=?_) (a':=?_) #[true,false,false,false,false] rfl rfl (by kernel_rfl) (fun _ _ _ h => h) (Or.inl ⟨by rfl,?_⟩) hHeld ?_ ?_
       rotate_left
       ·rintro w' ⟨s0,s1,s2,s3,s4,s5,s6,s7⟩
        go_simp
        with_reducible rfl
       rotate_left
       ·simp only [Act.put,List.setIfInBounds_toArray,List.set_cons_zero,List.set_cons_succ,i64_w,i32_w]
        rfl
       refine take_ (i:=1) (N:=some 47) (v:=?_) (a':=?_) #[true,true,false,false,false] rfl rfl (by kernel_rfl) (fun _ _ _ h => h) (Or.inl ⟨by rfl,?_⟩) hHeld ?_ ?_
       rotate_left
       ·rintro w' ⟨s0,s1,s2,s3,s4,s5,s6,s7⟩
        go_simp
        with_reducible rfl
       rotate_left
       ·simp only [Act.put,List.setIfInBounds_toArray,List.set_cons_zero,List.set_cons_succ,i64_w,i32_w]
        rfl
       refine one_ (i:=2) (N:=some 48) #[true,true,true,false,false] rfl rfl (by kernel_rfl) (by decide) (fun K hK => ?_)
       refine xgo_ Tryz.func11 #[.agg #[.string a1_0,.string a1_1,.slice A1_2 l1_2.length c1_2,.string a1_3]] ?_
       with_reducible refine (laws_toRequest.calls kj24 a1_0 a1_1 _ _ l1_2 a1_3 t558 t559 t560 t563 _ ?side1 ?side2 A51.out).mono ?_
       (case side1 => exact xc_ ((Kd.C_below HR1_2.out HB.out)))
       (case side2 => exact HC1_2.out)
       rintro e w59 ⟨v561,rfl,ho0,hb⟩
       refine ⟨_,rfl,?_⟩
       have HO562:=Aside0.mk (Kd.R_lower (Kd.R_new' ho0 (Kd.R_lt (xr_ HO_550002))) (below_size (xw_ HB)))
       replace HO_550002:=xre_ HO_550002 ho0 hb
       replace BK525:=xbb_ BK525 hb
       replace BK526:=xbb_ BK526 hb
       replace BK549:=xbb_ BK549 hb
       replace HB:=xws_ HB hb
       (try clear hb)
       (try clear hk)
       (try clear ho0)
       obtain ⟨Ao60,co60,eo60⟩:=Kd.R_slice HO562.out
       (first | subst eo60 | (injection eo60 with f1_ f2_ f3_;have f4_:=f1_.symm;have f5_:=f3_.symm;clear f1_ f2_ f3_;subst f4_;subst f5_))
       refine hK.out _ _ ⟨xk_ BK549 0,xk_ BK549 1,xk_ BK549 2,xk_ BK549 3,xk_ BK526 0,xk_ BK526 1,xk_ BK526 2,xk_ BK526 3⟩ (fun hHeld => ?_)
       clear hK K
       refine mn_ 48 ?_
       refine one_ (i:=3) (N:=some 49) #[true,true,true,true,false] rfl rfl (by kernel_rfl) (by decide) (fun K hK => ?_)
       refine xgo_ Tryz.func13 #[.agg #[.string t543,.string t544,.slice Ao44 t545.length co44,.string t548],.agg #[.string t558,.string t559,.slice Ao60 t560.length co60,.string t563]] ?_
       with_reducible refine (laws_eqRequest.calls kj24 t543 t544 _ _ t545 t548 t558 t559 _ _ t560 t563 false _ ?side1 ?side2 ?side3 ?side4 A52.out).mono ?_
       (case side1 => exact xc_ ((Kd.R_reads' HO_550002.out).2.2))
       (case side2 => exact (Kd.R_reads' HO_550002.out).2.1)
       (case side3 => exact xc_ ((Kd.R_reads' HO562.out).2.2))
       (case side4 => exact (Kd.R_reads' HO562.out).2.1)
       rintro e w61 ⟨rfl,hb⟩
       refine ⟨_,rfl,?_⟩
       replace HO_550002:=xrb_ HO_550002 hb
       replace HO562:=xrb_ HO562 hb
       replace BK525:=xbb_ BK525 hb
       replace BK526:=xbb_ BK526 hb
       replace BK549:=xbb_ BK549 hb
       replace HB:=xws_ HB hb
       (try clear hb)
       (try clear hk)
       refine hK.out _ _ ⟨xk_ BK549 0,xk_ BK549 1,xk_ BK549 2,xk_ BK549 3,xk_ BK526 0,xk_ BK526 1,xk_ BK526 2,xk_ BK526 3⟩ (fun hHeld => ?_)
       clear hK K
       refine mn_ 49 ?_
       refine pure_ (i:=4) (N:=some 50) (v:=?_) (a':=?_) #[true,true,true,true,true] rfl rfl (by kernel_rfl) (fun _ _ _ h => h) (Or.inl ⟨by rfl,?_⟩) ?_ ?_
       rotate_left
       ·intro w'
        go_simp
        with_reducible rfl
       rotate_left
       ·simp only [Act.put,List.setIfInBounds_toArray,List.set_cons_zero,List.set_cons_succ,i64_w,i32_w]
        rfl
       refine done_ (by kernel_rfl) ?_
       try go_wp2
       go_ret
       exact ⟨mf_,xw_ HB⟩

/-- THE ONE PURE STATEMENT of laws_FnExactKeyOf: yours. -/
def laws_FnExactKeyOf.Pure : Prop:=∀ (a0_0 : ByteArray) (a0_1 : ByteArray) (a0_2 : Int) (a0_3 : ByteArray) (a0_4 : ByteArray) (a0_5 : Bool) (a1_0 : ByteArray) (a1_1 : ByteArray) (l1_2 : List (S97)) (a1_3 : ByteArray),a0_0.size ≤ maxLen → a0_1.size ≤ maxLen → (Lit.int .i64 a0_2).wf = true → a0_3.size ≤ maxLen → a0_4.size ≤ maxLen → a1_0.size ≤ maxLen → a1_1.size ≤ maxLen → l1_2.length ≤ maxLen → (∀ x ∈ l1_2,x.f0.size ≤ maxLen ∧ x.f1.size ≤ maxLen) → a1_3.size ≤ maxLen → ∃ k,laws_FnExactKeyOf.f k a0_0 a0_1 a0_2 a0_3 a0_4 a0_5 a1_0 a1_1 l1_2 a1_3 = some true
theorem laws_FnExactKeyOf.walk (P : laws_FnExactKeyOf.Pure) (a0_0 : ByteArray) (a0_1 : ByteArray) (a0_2 : Int) (a0_3 : ByteArray) (a0_4 : ByteArray) (a0_5 : Bool) (a1_0 : ByteArray) (a1_1 : ByteArray) (A1_2 : Option Addr) (c1_2 : Nat) (l1_2 : List (S97)) (a1_3 : ByteArray) (w : World) (w0_0 : a0_0.size ≤ maxLen) (w0_1 : a0_1.size ≤ maxLen) (w0_2 : (Lit.int .i64 a0_2).wf = true) (w0_3 : a0_3.size ≤ maxLen) (w0_4 : a0_4.size ≤ maxLen) (w1_0 : a1_0.size ≤ maxLen) (w1_1 : a1_1.size ≤ maxLen) (wr1_2 : Kd.C k97 w A1_2 l1_2.length l1_2) (wc1_2 : l1_2.length ≤ c1_2) (wm1_2 : l1_2.length ≤ maxLen) (ww1_2 : ∀ x ∈ l1_2,x.f0.size ≤ maxLen ∧ x.f1.size ≤ maxLen) (w1_3 : a1_3.size ≤ maxLen) (hT_ : TabOk w) :
  Calls Tryz.prog 3 #[.agg #[.string a0_0,.string a0_1,.int .i64 a0_2,.string a0_3,.string a0_4,.bool a0_5],.agg #[.string a1_0,.string a1_1,.slice A1_2 l1_2.length c1_2,.string a1_3]] w fun e w' => e = .returned (.bool true) ∧ Below w.heap.size w w':=by
 obtain ⟨k,h⟩:=P a0_0 a0_1 a0_2 a0_3 a0_4 a0_5 a1_0 a1_1 l1_2 a1_3 w0_0 w0_1 w0_2 w0_3 w0_4 w1_0 w1_1 wm1_2 ww1_2 w1_3
 refine (laws_FnExactKeyOf.calls k a0_0 a0_1 a0_2 a0_3 a0_4 a0_5 a1_0 a1_1 _ _ l1_2 a1_3 true w wr1_2 wc1_2 h hT_).mono ?_
 rintro e w' ⟨rfl,hd⟩
 exact ⟨rfl,hd⟩

end Go.Proofs.YtpggepjfhgalkaaGreatDoor.PFnExactKeyOf
