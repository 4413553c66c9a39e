-- Written by a program of this project (xprint.py) out of the translation; Lean checks it.
import Derived.Test.YtpggepjfhgalkaaGreatDoorPFnExactKeyOfx0
import Derived.Test.YtpggepjfhgalkaaGreatDoorPFnExactKeyOfx14
import Derived.Test.YtpggepjfhgalkaaGreatDoorPFnExactKeyOfx15
import Derived.Test.YtpggepjfhgalkaaGreatDoorPFnExactKeyOfx16
import Derived.Test.YtpggepjfhgalkaaGreatDoorPFnExactKeyOfx19
import Derived.Test.YtpggepjfhgalkaaGreatDoorPFnExactKeyOfx23
namespace Go.Proofs.YtpggepjfhgalkaaGreatDoor.PFnExactKeyOf
open Go.RowKit Go.Proofs.YtpggepjfhgalkaaGreatDoorW.PrintWords Go.Proofs.YtpggepjfhgalkaaGreatDoorW.PrintLast Go.Proofs.YtpggepjfhgalkaaGreatDoorW.PrintMore
attribute [local go_sem] max2_int min2_int max_two min_two max_three min_three max_four min_four   -- for this text's walks alone
set_option linter.unusedVariables false
set_option linter.unusedSimpArgs false

/-! ### impl_GoodRequest: function 39 -/
def impl_GoodRequest.f (k : Nat) (a0_0 : ByteArray) (a0_1 : ByteArray) (l0_2 : List (S105)) (a0_3 : ByteArray) : Option (Bool):=(impl_isRequestLine.f a0_0 a0_1 l0_2 a0_3).bind fun t466 => (if t466 = true then ((impl_requestLine.f a0_0 a0_1 l0_2 a0_3).bind fun t467 => ((impl_isMessage.f k t467 l0_2 a0_3).bind fun t468 => (some t468))) else (some false))
def impl_GoodRequest.T1 : Bool × List (List Nat × List Nat):=(true,[([],[]),([0],[0]),([1,1],[1]),([2],[2]),([3,2,2],[2,3]),([2],[2]),([5,2],[2,5]),([2],[2]),([7,2],[2,7]),([4,6,8,4,2],[2,4,6,8]),([2,9],[2,9]),([10,9,0,1,2,3,4,5,6,7,8,9,10],[10])])
def impl_GoodRequest.B1 : List Nat:=[0,1,3,7,15,7,39,7,135,511,1023,2047]
theorem impl_GoodRequest.tab1 : rtab .any (opsOf Tryz.f39 1) = impl_GoodRequest.T1:=by kernel_rfl
theorem impl_GoodRequest.bits1 : waitsOk impl_GoodRequest.T1.2 impl_GoodRequest.B1 = true:=by kernel_rfl
set_option maxHeartbeats 8000000 in
set_option maxRecDepth 100000 in
theorem impl_GoodRequest.calls (k : Nat) (a0_0 : ByteArray) (a0_1 : ByteArray) (A0_2 : Option Addr) (c0_2 : Nat) (l0_2 : List (S105)) (a0_3 : ByteArray) (r : Bool) (w : World) (hr0_2 : Kd.C k105 w A0_2 l0_2.length l0_2) (hc0_2 : l0_2.length ≤ c0_2) (h : impl_GoodRequest.f k a0_0 a0_1 l0_2 a0_3 = some r) (hT_ : TabOk w) :
  Calls Tryz.prog 39 #[.agg #[.string a0_0,.string a0_1,.slice A0_2 l0_2.length c0_2,.string a0_3]] w fun e w' => e = .returned (.bool r) ∧ Below w.heap.size w w':=by
 have HTB_:=Aside0.mk hT_
 clear hT_
 have hu35:=Tryz.underlying35
 have HR0_2:=Aside0.mk hr0_2
 have HC0_2:=Aside0.mk hc0_2
 clear hr0_2 hc0_2
 have HB:=Aside0.mk (Below.refl w.heap.size w)
 have H:=h
 unfold impl_GoodRequest.f at H
 clear h
 replace H:=mb_ H
 obtain ⟨t466,A2,H⟩:=H
 by_cases c3 : t466 = true
 ·subst c3
  rw [if_pos rfl] at H
  replace H:=mb_ H
  obtain ⟨t467,A4,H⟩:=H
  replace H:=mb_ H
  obtain ⟨t468,A5,H⟩:=H
  obtain rfl:=Option.some.inj H
  go_enter Tryz.func39,Tryz.ntmps39
  try go_wp2_with (first | ((with_reducible refine gd_ 1 ?_);refine xbe_ (N:=1) (cs:=#[.string a0_0,.string a0_1,.slice A0_2 l0_2.length c0_2,.string a0_3]) (t:=35) ?_;intro gb465 hg w6 hbox hb;have BK465:=Aside0.mk (hbox);have GE465:=xge_ HB hg;replace HB:=xws_ HB hb;clear hb hbox hg))
  replace BK465:=Aside0.mk (blk_drew BK465.out)
  replace HB:=Aside0.mk (below_drew1 HB.out)
  refine ms_ 12 (fun w' => w'.cell? ⟨gb465,0,none⟩ = some (.string a0_0) ∧ w'.cell? ⟨gb465,1,none⟩ = some (.string a0_1) ∧ w'.cell? ⟨gb465,2,none⟩ = some (.slice A0_2 l0_2.length c0_2) ∧ w'.cell? ⟨gb465,3,none⟩ = some (.string a0_3)) impl_GoodRequest.tab1 impl_GoodRequest.bits1 ⟨xk_ BK465 0,xk_ BK465 1,xk_ BK465 2,xk_ BK465 3⟩ (fun hHeld HT_ HW_ => ?_)
  generalize w6.drew = w7 at BK465 HB hHeld ⊢
  refine mt_ 0 3 hHeld ?_
  refine m1_ 1 4 Tryz.func77 #[.agg #[.string a0_0,.string a0_1,.slice A0_2 l0_2.length c0_2,.string a0_3]] ?_
  with_reducible refine (impl_isRequestLine.calls a0_0 a0_1 _ _ l0_2 a0_3 true _ ?side1 ?side2 A2.out).mono ?_
  (case side1 => exact xc_ ((Kd.C_below HR0_2.out HB.out)))
  (case side2 => exact HC0_2.out)
  rintro e w8 ⟨rfl,hb⟩
  refine ⟨_,rfl,?_⟩
  replace BK465:=xbb_ BK465 hb
  replace HB:=xws_ HB hb
  (try clear hb)
  refine ⟨⟨xk_ BK465 0,xk_ BK465 1,xk_ BK465 2,xk_ BK465 3⟩,fun hHeld => ?_⟩
  refine mn_ 4 ?_
  refine mp_ 2 5 ?_
  refine mp_ 5 8 ?_
  refine mp_ 7 10 ?_
  refine mt_ 3 6 hHeld ?_
  refine mt_ 6 9 hHeld ?_
  refine mt_ 8 11 hHeld ?_
  refine m1_ 4 7 Tryz.func79 #[.agg #[.string a0_0,.string a0_1,.slice A0_2 l0_2.length c0_2,.string a0_3]] ?_
  with_reducible refine (impl_requestLine.calls a0_0 a0_1 _ _ l0_2 a0_3 t467 _ ?side1 ?side2 A4.out).mono ?_
  (case side1 => exact xc_ ((Kd.C_below HR0_2.out HB.out)))
  (case side2 => exact HC0_2.out)
  rintro e w9 ⟨rfl,hb⟩
  refine ⟨_,rfl,?_⟩
  replace BK465:=xbb_ BK465 hb
  replace HB:=xws_ HB hb
  (try clear hb)
  refine ⟨⟨xk_ BK465 0,xk_ BK465 1,xk_ BK465 2,xk_ BK465 3⟩,fun hHeld => ?_⟩
  refine mn_ 7 ?_
  refine m1_ 9 12 Tryz.func78 #[.string t467,.slice A0_2 l0_2.length c0_2,.string a0_3] ?_
  with_reducible refine (impl_isMessage.calls k t467 _ _ l0_2 a0_3 t468 _ ?side1 ?side2 A5.out (HTB_.out.below (by first | (with_reducible exact Below.refl _ _) | (repeat (first | (with_reducible first | exact HB.out | exact Below.refl _ _ | apply below_alloc | apply pw_below_drewN | apply below_drew1 | refine below_set ?_ GE465.out) | exact HB.out)) | (repeat (first | exact Below.refl _ _ | apply below_alloc | apply pw_below_drewN | apply below_drew1 | refine below_set ?_ GE465.out))))).mono ?_
  (case side1 => exact xc_ ((Kd.C_below HR0_2.out HB.out)))
  (case side2 => exact HC0_2.out)
  rintro e w10 ⟨rfl,hb⟩
  refine ⟨_,rfl,?_⟩
  replace BK465:=xbb_ BK465 hb
  replace HB:=xws_ HB hb
  (try clear hb)
  refine ⟨⟨xk_ BK465 0,xk_ BK465 1,xk_ BK465 2,xk_ BK465 3⟩,fun hHeld => ?_⟩
  refine mn_ 12 ?_
  refine mp_ 10 13 ?_
  refine mp_ 11 2 ?_
  refine done_ (done_of HT_.out (by kernel_rfl)) ?_
  try go_wp2
  go_ret
  exact ⟨mf_,xw_ HB⟩
 ·replace c3:=Bool.eq_false_iff.mpr c3
  subst c3
  rw [if_neg (show ¬ (false = true) by decide)] at H
  obtain rfl:=Option.some.inj H
  go_enter Tryz.func39,Tryz.ntmps39
  try go_wp2_with (first | ((with_reducible refine gd_ 1 ?_);refine xbe_ (N:=1) (cs:=#[.string a0_0,.string a0_1,.slice A0_2 l0_2.length c0_2,.string a0_3]) (t:=35) ?_;intro gb465 hg w11 hbox hb;have BK465:=Aside0.mk (hbox);have GE465:=xge_ HB hg;replace HB:=xws_ HB hb;clear hb hbox hg))
  replace BK465:=Aside0.mk (blk_drew BK465.out)
  replace HB:=Aside0.mk (below_drew1 HB.out)
  refine ms_ 12 (fun w' => w'.cell? ⟨gb465,0,none⟩ = some (.string a0_0) ∧ w'.cell? ⟨gb465,1,none⟩ = some (.string a0_1) ∧ w'.cell? ⟨gb465,2,none⟩ = some (.slice A0_2 l0_2.length c0_2) ∧ w'.cell? ⟨gb465,3,none⟩ = some (.string a0_3)) impl_GoodRequest.tab1 impl_GoodRequest.bits1 ⟨xk_ BK465 0,xk_ BK465 1,xk_ BK465 2,xk_ BK465 3⟩ (fun hHeld HT_ HW_ => ?_)
  generalize w11.drew = w12 at BK465 HB hHeld ⊢
  refine mt_ 0 3 hHeld ?_
  refine m1_ 1 4 Tryz.func77 #[.agg #[.string a0_0,.string a0_1,.slice A0_2 l0_2.length c0_2,.string a0_3]] ?_
  with_reducible refine (impl_isRequestLine.calls a0_0 a0_1 _ _ l0_2 a0_3 false _ ?side1 ?side2 A2.out).mono ?_
  (case side1 => exact xc_ ((Kd.C_below HR0_2.out HB.out)))
  (case side2 => exact HC0_2.out)
  rintro e w13 ⟨rfl,hb⟩
  refine ⟨_,rfl,?_⟩
  replace BK465:=xbb_ BK465 hb
  replace HB:=xws_ HB hb
  (try clear hb)
  refine ⟨⟨xk_ BK465 0,xk_ BK465 1,xk_ BK465 2,xk_ BK465 3⟩,fun hHeld => ?_⟩
  refine mn_ 4 ?_
  refine mp_ 2 5 ?_
  refine mu_ 3 6 ?_
  refine mu_ 4 7 ?_
  refine mu_ 5 8 ?_
  refine mu_ 6 9 ?_
  refine mu_ 7 10 ?_
  refine mu_ 8 11 ?_
  refine mu_ 9 12 ?_
  refine mp_ 10 13 ?_
  refine mp_ 11 2 ?_
  refine done_ (done_of HT_.out (by kernel_rfl)) ?_
  try go_wp2
  go_ret
  exact ⟨mf_,xw_ HB⟩

/-! ### impl_UrlText: function 40 -/
def impl_UrlText.f (k : Nat) (a0_0 : ByteArray) (a0_1 : ByteArray) (a0_2 : Int) (a0_3 : ByteArray) (a0_4 : ByteArray) (a0_5 : Bool) : Option (ByteArray × Bool):=(impl_GoodUrl.f k a0_0 a0_1 a0_2 a0_3 a0_4 a0_5).bind fun t470 => (if t470 = true then ((impl_urlText.f a0_0 a0_1 a0_2 a0_3 a0_4 a0_5).bind fun t471 => (some (t471,true))) else (some ((⟨#[]⟩ : ByteArray),false)))
set_option maxHeartbeats 8000000 in
set_option maxRecDepth 100000 in
theorem impl_UrlText.calls (k : Nat) (a0_0 : ByteArray) (a0_1 : ByteArray) (a0_2 : Int) (a0_3 : ByteArray) (a0_4 : ByteArray) (a0_5 : Bool) (r1 : ByteArray) (r2 : Bool) (w : World) (h : impl_UrlText.f k a0_0 a0_1 a0_2 a0_3 a0_4 a0_5 = some (r1,r2)) (hT_ : TabOk w) :
  Calls Tryz.prog 40 #[.agg #[.string a0_0,.string a0_1,.int .i64 a0_2,.string a0_3,.string a0_4,.bool a0_5]] w fun e w' => e = .returned (.tuple #[.string r1,.bool r2]) ∧ Below w.heap.size w w':=by
 have HTB_:=Aside0.mk hT_
 clear hT_
 have hu31:=Tryz.underlying31
 have HB:=Aside0.mk (Below.refl w.heap.size w)
 have H:=h
 unfold impl_UrlText.f at H
 clear h
 replace H:=mb_ H
 obtain ⟨t470,A2,H⟩:=H
 by_cases c3 : t470 = true
 ·subst c3
  rw [if_pos rfl] at H
  replace H:=mb_ H
  obtain ⟨t471,A4,H⟩:=H
  simp only [Option.some.injEq,Prod.mk.injEq] at H
  obtain ⟨rfl,rfl⟩:=H
  go_enter Tryz.func40,Tryz.ntmps40
  go_wp2_with (first | ((with_reducible refine gd_ 1 ?_);refine xbe_ (N:=1) (cs:=#[.string a0_0,.string a0_1,.int .i64 a0_2,.string a0_3,.string a0_4,.bool a0_5]) (t:=31) ?_;intro gb469 hg w5 hbox hb;have BK469:=Aside0.mk (hbox);have GE469:=xge_ HB hg;replace HB:=xws_ HB hb;clear hb hbox hg;have ⟨_,_,_,_,_,_,_,_,_,_,_,_⟩:=c6_ BK469) | ((with_reducible refine gc_ 74 ?_);refine xgl_ (some 5) Tryz.func74 #[.agg #[.string a0_0,.string a0_1,.int .i64 a0_2,.string a0_3,.string a0_4,.bool a0_5]] ?_;(with_reducible refine (impl_GoodUrl.calls k a0_0 a0_1 a0_2 a0_3 a0_4 a0_5 true _ A2.out (HTB_.out.below (by first | (with_reducible exact Below.refl _ _) | (repeat (first | (with_reducible first | exact HB.out | exact Below.refl _ _ | apply below_alloc | apply pw_below_drewN | apply below_drew1 | refine below_set ?_ GE469.out) | exact HB.out)) | (repeat (first | exact Below.refl _ _ | apply below_alloc | apply pw_below_drewN | apply below_drew1 | refine below_set ?_ GE469.out))))).mono ?_);rintro e w7 ⟨rfl,hb⟩;refine ⟨_,rfl,?_⟩;replace BK469:=xbb_ BK469 hb;replace HB:=xws_ HB hb;(try clear hb);have ⟨_,_,_,_,_,_,_,_,_,_,_,_⟩:=c6_ BK469) | ((with_reducible refine gc_ 80 ?_);refine xgl_ (some 8) Tryz.func80 #[.agg #[.string a0_0,.string a0_1,.int .i64 a0_2,.string a0_3,.string a0_4,.bool a0_5]] ?_;(with_reducible refine (impl_urlText.calls a0_0 a0_1 a0_2 a0_3 a0_4 a0_5 t471 _ A4.out (HTB_.out.below (by first | (with_reducible exact Below.refl _ _) | (repeat (first | (with_reducible first | exact HB.out | exact Below.refl _ _ | apply below_alloc | apply pw_below_drewN | apply below_drew1 | refine below_set ?_ GE469.out) | exact HB.out)) | (repeat (first | exact Below.refl _ _ | apply below_alloc | apply pw_below_drewN | apply below_drew1 | refine below_set ?_ GE469.out))))).mono ?_);rintro e w9 ⟨rfl,hb⟩;refine ⟨_,rfl,?_⟩;replace BK469:=xbb_ BK469 hb;replace HB:=xws_ HB hb;(try clear hb)))
  go_ret2
  exact ⟨mf_,xw_ HB⟩
 ·replace c3:=Bool.eq_false_iff.mpr c3
  subst c3
  rw [if_neg (show ¬ (false = true) by decide)] at H
  simp only [Option.some.injEq,Prod.mk.injEq] at H
  obtain ⟨rfl,rfl⟩:=H
  go_enter Tryz.func40,Tryz.ntmps40
  go_wp2_with (first | ((with_reducible refine gd_ 1 ?_);refine xbe_ (N:=1) (cs:=#[.string a0_0,.string a0_1,.int .i64 a0_2,.string a0_3,.string a0_4,.bool a0_5]) (t:=31) ?_;intro gb469 hg w10 hbox hb;have BK469:=Aside0.mk (hbox);have GE469:=xge_ HB hg;replace HB:=xws_ HB hb;clear hb hbox hg;have ⟨_,_,_,_,_,_,_,_,_,_,_,_⟩:=c6_ BK469) | ((with_reducible refine gc_ 74 ?_);refine xgl_ (some 5) Tryz.func74 #[.agg #[.string a0_0,.string a0_1,.int .i64 a0_2,.string a0_3,.string a0_4,.bool a0_5]] ?_;(with_reducible refine (impl_GoodUrl.calls k a0_0 a0_1 a0_2 a0_3 a0_4 a0_5 false _ A2.out (HTB_.out.below (by first | (with_reducible exact Below.refl _ _) | (repeat (first | (with_reducible first | exact HB.out | exact Below.refl _ _ | apply below_alloc | apply pw_below_drewN | apply below_drew1 | refine below_set ?_ GE469.out) | exact HB.out)) | (repeat (first | exact Below.refl _ _ | apply below_alloc | apply pw_below_drewN | apply below_drew1 | refine below_set ?_ GE469.out))))).mono ?_);rintro e w12 ⟨rfl,hb⟩;refine ⟨_,rfl,?_⟩;replace BK469:=xbb_ BK469 hb;replace HB:=xws_ HB hb;(try clear hb)))
  go_ret2
  exact ⟨mf_,xw_ HB⟩

/-! ### impl_isUnreserved: function 134 -/
def impl_isUnreserved.f (a0 : Int) : Option (Bool):=(impl_isAmong.f a0 (⟨#[45,46,95,126]⟩ : ByteArray)).bind fun t472 => (some t472)
set_option maxHeartbeats 8000000 in
set_option maxRecDepth 100000 in
theorem impl_isUnreserved.calls (a0 : Int) (r : Bool) (w : World) (h : impl_isUnreserved.f a0 = some r) :
  Calls Tryz.prog 134 #[.int .u8 a0] w fun e w' => e = .returned (.bool r) ∧ Drawn0 w w':=by
 have H:=h
 unfold impl_isUnreserved.f at H
 clear h
 replace H:=mb_ H
 obtain ⟨t472,A2,H⟩:=H
 obtain rfl:=Option.some.inj H
 go_enter Tryz.func134,Tryz.ntmps134
 go_wp2_with (first | ((with_reducible refine gc_ 122 ?_);refine xgl_ (some 4) Tryz.func122 #[.int .u8 a0,.string (⟨#[45,46,95,126]⟩ : ByteArray)] ?_;(with_reducible refine (impl_isAmong.calls a0 (⟨#[45,46,95,126]⟩ : ByteArray) t472 _ A2.out).mono ?_);rintro e w' ⟨rfl,⟨nd,rfl⟩⟩;refine ⟨_,rfl,?_⟩))
 go_ret
 exact ⟨by first | rfl | (simp;done) | (simp [*];done),by repeat (first | exact Drawn0.refl _ | apply Drawn0.step)⟩

/-! ### impl_encoded: function 135 -/
def impl_encoded.f (a0 : Int) : Option (ByteArray):=if 0 ≤ (a0 / 16) then (if (a0 / 16) < 16 then (if 0 ≤ (Go.bits .and .u8 a0 15) then (if (Go.bits .and .u8 a0 15) < 16 then (some (strOfNums (([37,bt (⟨#[48,49,50,51,52,53,54,55,56,57,65,66,67,68,69,70]⟩ : ByteArray) (a0 / 16),bt (⟨#[48,49,50,51,52,53,54,55,56,57,65,66,67,68,69,70]⟩ : ByteArray) (Go.bits .and .u8 a0 15)] : List Int)))) else (none)) else (none)) else (none)) else (none)
def impl_encoded.T1 : Bool × List (List Nat × List Nat):=(true,[([],[]),([0],[0]),([1],[1]),([],[]),([3],[3]),([4],[4]),([2,5],[2,5]),([6],[6]),([7,0,1,2,3,4,5,6,7],[7])])
def impl_encoded.B1 : List Nat:=[0,1,3,0,8,24,63,127,255]
theorem impl_encoded.tab1 : rtab .any (opsOf Tryz.f135 1) = impl_encoded.T1:=by kernel_rfl
theorem impl_encoded.bits1 : waitsOk impl_encoded.T1.2 impl_encoded.B1 = true:=by kernel_rfl
set_option maxHeartbeats 8000000 in
set_option maxRecDepth 100000 in
theorem impl_encoded.calls (a0 : Int) (r : ByteArray) (w : World) (h : impl_encoded.f a0 = some r) :
  Calls Tryz.prog 135 #[.int .u8 a0] w fun e w' => e = .returned (.string r) ∧ Below w.heap.size w w':=by
 have HB:=Aside0.mk (Below.refl w.heap.size w)
 have H:=h
 unfold impl_encoded.f at H
 clear h
 obtain ⟨ji2,hji2⟩ : ∃ j_ : Int,(a0 / 16) = j_:=⟨_,rfl⟩
 replace H : (if 0 ≤ (ji2) then (if (ji2) < 16 then (if 0 ≤ (Go.bits .and .u8 a0 15) then (if (Go.bits .and .u8 a0 15) < 16 then (some (strOfNums (([37,bt (⟨#[48,49,50,51,52,53,54,55,56,57,65,66,67,68,69,70]⟩ : ByteArray) (ji2),bt (⟨#[48,49,50,51,52,53,54,55,56,57,65,66,67,68,69,70]⟩ : ByteArray) (Go.bits .and .u8 a0 15)] : List Int)))) else (none)) else (none)) else (none)) else (none)) = some r:=by first | (rw [hji2] at H;exact H) | (simp only [hji2] at H ⊢;exact H)
 replace H:=mi_ H
 obtain ⟨c3,H⟩:=H
 have c3b0:=decide_eq_true c3
 clear c3
 replace H:=mi_ H
 obtain ⟨c4,H⟩:=H
 have c4b0:=decide_eq_true c4
 clear c4
 replace H:=mi_ H
 obtain ⟨c6,H⟩:=H
 have c6b0:=decide_eq_true c6
 clear c6
 replace H:=mi_ H
 obtain ⟨c7,H⟩:=H
 have c7b0:=decide_eq_true c7
 clear c7
 obtain ⟨y473,hy473⟩ : ∃ y_ : List Int,y_ = (([37,bt (⟨#[48,49,50,51,52,53,54,55,56,57,65,66,67,68,69,70]⟩ : ByteArray) (ji2),bt (⟨#[48,49,50,51,52,53,54,55,56,57,65,66,67,68,69,70]⟩ : ByteArray) (Go.bits .and .u8 a0 15)] : List Int)):=⟨_,rfl⟩
 replace H : (some (strOfNums y473)) = some r:=by first | (rw [hy473];with_reducible exact H) | (have H2_:=(Option.bind_some _ _).symm.trans H;rw [hy473];with_reducible exact H2_) | (have H2_:=(Option.bind_some _ _).symm.trans H;with_reducible exact H2_) | with_reducible exact H | (rw [hy473];exact H) | exact H
 have Ny473:=Aside0.mk hy473
 clear hy473
 obtain rfl:=Option.some.inj H
 go_enter Tryz.func135,Tryz.ntmps135
 try go_wp2
 replace HB:=Aside0.mk (below_drew1 HB.out)
 have p5 : 0 ≤ ((ji2) : Int):=md_
 have q5 : (ji2) < (16 : Int):=md_
 have hx5:=bt_at (⟨#[48,49,50,51,52,53,54,55,56,57,65,66,67,68,69,70]⟩ : ByteArray) (ji2)
 replace p5:=eq_true p5
 replace q5:=eq_true q5
 have p8 : 0 ≤ ((Go.bits .and .u8 a0 15) : Int):=md_
 have q8 : (Go.bits .and .u8 a0 15) < (16 : Int):=md_
 have hx8:=bt_at (⟨#[48,49,50,51,52,53,54,55,56,57,65,66,67,68,69,70]⟩ : ByteArray) (Go.bits .and .u8 a0 15)
 replace p8:=eq_true p8
 replace q8:=eq_true q8
 refine ms_ 9 (fun w' => True) impl_encoded.tab1 impl_encoded.bits1 trivial (fun hHeld HT_ HW_ => ?_)
 generalize w.drew = w9 at HB hHeld ⊢
 refine mp_ 0 3 ?_
 refine mp_ 1 4 ?_
 refine mp_ 3 6 ?_
 refine mp_ 4 7 ?_
 refine mt_ 2 5 hHeld ?_
 refine mt_ 5 8 hHeld ?_
 refine one_ (i:=6) (N:=some 9) #[true,true,true,true,true,true,true,false,false] rfl rfl (one_of HT_.out (by kernel_rfl)) (by decide) (fun K hK => ?_)
 refine Kd.R_lit_step (Kd.int .u8) _ 5 ?hg (N:=9) ?hd (xs:=([37,bt (⟨#[48,49,50,51,52,53,54,55,56,57,65,66,67,68,69,70]⟩ : ByteArray) (ji2),bt (⟨#[48,49,50,51,52,53,54,55,56,57,65,66,67,68,69,70]⟩ : ByteArray) (Go.bits .and .u8 a0 15)] : List Int)) (inner:=[.int .u8 37,.int .u8 (bt (⟨#[48,49,50,51,52,53,54,55,56,57,65,66,67,68,69,70]⟩ : ByteArray) (ji2)),.int .u8 (bt (⟨#[48,49,50,51,52,53,54,55,56,57,65,66,67,68,69,70]⟩ : ByteArray) (Go.bits .and .u8 a0 15))]) (ok:=fun _ => True) (okp:=fun _ => True) ?hr ?hp (fun _ hk => hk) trivial (Below.refl _ _) (Nat.le_refl _) (by simp) ?_;(case hd => rfl);(case hg => rfl);(case hr => first | (go_simp;done) | (go_simp;rfl));(case hp => exact (Reps.one (show Kd.M (Kd.int .u8) _ _ _ 37 [.int .u8 37] from rfl) (Reps.one (show Kd.M (Kd.int .u8) _ _ _ (bt (⟨#[48,49,50,51,52,53,54,55,56,57,65,66,67,68,69,70]⟩ : ByteArray) (ji2)) [.int .u8 (bt (⟨#[48,49,50,51,52,53,54,55,56,57,65,66,67,68,69,70]⟩ : ByteArray) (ji2))] from rfl) (Reps.one (show Kd.M (Kd.int .u8) _ _ _ (bt (⟨#[48,49,50,51,52,53,54,55,56,57,65,66,67,68,69,70]⟩ : ByteArray) (Go.bits .and .u8 a0 15)) [.int .u8 (bt (⟨#[48,49,50,51,52,53,54,55,56,57,65,66,67,68,69,70]⟩ : ByteArray) (Go.bits .and .u8 a0 15))] from rfl) (Reps.none _ _)))))
 intro v474 w10 ho11 hb hg_ hnew_
 clear hg_ hnew_
 (first | rw [← Ny473.out] at ho11 | (simp only [Int.reduceToNat] at ho11;rw [← Ny473.out] at ho11))
 have HO475:=Aside0.mk (Kd.R_lower ho11 (below_size (xw_ HB)))
 replace HB:=xws_ HB hb
 clear hb ho11
 refine hK.out _ _ trivial (fun hHeld => ?_)
 clear hK K
 refine mn_ 9 ?_
 refine one_ (i:=7) (N:=some 10) #[true,true,true,true,true,true,true,true,false] rfl rfl (one_of HT_.out (by kernel_rfl)) (by decide) (fun K hK => ?_)
 have hcv12:=own_string (P:=Tryz.prog) Tryz.underlying120 Tryz.underlying5 Tryz.underlying9 (Kd.own_of_R HO475.out)
 refine value_ (w1:=?_) (v:=?_) (by rfl) rfl ?_ ?_
 rotate_left 2
 ·go_simp
  constructor
  ·rfl
  ·rfl
 clear hcv12
 refine hK.out _ _ trivial (fun hHeld => ?_)
 clear hK K
 refine mn_ 10 ?_
 refine mp_ 8 2 ?_
 refine done_ (done_of HT_.out (by kernel_rfl)) ?_
 try go_wp2
 go_ret
 exact ⟨by first | rfl | (simp [errW_none,errW_some] <;> rfl) | (simp only [← hji2];first | rfl | (simp [errW_none,errW_some] <;> rfl)) | (simp [*,errW_none,errW_some] <;> rfl),xw_ HB⟩

/-! ### impl_normalPercents: function 82 -/
def impl_normalPercents.l0 : Nat → ByteArray → List Int → Int → Option (ByteArray)
 | 0,_,_,_ => none
 | k + 1,x0,x3,x4 => if x4 < (x0.size : Int) then (if 0 ≤ x4 then (if x4 ≤ (x0.size : Int) then ((impl_percent.f k (x0.extract (x4 : Int).toNat x0.size)).bind fun bt476 => (if bt476.2 = true then ((impl_isUnreserved.f bt476.1).bind fun t478 => (if t478 = true then (if x3.length < 140737488355328 then (impl_normalPercents.l0 k x0 (x3 ++ [bt476.1]) (wrap64 ((wrap64 (x4 + 2)) + 1))) else (none)) else ((impl_encoded.f bt476.1).bind fun t482 => (if x3.length + t482.size < 140737488355328 then (impl_normalPercents.l0 k x0 (x3 ++ bytesOf t482) (wrap64 ((wrap64 (x4 + 2)) + 1))) else (none))))) else (if x3.length < 140737488355328 then (impl_normalPercents.l0 k x0 (x3 ++ [bt x0 x4]) (wrap64 (x4 + 1))) else (none)))) else (none)) else (none)) else (some (strOfNums x3))
def impl_normalPercents.f (k : Nat) (a0 : ByteArray) : Option (ByteArray):=impl_normalPercents.l0 k a0 ([] : List Int) 0
set_option maxHeartbeats 8000000 in
set_option maxRecDepth 100000 in
theorem impl_normalPercents.calls (k : Nat) (a0 : ByteArray) (r : ByteArray) (w : World) (h : impl_normalPercents.f k a0 = some r) :
  Calls Tryz.prog 82 #[.string a0] w fun e w' => e = .returned (.string r) ∧ Below w.heap.size w w':=by
 have HB:=Aside0.mk (Below.refl w.heap.size w)
 have H:=h
 unfold impl_normalPercents.f at H
 clear h
 have H':=Aside0.mk H
 clear H
 go_enter Tryz.func82,Tryz.ntmps82
 go_wp2
 go_loopg [3,4] k (fun kq v3 v4 w' => ∃ (x3_1 : List Int) (x4_1 : Int),v4 = .int .i64 x4_1 ∧ Aside0 (impl_normalPercents.l0 kq a0 x3_1 x4_1 = some r) ∧ Aside0 (kq ≤ k) ∧ Aside0 (Kd.R (Kd.int .u8) 5 w' w.heap.size (fun _ => True) v3 x3_1) ∧ Aside0 (Below w.heap.size w w'))
 case atStart => exact ⟨(([] : List Int)),(0),me_,H',⟨Nat.le_refl _⟩,⟨by first | exact Kd.R_nil _ _ _ _ _ | exact Kd.N_nil _ _ _ _ _ | exact Kd.V_nil _ _ _ _ _ | exact Kd.Q_nil _ _ _ _ _ | exact Kd.S_nil _ _ _ _ _⟩,⟨xw_ HB⟩⟩
 case round =>
  clear H'
  obtain ⟨x3_1,x4_1,rfl,HA,HK1,HO_3,HB⟩:=hrel
  cases gk with
  | zero => exact absurd HA.out (by simp [impl_normalPercents.l0])
  | succ k1 =>
   have H:=HA.out
   clear HA
   simp only [impl_normalPercents.l0] at H
   by_cases c2 : x4_1 < (a0.size : Int)
   ·rw [if_pos c2] at H
    have c2b0:=decide_eq_true c2
    clear c2
    replace H:=mi_ H
    obtain ⟨c3,H⟩:=H
    have c3b0:=eq_true c3
    have c3b1:=decide_eq_true c3
    clear c3
    replace H:=mi_ H
    obtain ⟨c4,H⟩:=H
    have c4b0:=eq_true c4
    have c4b1:=decide_eq_true c4
    clear c4
    replace H:=mb_ H
    obtain ⟨⟨t476,t477⟩,A5,H⟩:=H
    dsimp only at H
    by_cases c6 : t477 = true
    ·subst c6
     rw [if_pos rfl] at H
     replace H:=mb_ H
     obtain ⟨t478,A7,H⟩:=H
     by_cases c8 : t478 = true
     ·subst c8
      rw [if_pos rfl] at H
      replace H:=mi_ H
      obtain ⟨c9,H⟩:=H
      have LMc9:=Aside0.mk c9
      clear c9
      obtain ⟨y479,hy479⟩ : ∃ y_ : List Int,y_ = (x3_1 ++ [t476]):=⟨_,rfl⟩
      replace H : (impl_normalPercents.l0 k1 a0 y479 (wrap64 ((wrap64 (x4_1 + 2)) + 1))) = some r:=by first | (rw [hy479];with_reducible exact H) | (have H2_:=(Option.bind_some _ _).symm.trans H;rw [hy479];with_reducible exact H2_) | (have H2_:=(Option.bind_some _ _).symm.trans H;with_reducible exact H2_) | with_reducible exact H | (rw [hy479];exact H) | exact H
      have Ny479:=Aside0.mk hy479
      clear hy479
      have H':=Aside0.mk H
      clear H
      go_wp2_with (first | ((with_reducible refine gc_ 133 ?_);refine xgl_ (some 17) Tryz.func133 #[.string (a0.extract (x4_1 : Int).toNat a0.size)] ?_;(with_reducible refine (impl_percent.calls k1 (a0.extract (x4_1 : Int).toNat a0.size) t476 true _ A5.out).mono ?_);rintro e w' ⟨rfl,⟨nd,rfl⟩⟩;refine ⟨_,rfl,?_⟩) | ((with_reducible refine gc_ 134 ?_);refine xgl_ (some 35) Tryz.func134 #[.int .u8 t476] ?_;(with_reducible refine (impl_isUnreserved.calls t476 true _ A7.out).mono ?_);rintro e w' ⟨rfl,⟨nd,rfl⟩⟩;refine ⟨_,rfl,?_⟩) | ((with_reducible refine gate_builtin (b:=.append) (xs:=#[.tmp 36,.tmp 38]) rfl ?_);at_builtin;refine Kd.R_append (Kd.int .u8) (w0:=w) w.heap.size rfl (.tmp 36) (.tmp 38) 120 5 (.int .u8 0) 1 rfl Tryz.underlying120 info5 rfl (by decide) (by omega) u3 x3_1 t476 [.int .u8 t476] (fun _ => True) (fun _ => False) rfl rfl ?aP (fun _ hk => hk.elim) ?aF ?aO ?aB ?aS ?aL ?_;(case aP => exact rfl);(case aB => exact (xw_ HB));(case aF => exact (fun _ _ => trivial));(case aO => exact (xr_ HO_3));(case aS => exact (below_size (xw_ HB)));(case aL => have:=LMc9.out;omega);intro v480 w10 ho hb hg hat;rw [← Ny479.out] at ho;replace HB:=Aside0.mk (hb);have HO481:=Aside0.mk (ho);clear HO_3;clear ho hb hg hat))
      go_roundg k1
      case measure => have:=HK1.out;omega
      case rel => exact ⟨(y479),(wrap64 ((wrap64 (x4_1 + 2)) + 1)),me_,H',⟨by have:=HK1.out;omega⟩,⟨xr_ HO481⟩,⟨xw_ HB⟩⟩
     ·replace c8:=Bool.eq_false_iff.mpr c8
      subst c8
      rw [if_neg (show ¬ (false = true) by decide)] at H
      replace H:=mb_ H
      obtain ⟨t482,A11,H⟩:=H
      replace H:=mi_ H
      obtain ⟨c12,H⟩:=H
      have LMc12:=Aside0.mk c12
      clear c12
      obtain ⟨y483,hy483⟩ : ∃ y_ : List Int,y_ = (x3_1 ++ bytesOf t482):=⟨_,rfl⟩
      replace H : (impl_normalPercents.l0 k1 a0 y483 (wrap64 ((wrap64 (x4_1 + 2)) + 1))) = some r:=by first | (rw [hy483];with_reducible exact H) | (have H2_:=(Option.bind_some _ _).symm.trans H;rw [hy483];with_reducible exact H2_) | (have H2_:=(Option.bind_some _ _).symm.trans H;with_reducible exact H2_) | with_reducible exact H | (rw [hy483];exact H) | exact H
      have Ny483:=Aside0.mk hy483
      clear hy483
      have H':=Aside0.mk H
      clear H
      go_wp2_with (first | ((with_reducible refine gc_ 133 ?_);refine xgl_ (some 17) Tryz.func133 #[.string (a0.extract (x4_1 : Int).toNat a0.size)] ?_;(with_reducible refine (impl_percent.calls k1 (a0.extract (x4_1 : Int).toNat a0.size) t476 true _ A5.out).mono ?_);rintro e w' ⟨rfl,⟨nd,rfl⟩⟩;refine ⟨_,rfl,?_⟩) | ((with_reducible refine gc_ 134 ?_);refine xgl_ (some 35) Tryz.func134 #[.int .u8 t476] ?_;(with_reducible refine (impl_isUnreserved.calls t476 false _ A7.out).mono ?_);rintro e w' ⟨rfl,⟨nd,rfl⟩⟩;refine ⟨_,rfl,?_⟩) | ((with_reducible refine gc_ 135 ?_);refine xgl_ (some 22) Tryz.func135 #[.int .u8 t476] ?_;(with_reducible refine (impl_encoded.calls t476 t482 _ A11.out).mono ?_);rintro e w13 ⟨rfl,hb⟩;refine ⟨_,rfl,?_⟩;replace HO_3:=xrb_ HO_3 hb;replace HB:=xws_ HB hb;(try clear hb)) | (at_builtin;refine print_append_str (w0:=w) w.heap.size rfl (.tmp 20) _ 120 9 5 rfl Tryz.underlying120 Tryz.underlying9 info5 u3 x3_1 t482 rfl rfl ?aO ?aB ?aS ?aL ?_;(case aB => exact (xw_ HB));(case aO => exact (Kd.own_of_R (xr_ HO_3)));(case aS => exact (below_size (xw_ HB)));(case aL => have:=LMc12.out;omega);intro v484 w14 ho0 hb hg;have ho:=Kd.R_of_own (h1:=fun _ => rfl) (ok:=fun _ => True) ho0 (fun _ _ => trivial);clear ho0;have hat:=True.intro;rw [← Ny483.out] at ho;change Kd.R (Kd.int .u8) 5 w14 w.heap.size (fun _ => True) v484 y483 at ho;replace HB:=Aside0.mk (hb);have HO485:=Aside0.mk (ho);clear HO_3;clear ho hb hg hat))
      go_roundg k1
      case measure => have:=HK1.out;omega
      case rel => exact ⟨(y483),(wrap64 ((wrap64 (x4_1 + 2)) + 1)),me_,H',⟨by have:=HK1.out;omega⟩,⟨xr_ HO485⟩,⟨xw_ HB⟩⟩
    ·replace c6:=Bool.eq_false_iff.mpr c6
     subst c6
     rw [if_neg (show ¬ (false = true) by decide)] at H
     replace H:=mi_ H
     obtain ⟨c16,H⟩:=H
     have LMc16:=Aside0.mk c16
     clear c16
     obtain ⟨y486,hy486⟩ : ∃ y_ : List Int,y_ = (x3_1 ++ [bt a0 x4_1]):=⟨_,rfl⟩
     replace H : (impl_normalPercents.l0 k1 a0 y486 (wrap64 (x4_1 + 1))) = some r:=by first | (rw [hy486];with_reducible exact H) | (have H2_:=(Option.bind_some _ _).symm.trans H;rw [hy486];with_reducible exact H2_) | (have H2_:=(Option.bind_some _ _).symm.trans H;with_reducible exact H2_) | with_reducible exact H | (rw [hy486];exact H) | exact H
     have Ny486:=Aside0.mk hy486
     clear hy486
     have H':=Aside0.mk H
     clear H
     go_wp2_with (first | ((with_reducible refine gc_ 133 ?_);refine xgl_ (some 17) Tryz.func133 #[.string (a0.extract (x4_1 : Int).toNat a0.size)] ?_;(with_reducible refine (impl_percent.calls k1 (a0.extract (x4_1 : Int).toNat a0.size) t476 false _ A5.out).mono ?_);rintro e w' ⟨rfl,⟨nd,rfl⟩⟩;refine ⟨_,rfl,?_⟩;have p15 : 0 ≤ (x4_1 : Int):=md_;have q15 : x4_1 < (a0.size : Int):=md_;have hx15:=bt_at a0 x4_1;replace p15:=eq_true p15;replace q15:=eq_true q15) | ((with_reducible refine gate_builtin (b:=.append) (xs:=#[.tmp 27,.tmp 31]) rfl ?_);at_builtin;refine Kd.R_append (Kd.int .u8) (w0:=w) w.heap.size rfl (.tmp 27) (.tmp 31) 120 5 (.int .u8 0) 1 rfl Tryz.underlying120 info5 rfl (by decide) (by omega) u3 x3_1 (bt a0 x4_1) [.int .u8 (bt a0 x4_1)] (fun _ => True) (fun _ => False) rfl rfl ?aP (fun _ hk => hk.elim) ?aF ?aO ?aB ?aS ?aL ?_;(case aP => exact rfl);(case aB => exact (xw_ HB));(case aF => exact (fun _ _ => trivial));(case aO => exact (xr_ HO_3));(case aS => exact (below_size (xw_ HB)));(case aL => have:=LMc16.out;omega);intro v487 w17 ho hb hg hat;rw [← Ny486.out] at ho;replace HB:=Aside0.mk (hb);have HO488:=Aside0.mk (ho);clear HO_3;clear ho hb hg hat))
     go_roundg k1
     case measure => have:=HK1.out;omega
     case rel => exact ⟨(y486),(wrap64 (x4_1 + 1)),me_,H',⟨by have:=HK1.out;omega⟩,⟨xr_ HO488⟩,⟨xw_ HB⟩⟩
   ·rw [if_neg c2] at H
    have c2b0:=decide_eq_false c2
    clear c2
    obtain rfl:=Option.some.inj H
    have hcv18:=own_string (P:=Tryz.prog) Tryz.underlying120 Tryz.underlying5 Tryz.underlying9 (Kd.own_of_R HO_3.out)
    go_wp2
    go_ret
    exact ⟨mf_,xw_ HB⟩

end Go.Proofs.YtpggepjfhgalkaaGreatDoor.PFnExactKeyOf
