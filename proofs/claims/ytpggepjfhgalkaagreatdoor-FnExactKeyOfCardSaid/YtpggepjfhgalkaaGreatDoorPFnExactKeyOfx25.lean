-- Written by a program of this project (xprint.py) out of the translation; Lean checks it.
import Derived.Test.YtpggepjfhgalkaaGreatDoorPFnExactKeyOfx0
import Derived.Test.YtpggepjfhgalkaaGreatDoorPFnExactKeyOfx14
import Derived.Test.YtpggepjfhgalkaaGreatDoorPFnExactKeyOfx19
import Derived.Test.YtpggepjfhgalkaaGreatDoorPFnExactKeyOfx21
import Derived.Test.YtpggepjfhgalkaaGreatDoorPFnExactKeyOfx24
namespace Go.Proofs.YtpggepjfhgalkaaGreatDoor.PFnExactKeyOf
open Go.RowKit Go.Proofs.YtpggepjfhgalkaaGreatDoorW.PrintWords Go.Proofs.YtpggepjfhgalkaaGreatDoorW.PrintLast Go.Proofs.YtpggepjfhgalkaaGreatDoorW.PrintMore
attribute [local go_sem] max2_int min2_int max_two min_two max_three min_three max_four min_four   -- for this text's walks alone
set_option linter.unusedVariables false
set_option linter.unusedSimpArgs false

/-! ### impl_normal: function 41 -/
def impl_normal.j0 : Nat → Bool → ByteArray → ByteArray → Int → ByteArray → ByteArray → Bool → Option (ByteArray × ByteArray × Int × ByteArray × ByteArray × Bool)
 | 0,_,_,_,_,_,_,_ => none
 | k + 1,x24,x490000,x490001,x490002,x490003,x490004,x490005 => if x24 = true then ((impl_normalPercents.f k x490003).bind fun t492 => ((impl_dropDots.f k t492).bind fun t493 => ((impl_normalPercents.f k x490004).bind fun t494 => (some (x490000,x490001,0,t493,t494,x490005))))) else ((impl_normalPercents.f k x490003).bind fun t495 => ((impl_dropDots.f k t495).bind fun t496 => ((impl_normalPercents.f k x490004).bind fun t497 => (some (x490000,x490001,x490002,t496,t497,x490005)))))
def impl_normal.f (k : Nat) (a0_0 : ByteArray) (a0_1 : ByteArray) (a0_2 : Int) (a0_3 : ByteArray) (a0_4 : ByteArray) (a0_5 : Bool) : Option (ByteArray × ByteArray × Int × ByteArray × ByteArray × Bool):=(impl_small.f a0_1).bind fun t491 => (if a0_0.toList = ([104,116,116,112] : List UInt8) then (if a0_2 = 80 then (impl_normal.j0 k true a0_0 t491 a0_2 a0_3 a0_4 a0_5) else (if a0_0.toList = ([104,116,116,112,115] : List UInt8) then (impl_normal.j0 k (a0_2 == 443) a0_0 t491 a0_2 a0_3 a0_4 a0_5) else (impl_normal.j0 k false a0_0 t491 a0_2 a0_3 a0_4 a0_5))) else (if a0_0.toList = ([104,116,116,112,115] : List UInt8) then (impl_normal.j0 k (a0_2 == 443) a0_0 t491 a0_2 a0_3 a0_4 a0_5) else (impl_normal.j0 k false a0_0 t491 a0_2 a0_3 a0_4 a0_5)))
def impl_normal.T4 : Bool × List (List Nat × List Nat):=(true,[([],[]),([0],[0]),([1],[1]),([2,2],[2]),([],[]),([4],[4]),([5,3],[5]),([0,1,2,3,4,5],[]),([7,3,6,0,1,2,3,4,5],[3,7]),([0,1,2,3,4,5,6,7,8],[]),([9,6,8,0,1,2,3,4,5,6,7,8],[6,9])])
def impl_normal.B4 : List Nat:=[0,1,3,7,0,16,63,63,255,511,1023]
theorem impl_normal.tab4 : rtab .any (opsOf Tryz.f41 4) = impl_normal.T4:=by kernel_rfl
theorem impl_normal.bits4 : waitsOk impl_normal.T4.2 impl_normal.B4 = true:=by kernel_rfl
set_option maxHeartbeats 8000000 in
set_option maxRecDepth 100000 in
theorem impl_normal.calls (k : Nat) (a0_0 : ByteArray) (a0_1 : ByteArray) (a0_2 : Int) (a0_3 : ByteArray) (a0_4 : ByteArray) (a0_5 : Bool) (r1 : ByteArray) (r2 : ByteArray) (r3 : Int) (r4 : ByteArray) (r5 : ByteArray) (r6 : Bool) (w : World) (h : impl_normal.f k a0_0 a0_1 a0_2 a0_3 a0_4 a0_5 = some (r1,r2,r3,r4,r5,r6)) (hT_ : TabOk w) :
  Calls Tryz.prog 41 #[.agg #[.string a0_0,.string a0_1,.int .i64 a0_2,.string a0_3,.string a0_4,.bool a0_5]] w fun e w' => e = .returned (.agg #[.string r1,.string r2,.int .i64 r3,.string r4,.string r5,.bool r6]) ∧ Below w.heap.size w w':=by
 have HTB_:=Aside0.mk hT_
 clear hT_
 have hu31:=Tryz.underlying31
 have HB:=Aside0.mk (Below.refl w.heap.size w)
 have H:=h
 unfold impl_normal.f at H
 clear h
 replace H:=mb_ H
 obtain ⟨t491,A2,H⟩:=H
 have HC3:=Aside0.mk H
 clear H
 go_enter Tryz.func41,Tryz.ntmps41
 go_upto_region 2 with (first | ((with_reducible refine gd_ 1 ?_);refine xbe_ (N:=1) (cs:=#[.string a0_0,.string a0_1,.int .i64 a0_2,.string a0_3,.string a0_4,.bool a0_5]) (t:=31) ?_;intro gb489 hg w4 hbox hb;have BK489:=Aside0.mk (hbox);have GE489:=xge_ HB hg;replace HB:=xws_ HB hb;clear hb hbox hg) | ((with_reducible refine gd_ 2 ?_);refine xbe_ (N:=2) (cs:=#[.string (⟨#[]⟩ : ByteArray),.string (⟨#[]⟩ : ByteArray),.int .i64 0,.string (⟨#[]⟩ : ByteArray),.string (⟨#[]⟩ : ByteArray),.bool false]) (t:=31) ?_;intro gb490 hg w5 hbox hb;have BK490:=Aside0.mk (hbox);have GE490:=xge_ HB hg;replace HB:=xws_ HB hb;have NB489_490:=xlt_ BK489 hg;have NB490_489:=xgt_ BK489 hg;replace BK489:=xbb_ BK489 hb;clear hb hbox hg;have hnb6:=NB489_490.out;have hnc6:=NB490_489.out;have ⟨_,_,_,_,_,_,_,_,_,_,_,_⟩:=c6_ BK489) | ((with_reducible refine gc_ 81 ?_);refine xgl_ (some 5) Tryz.func81 #[.string a0_1] ?_;(with_reducible refine (impl_small.calls a0_1 t491 _ A2.out).mono ?_);rintro e w8 ⟨rfl,hb⟩;refine ⟨_,rfl,?_⟩;replace BK489:=xbb_ BK489 hb;replace BK490:=xbb_ BK490 hb;replace HB:=xws_ HB hb;(try clear hb);have ⟨_,_,_,_,_,_,_,_,_,_,_,_⟩:=c6_ BK489))
 (try simp only [Act.put,List.setIfInBounds_toArray,List.set_cons_zero,List.set_cons_succ])
 go_cut [24] (fun v24 wc => ∃ (kq : Nat) (x24_2 : Bool),v24 = .bool x24_2 ∧ Aside0 (impl_normal.j0 kq x24_2 a0_0 t491 a0_2 a0_3 a0_4 a0_5 = some (r1,r2,r3,r4,r5,r6)) ∧ Aside0 (kq ≤ k) ∧ Aside0 (wc.heap[gb489]? = some (.cells #[.string a0_0,.string t491,.int .i64 a0_2,.string a0_3,.string a0_4,.bool a0_5] 31 (0,0))) ∧ Aside0 (wc.heap[gb490]? = some (.cells #[.string (⟨#[]⟩ : ByteArray),.string (⟨#[]⟩ : ByteArray),.int .i64 0,.string (⟨#[]⟩ : ByteArray),.string (⟨#[]⟩ : ByteArray),.bool false] 31 (0,0))) ∧ Aside0 (Below w.heap.size w wc))
 case first =>
  have H:=HC3.out
  clear HC3
  by_cases c10 : a0_0.toList = ([104,116,116,112] : List UInt8)
  ·rw [if_pos c10] at H
   have c10b0 : (a0_0.toList == ([104,116,116,112] : List UInt8)) = true:=beq_iff_eq.mpr c10
   have c10b1 : (a0_0.toList != ([104,116,116,112] : List UInt8)) = false:=bne_eq_false_iff_eq.mpr c10
   clear c10
   (first | rw [c10b0] | (simp only [i64_w,i32_w];rw [c10b0]) | skip)
   by_cases c11 : a0_2 = 80
   ·rw [if_pos c11] at H
    have c11b0 : (a0_2 == 80) = true:=beq_iff_eq.mpr c11
    have c11b1 : (a0_2 != 80) = false:=bne_eq_false_iff_eq.mpr c11
    clear c11
    have H':=Aside0.mk H
    clear H
    have hnb12:=NB489_490.out
    have hnc12:=NB490_489.out
    have ⟨_,_,_,_,_,_,_,_,_,_,_,_⟩:=c6_ BK489
    go_wp2
    go_meet
    case rel => exact ⟨_,(true),me_,H',⟨by first | omega | exact Nat.le_refl _⟩,⟨mx_ BK489⟩,⟨mx_ BK490⟩,⟨xw_ HB⟩⟩
   ·rw [if_neg c11] at H
    have c11b0 : (a0_2 == 80) = false:=beq_eq_false_iff_ne.mpr c11
    have c11b1 : (a0_2 != 80) = true:=bne_iff_ne.mpr c11
    by_cases c14 : a0_0.toList = ([104,116,116,112,115] : List UInt8)
    ·rw [if_pos c14] at H
     have c14b0 : (a0_0.toList == ([104,116,116,112,115] : List UInt8)) = true:=beq_iff_eq.mpr c14
     have c14b1 : (a0_0.toList != ([104,116,116,112,115] : List UInt8)) = false:=bne_eq_false_iff_eq.mpr c14
     clear c14
     have H':=Aside0.mk H
     clear H
     have hnb15:=NB489_490.out
     have hnc15:=NB490_489.out
     have ⟨_,_,_,_,_,_,_,_,_,_,_,_⟩:=c6_ BK489
     go_wp2
     go_meet
     case rel => exact ⟨_,((a0_2 == 443)),me_,H',⟨by first | omega | exact Nat.le_refl _⟩,⟨mx_ BK489⟩,⟨mx_ BK490⟩,⟨xw_ HB⟩⟩
    ·rw [if_neg c14] at H
     have c14b0 : (a0_0.toList == ([104,116,116,112,115] : List UInt8)) = false:=beq_eq_false_iff_ne.mpr c14
     have c14b1 : (a0_0.toList != ([104,116,116,112,115] : List UInt8)) = true:=bne_iff_ne.mpr c14
     have H':=Aside0.mk H
     clear H
     have hnb17:=NB489_490.out
     have hnc17:=NB490_489.out
     have ⟨_,_,_,_,_,_,_,_,_,_,_,_⟩:=c6_ BK489
     go_wp2
     go_meet
     case rel => exact ⟨_,(false),me_,H',⟨by first | omega | exact Nat.le_refl _⟩,⟨mx_ BK489⟩,⟨mx_ BK490⟩,⟨xw_ HB⟩⟩
  ·rw [if_neg c10] at H
   have c10b0 : (a0_0.toList == ([104,116,116,112] : List UInt8)) = false:=beq_eq_false_iff_ne.mpr c10
   have c10b1 : (a0_0.toList != ([104,116,116,112] : List UInt8)) = true:=bne_iff_ne.mpr c10
   (first | rw [c10b0] | (simp only [i64_w,i32_w];rw [c10b0]) | skip)
   by_cases c19 : a0_0.toList = ([104,116,116,112,115] : List UInt8)
   ·rw [if_pos c19] at H
    have c19b0 : (a0_0.toList == ([104,116,116,112,115] : List UInt8)) = true:=beq_iff_eq.mpr c19
    have c19b1 : (a0_0.toList != ([104,116,116,112,115] : List UInt8)) = false:=bne_eq_false_iff_eq.mpr c19
    clear c19
    have H':=Aside0.mk H
    clear H
    have hnb20:=NB489_490.out
    have hnc20:=NB490_489.out
    have ⟨_,_,_,_,_,_,_,_,_,_,_,_⟩:=c6_ BK489
    go_wp2
    go_meet
    case rel => exact ⟨_,((a0_2 == 443)),me_,H',⟨by first | omega | exact Nat.le_refl _⟩,⟨mx_ BK489⟩,⟨mx_ BK490⟩,⟨xw_ HB⟩⟩
   ·rw [if_neg c19] at H
    have c19b0 : (a0_0.toList == ([104,116,116,112,115] : List UInt8)) = false:=beq_eq_false_iff_ne.mpr c19
    have c19b1 : (a0_0.toList != ([104,116,116,112,115] : List UInt8)) = true:=bne_iff_ne.mpr c19
    have H':=Aside0.mk H
    clear H
    have hnb22:=NB489_490.out
    have hnc22:=NB490_489.out
    have ⟨_,_,_,_,_,_,_,_,_,_,_,_⟩:=c6_ BK489
    go_wp2
    go_meet
    case rel => exact ⟨_,(false),me_,H',⟨by first | omega | exact Nat.le_refl _⟩,⟨mx_ BK489⟩,⟨mx_ BK490⟩,⟨xw_ HB⟩⟩
 case rest =>
  clear HC3
  obtain ⟨kq,x24_2,rfl,HA,HJ2,BK489,BK490,HB⟩:=hcut
  cases kq with
  | zero => exact absurd HA.out (by simp [impl_normal.j0])
  | succ kj2 =>
   have H:=HA.out
   clear HA
   simp only [impl_normal.j0] at H
   by_cases c24 : x24_2 = true
   ·subst c24
    rw [if_pos rfl] at H
    replace H:=mb_ H
    obtain ⟨t492,A25,H⟩:=H
    replace H:=mb_ H
    obtain ⟨t493,A26,H⟩:=H
    replace H:=mb_ H
    obtain ⟨t494,A27,H⟩:=H
    simp only [Option.some.injEq,Prod.mk.injEq] at H
    obtain ⟨rfl,rfl,rfl,rfl,rfl,rfl⟩:=H
    have hnb28:=NB489_490.out
    have hnc28:=NB490_489.out
    have ⟨_,_,_,_,_,_,_,_,_,_,_,_⟩:=c6_ BK489
    try go_wp2
    have n0_ : Aside0 ((wc.setCell ⟨gb489,2,none⟩ (.int .i64 0)).heap[gb489]? = some (.cells #[.string a0_0,.string t491,.int .i64 0,.string a0_3,.string a0_4,.bool a0_5] 31 (0,0))):=⟨mx_ BK489⟩
    have n1_ : Aside0 ((wc.setCell ⟨gb489,2,none⟩ (.int .i64 0)).heap[gb490]? = some (.cells #[.string (⟨#[]⟩ : ByteArray),.string (⟨#[]⟩ : ByteArray),.int .i64 0,.string (⟨#[]⟩ : ByteArray),.string (⟨#[]⟩ : ByteArray),.bool false] 31 (0,0))):=⟨mx_ BK490⟩
    have n2_ : Aside0 (Below w.heap.size w (wc.setCell ⟨gb489,2,none⟩ (.int .i64 0))):=⟨xw_ HB⟩
    (try clear BK489)
    (try clear BK490)
    (try clear HB)
    generalize (wc.setCell ⟨gb489,2,none⟩ (.int .i64 0)) = w30 at n0_ n1_ n2_ ⊢
    have BK489:=n0_
    have BK490:=n1_
    have HB:=n2_
    clear n0_ n1_ n2_
    replace BK489:=Aside0.mk (blk_drew BK489.out)
    replace BK490:=Aside0.mk (blk_drew BK490.out)
    replace HB:=Aside0.mk (below_drew1 HB.out)
    refine start_ (n:=11) (S:=fun w' => w'.cell? ⟨gb489,0,none⟩ = some (.string a0_0) ∧ w'.cell? ⟨gb489,1,none⟩ = some (.string t491) ∧ w'.cell? ⟨gb489,2,none⟩ = some (.int .i64 0) ∧ w'.cell? ⟨gb489,3,none⟩ = some (.string a0_3) ∧ w'.cell? ⟨gb489,4,none⟩ = some (.string a0_4) ∧ w'.cell? ⟨gb489,5,none⟩ = some (.bool a0_5)) (ds:=[8,10]) #[false,false,false,false,false,false,false,false,false,false,false] (by kernel_rfl) rfl rfl ⟨xk_ BK489 0,xk_ BK489 1,xk_ BK489 2,xk_ BK489 3,xk_ BK489 4,xk_ BK489 5⟩ (fun hHeld => ?_);refine with_tabW impl_normal.tab4 impl_normal.bits4 (fun HT_ HW_ => ?_)
    generalize w30.drew = w31 at BK489 BK490 HB hHeld ⊢
    refine mp_ 0 26 ?_
    refine mp_ 4 30 ?_
    refine mt_ 1 27 hHeld ?_
    refine mt_ 5 31 hHeld ?_
    refine m1_ 2 28 Tryz.func82 #[.string a0_3] ?_
    with_reducible refine (impl_normalPercents.calls kj2 a0_3 t492 _ A25.out).mono ?_
    rintro e w32 ⟨rfl,hb⟩
    refine ⟨_,rfl,?_⟩
    replace BK489:=xbb_ BK489 hb
    replace BK490:=xbb_ BK490 hb
    replace HB:=xws_ HB hb
    (try clear hb)
    refine ⟨⟨xk_ BK489 0,xk_ BK489 1,xk_ BK489 2,xk_ BK489 3,xk_ BK489 4,xk_ BK489 5⟩,fun hHeld => ?_⟩
    refine mn_ 28 ?_
    refine m1_ 3 29 Tryz.func76 #[.string t492] ?_
    with_reducible refine (impl_dropDots.calls kj2 t492 t493 _ A26.out (HTB_.out.below (by first | (with_reducible exact Below.refl _ _) | (repeat (first | (with_reducible first | exact HB.out | exact Below.refl _ _ | apply below_alloc | apply pw_below_drewN | apply below_drew1 | refine below_set ?_ GE489.out | refine below_set ?_ GE490.out) | exact HB.out)) | (repeat (first | exact Below.refl _ _ | apply below_alloc | apply pw_below_drewN | apply below_drew1 | refine below_set ?_ GE489.out | refine below_set ?_ GE490.out))))).mono ?_
    rintro e w33 ⟨rfl,hb⟩
    refine ⟨_,rfl,?_⟩
    replace BK489:=xbb_ BK489 hb
    replace BK490:=xbb_ BK490 hb
    replace HB:=xws_ HB hb
    (try clear hb)
    refine ⟨⟨xk_ BK489 0,xk_ BK489 1,xk_ BK489 2,xk_ BK489 3,xk_ BK489 4,xk_ BK489 5⟩,fun hHeld => ?_⟩
    refine mn_ 29 ?_
    refine mp_ 7 33 ?_
    refine m1_ 6 32 Tryz.func82 #[.string a0_4] ?_
    with_reducible refine (impl_normalPercents.calls kj2 a0_4 t494 _ A27.out).mono ?_
    rintro e w34 ⟨rfl,hb⟩
    refine ⟨_,rfl,?_⟩
    replace BK489:=xbb_ BK489 hb
    replace BK490:=xbb_ BK490 hb
    replace HB:=xws_ HB hb
    (try clear hb)
    refine ⟨⟨xk_ BK489 0,xk_ BK489 1,xk_ BK489 2,xk_ BK489 3,xk_ BK489 4,xk_ BK489 5⟩,fun hHeld => ?_⟩
    refine mn_ 32 ?_
    refine last_ (i:=8) (N:=none) #[true,true,true,true,true,true,true,true,true,false,false] rfl rfl (one_of HT_.out (by kernel_rfl)) (by decide) (fun K hK => ?_)
    have hs35 : w34.cell? ⟨gb489,3,none⟩ = some (.string a0_3):=xk_ BK489 3
    have hfs35:=blk_frozen BK489.out 3
    have hns35_1:=NB490_489.out
    have hms35_1:=NB489_490.out
    refine skip_ (w1:=?_) (by rfl) rfl ?_ ?_
    rotate_left
    ·go_simp
     rfl
    refine hK.out _ _ ?_
    clear hK K
    refine mp_ 9 34 ?_
    refine last_ (i:=10) (N:=none) #[true,true,true,true,true,true,true,true,true,true,true] rfl rfl (one_of HT_.out (by kernel_rfl)) (by decide) (fun K hK => ?_)
    have hs36 : w34.cell? ⟨gb489,4,none⟩ = some (.string a0_4):=xk_ BK489 4
    have hfs36:=blk_frozen BK489.out 4
    have hns36_1:=NB490_489.out
    have hms36_1:=NB489_490.out
    refine skip_ (w1:=?_) (by rfl) rfl ?_ ?_
    rotate_left
    ·go_simp
     rfl
    refine hK.out _ _ ?_
    clear hK K
    refine done_ (done_of HT_.out (by kernel_rfl)) ?_
    have ⟨_,_,_,_,_,_,_,_,_,_,_,_⟩:=c6_ BK489
    have ⟨_,_,_,_,_,_,_,_,_,_,_,_⟩:=c6_ BK490
    try go_wp2
    refine bodyPost_ret (results_cell_row rfl _ _ gb490 31 #[.string a0_0,.string t491,.int .i64 0,.string t493,.string t494,.bool a0_5] (0,0) _ rfl (mx_ BK490) Tryz.underlying31 rfl (by kernel_rfl)) rfl ?_
    exact ⟨mf_,xw_ HB⟩
   ·replace c24:=Bool.eq_false_iff.mpr c24
    subst c24
    rw [if_neg (show ¬ (false = true) by decide)] at H
    replace H:=mb_ H
    obtain ⟨t495,A39,H⟩:=H
    replace H:=mb_ H
    obtain ⟨t496,A40,H⟩:=H
    replace H:=mb_ H
    obtain ⟨t497,A41,H⟩:=H
    simp only [Option.some.injEq,Prod.mk.injEq] at H
    obtain ⟨rfl,rfl,rfl,rfl,rfl,rfl⟩:=H
    try go_wp2
    replace BK489:=Aside0.mk (blk_drew BK489.out)
    replace BK490:=Aside0.mk (blk_drew BK490.out)
    replace HB:=Aside0.mk (below_drew1 HB.out)
    refine start_ (n:=11) (S:=fun w' => w'.cell? ⟨gb489,0,none⟩ = some (.string a0_0) ∧ w'.cell? ⟨gb489,1,none⟩ = some (.string t491) ∧ w'.cell? ⟨gb489,2,none⟩ = some (.int .i64 a0_2) ∧ w'.cell? ⟨gb489,3,none⟩ = some (.string a0_3) ∧ w'.cell? ⟨gb489,4,none⟩ = some (.string a0_4) ∧ w'.cell? ⟨gb489,5,none⟩ = some (.bool a0_5)) (ds:=[8,10]) #[false,false,false,false,false,false,false,false,false,false,false] (by kernel_rfl) rfl rfl ⟨xk_ BK489 0,xk_ BK489 1,xk_ BK489 2,xk_ BK489 3,xk_ BK489 4,xk_ BK489 5⟩ (fun hHeld => ?_);refine with_tabW impl_normal.tab4 impl_normal.bits4 (fun HT_ HW_ => ?_)
    generalize wc.drew = w42 at BK489 BK490 HB hHeld ⊢
    refine mp_ 0 26 ?_
    refine mp_ 4 30 ?_
    refine mt_ 1 27 hHeld ?_
    refine mt_ 5 31 hHeld ?_
    refine m1_ 2 28 Tryz.func82 #[.string a0_3] ?_
    with_reducible refine (impl_normalPercents.calls kj2 a0_3 t495 _ A39.out).mono ?_
    rintro e w43 ⟨rfl,hb⟩
    refine ⟨_,rfl,?_⟩
    replace BK489:=xbb_ BK489 hb
    replace BK490:=xbb_ BK490 hb
    replace HB:=xws_ HB hb
    (try clear hb)
    refine ⟨⟨xk_ BK489 0,xk_ BK489 1,xk_ BK489 2,xk_ BK489 3,xk_ BK489 4,xk_ BK489 5⟩,fun hHeld => ?_⟩
    refine mn_ 28 ?_
    refine m1_ 3 29 Tryz.func76 #[.string t495] ?_
    with_reducible refine (impl_dropDots.calls kj2 t495 t496 _ A40.out (HTB_.out.below (by first | (with_reducible exact Below.refl _ _) | (repeat (first | (with_reducible first | exact HB.out | exact Below.refl _ _ | apply below_alloc | apply pw_below_drewN | apply below_drew1 | refine below_set ?_ GE489.out | refine below_set ?_ GE490.out) | exact HB.out)) | (repeat (first | exact Below.refl _ _ | apply below_alloc | apply pw_below_drewN | apply below_drew1 | refine below_set ?_ GE489.out | refine below_set ?_ GE490.out))))).mono ?_
    rintro e w44 ⟨rfl,hb⟩
    refine ⟨_,rfl,?_⟩
    replace BK489:=xbb_ BK489 hb
    replace BK490:=xbb_ BK490 hb
    replace HB:=xws_ HB hb
    (try clear hb)
    refine ⟨⟨xk_ BK489 0,xk_ BK489 1,xk_ BK489 2,xk_ BK489 3,xk_ BK489 4,xk_ BK489 5⟩,fun hHeld => ?_⟩
    refine mn_ 29 ?_
    refine mp_ 7 33 ?_
    refine m1_ 6 32 Tryz.func82 #[.string a0_4] ?_
    with_reducible refine (impl_normalPercents.calls kj2 a0_4 t497 _ A41.out).mono ?_
    rintro e w45 ⟨rfl,hb⟩
    refine ⟨_,rfl,?_⟩
    replace BK489:=xbb_ BK489 hb
    replace BK490:=xbb_ BK490 hb
    replace HB:=xws_ HB hb
    (try clear hb)
    refine ⟨⟨xk_ BK489 0,xk_ BK489 1,xk_ BK489 2,xk_ BK489 3,xk_ BK489 4,xk_ BK489 5⟩,fun hHeld => ?_⟩
    refine mn_ 32 ?_
    refine last_ (i:=8) (N:=none) #[true,true,true,true,true,true,true,true,true,false,false] rfl rfl (one_of HT_.out (by kernel_rfl)) (by decide) (fun K hK => ?_)
    have hs46 : w45.cell? ⟨gb489,3,none⟩ = some (.string a0_3):=xk_ BK489 3
    have hfs46:=blk_frozen BK489.out 3
    have hns46_1:=NB490_489.out
    have hms46_1:=NB489_490.out
    refine skip_ (w1:=?_) (by rfl) rfl ?_ ?_
    rotate_left
    ·go_simp
     rfl
    refine hK.out _ _ ?_
    clear hK K
    refine mp_ 9 34 ?_
    refine last_ (i:=10) (N:=none) #[true,true,true,true,true,true,true,true,true,true,true] rfl rfl (one_of HT_.out (by kernel_rfl)) (by decide) (fun K hK => ?_)
    have hs47 : w45.cell? ⟨gb489,4,none⟩ = some (.string a0_4):=xk_ BK489 4
    have hfs47:=blk_frozen BK489.out 4
    have hns47_1:=NB490_489.out
    have hms47_1:=NB489_490.out
    refine skip_ (w1:=?_) (by rfl) rfl ?_ ?_
    rotate_left
    ·go_simp
     rfl
    refine hK.out _ _ ?_
    clear hK K
    refine done_ (done_of HT_.out (by kernel_rfl)) ?_
    have hnb48:=NB489_490.out
    have hnc48:=NB490_489.out
    have ⟨_,_,_,_,_,_,_,_,_,_,_,_⟩:=c6_ BK489
    have ⟨_,_,_,_,_,_,_,_,_,_,_,_⟩:=c6_ BK490
    try go_wp2
    refine bodyPost_ret (results_cell_row rfl _ _ gb490 31 #[.string a0_0,.string t491,.int .i64 a0_2,.string t496,.string t497,.bool a0_5] (0,0) _ rfl (mx_ BK490) Tryz.underlying31 rfl (by kernel_rfl)) rfl ?_
    exact ⟨mf_,xw_ HB⟩

end Go.Proofs.YtpggepjfhgalkaaGreatDoor.PFnExactKeyOf
