-- Written by a program of this project (xprint.py) out of the translation; Lean checks it.
import Derived.Test.YtpggepjfhgalkaaGreatDoorPFnExactKeyOfx0
import Derived.Test.YtpggepjfhgalkaaGreatDoorPFnExactKeyOfx14
import Derived.Test.YtpggepjfhgalkaaGreatDoorPFnExactKeyOfx16
namespace Go.Proofs.YtpggepjfhgalkaaGreatDoor.PFnExactKeyOf
open Go.RowKit Go.Proofs.YtpggepjfhgalkaaGreatDoorW.PrintWords Go.Proofs.YtpggepjfhgalkaaGreatDoorW.PrintLast Go.Proofs.YtpggepjfhgalkaaGreatDoorW.PrintMore
attribute [local go_sem] max2_int min2_int max_two min_two max_three min_three max_four min_four   -- for this text's walks alone
set_option linter.unusedVariables false
set_option linter.unusedSimpArgs false

/-! ### impl_ReadUrl: function 125 -/
mutual
def impl_ReadUrl.j0 : Nat → ByteArray → ByteArray → Bool → ByteArray → ByteArray → Int → ByteArray → ByteArray → Bool → Option (ByteArray × ByteArray × Int × ByteArray × ByteArray × Bool × Bool)
 | 0,_,_,_,_,_,_,_,_,_ => none
 | k + 1,x5,x6,x30,x343000,x343001,x343002,x343003,x343004,x343005 => if x30 = true then (some ((⟨#[]⟩ : ByteArray),(⟨#[]⟩ : ByteArray),0,(⟨#[]⟩ : ByteArray),(⟨#[]⟩ : ByteArray),false,false)) else ((strings_Cut.f x6 (⟨#[63]⟩ : ByteArray)).bind fun bt346 => ((index_byte_in.f bt346.1 47).bind fun t349 => (if t349 ≥ 0 then (if 0 ≤ t349 then (if t349 ≤ (bt346.1.size : Int) then (impl_ReadUrl.j1 k (bt346.1.extract 0 (t349 : Int).toNat) x5 x343001 x343002 (bt346.1.extract (t349 : Int).toNat bt346.1.size) bt346.2.1 bt346.2.2) else (none)) else (none)) else (impl_ReadUrl.j1 k bt346.1 x5 x343001 x343002 x343003 bt346.2.1 bt346.2.2))))
def impl_ReadUrl.j1 : Nat → ByteArray → ByteArray → ByteArray → Int → ByteArray → ByteArray → Bool → Option (ByteArray × ByteArray × Int × ByteArray × ByteArray × Bool × Bool)
 | 0,_,_,_,_,_,_,_ => none
 | k + 1,x11,x343000,x343001,x343002,x343003,x343004,x343005 => if x343003.toList = ([] : List UInt8) then (impl_ReadUrl.j2 k x11 x343000 x343001 x343002 (⟨#[47]⟩ : ByteArray) x343004 x343005) else (impl_ReadUrl.j2 k x11 x343000 x343001 x343002 x343003 x343004 x343005)
def impl_ReadUrl.j2 : Nat → ByteArray → ByteArray → ByteArray → Int → ByteArray → ByteArray → Bool → Option (ByteArray × ByteArray × Int × ByteArray × ByteArray × Bool × Bool)
 | 0,_,_,_,_,_,_,_ => none
 | k + 1,x11,x343000,x343001,x343002,x343003,x343004,x343005 => (strings_Cut.f x11 (⟨#[58]⟩ : ByteArray)).bind fun bt350 => (if bt350.2.2 = true then ((impl_number.f bt350.2.1).bind fun bt353 => (if bt353.2 = true then (impl_ReadUrl.j3 k bt353.1 (bt353.1 == 0) x343000 bt350.1 x343002 x343003 x343004 x343005) else (impl_ReadUrl.j3 k bt353.1 true x343000 bt350.1 x343002 x343003 x343004 x343005))) else ((impl_GoodUrl.f k x343000 bt350.1 x343002 x343003 x343004 x343005).bind fun t356 => (if t356 = true then (some (x343000,bt350.1,x343002,x343003,x343004,x343005,true)) else (some ((⟨#[]⟩ : ByteArray),(⟨#[]⟩ : ByteArray),0,(⟨#[]⟩ : ByteArray),(⟨#[]⟩ : ByteArray),false,false)))))
def impl_ReadUrl.j3 : Nat → Int → Bool → ByteArray → ByteArray → Int → ByteArray → ByteArray → Bool → Option (ByteArray × ByteArray × Int × ByteArray × ByteArray × Bool × Bool)
 | 0,_,_,_,_,_,_,_,_ => none
 | k + 1,x16,x79,x343000,x343001,x343002,x343003,x343004,x343005 => if x79 = true then (some ((⟨#[]⟩ : ByteArray),(⟨#[]⟩ : ByteArray),0,(⟨#[]⟩ : ByteArray),(⟨#[]⟩ : ByteArray),false,false)) else ((impl_GoodUrl.f k x343000 x343001 x16 x343003 x343004 x343005).bind fun t355 => (if t355 = true then (some (x343000,x343001,x16,x343003,x343004,x343005,true)) else (some ((⟨#[]⟩ : ByteArray),(⟨#[]⟩ : ByteArray),0,(⟨#[]⟩ : ByteArray),(⟨#[]⟩ : ByteArray),false,false))))
end
def impl_ReadUrl.f (k : Nat) (a0 : ByteArray) : Option (ByteArray × ByteArray × Int × ByteArray × ByteArray × Bool × Bool):=(strings_Cut.f a0 (⟨#[58,47,47]⟩ : ByteArray)).bind fun bt343 => (if bt343.2.2 = true then (impl_ReadUrl.j0 k bt343.1 bt343.2.1 (decide ((a0.size : Int) > 200)) (⟨#[]⟩ : ByteArray) (⟨#[]⟩ : ByteArray) 0 (⟨#[]⟩ : ByteArray) (⟨#[]⟩ : ByteArray) false) else (impl_ReadUrl.j0 k bt343.1 bt343.2.1 true (⟨#[]⟩ : ByteArray) (⟨#[]⟩ : ByteArray) 0 (⟨#[]⟩ : ByteArray) (⟨#[]⟩ : ByteArray) false))
def impl_ReadUrl.T11 : Bool × List (List Nat × List Nat):=(true,[([],[]),([],[]),([0,1],[0,1]),([],[]),([],[]),([3,4],[3,4]),([2,0,1,2],[2]),([0,1,2,3,4,5,6],[]),([7,5,6,0,1,2,3,4,5,6],[5,7])])
def impl_ReadUrl.B11 : List Nat:=[0,0,3,0,0,24,7,127,255]
theorem impl_ReadUrl.tab11 : rtab .any (opsOf Tryz.f125 11) = impl_ReadUrl.T11:=by kernel_rfl
theorem impl_ReadUrl.bits11 : waitsOk impl_ReadUrl.T11.2 impl_ReadUrl.B11 = true:=by kernel_rfl
set_option maxHeartbeats 8000000 in
set_option maxRecDepth 100000 in
theorem impl_ReadUrl.calls (k : Nat) (a0 : ByteArray) (r1 : ByteArray) (r2 : ByteArray) (r3 : Int) (r4 : ByteArray) (r5 : ByteArray) (r6 : Bool) (r7 : Bool) (w : World) (h : impl_ReadUrl.f k a0 = some (r1,r2,r3,r4,r5,r6,r7)) (hT_ : TabOk w) :
  Calls Tryz.prog 125 #[.string a0] w fun e w' => e = .returned (.tuple #[.agg #[.string r1,.string r2,.int .i64 r3,.string r4,.string r5,.bool r6],.bool r7]) ∧ Below w.heap.size w w':=by
 have HTB_:=Aside0.mk hT_
 clear hT_
 have hu31:=Tryz.underlying31
 have HB:=Aside0.mk (Below.refl w.heap.size w)
 have H:=h
 unfold impl_ReadUrl.f at H
 clear h
 replace H:=mb_ H
 obtain ⟨⟨t343,t344,t345⟩,A2,H⟩:=H
 dsimp only at H
 have HC3:=Aside0.mk H
 clear H
 go_enter Tryz.func125,Tryz.ntmps125
 go_upto_region 3 with (first | ((with_reducible refine gd_ 2 ?_);(try (refine gate_guard (by rfl) ?_;dsimp only));refine xbe_ (N:=2) (cs:=#[.string (⟨#[]⟩ : ByteArray),.string (⟨#[]⟩ : ByteArray),.int .i64 0,.string (⟨#[]⟩ : ByteArray),.string (⟨#[]⟩ : ByteArray),.bool false]) (t:=31) ?_;intro gb341 hg w4 hbox hb;have BK341:=Aside0.mk (hbox);have GE341:=xge_ HB hg;replace HB:=xws_ HB hb;clear hb hbox hg) | ((with_reducible refine gd_ 4 ?_);(try (refine gate_guard (by rfl) ?_;dsimp only));refine xbe_ (N:=4) (cs:=#[.string (⟨#[]⟩ : ByteArray),.string (⟨#[]⟩ : ByteArray),.int .i64 0,.string (⟨#[]⟩ : ByteArray),.string (⟨#[]⟩ : ByteArray),.bool false]) (t:=31) ?_;intro gb342 hg w5 hbox hb;have BK342:=Aside0.mk (hbox);have GE342:=xge_ HB hg;replace HB:=xws_ HB hb;have NB341_342:=xlt_ BK341 hg;have NB342_341:=xgt_ BK341 hg;replace BK341:=xbb_ BK341 hb;clear hb hbox hg) | ((with_reducible refine gc_ 126 ?_);refine xgl_ (some 20) Tryz.func126 #[.string a0,.string (⟨#[58,47,47]⟩ : ByteArray)] ?_;(with_reducible refine (strings_Cut.calls a0 (⟨#[58,47,47]⟩ : ByteArray) t343 t344 t345 _ A2.out (HTB_.out.below (by first | (with_reducible exact Below.refl _ _) | (repeat (first | (with_reducible first | exact HB.out | exact Below.refl _ _ | apply below_alloc | apply pw_below_drewN | apply below_drew1 | refine below_set ?_ GE341.out | refine below_set ?_ GE342.out) | exact HB.out)) | (repeat (first | exact Below.refl _ _ | apply below_alloc | apply pw_below_drewN | apply below_drew1 | refine below_set ?_ GE341.out | refine below_set ?_ GE342.out))))).mono ?_);rintro e w6 ⟨rfl,hb⟩;refine ⟨_,rfl,?_⟩;replace BK341:=xbb_ BK341 hb;replace BK342:=xbb_ BK342 hb;replace HB:=xws_ HB hb;(try clear hb)))
 (try simp only [Act.put,List.setIfInBounds_toArray,List.set_cons_zero,List.set_cons_succ])
 go_cut [30] (fun v30 wc => ∃ (kq : Nat) (x30_2 : Bool),v30 = .bool x30_2 ∧ Aside0 (impl_ReadUrl.j0 kq t343 t344 x30_2 (⟨#[]⟩ : ByteArray) (⟨#[]⟩ : ByteArray) 0 (⟨#[]⟩ : ByteArray) (⟨#[]⟩ : ByteArray) false = some (r1,r2,r3,r4,r5,r6,r7)) ∧ Aside0 (kq ≤ k) ∧ Aside0 (wc.heap[gb341]? = some (.cells #[.string (⟨#[]⟩ : ByteArray),.string (⟨#[]⟩ : ByteArray),.int .i64 0,.string (⟨#[]⟩ : ByteArray),.string (⟨#[]⟩ : ByteArray),.bool false] 31 (0,0))) ∧ Aside0 (wc.heap[gb342]? = some (.cells #[.string (⟨#[]⟩ : ByteArray),.string (⟨#[]⟩ : ByteArray),.int .i64 0,.string (⟨#[]⟩ : ByteArray),.string (⟨#[]⟩ : ByteArray),.bool false] 31 (0,0))) ∧ Aside0 (Below w.heap.size w wc))
 case first =>
  have H:=HC3.out
  clear HC3
  by_cases c7 : t345 = true
  ·subst c7
   rw [if_pos rfl] at H
   have H':=Aside0.mk H
   clear H
   go_wp2
   go_meet
   case rel => exact ⟨_,(decide ((a0.size : Int) > 200)),me_,H',⟨by first | omega | exact Nat.le_refl _⟩,⟨xb_ BK341⟩,⟨xb_ BK342⟩,⟨xw_ HB⟩⟩
  ·replace c7:=Bool.eq_false_iff.mpr c7
   subst c7
   rw [if_neg (show ¬ (false = true) by decide)] at H
   have H':=Aside0.mk H
   clear H
   go_wp2
   go_meet
   case rel => exact ⟨_,(true),me_,H',⟨by first | omega | exact Nat.le_refl _⟩,⟨xb_ BK341⟩,⟨xb_ BK342⟩,⟨xw_ HB⟩⟩
 case rest =>
  clear HC3
  obtain ⟨kq,x30_2,rfl,HA,HJ2,BK341,BK342,HB⟩:=hcut
  cases kq with
  | zero => exact absurd HA.out (by simp [impl_ReadUrl.j0])
  | succ kj2 =>
   have H:=HA.out
   clear HA
   simp only [impl_ReadUrl.j0] at H
   by_cases c8 : x30_2 = true
   ·subst c8
    rw [if_pos rfl] at H
    simp only [Option.some.injEq,Prod.mk.injEq] at H
    obtain ⟨rfl,rfl,rfl,rfl,rfl,rfl,rfl⟩:=H
    have hnb9:=NB341_342.out
    have hnc9:=NB342_341.out
    have ⟨_,_,_,_,_,_,_,_,_,_,_,_⟩:=c6_ BK341
    go_wp2
    refine bodyPost_ret (results_ct rfl _ _ gb341 31 #[.string (⟨#[]⟩ : ByteArray),.string (⟨#[]⟩ : ByteArray),.int .i64 0,.string (⟨#[]⟩ : ByteArray),.string (⟨#[]⟩ : ByteArray),.bool false] (0,0) _ rfl (mx_ BK341) Tryz.underlying31 rfl (by kernel_rfl)) rfl ?_
    exact ⟨mf_,xw_ HB⟩
   ·replace c8:=Bool.eq_false_iff.mpr c8
    subst c8
    rw [if_neg (show ¬ (false = true) by decide)] at H
    replace H:=mb_ H
    obtain ⟨⟨t346,t347,t348⟩,A11,H⟩:=H
    dsimp only at H
    replace H:=mb_ H
    obtain ⟨t349,A12,H⟩:=H
    have HC13:=Aside0.mk H
    clear H
    have hnb14:=NB342_341.out
    have hnc14:=NB341_342.out
    have ⟨_,_,_,_,_,_,_,_,_,_,_,_⟩:=c6_ BK342
    go_upto_if 48 with (first | ((with_reducible refine gc_ 126 ?_);refine xgl_ (some 36) Tryz.func126 #[.string t344,.string (⟨#[63]⟩ : ByteArray)] ?_;(with_reducible refine (strings_Cut.calls t344 (⟨#[63]⟩ : ByteArray) t346 t347 t348 _ A11.out (HTB_.out.below (by first | (with_reducible exact Below.refl _ _) | (repeat (first | (with_reducible first | exact HB.out | exact Below.refl _ _ | apply below_alloc | apply pw_below_drewN | apply below_drew1 | refine below_set ?_ GE341.out | refine below_set ?_ GE342.out) | exact HB.out)) | (repeat (first | exact Below.refl _ _ | apply below_alloc | apply pw_below_drewN | apply below_drew1 | refine below_set ?_ GE341.out | refine below_set ?_ GE342.out))))).mono ?_);rintro e w16 ⟨rfl,hb⟩;refine ⟨_,rfl,?_⟩;replace BK341:=mxb_ (o':=.cells #[.string (⟨#[]⟩ : ByteArray),.string (⟨#[]⟩ : ByteArray),.int .i64 0,.string (⟨#[]⟩ : ByteArray),.string (⟨#[]⟩ : ByteArray),.bool false] 31 (0,0)) BK341 hb;replace BK342:=mxb_ (o':=.cells #[.string t343,.string (⟨#[]⟩ : ByteArray),.int .i64 0,.string (⟨#[]⟩ : ByteArray),.string (⟨#[]⟩ : ByteArray),.bool false] 31 (0,0)) BK342 hb;replace HB:=xws_ HB hb;(try clear hb);have ⟨_,_,_,_,_,_,_,_,_,_,_,_⟩:=c6_ BK342) | ((with_reducible refine gc_ 161 ?_);refine xgl_ (some 46) Tryz.func161 #[.string t346,.int .u8 47] ?_;(with_reducible refine (index_byte_in.calls t346 47 t349 _ A12.out).mono ?_);rintro e w18 ⟨rfl,hb⟩;refine ⟨_,rfl,?_⟩;replace BK341:=mxb_ (o':=.cells #[.string (⟨#[]⟩ : ByteArray),.string (⟨#[]⟩ : ByteArray),.int .i64 0,.string (⟨#[]⟩ : ByteArray),.string (⟨#[]⟩ : ByteArray),.bool false] 31 (0,0)) BK341 hb;replace BK342:=mxb_ (o':=.cells #[.string t343,.string (⟨#[]⟩ : ByteArray),.int .i64 0,.string (⟨#[]⟩ : ByteArray),.string t347,.bool t348] 31 (0,0)) BK342 hb;replace HB:=xws_ HB hb;(try clear hb)))
    (try simp only [Act.put,List.setIfInBounds_toArray,List.set_cons_zero,List.set_cons_succ])
    go_cut [11] (fun v11 wc => ∃ (kq : Nat) (x11_12 : ByteArray) (x343003_12 : ByteArray),v11 = .string x11_12 ∧ Aside0 (impl_ReadUrl.j1 kq x11_12 t343 (⟨#[]⟩ : ByteArray) 0 x343003_12 t347 t348 = some (r1,r2,r3,r4,r5,r6,r7)) ∧ Aside0 (kq ≤ kj2) ∧ Aside0 (wc.heap[gb341]? = some (.cells #[.string (⟨#[]⟩ : ByteArray),.string (⟨#[]⟩ : ByteArray),.int .i64 0,.string (⟨#[]⟩ : ByteArray),.string (⟨#[]⟩ : ByteArray),.bool false] 31 (0,0))) ∧ Aside0 (wc.heap[gb342]? = some (.cells #[.string t343,.string (⟨#[]⟩ : ByteArray),.int .i64 0,.string x343003_12,.string t347,.bool t348] 31 (0,0))) ∧ Aside0 (Below w.heap.size w wc))
    case first =>
     have H:=HC13.out
     clear HC13
     by_cases c19 : t349 ≥ 0
     ·rw [if_pos c19] at H
      have c19b0 : decide (0 ≤ t349) = true:=decide_eq_true c19
      clear c19
      (first | rw [c19b0] | (simp only [i64_w,i32_w];rw [c19b0]) | skip)
      replace H:=mi_ H
      obtain ⟨c20,H⟩:=H
      have c20b0:=eq_true c20
      have c20b1:=decide_eq_true c20
      clear c20
      replace H:=mi_ H
      obtain ⟨c21,H⟩:=H
      have c21b0:=eq_true c21
      have c21b1:=decide_eq_true c21
      clear c21
      have c22b0:=eq_true (md_ : 0 ≤ t349)
      have c23b0:=eq_true (md_ : t349 ≤ (t346.size : Int))
      have H':=Aside0.mk H
      clear H
      try go_wp2
      replace BK341:=Aside0.mk (blk_drew BK341.out)
      replace BK342:=Aside0.mk (blk_drew BK342.out)
      replace HB:=Aside0.mk (below_drew1 HB.out)
      refine ms_ 9 (fun w' => True) impl_ReadUrl.tab11 impl_ReadUrl.bits11 trivial (fun hHeld HT_ HW_ => ?_)
      generalize w18.drew = w24 at BK341 BK342 HB hHeld ⊢
      refine mp_ 0 49 ?_
      refine mp_ 1 50 ?_
      refine mp_ 2 51 ?_
      refine mp_ 3 52 ?_
      refine mp_ 4 53 ?_
      refine mp_ 5 54 ?_
      refine mp_ 6 11 ?_
      refine mp_ 7 55 ?_
      refine one_ (i:=8) (N:=none) #[true,true,true,true,true,true,true,true,true] rfl rfl (one_of HT_.out (by kernel_rfl)) (by decide) (fun K hK => ?_)
      have hs25 : w24.cell? ⟨gb342,3,none⟩ = some (.string (⟨#[]⟩ : ByteArray)):=xk_ BK342 3
      have hfs25:=blk_frozen BK342.out 3
      have hns25_0:=NB341_342.out
      have hms25_0:=NB342_341.out
      refine skip_ (w1:=?_) (by rfl) rfl ?_ ?_
      rotate_left
      ·go_simp
       rfl
      refine hK.out _ _ trivial (fun hHeld => ?_)
      clear hK K
      refine done_ (done_of HT_.out (by kernel_rfl)) ?_
      try go_wp2
      go_meet
      case rel => exact ⟨_,(t346.extract 0 (t349 : Int).toNat),(t346.extract (t349 : Int).toNat t346.size),me_,H',⟨by have:=HJ2.out;first | omega | exact Nat.le_refl _⟩,⟨mx_ BK341⟩,⟨mx_ BK342⟩,⟨xw_ HB⟩⟩
     ·rw [if_neg c19] at H
      have c19b0 : decide (0 ≤ t349) = false:=decide_eq_false c19
      clear c19
      (first | rw [c19b0] | (simp only [i64_w,i32_w];rw [c19b0]) | skip)
      have H':=Aside0.mk H
      clear H
      go_wp2
      go_meet
      case rel => exact ⟨_,(t346),((⟨#[]⟩ : ByteArray)),me_,H',⟨by have:=HJ2.out;first | omega | exact Nat.le_refl _⟩,⟨xb_ BK341⟩,⟨xb_ BK342⟩,⟨xw_ HB⟩⟩
    case rest =>
     clear HC13
     try clear c8
     obtain ⟨kq,x11_12,x343003_12,rfl,HA,HJ12,BK341,BK342,HB⟩:=hcut
     cases kq with
     | zero => exact absurd HA.out (by simp [impl_ReadUrl.j1])
     | succ kj12 =>
      have H:=HA.out
      clear HA
      simp only [impl_ReadUrl.j1] at H
      have HC26:=Aside0.mk H
      clear H
      have hnb27:=NB342_341.out
      have hnc27:=NB341_342.out
      have ⟨_,_,_,_,_,_,_,_,_,_,_,_⟩:=c6_ BK342
      go_upto_if 58 with (fail)
      go_cut [] (fun wc => ∃ (kq : Nat) (x343003_25 : ByteArray),Aside0 (impl_ReadUrl.j2 kq x11_12 t343 (⟨#[]⟩ : ByteArray) 0 x343003_25 t347 t348 = some (r1,r2,r3,r4,r5,r6,r7)) ∧ Aside0 (kq ≤ kj12) ∧ Aside0 (wc.heap[gb341]? = some (.cells #[.string (⟨#[]⟩ : ByteArray),.string (⟨#[]⟩ : ByteArray),.int .i64 0,.string (⟨#[]⟩ : ByteArray),.string (⟨#[]⟩ : ByteArray),.bool false] 31 (0,0))) ∧ Aside0 (wc.heap[gb342]? = some (.cells #[.string t343,.string (⟨#[]⟩ : ByteArray),.int .i64 0,.string x343003_25,.string t347,.bool t348] 31 (0,0))) ∧ Aside0 (Below w.heap.size w wc))
      case first =>
       have H:=HC26.out
       clear HC26
       by_cases c29 : x343003_12.toList = ([] : List UInt8)
       ·rw [if_pos c29] at H
        have c29b0 : (x343003_12.toList == ([] : List UInt8)) = true:=beq_iff_eq.mpr c29
        have c29b1 : (x343003_12.toList != ([] : List UInt8)) = false:=bne_eq_false_iff_eq.mpr c29
        clear c29
        (first | rw [c29b0] | (simp only [i64_w,i32_w];rw [c29b0]) | skip)
        (try rw [show x343003_12.toList.isEmpty = true from by have h_:=c29b0;revert h_;generalize x343003_12.toList = l_;cases l_ <;> simp])
        have H':=Aside0.mk H
        clear H
        have hnb30:=NB342_341.out
        have hnc30:=NB341_342.out
        have ⟨_,_,_,_,_,_,_,_,_,_,_,_⟩:=c6_ BK342
        go_wp2
        go_meet
        case rel => exact ⟨_,((⟨#[47]⟩ : ByteArray)),H',⟨by have:=HJ2.out;have:=HJ12.out;first | omega | exact Nat.le_refl _⟩,⟨mx_ BK341⟩,⟨mx_ BK342⟩,⟨xw_ HB⟩⟩
       ·rw [if_neg c29] at H
        have c29b0 : (x343003_12.toList == ([] : List UInt8)) = false:=beq_eq_false_iff_ne.mpr c29
        have c29b1 : (x343003_12.toList != ([] : List UInt8)) = true:=bne_iff_ne.mpr c29
        (first | rw [c29b0] | (simp only [i64_w,i32_w];rw [c29b0]) | skip)
        (try rw [show x343003_12.toList.isEmpty = false from by have h_:=c29b0;revert h_;generalize x343003_12.toList = l_;cases l_ <;> simp])
        have H':=Aside0.mk H
        clear H
        go_wp2
        go_meet
        case rel => exact ⟨_,(x343003_12),H',⟨by have:=HJ2.out;have:=HJ12.out;first | omega | exact Nat.le_refl _⟩,⟨xb_ BK341⟩,⟨xb_ BK342⟩,⟨xw_ HB⟩⟩
      case rest =>
       clear HC26
       try clear c8
       obtain ⟨kq,x343003_25,HA,HJ25,BK341,BK342,HB⟩:=hcut
       cases kq with
       | zero => exact absurd HA.out (by simp [impl_ReadUrl.j2])
       | succ kj25 =>
        have H:=HA.out
        clear HA
        simp only [impl_ReadUrl.j2] at H
        replace H:=mb_ H
        obtain ⟨⟨t350,t351,t352⟩,A32,H⟩:=H
        dsimp only at H
        by_cases c33 : t352 = true
        ·subst c33
         rw [if_pos rfl] at H
         replace H:=mb_ H
         obtain ⟨⟨t353,t354⟩,A34,H⟩:=H
         dsimp only at H
         have HC35:=Aside0.mk H
         clear H
         go_upto_region 18 with (first | ((with_reducible refine gc_ 126 ?_);refine xgl_ (some 62) Tryz.func126 #[.string x11_12,.string (⟨#[58]⟩ : ByteArray)] ?_;(with_reducible refine (strings_Cut.calls x11_12 (⟨#[58]⟩ : ByteArray) t350 t351 true _ A32.out (HTB_.out.below (by first | (with_reducible exact Below.refl _ _) | (repeat (first | (with_reducible first | exact HB.out | exact Below.refl _ _ | apply below_alloc | apply pw_below_drewN | apply below_drew1 | refine below_set ?_ GE341.out | refine below_set ?_ GE342.out) | exact HB.out)) | (repeat (first | exact Below.refl _ _ | apply below_alloc | apply pw_below_drewN | apply below_drew1 | refine below_set ?_ GE341.out | refine below_set ?_ GE342.out))))).mono ?_);rintro e w36 ⟨rfl,hb⟩;refine ⟨_,rfl,?_⟩;replace BK341:=xbb_ BK341 hb;replace BK342:=xbb_ BK342 hb;replace HB:=xws_ HB hb;(try clear hb);have hnb37:=NB342_341.out;have hnc37:=NB341_342.out;have ⟨_,_,_,_,_,_,_,_,_,_,_,_⟩:=c6_ BK342) | ((with_reducible refine gc_ 163 ?_);refine xgl_ (some 71) Tryz.func163 #[.string t351] ?_;(with_reducible refine (impl_number.calls t351 t353 t354 _ A34.out (HTB_.out.below (by first | (with_reducible exact Below.refl _ _) | (repeat (first | (with_reducible first | exact HB.out | exact Below.refl _ _ | apply below_alloc | apply pw_below_drewN | apply below_drew1 | refine below_set ?_ GE341.out | refine below_set ?_ GE342.out) | exact HB.out)) | (repeat (first | exact Below.refl _ _ | apply below_alloc | apply pw_below_drewN | apply below_drew1 | refine below_set ?_ GE341.out | refine below_set ?_ GE342.out))))).mono ?_);rintro e w39 ⟨rfl,hb⟩;refine ⟨_,rfl,?_⟩;replace BK341:=mxb_ (o':=.cells #[.string (⟨#[]⟩ : ByteArray),.string (⟨#[]⟩ : ByteArray),.int .i64 0,.string (⟨#[]⟩ : ByteArray),.string (⟨#[]⟩ : ByteArray),.bool false] 31 (0,0)) BK341 hb;replace BK342:=mxb_ (o':=.cells #[.string t343,.string t350,.int .i64 0,.string x343003_25,.string t347,.bool t348] 31 (0,0)) BK342 hb;replace HB:=xws_ HB hb;(try clear hb)))
         (try simp only [Act.put,List.setIfInBounds_toArray,List.set_cons_zero,List.set_cons_succ])
         go_cut [79] (fun v79 wc => ∃ (kq : Nat) (x79_34 : Bool),v79 = .bool x79_34 ∧ Aside0 (impl_ReadUrl.j3 kq t353 x79_34 t343 t350 0 x343003_25 t347 t348 = some (r1,r2,r3,r4,r5,r6,r7)) ∧ Aside0 (kq ≤ kj25) ∧ Aside0 (wc.heap[gb341]? = some (.cells #[.string (⟨#[]⟩ : ByteArray),.string (⟨#[]⟩ : ByteArray),.int .i64 0,.string (⟨#[]⟩ : ByteArray),.string (⟨#[]⟩ : ByteArray),.bool false] 31 (0,0))) ∧ Aside0 (wc.heap[gb342]? = some (.cells #[.string t343,.string t350,.int .i64 0,.string x343003_25,.string t347,.bool t348] 31 (0,0))) ∧ Aside0 (Below w.heap.size w wc))
         case first =>
          have H:=HC35.out
          clear HC35
          by_cases c40 : t354 = true
          ·subst c40
           rw [if_pos rfl] at H
           have H':=Aside0.mk H
           clear H
           go_wp2
           go_meet
           case rel => exact ⟨_,((t353 == 0)),me_,H',⟨by have:=HJ2.out;have:=HJ12.out;have:=HJ25.out;first | omega | exact Nat.le_refl _⟩,⟨xb_ BK341⟩,⟨xb_ BK342⟩,⟨xw_ HB⟩⟩
          ·replace c40:=Bool.eq_false_iff.mpr c40
           subst c40
           rw [if_neg (show ¬ (false = true) by decide)] at H
           have H':=Aside0.mk H
           clear H
           go_wp2
           go_meet
           case rel => exact ⟨_,(true),me_,H',⟨by have:=HJ2.out;have:=HJ12.out;have:=HJ25.out;first | omega | exact Nat.le_refl _⟩,⟨xb_ BK341⟩,⟨xb_ BK342⟩,⟨xw_ HB⟩⟩
         case rest =>
          clear HC35
          try clear c8
          try clear c33
          obtain ⟨kq,x79_34,rfl,HA,HJ34,BK341,BK342,HB⟩:=hcut
          cases kq with
          | zero => exact absurd HA.out (by simp [impl_ReadUrl.j3])
          | succ kj34 =>
           have H:=HA.out
           clear HA
           simp only [impl_ReadUrl.j3] at H
           by_cases c41 : x79_34 = true
           ·subst c41
            rw [if_pos rfl] at H
            simp only [Option.some.injEq,Prod.mk.injEq] at H
            obtain ⟨rfl,rfl,rfl,rfl,rfl,rfl,rfl⟩:=H
            have hnb42:=NB341_342.out
            have hnc42:=NB342_341.out
            have ⟨_,_,_,_,_,_,_,_,_,_,_,_⟩:=c6_ BK341
            go_wp2
            refine bodyPost_ret (results_ct rfl _ _ gb341 31 #[.string (⟨#[]⟩ : ByteArray),.string (⟨#[]⟩ : ByteArray),.int .i64 0,.string (⟨#[]⟩ : ByteArray),.string (⟨#[]⟩ : ByteArray),.bool false] (0,0) _ rfl (mx_ BK341) Tryz.underlying31 rfl (by kernel_rfl)) rfl ?_
            exact ⟨mf_,xw_ HB⟩
           ·replace c41:=Bool.eq_false_iff.mpr c41
            subst c41
            rw [if_neg (show ¬ (false = true) by decide)] at H
            replace H:=mb_ H
            obtain ⟨t355,A44,H⟩:=H
            by_cases c45 : t355 = true
            ·subst c45
             rw [if_pos rfl] at H
             simp only [Option.some.injEq,Prod.mk.injEq] at H
             obtain ⟨rfl,rfl,rfl,rfl,rfl,rfl,rfl⟩:=H
             have hnb46:=NB342_341.out
             have hnc46:=NB341_342.out
             have ⟨_,_,_,_,_,_,_,_,_,_,_,_⟩:=c6_ BK342
             go_wp2_with (first | ((with_reducible refine gc_ 74 ?_);refine xgl_ (some 84) Tryz.func74 #[.agg #[.string t343,.string t350,.int .i64 t353,.string x343003_25,.string t347,.bool t348]] ?_;(with_reducible refine (impl_GoodUrl.calls kj34 t343 t350 t353 x343003_25 t347 t348 true _ A44.out (HTB_.out.below (by first | (with_reducible exact Below.refl _ _) | (repeat (first | (with_reducible first | exact HB.out | exact Below.refl _ _ | apply below_alloc | apply pw_below_drewN | apply below_drew1 | refine below_set ?_ GE341.out | refine below_set ?_ GE342.out) | exact HB.out)) | (repeat (first | exact Below.refl _ _ | apply below_alloc | apply pw_below_drewN | apply below_drew1 | refine below_set ?_ GE341.out | refine below_set ?_ GE342.out))))).mono ?_);rintro e w48 ⟨rfl,hb⟩;refine ⟨_,rfl,?_⟩;replace BK341:=mxb_ (o':=.cells #[.string (⟨#[]⟩ : ByteArray),.string (⟨#[]⟩ : ByteArray),.int .i64 0,.string (⟨#[]⟩ : ByteArray),.string (⟨#[]⟩ : ByteArray),.bool false] 31 (0,0)) BK341 hb;replace BK342:=mxb_ (o':=.cells #[.string t343,.string t350,.int .i64 t353,.string x343003_25,.string t347,.bool t348] 31 (0,0)) BK342 hb;replace HB:=xws_ HB hb;(try clear hb);have ⟨_,_,_,_,_,_,_,_,_,_,_,_⟩:=c6_ BK342;have ⟨_,_,_,_,_,_,_,_,_,_,_,_⟩:=c6_ BK341))
             refine bodyPost_ret (results_ct rfl _ _ gb341 31 #[.string t343,.string t350,.int .i64 t353,.string x343003_25,.string t347,.bool t348] (0,0) _ rfl (mx_ BK341) Tryz.underlying31 rfl (by kernel_rfl)) rfl ?_
             exact ⟨mf_,xw_ HB⟩
            ·replace c45:=Bool.eq_false_iff.mpr c45
             subst c45
             rw [if_neg (show ¬ (false = true) by decide)] at H
             simp only [Option.some.injEq,Prod.mk.injEq] at H
             obtain ⟨rfl,rfl,rfl,rfl,rfl,rfl,rfl⟩:=H
             have hnb51:=NB342_341.out
             have hnc51:=NB341_342.out
             have ⟨_,_,_,_,_,_,_,_,_,_,_,_⟩:=c6_ BK342
             go_wp2_with (first | ((with_reducible refine gc_ 74 ?_);refine xgl_ (some 84) Tryz.func74 #[.agg #[.string t343,.string t350,.int .i64 t353,.string x343003_25,.string t347,.bool t348]] ?_;(with_reducible refine (impl_GoodUrl.calls kj34 t343 t350 t353 x343003_25 t347 t348 false _ A44.out (HTB_.out.below (by first | (with_reducible exact Below.refl _ _) | (repeat (first | (with_reducible first | exact HB.out | exact Below.refl _ _ | apply below_alloc | apply pw_below_drewN | apply below_drew1 | refine below_set ?_ GE341.out | refine below_set ?_ GE342.out) | exact HB.out)) | (repeat (first | exact Below.refl _ _ | apply below_alloc | apply pw_below_drewN | apply below_drew1 | refine below_set ?_ GE341.out | refine below_set ?_ GE342.out))))).mono ?_);rintro e w53 ⟨rfl,hb⟩;refine ⟨_,rfl,?_⟩;replace BK341:=mxb_ (o':=.cells #[.string (⟨#[]⟩ : ByteArray),.string (⟨#[]⟩ : ByteArray),.int .i64 0,.string (⟨#[]⟩ : ByteArray),.string (⟨#[]⟩ : ByteArray),.bool false] 31 (0,0)) BK341 hb;replace BK342:=mxb_ (o':=.cells #[.string t343,.string t350,.int .i64 t353,.string x343003_25,.string t347,.bool t348] 31 (0,0)) BK342 hb;replace HB:=xws_ HB hb;(try clear hb);have ⟨_,_,_,_,_,_,_,_,_,_,_,_⟩:=c6_ BK341))
             refine bodyPost_ret (results_ct rfl _ _ gb341 31 #[.string (⟨#[]⟩ : ByteArray),.string (⟨#[]⟩ : ByteArray),.int .i64 0,.string (⟨#[]⟩ : ByteArray),.string (⟨#[]⟩ : ByteArray),.bool false] (0,0) _ rfl (mx_ BK341) Tryz.underlying31 rfl (by kernel_rfl)) rfl ?_
             exact ⟨mf_,xw_ HB⟩
        ·replace c33:=Bool.eq_false_iff.mpr c33
         subst c33
         rw [if_neg (show ¬ (false = true) by decide)] at H
         replace H:=mb_ H
         obtain ⟨t356,A55,H⟩:=H
         by_cases c56 : t356 = true
         ·subst c56
          rw [if_pos rfl] at H
          simp only [Option.some.injEq,Prod.mk.injEq] at H
          obtain ⟨rfl,rfl,rfl,rfl,rfl,rfl,rfl⟩:=H
          go_wp2_with (first | ((with_reducible refine gc_ 126 ?_);refine xgl_ (some 62) Tryz.func126 #[.string x11_12,.string (⟨#[58]⟩ : ByteArray)] ?_;(with_reducible refine (strings_Cut.calls x11_12 (⟨#[58]⟩ : ByteArray) t350 t351 false _ A32.out (HTB_.out.below (by first | (with_reducible exact Below.refl _ _) | (repeat (first | (with_reducible first | exact HB.out | exact Below.refl _ _ | apply below_alloc | apply pw_below_drewN | apply below_drew1 | refine below_set ?_ GE341.out | refine below_set ?_ GE342.out) | exact HB.out)) | (repeat (first | exact Below.refl _ _ | apply below_alloc | apply pw_below_drewN | apply below_drew1 | refine below_set ?_ GE341.out | refine below_set ?_ GE342.out))))).mono ?_);rintro e w57 ⟨rfl,hb⟩;refine ⟨_,rfl,?_⟩;replace BK341:=xbb_ BK341 hb;replace BK342:=xbb_ BK342 hb;replace HB:=xws_ HB hb;(try clear hb);have hnb58:=NB342_341.out;have hnc58:=NB341_342.out;have ⟨_,_,_,_,_,_,_,_,_,_,_,_⟩:=c6_ BK342) | ((with_reducible refine gc_ 74 ?_);refine xgl_ (some 84) Tryz.func74 #[.agg #[.string t343,.string t350,.int .i64 0,.string x343003_25,.string t347,.bool t348]] ?_;(with_reducible refine (impl_GoodUrl.calls kj25 t343 t350 0 x343003_25 t347 t348 true _ A55.out (HTB_.out.below (by first | (with_reducible exact Below.refl _ _) | (repeat (first | (with_reducible first | exact HB.out | exact Below.refl _ _ | apply below_alloc | apply pw_below_drewN | apply below_drew1 | refine below_set ?_ GE341.out | refine below_set ?_ GE342.out) | exact HB.out)) | (repeat (first | exact Below.refl _ _ | apply below_alloc | apply pw_below_drewN | apply below_drew1 | refine below_set ?_ GE341.out | refine below_set ?_ GE342.out))))).mono ?_);rintro e w60 ⟨rfl,hb⟩;refine ⟨_,rfl,?_⟩;replace BK341:=mxb_ (o':=.cells #[.string (⟨#[]⟩ : ByteArray),.string (⟨#[]⟩ : ByteArray),.int .i64 0,.string (⟨#[]⟩ : ByteArray),.string (⟨#[]⟩ : ByteArray),.bool false] 31 (0,0)) BK341 hb;replace BK342:=mxb_ (o':=.cells #[.string t343,.string t350,.int .i64 0,.string x343003_25,.string t347,.bool t348] 31 (0,0)) BK342 hb;replace HB:=xws_ HB hb;(try clear hb);have ⟨_,_,_,_,_,_,_,_,_,_,_,_⟩:=c6_ BK342;have ⟨_,_,_,_,_,_,_,_,_,_,_,_⟩:=c6_ BK341))
          refine bodyPost_ret (results_ct rfl _ _ gb341 31 #[.string t343,.string t350,.int .i64 0,.string x343003_25,.string t347,.bool t348] (0,0) _ rfl (mx_ BK341) Tryz.underlying31 rfl (by kernel_rfl)) rfl ?_
          exact ⟨mf_,xw_ HB⟩
         ·replace c56:=Bool.eq_false_iff.mpr c56
          subst c56
          rw [if_neg (show ¬ (false = true) by decide)] at H
          simp only [Option.some.injEq,Prod.mk.injEq] at H
          obtain ⟨rfl,rfl,rfl,rfl,rfl,rfl,rfl⟩:=H
          go_wp2_with (first | ((with_reducible refine gc_ 126 ?_);refine xgl_ (some 62) Tryz.func126 #[.string x11_12,.string (⟨#[58]⟩ : ByteArray)] ?_;(with_reducible refine (strings_Cut.calls x11_12 (⟨#[58]⟩ : ByteArray) t350 t351 false _ A32.out (HTB_.out.below (by first | (with_reducible exact Below.refl _ _) | (repeat (first | (with_reducible first | exact HB.out | exact Below.refl _ _ | apply below_alloc | apply pw_below_drewN | apply below_drew1 | refine below_set ?_ GE341.out | refine below_set ?_ GE342.out) | exact HB.out)) | (repeat (first | exact Below.refl _ _ | apply below_alloc | apply pw_below_drewN | apply below_drew1 | refine below_set ?_ GE341.out | refine below_set ?_ GE342.out))))).mono ?_);rintro e w63 ⟨rfl,hb⟩;refine ⟨_,rfl,?_⟩;replace BK341:=xbb_ BK341 hb;replace BK342:=xbb_ BK342 hb;replace HB:=xws_ HB hb;(try clear hb);have hnb64:=NB342_341.out;have hnc64:=NB341_342.out;have ⟨_,_,_,_,_,_,_,_,_,_,_,_⟩:=c6_ BK342) | ((with_reducible refine gc_ 74 ?_);refine xgl_ (some 84) Tryz.func74 #[.agg #[.string t343,.string t350,.int .i64 0,.string x343003_25,.string t347,.bool t348]] ?_;(with_reducible refine (impl_GoodUrl.calls kj25 t343 t350 0 x343003_25 t347 t348 false _ A55.out (HTB_.out.below (by first | (with_reducible exact Below.refl _ _) | (repeat (first | (with_reducible first | exact HB.out | exact Below.refl _ _ | apply below_alloc | apply pw_below_drewN | apply below_drew1 | refine below_set ?_ GE341.out | refine below_set ?_ GE342.out) | exact HB.out)) | (repeat (first | exact Below.refl _ _ | apply below_alloc | apply pw_below_drewN | apply below_drew1 | refine below_set ?_ GE341.out | refine below_set ?_ GE342.out))))).mono ?_);rintro e w66 ⟨rfl,hb⟩;refine ⟨_,rfl,?_⟩;replace BK341:=mxb_ (o':=.cells #[.string (⟨#[]⟩ : ByteArray),.string (⟨#[]⟩ : ByteArray),.int .i64 0,.string (⟨#[]⟩ : ByteArray),.string (⟨#[]⟩ : ByteArray),.bool false] 31 (0,0)) BK341 hb;replace BK342:=mxb_ (o':=.cells #[.string t343,.string t350,.int .i64 0,.string x343003_25,.string t347,.bool t348] 31 (0,0)) BK342 hb;replace HB:=xws_ HB hb;(try clear hb);have ⟨_,_,_,_,_,_,_,_,_,_,_,_⟩:=c6_ BK341))
          refine bodyPost_ret (results_ct rfl _ _ gb341 31 #[.string (⟨#[]⟩ : ByteArray),.string (⟨#[]⟩ : ByteArray),.int .i64 0,.string (⟨#[]⟩ : ByteArray),.string (⟨#[]⟩ : ByteArray),.bool false] (0,0) _ rfl (mx_ BK341) Tryz.underlying31 rfl (by kernel_rfl)) rfl ?_
          exact ⟨mf_,xw_ HB⟩

end Go.Proofs.YtpggepjfhgalkaaGreatDoor.PFnExactKeyOf
