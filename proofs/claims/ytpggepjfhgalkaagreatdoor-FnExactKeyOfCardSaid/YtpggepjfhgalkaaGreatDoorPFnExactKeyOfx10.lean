-- Written by a program of this project (xprint.py) out of the translation; Lean checks it.
import Derived.Test.YtpggepjfhgalkaaGreatDoorPFnExactKeyOfx0
import Derived.Test.YtpggepjfhgalkaaGreatDoorPFnExactKeyOfx3
import Derived.Test.YtpggepjfhgalkaaGreatDoorPFnExactKeyOfx9
namespace Go.Proofs.YtpggepjfhgalkaaGreatDoor.PFnExactKeyOf
open Go.RowKit Go.Proofs.YtpggepjfhgalkaaGreatDoorW.PrintWords Go.Proofs.YtpggepjfhgalkaaGreatDoorW.PrintLast Go.Proofs.YtpggepjfhgalkaaGreatDoorW.PrintMore
attribute [local go_sem] max2_int min2_int max_two min_two max_three min_three max_four min_four   -- for this text's walks alone
set_option linter.unusedVariables false
set_option linter.unusedSimpArgs false

/-! ### spec_l1Authority: function 115 -/
mutual
def spec_l1Authority.j1 : Nat → ByteArray → Int → ByteArray → ByteArray → Int → ByteArray → ByteArray → Bool → Option (ByteArray × ByteArray × Int × ByteArray × ByteArray × Bool × Bool)
 | 0,_,_,_,_,_,_,_,_ => none
 | k + 1,x1,x7,x194000,x194001,x194002,x194003,x194004,x194005 => if 0 ≤ x7 then (if x7 ≤ (x1.size : Int) then ((spec_l1Cut.f k (x1.extract 0 (x7 : Int).toNat) 58).bind fun bt194 => (if bt194.2.2 = true then ((spec_l1Int.f k bt194.2.1).bind fun t197 => (if t197 ≤ 0 then (some ((⟨#[]⟩ : ByteArray),(⟨#[]⟩ : ByteArray),0,(⟨#[]⟩ : ByteArray),(⟨#[]⟩ : ByteArray),false,false)) else (spec_l1Authority.j2 k x1 x7 x194000 bt194.1 t197 x194003 x194004 x194005))) else (spec_l1Authority.j2 k x1 x7 x194000 bt194.1 x194002 x194003 x194004 x194005))) else (none)) else (none)
def spec_l1Authority.j2 : Nat → ByteArray → Int → ByteArray → ByteArray → Int → ByteArray → ByteArray → Bool → Option (ByteArray × ByteArray × Int × ByteArray × ByteArray × Bool × Bool)
 | 0,_,_,_,_,_,_,_,_ => none
 | k + 1,x1,x7,x194000,x194001,x194002,x194003,x194004,x194005 => if 0 ≤ x7 then (if x7 ≤ (x1.size : Int) then ((spec_l1Cut.f k (x1.extract (x7 : Int).toNat x1.size) 63).bind fun bt198 => (if bt198.1.toList = ([] : List UInt8) then ((spec_GoodUrl.f k x194000 x194001 x194002 (⟨#[47]⟩ : ByteArray) bt198.2.1 bt198.2.2).bind fun t201 => (if t201 = true then (some (x194000,x194001,x194002,(⟨#[47]⟩ : ByteArray),bt198.2.1,bt198.2.2,true)) else (some ((⟨#[]⟩ : ByteArray),(⟨#[]⟩ : ByteArray),0,(⟨#[]⟩ : ByteArray),(⟨#[]⟩ : ByteArray),false,false)))) else ((spec_GoodUrl.f k x194000 x194001 x194002 bt198.1 bt198.2.1 bt198.2.2).bind fun t202 => (if t202 = true then (some (x194000,x194001,x194002,bt198.1,bt198.2.1,bt198.2.2,true)) else (some ((⟨#[]⟩ : ByteArray),(⟨#[]⟩ : ByteArray),0,(⟨#[]⟩ : ByteArray),(⟨#[]⟩ : ByteArray),false,false)))))) else (none)) else (none)
def spec_l1Authority.l0 : Nat → ByteArray → Int → ByteArray → ByteArray → Int → ByteArray → ByteArray → Bool → Option (ByteArray × ByteArray × Int × ByteArray × ByteArray × Bool × Bool)
 | 0,_,_,_,_,_,_,_,_ => none
 | k + 1,x1,x7,x194000,x194001,x194002,x194003,x194004,x194005 => if x7 < (x1.size : Int) then (if 0 ≤ x7 then (if (bt x1 x7) = 47 then (spec_l1Authority.j1 k x1 x7 x194000 x194001 x194002 x194003 x194004 x194005) else (if (bt x1 x7) = 63 then (spec_l1Authority.j1 k x1 x7 x194000 x194001 x194002 x194003 x194004 x194005) else (spec_l1Authority.l0 k x1 (wrap64 (x7 + 1)) x194000 x194001 x194002 x194003 x194004 x194005))) else (none)) else (spec_l1Authority.j1 k x1 x7 x194000 x194001 x194002 x194003 x194004 x194005)
end
def spec_l1Authority.f (k : Nat) (a0 : ByteArray) (a1 : ByteArray) : Option (ByteArray × ByteArray × Int × ByteArray × ByteArray × Bool × Bool):=spec_l1Authority.l0 k a1 0 a0 (⟨#[]⟩ : ByteArray) 0 (⟨#[]⟩ : ByteArray) (⟨#[]⟩ : ByteArray) false
set_option maxHeartbeats 8000000 in
set_option maxRecDepth 100000 in
theorem spec_l1Authority.calls (k : Nat) (a0 : ByteArray) (a1 : ByteArray) (r1 : ByteArray) (r2 : ByteArray) (r3 : Int) (r4 : ByteArray) (r5 : ByteArray) (r6 : Bool) (r7 : Bool) (w : World) (h : spec_l1Authority.f k a0 a1 = some (r1,r2,r3,r4,r5,r6,r7)) :
  Calls Tryz.prog 115 #[.string a0,.string a1] w fun e w' => e = .returned (.tuple #[.agg #[.string r1,.string r2,.int .i64 r3,.string r4,.string r5,.bool r6],.bool r7]) ∧ Below w.heap.size w w':=by
 have hu31:=Tryz.underlying31
 have HB:=Aside0.mk (Below.refl w.heap.size w)
 have H:=h
 unfold spec_l1Authority.f at H
 clear h
 have HC3:=Aside0.mk H
 clear H
 go_enter Tryz.func115,Tryz.ntmps115
 go_upto_block 0 with (first | ((with_reducible refine gd_ 4 ?_);refine xbe_ (N:=4) (cs:=#[.string (⟨#[]⟩ : ByteArray),.string (⟨#[]⟩ : ByteArray),.int .i64 0,.string (⟨#[]⟩ : ByteArray),.string (⟨#[]⟩ : ByteArray),.bool false]) (t:=31) ?_;intro gb192 hg w4 hbox hb;have BK192:=Aside0.mk (hbox);have GE192:=xge_ HB hg;replace HB:=xws_ HB hb;clear hb hbox hg) | ((with_reducible refine gd_ 6 ?_);refine xbe_ (N:=6) (cs:=#[.string (⟨#[]⟩ : ByteArray),.string (⟨#[]⟩ : ByteArray),.int .i64 0,.string (⟨#[]⟩ : ByteArray),.string (⟨#[]⟩ : ByteArray),.bool false]) (t:=31) ?_;intro gb193 hg w5 hbox hb;have BK193:=Aside0.mk (hbox);have GE193:=xge_ HB hg;replace HB:=xws_ HB hb;have NB192_193:=xlt_ BK192 hg;have NB193_192:=xgt_ BK192 hg;replace BK192:=xbb_ BK192 hb;clear hb hbox hg;have hnb6:=NB193_192.out;have hnc6:=NB192_193.out;have ⟨_,_,_,_,_,_,_,_,_,_,_,_⟩:=c6_ BK193))
 (try simp only [Act.put,List.setIfInBounds_toArray,List.set_cons_zero,List.set_cons_succ])
 go_cut [7] (fun v7 wc => ∃ (kq : Nat) (x7_2 : Int),v7 = .int .i64 x7_2 ∧ Aside0 (spec_l1Authority.j1 kq a1 x7_2 a0 (⟨#[]⟩ : ByteArray) 0 (⟨#[]⟩ : ByteArray) (⟨#[]⟩ : ByteArray) false = some (r1,r2,r3,r4,r5,r6,r7)) ∧ Aside0 (kq ≤ k) ∧ Aside0 (wc.heap[gb192]? = some (.cells #[.string (⟨#[]⟩ : ByteArray),.string (⟨#[]⟩ : ByteArray),.int .i64 0,.string (⟨#[]⟩ : ByteArray),.string (⟨#[]⟩ : ByteArray),.bool false] 31 (0,0))) ∧ Aside0 (wc.heap[gb193]? = some (.cells #[.string a0,.string (⟨#[]⟩ : ByteArray),.int .i64 0,.string (⟨#[]⟩ : ByteArray),.string (⟨#[]⟩ : ByteArray),.bool false] 31 (0,0))) ∧ Aside0 (Below w.heap.size w wc))
 case first =>
  have H:=HC3.out
  clear HC3
  have H':=Aside0.mk H
  clear H
  go_wp2
  go_loopg [7] k (fun kq v7 w' => ∃ (x7_1 : Int),v7 = .int .i64 x7_1 ∧ Aside0 (spec_l1Authority.l0 kq a1 x7_1 a0 (⟨#[]⟩ : ByteArray) 0 (⟨#[]⟩ : ByteArray) (⟨#[]⟩ : ByteArray) false = some (r1,r2,r3,r4,r5,r6,r7)) ∧ Aside0 (kq ≤ k) ∧ Aside0 (w'.heap[gb192]? = some (.cells #[.string (⟨#[]⟩ : ByteArray),.string (⟨#[]⟩ : ByteArray),.int .i64 0,.string (⟨#[]⟩ : ByteArray),.string (⟨#[]⟩ : ByteArray),.bool false] 31 (0,0))) ∧ Aside0 (w'.heap[gb193]? = some (.cells #[.string a0,.string (⟨#[]⟩ : ByteArray),.int .i64 0,.string (⟨#[]⟩ : ByteArray),.string (⟨#[]⟩ : ByteArray),.bool false] 31 (0,0))) ∧ Aside0 (Below w.heap.size w w'))
  case atStart => exact ⟨(0),me_,H',⟨Nat.le_refl _⟩,⟨mx_ BK192⟩,⟨mx_ BK193⟩,⟨xw_ HB⟩⟩
  case round =>
   clear H'
   obtain ⟨x7_1,rfl,HA,HK1,BK192,BK193,HB⟩:=hrel
   cases gk with
   | zero => exact absurd HA.out (by simp [spec_l1Authority.l0])
   | succ k1 =>
    have H:=HA.out
    clear HA
    simp only [spec_l1Authority.l0] at H
    by_cases c8 : x7_1 < (a1.size : Int)
    ·rw [if_pos c8] at H
     have c8b0:=decide_eq_true c8
     clear c8
     (first | rw [c8b0] | (simp only [i64_w,i32_w];rw [c8b0]) | skip)
     replace H:=mi_ H
     obtain ⟨c9,H⟩:=H
     have c9b0:=decide_eq_true c9
     clear c9
     by_cases c11 : (bt a1 x7_1) = 47
     ·rw [if_pos c11] at H
      have c11b0 : ((bt a1 x7_1) == 47) = true:=beq_iff_eq.mpr c11
      have c11b1 : ((bt a1 x7_1) != 47) = false:=bne_eq_false_iff_eq.mpr c11
      clear c11
      have H':=Aside0.mk H
      clear H
      have p10 : 0 ≤ (x7_1 : Int):=md_
      have q10 : x7_1 < (a1.size : Int):=md_
      have hx10:=bt_at a1 x7_1
      replace p10:=eq_true p10
      replace q10:=eq_true q10
      go_wp2
      go_meet
      case rel => exact ⟨_,(x7_1),me_,H',⟨by have:=HK1.out;first | omega | exact Nat.le_refl _⟩,⟨xb_ BK192⟩,⟨xb_ BK193⟩,⟨xw_ HB⟩⟩
     ·rw [if_neg c11] at H
      have c11b0 : ((bt a1 x7_1) == 47) = false:=beq_eq_false_iff_ne.mpr c11
      have c11b1 : ((bt a1 x7_1) != 47) = true:=bne_iff_ne.mpr c11
      by_cases c13 : (bt a1 x7_1) = 63
      ·rw [if_pos c13] at H
       have c13b0 : ((bt a1 x7_1) == 63) = true:=beq_iff_eq.mpr c13
       have c13b1 : ((bt a1 x7_1) != 63) = false:=bne_eq_false_iff_eq.mpr c13
       clear c13
       have H':=Aside0.mk H
       clear H
       have p10 : 0 ≤ (x7_1 : Int):=md_
       have q10 : x7_1 < (a1.size : Int):=md_
       have hx10:=bt_at a1 x7_1
       replace p10:=eq_true p10
       replace q10:=eq_true q10
       have p12 : 0 ≤ (x7_1 : Int):=md_
       have q12 : x7_1 < (a1.size : Int):=md_
       have hx12:=bt_at a1 x7_1
       replace p12:=eq_true p12
       replace q12:=eq_true q12
       go_wp2
       go_meet
       case rel => exact ⟨_,(x7_1),me_,H',⟨by have:=HK1.out;first | omega | exact Nat.le_refl _⟩,⟨xb_ BK192⟩,⟨xb_ BK193⟩,⟨xw_ HB⟩⟩
      ·rw [if_neg c13] at H
       have c13b0 : ((bt a1 x7_1) == 63) = false:=beq_eq_false_iff_ne.mpr c13
       have c13b1 : ((bt a1 x7_1) != 63) = true:=bne_iff_ne.mpr c13
       have H':=Aside0.mk H
       clear H
       have p10 : 0 ≤ (x7_1 : Int):=md_
       have q10 : x7_1 < (a1.size : Int):=md_
       have hx10:=bt_at a1 x7_1
       replace p10:=eq_true p10
       replace q10:=eq_true q10
       have p12 : 0 ≤ (x7_1 : Int):=md_
       have q12 : x7_1 < (a1.size : Int):=md_
       have hx12:=bt_at a1 x7_1
       replace p12:=eq_true p12
       replace q12:=eq_true q12
       go_wp2
       go_roundg k1
       case measure => have:=HK1.out;omega
       case rel => exact ⟨(wrap64 (x7_1 + 1)),me_,H',⟨by have:=HK1.out;omega⟩,⟨xb_ BK192⟩,⟨xb_ BK193⟩,⟨xw_ HB⟩⟩
    ·rw [if_neg c8] at H
     have c8b0:=decide_eq_false c8
     clear c8
     (first | rw [c8b0] | (simp only [i64_w,i32_w];rw [c8b0]) | skip)
     have H':=Aside0.mk H
     clear H
     go_wp2
     go_meet
     case rel => exact ⟨_,(x7_1),me_,H',⟨by have:=HK1.out;first | omega | exact Nat.le_refl _⟩,⟨xb_ BK192⟩,⟨xb_ BK193⟩,⟨xw_ HB⟩⟩
 case rest =>
  clear HC3
  obtain ⟨kq,x7_2,rfl,HA,HJ2,BK192,BK193,HB⟩:=hcut
  cases kq with
  | zero => exact absurd HA.out (by simp [spec_l1Authority.j1])
  | succ kj2 =>
   have H:=HA.out
   clear HA
   simp only [spec_l1Authority.j1] at H
   replace H:=mi_ H
   obtain ⟨c14,H⟩:=H
   have c14b0:=eq_true c14
   have c14b1:=decide_eq_true c14
   clear c14
   replace H:=mi_ H
   obtain ⟨c15,H⟩:=H
   have c15b0:=eq_true c15
   have c15b1:=decide_eq_true c15
   clear c15
   replace H:=mb_ H
   obtain ⟨⟨t194,t195,t196⟩,A16,H⟩:=H
   dsimp only at H
   have HC17:=Aside0.mk H
   clear H
   go_upto_if 41 with (first | ((with_reducible refine gc_ 116 ?_);refine xgl_ (some 35) Tryz.func116 #[.string (a1.extract 0 (x7_2 : Int).toNat),.int .u8 58] ?_;(with_reducible refine (spec_l1Cut.calls kj2 (a1.extract 0 (x7_2 : Int).toNat) 58 t194 t195 t196 _ A16.out).mono ?_);rintro e w' ⟨rfl,⟨nd,rfl⟩⟩;refine ⟨_,rfl,?_⟩;(try (rw [drewN_self wc];generalize hq_ : World.drewN wc _ = wc;have n0_ : Aside0 (wc.heap[gb192]? = some (.cells #[.string (⟨#[]⟩ : ByteArray),.string (⟨#[]⟩ : ByteArray),.int .i64 0,.string (⟨#[]⟩ : ByteArray),.string (⟨#[]⟩ : ByteArray),.bool false] 31 (0,0))):=⟨by rw [← hq_];exact (xb_ BK192)⟩;have n1_ : Aside0 (wc.heap[gb193]? = some (.cells #[.string a0,.string (⟨#[]⟩ : ByteArray),.int .i64 0,.string (⟨#[]⟩ : ByteArray),.string (⟨#[]⟩ : ByteArray),.bool false] 31 (0,0))):=⟨by rw [← hq_];exact (xb_ BK193)⟩;have n2_ : Aside0 (Below w.heap.size w wc):=⟨by rw [← hq_];exact (xw_ HB)⟩;clear BK192 BK193 HB hq_;have BK192:=n0_;have BK193:=n1_;have HB:=n2_;clear n0_ n1_ n2_));have hnb18:=NB193_192.out;have hnc18:=NB192_193.out;have ⟨_,_,_,_,_,_,_,_,_,_,_,_⟩:=c6_ BK193))
   (try simp only [Act.put,List.setIfInBounds_toArray,List.set_cons_zero,List.set_cons_succ])
   go_cut [] (fun wc => ∃ (kq : Nat) (x193000_16 : ByteArray) (x193001_16 : ByteArray) (x193002_16 : Int) (x193003_16 : ByteArray) (x193004_16 : ByteArray) (x193005_16 : Bool) (x194002_16 : Int),Aside0 (spec_l1Authority.j2 kq a1 x7_2 a0 t194 x194002_16 (⟨#[]⟩ : ByteArray) (⟨#[]⟩ : ByteArray) false = some (r1,r2,r3,r4,r5,r6,r7)) ∧ Aside0 (kq ≤ kj2) ∧ Aside0 (wc.heap[gb192]? = some (.cells #[.string x193000_16,.string x193001_16,.int .i64 x193002_16,.string x193003_16,.string x193004_16,.bool x193005_16] 31 (0,0))) ∧ Aside0 (wc.heap[gb193]? = some (.cells #[.string a0,.string t194,.int .i64 x194002_16,.string (⟨#[]⟩ : ByteArray),.string (⟨#[]⟩ : ByteArray),.bool false] 31 (0,0))) ∧ Aside0 (Below w.heap.size w wc))
   case first =>
    have H:=HC17.out
    clear HC17
    by_cases c20 : t196 = true
    ·subst c20
     rw [if_pos rfl] at H
     replace H:=mb_ H
     obtain ⟨t197,A21,H⟩:=H
     by_cases c22 : t197 ≤ 0
     ·rw [if_pos c22] at H
      have c22b0:=decide_eq_true c22
      clear c22
      (first | rw [c22b0] | (simp only [i64_w,i32_w];rw [c22b0]) | skip)
      simp only [Option.some.injEq,Prod.mk.injEq] at H
      obtain ⟨rfl,rfl,rfl,rfl,rfl,rfl,rfl⟩:=H
      go_wp2_with (first | ((with_reducible refine gc_ 156 ?_);refine xgl_ (some 43) Tryz.func156 #[.string t195] ?_;(with_reducible refine (spec_l1Int.calls kj2 t195 t197 _ A21.out).mono ?_);rintro e w' ⟨rfl,⟨nd,rfl⟩⟩;refine ⟨_,rfl,?_⟩;have hnb23:=NB193_192.out;have hnc23:=NB192_193.out;have ⟨_,_,_,_,_,_,_,_,_,_,_,_⟩:=c6_ BK193;have ⟨_,_,_,_,_,_,_,_,_,_,_,_⟩:=c6_ BK192))
      refine bodyPost_ret (results_ct rfl _ _ gb192 31 #[.string (⟨#[]⟩ : ByteArray),.string (⟨#[]⟩ : ByteArray),.int .i64 0,.string (⟨#[]⟩ : ByteArray),.string (⟨#[]⟩ : ByteArray),.bool false] (0,0) _ rfl (mx_ BK192) Tryz.underlying31 rfl (by kernel_rfl)) rfl ?_
      exact ⟨mf_,xw_ HB⟩
     ·rw [if_neg c22] at H
      have c22b0:=decide_eq_false c22
      clear c22
      (first | rw [c22b0] | (simp only [i64_w,i32_w];rw [c22b0]) | skip)
      have H':=Aside0.mk H
      clear H
      go_wp2_with (first | ((with_reducible refine gc_ 156 ?_);refine xgl_ (some 43) Tryz.func156 #[.string t195] ?_;(with_reducible refine (spec_l1Int.calls kj2 t195 t197 _ A21.out).mono ?_);rintro e w' ⟨rfl,⟨nd,rfl⟩⟩;refine ⟨_,rfl,?_⟩;have hnb26:=NB193_192.out;have hnc26:=NB192_193.out;have ⟨_,_,_,_,_,_,_,_,_,_,_,_⟩:=c6_ BK193))
      go_meet
      case rel => exact ⟨_,((⟨#[]⟩ : ByteArray)),((⟨#[]⟩ : ByteArray)),(0),((⟨#[]⟩ : ByteArray)),((⟨#[]⟩ : ByteArray)),(false),(t197),H',⟨by have:=HJ2.out;first | omega | exact Nat.le_refl _⟩,⟨mx_ BK192⟩,⟨mx_ BK193⟩,⟨xw_ HB⟩⟩
    ·replace c20:=Bool.eq_false_iff.mpr c20
     subst c20
     rw [if_neg (show ¬ (false = true) by decide)] at H
     have H':=Aside0.mk H
     clear H
     go_wp2
     go_meet
     case rel => exact ⟨_,((⟨#[]⟩ : ByteArray)),((⟨#[]⟩ : ByteArray)),(0),((⟨#[]⟩ : ByteArray)),((⟨#[]⟩ : ByteArray)),(false),(0),H',⟨by have:=HJ2.out;first | omega | exact Nat.le_refl _⟩,⟨mx_ BK192⟩,⟨mx_ BK193⟩,⟨xw_ HB⟩⟩
   case rest =>
    clear HC17
    try clear c14
    try clear c14b0
    try clear c14b1
    try clear c15
    try clear c15b0
    try clear c15b1
    obtain ⟨kq,x193000_16,x193001_16,x193002_16,x193003_16,x193004_16,x193005_16,x194002_16,HA,HJ16,BK192,BK193,HB⟩:=hcut
    cases kq with
    | zero => exact absurd HA.out (by simp [spec_l1Authority.j2])
    | succ kj16 =>
     have H:=HA.out
     clear HA
     simp only [spec_l1Authority.j2] at H
     replace H:=mi_ H
     obtain ⟨c28,H⟩:=H
     have c28b0:=eq_true c28
     have c28b1:=decide_eq_true c28
     clear c28
     replace H:=mi_ H
     obtain ⟨c29,H⟩:=H
     have c29b0:=eq_true c29
     have c29b1:=decide_eq_true c29
     clear c29
     replace H:=mb_ H
     obtain ⟨⟨t198,t199,t200⟩,A30,H⟩:=H
     dsimp only at H
     by_cases c31 : t198.toList = ([] : List UInt8)
     ·rw [if_pos c31] at H
      have c31b0 : (t198.toList == ([] : List UInt8)) = true:=beq_iff_eq.mpr c31
      have c31b1 : (t198.toList != ([] : List UInt8)) = false:=bne_eq_false_iff_eq.mpr c31
      clear c31
      replace H:=mb_ H
      obtain ⟨t201,A32,H⟩:=H
      by_cases c33 : t201 = true
      ·subst c33
       rw [if_pos rfl] at H
       simp only [Option.some.injEq,Prod.mk.injEq] at H
       obtain ⟨rfl,rfl,rfl,rfl,rfl,rfl,rfl⟩:=H
       go_wp2_with (first | ((with_reducible refine gc_ 116 ?_);refine xgl_ (some 53) Tryz.func116 #[.string (a1.extract (x7_2 : Int).toNat a1.size),.int .u8 63] ?_;(with_reducible refine (spec_l1Cut.calls kj16 (a1.extract (x7_2 : Int).toNat a1.size) 63 t198 t199 t200 _ A30.out).mono ?_);rintro e w' ⟨rfl,⟨nd,rfl⟩⟩;refine ⟨_,rfl,?_⟩;(try (rw [drewN_self wc];generalize hq_ : World.drewN wc _ = wc;have n0_ : Aside0 (wc.heap[gb192]? = some (.cells #[.string x193000_16,.string x193001_16,.int .i64 x193002_16,.string x193003_16,.string x193004_16,.bool x193005_16] 31 (0,0))):=⟨by rw [← hq_];exact (xb_ BK192)⟩;have n1_ : Aside0 (wc.heap[gb193]? = some (.cells #[.string a0,.string t194,.int .i64 x194002_16,.string (⟨#[]⟩ : ByteArray),.string (⟨#[]⟩ : ByteArray),.bool false] 31 (0,0))):=⟨by rw [← hq_];exact (xb_ BK193)⟩;have n2_ : Aside0 (Below w.heap.size w wc):=⟨by rw [← hq_];exact (xw_ HB)⟩;clear BK192 BK193 HB hq_;have BK192:=n0_;have BK193:=n1_;have HB:=n2_;clear n0_ n1_ n2_));have hnb34:=NB193_192.out;have hnc34:=NB192_193.out;have ⟨_,_,_,_,_,_,_,_,_,_,_,_⟩:=c6_ BK193) | ((with_reducible refine gc_ 34 ?_);refine xgl_ (some 65) Tryz.func34 #[.agg #[.string a0,.string t194,.int .i64 x194002_16,.string (⟨#[47]⟩ : ByteArray),.string t199,.bool t200]] ?_;(with_reducible refine (spec_GoodUrl.calls kj16 a0 t194 x194002_16 (⟨#[47]⟩ : ByteArray) t199 t200 true _ A32.out).mono ?_);rintro e w36 ⟨rfl,hb⟩;refine ⟨_,rfl,?_⟩;replace BK192:=mxb_ (o':=.cells #[.string x193000_16,.string x193001_16,.int .i64 x193002_16,.string x193003_16,.string x193004_16,.bool x193005_16] 31 (0,0)) BK192 hb;replace BK193:=mxb_ (o':=.cells #[.string a0,.string t194,.int .i64 x194002_16,.string (⟨#[47]⟩ : ByteArray),.string t199,.bool t200] 31 (0,0)) BK193 hb;replace HB:=xws_ HB hb;(try clear hb);have ⟨_,_,_,_,_,_,_,_,_,_,_,_⟩:=c6_ BK193;have ⟨_,_,_,_,_,_,_,_,_,_,_,_⟩:=c6_ BK192))
       refine bodyPost_ret (results_ct rfl _ _ gb192 31 #[.string a0,.string t194,.int .i64 x194002_16,.string (⟨#[47]⟩ : ByteArray),.string t199,.bool t200] (0,0) _ rfl (mx_ BK192) Tryz.underlying31 rfl (by kernel_rfl)) rfl ?_
       exact ⟨mf_,xw_ HB⟩
      ·replace c33:=Bool.eq_false_iff.mpr c33
       subst c33
       rw [if_neg (show ¬ (false = true) by decide)] at H
       simp only [Option.some.injEq,Prod.mk.injEq] at H
       obtain ⟨rfl,rfl,rfl,rfl,rfl,rfl,rfl⟩:=H
       go_wp2_with (first | ((with_reducible refine gc_ 116 ?_);refine xgl_ (some 53) Tryz.func116 #[.string (a1.extract (x7_2 : Int).toNat a1.size),.int .u8 63] ?_;(with_reducible refine (spec_l1Cut.calls kj16 (a1.extract (x7_2 : Int).toNat a1.size) 63 t198 t199 t200 _ A30.out).mono ?_);rintro e w' ⟨rfl,⟨nd,rfl⟩⟩;refine ⟨_,rfl,?_⟩;(try (rw [drewN_self wc];generalize hq_ : World.drewN wc _ = wc;have n0_ : Aside0 (wc.heap[gb192]? = some (.cells #[.string x193000_16,.string x193001_16,.int .i64 x193002_16,.string x193003_16,.string x193004_16,.bool x193005_16] 31 (0,0))):=⟨by rw [← hq_];exact (xb_ BK192)⟩;have n1_ : Aside0 (wc.heap[gb193]? = some (.cells #[.string a0,.string t194,.int .i64 x194002_16,.string (⟨#[]⟩ : ByteArray),.string (⟨#[]⟩ : ByteArray),.bool false] 31 (0,0))):=⟨by rw [← hq_];exact (xb_ BK193)⟩;have n2_ : Aside0 (Below w.heap.size w wc):=⟨by rw [← hq_];exact (xw_ HB)⟩;clear BK192 BK193 HB hq_;have BK192:=n0_;have BK193:=n1_;have HB:=n2_;clear n0_ n1_ n2_));have hnb39:=NB193_192.out;have hnc39:=NB192_193.out;have ⟨_,_,_,_,_,_,_,_,_,_,_,_⟩:=c6_ BK193) | ((with_reducible refine gc_ 34 ?_);refine xgl_ (some 65) Tryz.func34 #[.agg #[.string a0,.string t194,.int .i64 x194002_16,.string (⟨#[47]⟩ : ByteArray),.string t199,.bool t200]] ?_;(with_reducible refine (spec_GoodUrl.calls kj16 a0 t194 x194002_16 (⟨#[47]⟩ : ByteArray) t199 t200 false _ A32.out).mono ?_);rintro e w41 ⟨rfl,hb⟩;refine ⟨_,rfl,?_⟩;replace BK192:=mxb_ (o':=.cells #[.string x193000_16,.string x193001_16,.int .i64 x193002_16,.string x193003_16,.string x193004_16,.bool x193005_16] 31 (0,0)) BK192 hb;replace BK193:=mxb_ (o':=.cells #[.string a0,.string t194,.int .i64 x194002_16,.string (⟨#[47]⟩ : ByteArray),.string t199,.bool t200] 31 (0,0)) BK193 hb;replace HB:=xws_ HB hb;(try clear hb);have ⟨_,_,_,_,_,_,_,_,_,_,_,_⟩:=c6_ BK192))
       refine bodyPost_ret (results_ct rfl _ _ gb192 31 #[.string (⟨#[]⟩ : ByteArray),.string (⟨#[]⟩ : ByteArray),.int .i64 0,.string (⟨#[]⟩ : ByteArray),.string (⟨#[]⟩ : ByteArray),.bool false] (0,0) _ rfl (mx_ BK192) Tryz.underlying31 rfl (by kernel_rfl)) rfl ?_
       exact ⟨mf_,xw_ HB⟩
     ·rw [if_neg c31] at H
      have c31b0 : (t198.toList == ([] : List UInt8)) = false:=beq_eq_false_iff_ne.mpr c31
      have c31b1 : (t198.toList != ([] : List UInt8)) = true:=bne_iff_ne.mpr c31
      replace H:=mb_ H
      obtain ⟨t202,A43,H⟩:=H
      by_cases c44 : t202 = true
      ·subst c44
       rw [if_pos rfl] at H
       simp only [Option.some.injEq,Prod.mk.injEq] at H
       obtain ⟨rfl,rfl,rfl,rfl,rfl,rfl,rfl⟩:=H
       go_wp2_with (first | ((with_reducible refine gc_ 116 ?_);refine xgl_ (some 53) Tryz.func116 #[.string (a1.extract (x7_2 : Int).toNat a1.size),.int .u8 63] ?_;(with_reducible refine (spec_l1Cut.calls kj16 (a1.extract (x7_2 : Int).toNat a1.size) 63 t198 t199 t200 _ A30.out).mono ?_);rintro e w' ⟨rfl,⟨nd,rfl⟩⟩;refine ⟨_,rfl,?_⟩;(try (rw [drewN_self wc];generalize hq_ : World.drewN wc _ = wc;have n0_ : Aside0 (wc.heap[gb192]? = some (.cells #[.string x193000_16,.string x193001_16,.int .i64 x193002_16,.string x193003_16,.string x193004_16,.bool x193005_16] 31 (0,0))):=⟨by rw [← hq_];exact (xb_ BK192)⟩;have n1_ : Aside0 (wc.heap[gb193]? = some (.cells #[.string a0,.string t194,.int .i64 x194002_16,.string (⟨#[]⟩ : ByteArray),.string (⟨#[]⟩ : ByteArray),.bool false] 31 (0,0))):=⟨by rw [← hq_];exact (xb_ BK193)⟩;have n2_ : Aside0 (Below w.heap.size w wc):=⟨by rw [← hq_];exact (xw_ HB)⟩;clear BK192 BK193 HB hq_;have BK192:=n0_;have BK193:=n1_;have HB:=n2_;clear n0_ n1_ n2_));have hnb45:=NB193_192.out;have hnc45:=NB192_193.out;have ⟨_,_,_,_,_,_,_,_,_,_,_,_⟩:=c6_ BK193) | ((with_reducible refine gc_ 34 ?_);refine xgl_ (some 65) Tryz.func34 #[.agg #[.string a0,.string t194,.int .i64 x194002_16,.string t198,.string t199,.bool t200]] ?_;(with_reducible refine (spec_GoodUrl.calls kj16 a0 t194 x194002_16 t198 t199 t200 true _ A43.out).mono ?_);rintro e w47 ⟨rfl,hb⟩;refine ⟨_,rfl,?_⟩;replace BK192:=mxb_ (o':=.cells #[.string x193000_16,.string x193001_16,.int .i64 x193002_16,.string x193003_16,.string x193004_16,.bool x193005_16] 31 (0,0)) BK192 hb;replace BK193:=mxb_ (o':=.cells #[.string a0,.string t194,.int .i64 x194002_16,.string t198,.string t199,.bool t200] 31 (0,0)) BK193 hb;replace HB:=xws_ HB hb;(try clear hb);have ⟨_,_,_,_,_,_,_,_,_,_,_,_⟩:=c6_ BK193;have ⟨_,_,_,_,_,_,_,_,_,_,_,_⟩:=c6_ BK192))
       refine bodyPost_ret (results_ct rfl _ _ gb192 31 #[.string a0,.string t194,.int .i64 x194002_16,.string t198,.string t199,.bool t200] (0,0) _ rfl (mx_ BK192) Tryz.underlying31 rfl (by kernel_rfl)) rfl ?_
       exact ⟨mf_,xw_ HB⟩
      ·replace c44:=Bool.eq_false_iff.mpr c44
       subst c44
       rw [if_neg (show ¬ (false = true) by decide)] at H
       simp only [Option.some.injEq,Prod.mk.injEq] at H
       obtain ⟨rfl,rfl,rfl,rfl,rfl,rfl,rfl⟩:=H
       go_wp2_with (first | ((with_reducible refine gc_ 116 ?_);refine xgl_ (some 53) Tryz.func116 #[.string (a1.extract (x7_2 : Int).toNat a1.size),.int .u8 63] ?_;(with_reducible refine (spec_l1Cut.calls kj16 (a1.extract (x7_2 : Int).toNat a1.size) 63 t198 t199 t200 _ A30.out).mono ?_);rintro e w' ⟨rfl,⟨nd,rfl⟩⟩;refine ⟨_,rfl,?_⟩;(try (rw [drewN_self wc];generalize hq_ : World.drewN wc _ = wc;have n0_ : Aside0 (wc.heap[gb192]? = some (.cells #[.string x193000_16,.string x193001_16,.int .i64 x193002_16,.string x193003_16,.string x193004_16,.bool x193005_16] 31 (0,0))):=⟨by rw [← hq_];exact (xb_ BK192)⟩;have n1_ : Aside0 (wc.heap[gb193]? = some (.cells #[.string a0,.string t194,.int .i64 x194002_16,.string (⟨#[]⟩ : ByteArray),.string (⟨#[]⟩ : ByteArray),.bool false] 31 (0,0))):=⟨by rw [← hq_];exact (xb_ BK193)⟩;have n2_ : Aside0 (Below w.heap.size w wc):=⟨by rw [← hq_];exact (xw_ HB)⟩;clear BK192 BK193 HB hq_;have BK192:=n0_;have BK193:=n1_;have HB:=n2_;clear n0_ n1_ n2_));have hnb50:=NB193_192.out;have hnc50:=NB192_193.out;have ⟨_,_,_,_,_,_,_,_,_,_,_,_⟩:=c6_ BK193) | ((with_reducible refine gc_ 34 ?_);refine xgl_ (some 65) Tryz.func34 #[.agg #[.string a0,.string t194,.int .i64 x194002_16,.string t198,.string t199,.bool t200]] ?_;(with_reducible refine (spec_GoodUrl.calls kj16 a0 t194 x194002_16 t198 t199 t200 false _ A43.out).mono ?_);rintro e w52 ⟨rfl,hb⟩;refine ⟨_,rfl,?_⟩;replace BK192:=mxb_ (o':=.cells #[.string x193000_16,.string x193001_16,.int .i64 x193002_16,.string x193003_16,.string x193004_16,.bool x193005_16] 31 (0,0)) BK192 hb;replace BK193:=mxb_ (o':=.cells #[.string a0,.string t194,.int .i64 x194002_16,.string t198,.string t199,.bool t200] 31 (0,0)) BK193 hb;replace HB:=xws_ HB hb;(try clear hb);have ⟨_,_,_,_,_,_,_,_,_,_,_,_⟩:=c6_ BK192))
       refine bodyPost_ret (results_ct rfl _ _ gb192 31 #[.string (⟨#[]⟩ : ByteArray),.string (⟨#[]⟩ : ByteArray),.int .i64 0,.string (⟨#[]⟩ : ByteArray),.string (⟨#[]⟩ : ByteArray),.bool false] (0,0) _ rfl (mx_ BK192) Tryz.underlying31 rfl (by kernel_rfl)) rfl ?_
       exact ⟨mf_,xw_ HB⟩

/-! ### spec_l1Read: function 114 -/
def spec_l1Read.l0 : Nat → ByteArray → List ByteArray → Int → Int → Option (ByteArray × ByteArray × Int × ByteArray × ByteArray × Bool × Bool)
 | 0,_,_,_,_ => none
 | k + 1,x0,x11,x12,x13 => if x13 < x12 then (if 0 ≤ x13 then (if x13 < (x11.length : Int) then (if (x0.size : Int) > (wrap64 (((rdOf ByteArray.empty x11 x13).size : Int) + 3)) then (if 0 ≤ (wrap64 (((rdOf ByteArray.empty x11 x13).size : Int) + 3)) then (if (wrap64 (((rdOf ByteArray.empty x11 x13).size : Int) + 3)) ≤ (x0.size : Int) then (if (rdOf ByteArray.empty x11 x13).size + 3 ≤ 9223372036854775807 then (if (x0.extract 0 ((wrap64 (((rdOf ByteArray.empty x11 x13).size : Int) + 3)) : Int).toNat).toList = ((rdOf ByteArray.empty x11 x13) ++ (⟨#[58,47,47]⟩ : ByteArray)).toList then ((spec_l1Authority.f k (rdOf ByteArray.empty x11 x13) (x0.extract ((wrap64 (((rdOf ByteArray.empty x11 x13).size : Int) + 3)) : Int).toNat x0.size)).bind fun bt208 => (some (bt208.1,bt208.2.1,bt208.2.2.1,bt208.2.2.2.1,bt208.2.2.2.2.1,bt208.2.2.2.2.2.1,bt208.2.2.2.2.2.2))) else (spec_l1Read.l0 k x0 x11 x12 (wrap64 (x13 + 1)))) else (none)) else (none)) else (none)) else (spec_l1Read.l0 k x0 x11 x12 (wrap64 (x13 + 1)))) else (none)) else (none)) else (some ((⟨#[]⟩ : ByteArray),(⟨#[]⟩ : ByteArray),0,(⟨#[]⟩ : ByteArray),(⟨#[]⟩ : ByteArray),false,false))
def spec_l1Read.f (k : Nat) (a0 : ByteArray) : Option (ByteArray × ByteArray × Int × ByteArray × ByteArray × Bool × Bool):=if (a0.size : Int) > 200 then (some ((⟨#[]⟩ : ByteArray),(⟨#[]⟩ : ByteArray),0,(⟨#[]⟩ : ByteArray),(⟨#[]⟩ : ByteArray),false,false)) else ((some (([(⟨#[104,116,116,112]⟩ : ByteArray),(⟨#[104,116,116,112,115]⟩ : ByteArray)] : List ByteArray) : List ByteArray)).bind fun y204 => (spec_l1Read.l0 k a0 y204 (y204.length : Int) 0))
set_option maxHeartbeats 8000000 in
set_option maxRecDepth 100000 in
theorem spec_l1Read.calls (k : Nat) (a0 : ByteArray) (r1 : ByteArray) (r2 : ByteArray) (r3 : Int) (r4 : ByteArray) (r5 : ByteArray) (r6 : Bool) (r7 : Bool) (w : World) (h : spec_l1Read.f k a0 = some (r1,r2,r3,r4,r5,r6,r7)) :
  Calls Tryz.prog 114 #[.string a0] w fun e w' => e = .returned (.tuple #[.agg #[.string r1,.string r2,.int .i64 r3,.string r4,.string r5,.bool r6],.bool r7]) ∧ Below w.heap.size w w':=by
 have hu31:=Tryz.underlying31
 have HB:=Aside0.mk (Below.refl w.heap.size w)
 have H:=h
 unfold spec_l1Read.f at H
 clear h
 by_cases c2 : (a0.size : Int) > 200
 ·rw [if_pos c2] at H
  have c2b0 : decide (200 < (a0.size : Int)) = true:=decide_eq_true c2
  have c2b1 : decide (200 < a0.size) = true:=decide_eq_true (by omega)
  clear c2
  simp only [Option.some.injEq,Prod.mk.injEq] at H
  obtain ⟨rfl,rfl,rfl,rfl,rfl,rfl,rfl⟩:=H
  go_enter Tryz.func114,Tryz.ntmps114
  go_wp2_with (first | ((with_reducible refine gd_ 2 ?_);refine xbe_ (N:=2) (cs:=#[.string (⟨#[]⟩ : ByteArray),.string (⟨#[]⟩ : ByteArray),.int .i64 0,.string (⟨#[]⟩ : ByteArray),.string (⟨#[]⟩ : ByteArray),.bool false]) (t:=31) ?_;intro gb203 hg w3 hbox hb;have BK203:=Aside0.mk (hbox);have GE203:=xge_ HB hg;replace HB:=xws_ HB hb;clear hb hbox hg;have ⟨_,_,_,_,_,_,_,_,_,_,_,_⟩:=c6_ BK203))
  refine bodyPost_ret (results_ct rfl _ _ gb203 31 #[.string (⟨#[]⟩ : ByteArray),.string (⟨#[]⟩ : ByteArray),.int .i64 0,.string (⟨#[]⟩ : ByteArray),.string (⟨#[]⟩ : ByteArray),.bool false] (0,0) _ rfl (mx_ BK203) Tryz.underlying31 rfl (by kernel_rfl)) rfl ?_
  exact ⟨mf_,xw_ HB⟩
 ·rw [if_neg c2] at H
  have c2b0 : decide (200 < (a0.size : Int)) = false:=decide_eq_false c2
  have c2b1 : decide (200 < a0.size) = false:=decide_eq_false (by omega)
  clear c2
  obtain ⟨y204,hy204⟩ : ∃ y_ : List ByteArray,y_ = (([(⟨#[104,116,116,112]⟩ : ByteArray),(⟨#[104,116,116,112,115]⟩ : ByteArray)] : List ByteArray)):=⟨_,rfl⟩
  replace H : (spec_l1Read.l0 k a0 y204 (y204.length : Int) 0) = some (r1,r2,r3,r4,r5,r6,r7):=by first | (rw [hy204];with_reducible exact H) | (have H2_:=(Option.bind_some _ _).symm.trans H;rw [hy204];with_reducible exact H2_) | (have H2_:=(Option.bind_some _ _).symm.trans H;with_reducible exact H2_) | with_reducible exact H | (rw [hy204];exact H) | exact H
  have Ny204:=Aside0.mk hy204
  clear hy204
  have H':=Aside0.mk H
  clear H
  go_enter Tryz.func114,Tryz.ntmps114
  go_wp2_with (first | ((with_reducible refine gd_ 2 ?_);refine xbe_ (N:=2) (cs:=#[.string (⟨#[]⟩ : ByteArray),.string (⟨#[]⟩ : ByteArray),.int .i64 0,.string (⟨#[]⟩ : ByteArray),.string (⟨#[]⟩ : ByteArray),.bool false]) (t:=31) ?_;intro gb203 hg w5 hbox hb;have BK203:=Aside0.mk (hbox);have GE203:=xge_ HB hg;replace HB:=xws_ HB hb;clear hb hbox hg) | ((with_reducible refine gd_ 11 ?_);refine Kd.R_lit Kd.string _ 9 ?hg (N:=11) ?hd (xs:=([(⟨#[104,116,116,112]⟩ : ByteArray),(⟨#[104,116,116,112,115]⟩ : ByteArray)] : List ByteArray)) (inner:=[.string (⟨#[104,116,116,112]⟩ : ByteArray),.string (⟨#[104,116,116,112,115]⟩ : ByteArray)]) (ok:=fun _ => True) (okp:=fun _ => True) ?hr ?hp (fun _ hk => hk) trivial (Below.refl _ _) (Nat.le_refl _) (by simp) ?_;(case hd => rfl);(case hg => rfl);(case hr => first | (go_simp;done) | (go_simp;rfl));(case hp => exact (Reps.one (show Kd.M Kd.string _ _ _ (⟨#[104,116,116,112]⟩ : ByteArray) [.string (⟨#[104,116,116,112]⟩ : ByteArray)] from rfl) (Reps.one (show Kd.M Kd.string _ _ _ (⟨#[104,116,116,112,115]⟩ : ByteArray) [.string (⟨#[104,116,116,112,115]⟩ : ByteArray)] from rfl) (Reps.none _ _))));intro v205 w6 ho7 hb hg_ hnew_;clear hg_ hnew_;(first | rw [← Ny204.out] at ho7 | (simp only [Int.reduceToNat] at ho7;rw [← Ny204.out] at ho7));have HO206:=Aside0.mk (Kd.R_lower ho7 (below_size (xw_ HB)));replace BK203:=xbb_ BK203 hb;replace HB:=xws_ HB hb;clear hb ho7;obtain ⟨Ao8,co8,eo8⟩:=Kd.R_slice HO206.out;subst eo8))
  go_loopg [13] k (fun kq v13 w' => ∃ (x13_1 : Int) (x204000_1 : ByteArray) (x204001_1 : ByteArray) (x204002_1 : Int) (x204003_1 : ByteArray) (x204004_1 : ByteArray) (x204005_1 : Bool),v13 = .int .i64 x13_1 ∧ Aside0 (spec_l1Read.l0 kq a0 y204 (y204.length : Int) x13_1 = some (r1,r2,r3,r4,r5,r6,r7)) ∧ Aside0 (kq ≤ k) ∧ Aside0 (Kd.R Kd.string 9 w' w.heap.size (fun _ => True) (.slice Ao8 y204.length co8) y204) ∧ Aside0 (w'.heap[gb203]? = some (.cells #[.string x204000_1,.string x204001_1,.int .i64 x204002_1,.string x204003_1,.string x204004_1,.bool x204005_1] 31 (0,0))) ∧ Aside0 (Below w.heap.size w w'))
  case atStart => exact ⟨(0),((⟨#[]⟩ : ByteArray)),((⟨#[]⟩ : ByteArray)),(0),((⟨#[]⟩ : ByteArray)),((⟨#[]⟩ : ByteArray)),(false),me_,H',⟨Nat.le_refl _⟩,⟨xr_ HO206⟩,⟨xb_ BK203⟩,⟨xw_ HB⟩⟩
  case round =>
   clear H'
   try clear c2
   try clear c2b0
   try clear c2b1
   obtain ⟨x13_1,x204000_1,x204001_1,x204002_1,x204003_1,x204004_1,x204005_1,rfl,HA,HK1,HO_11,BK203,HB⟩:=hrel
   cases gk with
   | zero => exact absurd HA.out (by simp [spec_l1Read.l0])
   | succ k1 =>
    have H:=HA.out
    clear HA
    simp only [spec_l1Read.l0] at H
    by_cases c9 : x13_1 < (y204.length : Int)
    ·rw [if_pos c9] at H
     have c9b0:=decide_eq_true c9
     clear c9
     replace H:=mi_ H
     obtain ⟨c10,H⟩:=H
     have c10b0:=decide_eq_true c10
     clear c10
     replace H:=mi_ H
     obtain ⟨c11,H⟩:=H
     have c11b0:=decide_eq_true c11
     clear c11
     by_cases c12 : (a0.size : Int) > (wrap64 (((rdOf ByteArray.empty y204 x13_1).size : Int) + 3))
     ·rw [if_pos c12] at H
      have c12b0 : decide ((wrap64 (((rdOf ByteArray.empty y204 x13_1).size : Int) + 3)) < (a0.size : Int)) = true:=decide_eq_true c12
      clear c12
      obtain ⟨ji13,hji13⟩ : ∃ j_ : Int,(wrap64 (((rdOf ByteArray.empty y204 x13_1).size : Int) + 3)) = j_:=⟨_,rfl⟩
      replace H : (if 0 ≤ (ji13) then (if (ji13) ≤ (a0.size : Int) then (if (rdOf ByteArray.empty y204 x13_1).size + 3 ≤ 9223372036854775807 then (if (a0.extract 0 ((ji13) : Int).toNat).toList = ((rdOf ByteArray.empty y204 x13_1) ++ (⟨#[58,47,47]⟩ : ByteArray)).toList then ((spec_l1Authority.f k1 (rdOf ByteArray.empty y204 x13_1) (a0.extract ((ji13) : Int).toNat a0.size)).bind fun bt208 => (some (bt208.1,bt208.2.1,bt208.2.2.1,bt208.2.2.2.1,bt208.2.2.2.2.1,bt208.2.2.2.2.2.1,bt208.2.2.2.2.2.2))) else (spec_l1Read.l0 k1 a0 y204 (y204.length : Int) (wrap64 (x13_1 + 1)))) else (none)) else (none)) else (none)) = some (r1,r2,r3,r4,r5,r6,r7):=by first | (rw [hji13] at H;exact H) | (simp only [hji13] at H ⊢;exact H)
      (try rw [hji13] at c12b0)
      have hji13w : (IntKind.i64.wrap (((rdOf ByteArray.empty y204 x13_1).size : Int) + 3)) = ji13:=(i64_w _).trans hji13
      replace H:=mi_ H
      obtain ⟨c14,H⟩:=H
      have c14b0:=eq_true c14
      have c14b1:=decide_eq_true c14
      clear c14
      replace H:=mi_ H
      obtain ⟨c15,H⟩:=H
      have c15b0:=eq_true c15
      have c15b1:=decide_eq_true c15
      clear c15
      replace H:=mi_ H
      obtain ⟨c16,H⟩:=H
      have c16b0:=eq_true c16
      have c16b1:=decide_eq_true c16
      try have c16b2 : (9223372036854775807 < (rdOf ByteArray.empty y204 x13_1).size + 3) = False:=eq_false (Nat.not_lt.2 c16)
      by_cases c17 : (a0.extract 0 ((ji13) : Int).toNat).toList = ((rdOf ByteArray.empty y204 x13_1) ++ (⟨#[58,47,47]⟩ : ByteArray)).toList
      ·rw [if_pos c17] at H
       have c17b0 : ((a0.extract 0 ((ji13) : Int).toNat).toList == ((rdOf ByteArray.empty y204 x13_1) ++ (⟨#[58,47,47]⟩ : ByteArray)).toList) = true:=beq_iff_eq.mpr c17
       have c17b1 : ((a0.extract 0 ((ji13) : Int).toNat).toList != ((rdOf ByteArray.empty y204 x13_1) ++ (⟨#[58,47,47]⟩ : ByteArray)).toList) = false:=bne_eq_false_iff_eq.mpr c17
       clear c17
       have c18b0:=eq_true (md_ : 0 ≤ (ji13))
       have c19b0:=eq_true (md_ : (ji13) ≤ (a0.size : Int))
       replace H:=mb_ H
       obtain ⟨⟨t208,t209,t210,t211,t212,t213,t214⟩,A20,H⟩:=H
       dsimp only at H
       simp only [Option.some.injEq,Prod.mk.injEq] at H
       obtain ⟨rfl,rfl,rfl,rfl,rfl,rfl,rfl⟩:=H
       have p207 : 0 ≤ (x13_1 : Int):=md_
       have q207 : x13_1 < (y204.length : Int):=md_
       obtain ⟨ad207,e207,hx207_0⟩:=Kd.at_string (Kd.R_reads' HO_11.out).2.2 x13_1 p207 q207
       cases e207
       replace p207:=eq_true p207
       replace q207:=eq_true q207
       go_wp2_with (first | ((with_reducible refine gc_ 115 ?_);refine goesL_ (some 36) rfl rfl Tryz.func115 (by kernel_rfl) rfl #[.string (rdOf ByteArray.empty y204 x13_1),.string (a0.extract ((ji13) : Int).toNat a0.size)] rfl (by (try simp only [List.map_toArray,List.map_cons,List.map_nil]);first | done | (simp only [hji13];rfl) | rfl | (simp only [List.length_drop,List.length_take];rfl)) ?_;(with_reducible refine (spec_l1Authority.calls k1 (rdOf ByteArray.empty y204 x13_1) (a0.extract ((ji13) : Int).toNat a0.size) t208 t209 t210 t211 t212 t213 t214 _ A20.out).mono ?_);rintro e w21 ⟨rfl,hb⟩;refine ⟨_,rfl,?_⟩;replace HO_11:=xrb_ HO_11 hb;replace BK203:=xbb_ BK203 hb;replace HB:=xws_ HB hb;(try clear hb);have ⟨_,_,_,_,_,_,_,_,_,_,_,_⟩:=c6_ BK203))
       refine bodyPost_ret (results_ct rfl _ _ gb203 31 #[.string t208,.string t209,.int .i64 t210,.string t211,.string t212,.bool t213] (0,0) _ rfl (mx_ BK203) Tryz.underlying31 rfl (by kernel_rfl)) rfl ?_
       exact ⟨by first | rfl | (simp [errW_none,errW_some] <;> rfl) | (simp only [← hji13];first | rfl | (simp [errW_none,errW_some] <;> rfl)) | (simp [*,errW_none,errW_some] <;> rfl),xw_ HB⟩
      ·rw [if_neg c17] at H
       have c17b0 : ((a0.extract 0 ((ji13) : Int).toNat).toList == ((rdOf ByteArray.empty y204 x13_1) ++ (⟨#[58,47,47]⟩ : ByteArray)).toList) = false:=beq_eq_false_iff_ne.mpr c17
       have c17b1 : ((a0.extract 0 ((ji13) : Int).toNat).toList != ((rdOf ByteArray.empty y204 x13_1) ++ (⟨#[58,47,47]⟩ : ByteArray)).toList) = true:=bne_iff_ne.mpr c17
       have H':=Aside0.mk H
       clear H
       have p207 : 0 ≤ (x13_1 : Int):=md_
       have q207 : x13_1 < (y204.length : Int):=md_
       obtain ⟨ad207,e207,hx207_0⟩:=Kd.at_string (Kd.R_reads' HO_11.out).2.2 x13_1 p207 q207
       cases e207
       replace p207:=eq_true p207
       replace q207:=eq_true q207
       go_wp2
       go_roundg k1
       case measure => have:=HK1.out;omega
       case rel => exact ⟨(wrap64 (x13_1 + 1)),(x204000_1),(x204001_1),(x204002_1),(x204003_1),(x204004_1),(x204005_1),me_,H',⟨by have:=HK1.out;omega⟩,⟨xr_ HO_11⟩,⟨xb_ BK203⟩,⟨xw_ HB⟩⟩
     ·rw [if_neg c12] at H
      have c12b0 : decide ((wrap64 (((rdOf ByteArray.empty y204 x13_1).size : Int) + 3)) < (a0.size : Int)) = false:=decide_eq_false c12
      clear c12
      have H':=Aside0.mk H
      clear H
      have p207 : 0 ≤ (x13_1 : Int):=md_
      have q207 : x13_1 < (y204.length : Int):=md_
      obtain ⟨ad207,e207,hx207_0⟩:=Kd.at_string (Kd.R_reads' HO_11.out).2.2 x13_1 p207 q207
      cases e207
      replace p207:=eq_true p207
      replace q207:=eq_true q207
      go_wp2
      go_roundg k1
      case measure => have:=HK1.out;omega
      case rel => exact ⟨(wrap64 (x13_1 + 1)),(x204000_1),(x204001_1),(x204002_1),(x204003_1),(x204004_1),(x204005_1),me_,H',⟨by have:=HK1.out;omega⟩,⟨xr_ HO_11⟩,⟨xb_ BK203⟩,⟨xw_ HB⟩⟩
    ·rw [if_neg c9] at H
     have c9b0:=decide_eq_false c9
     clear c9
     simp only [Option.some.injEq,Prod.mk.injEq] at H
     obtain ⟨rfl,rfl,rfl,rfl,rfl,rfl,rfl⟩:=H
     have ⟨_,_,_,_,_,_,_,_,_,_,_,_⟩:=c6_ BK203
     go_wp2
     refine bodyPost_ret (results_ct rfl _ _ gb203 31 #[.string (⟨#[]⟩ : ByteArray),.string (⟨#[]⟩ : ByteArray),.int .i64 0,.string (⟨#[]⟩ : ByteArray),.string (⟨#[]⟩ : ByteArray),.bool false] (0,0) _ rfl (mx_ BK203) Tryz.underlying31 rfl (by kernel_rfl)) rfl ?_
     exact ⟨mf_,xw_ HB⟩

end Go.Proofs.YtpggepjfhgalkaaGreatDoor.PFnExactKeyOf
