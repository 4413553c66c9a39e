-- Written by a program of this project (xprint.py) out of the translation; Lean checks it.
import Derived.Test.YtpggepjfhgalkaaGreatDoorPFnExactKeyOfx0
import Derived.Test.YtpggepjfhgalkaaGreatDoorPFnExactKeyOfx1
import Derived.Test.YtpggepjfhgalkaaGreatDoorPFnExactKeyOfx2
import Derived.Test.YtpggepjfhgalkaaGreatDoorPFnExactKeyOfx3
import Derived.Test.YtpggepjfhgalkaaGreatDoorPFnExactKeyOfx6
import Derived.Test.YtpggepjfhgalkaaGreatDoorPFnExactKeyOfx8
import Derived.Test.YtpggepjfhgalkaaGreatDoorPFnExactKeyOfx11
import Derived.Test.YtpggepjfhgalkaaGreatDoorPFnExactKeyOfx12
namespace Go.Proofs.YtpggepjfhgalkaaGreatDoor.PFnExactKeyOf
open Go.RowKit Go.Proofs.YtpggepjfhgalkaaGreatDoorW.PrintWords Go.Proofs.YtpggepjfhgalkaaGreatDoorW.PrintLast Go.Proofs.YtpggepjfhgalkaaGreatDoorW.PrintMore
attribute [local go_sem] max2_int min2_int max_two min_two max_three min_three max_four min_four   -- for this text's walks alone
set_option linter.unusedVariables false
set_option linter.unusedSimpArgs false

/-! ### spec_l1Percent: function 157 -/
def spec_l1Percent.f (a0 : Int) : Option (ByteArray):=if 0 ≤ (a0 / 16) then (if (a0 / 16) ≤ (((a0 / 16) + 1) % 256) then (if (((a0 / 16) + 1) % 256) ≤ 16 then (if 1 + ((⟨#[48,49,50,51,52,53,54,55,56,57,65,66,67,68,69,70]⟩ : ByteArray).extract ((a0 / 16) : Int).toNat ((((a0 / 16) + 1) % 256) : Int).toNat).size ≤ 9223372036854775807 then (if 0 ≤ (Go.bits .and .u8 a0 15) then (if (Go.bits .and .u8 a0 15) ≤ (((Go.bits .and .u8 a0 15) + 1) % 256) then (if (((Go.bits .and .u8 a0 15) + 1) % 256) ≤ 16 then (if ((⟨#[37]⟩ : ByteArray) ++ ((⟨#[48,49,50,51,52,53,54,55,56,57,65,66,67,68,69,70]⟩ : ByteArray).extract ((a0 / 16) : Int).toNat ((((a0 / 16) + 1) % 256) : Int).toNat)).size + ((⟨#[48,49,50,51,52,53,54,55,56,57,65,66,67,68,69,70]⟩ : ByteArray).extract ((Go.bits .and .u8 a0 15) : Int).toNat ((((Go.bits .and .u8 a0 15) + 1) % 256) : Int).toNat).size ≤ 9223372036854775807 then (some (((⟨#[37]⟩ : ByteArray) ++ ((⟨#[48,49,50,51,52,53,54,55,56,57,65,66,67,68,69,70]⟩ : ByteArray).extract ((a0 / 16) : Int).toNat ((((a0 / 16) + 1) % 256) : Int).toNat)) ++ ((⟨#[48,49,50,51,52,53,54,55,56,57,65,66,67,68,69,70]⟩ : ByteArray).extract ((Go.bits .and .u8 a0 15) : Int).toNat ((((Go.bits .and .u8 a0 15) + 1) % 256) : Int).toNat))) else (none)) else (none)) else (none)) else (none)) else (none)) else (none)) else (none)) else (none)
set_option maxHeartbeats 8000000 in
set_option maxRecDepth 100000 in
theorem spec_l1Percent.calls (a0 : Int) (r : ByteArray) (w : World) (h : spec_l1Percent.f a0 = some r) :
  Calls Tryz.prog 157 #[.int .u8 a0] w fun e w' => e = .returned (.string r) ∧ Drawn0 w w':=by
 have H:=h
 unfold spec_l1Percent.f at H
 clear h
 obtain ⟨ji2,hji2⟩ : ∃ j_ : Int,(a0 / 16) = j_:=⟨_,rfl⟩
 replace H : (if 0 ≤ (ji2) then (if (ji2) ≤ (((ji2) + 1) % 256) then (if (((ji2) + 1) % 256) ≤ 16 then (if 1 + ((⟨#[48,49,50,51,52,53,54,55,56,57,65,66,67,68,69,70]⟩ : ByteArray).extract ((ji2) : Int).toNat ((((ji2) + 1) % 256) : Int).toNat).size ≤ 9223372036854775807 then (if 0 ≤ (Go.bits .and .u8 a0 15) then (if (Go.bits .and .u8 a0 15) ≤ (((Go.bits .and .u8 a0 15) + 1) % 256) then (if (((Go.bits .and .u8 a0 15) + 1) % 256) ≤ 16 then (if ((⟨#[37]⟩ : ByteArray) ++ ((⟨#[48,49,50,51,52,53,54,55,56,57,65,66,67,68,69,70]⟩ : ByteArray).extract ((ji2) : Int).toNat ((((ji2) + 1) % 256) : Int).toNat)).size + ((⟨#[48,49,50,51,52,53,54,55,56,57,65,66,67,68,69,70]⟩ : ByteArray).extract ((Go.bits .and .u8 a0 15) : Int).toNat ((((Go.bits .and .u8 a0 15) + 1) % 256) : Int).toNat).size ≤ 9223372036854775807 then (some (((⟨#[37]⟩ : ByteArray) ++ ((⟨#[48,49,50,51,52,53,54,55,56,57,65,66,67,68,69,70]⟩ : ByteArray).extract ((ji2) : Int).toNat ((((ji2) + 1) % 256) : Int).toNat)) ++ ((⟨#[48,49,50,51,52,53,54,55,56,57,65,66,67,68,69,70]⟩ : ByteArray).extract ((Go.bits .and .u8 a0 15) : Int).toNat ((((Go.bits .and .u8 a0 15) + 1) % 256) : Int).toNat))) else (none)) else (none)) else (none)) else (none)) else (none)) else (none)) else (none)) else (none)) = some r:=by first | (rw [hji2] at H;exact H) | (simp only [hji2] at H ⊢;exact H)
 replace H:=mi_ H
 obtain ⟨c3,H⟩:=H
 have c3b0:=eq_true c3
 have c3b1:=decide_eq_true c3
 clear c3
 replace H:=mi_ H
 obtain ⟨c4,H⟩:=H
 have c4b0:=eq_true c4
 have c4b1:=decide_eq_true c4
 replace H:=mi_ H
 obtain ⟨c5,H⟩:=H
 have c5b0:=eq_true c5
 have c5b1:=decide_eq_true c5
 replace H:=mi_ H
 obtain ⟨c6,H⟩:=H
 have c6b0:=eq_true c6
 have c6b1:=decide_eq_true c6
 try have c6b2 : (9223372036854775807 < 1 + ((⟨#[48,49,50,51,52,53,54,55,56,57,65,66,67,68,69,70]⟩ : ByteArray).extract ((ji2) : Int).toNat ((((ji2) + 1) % 256) : Int).toNat).size) = False:=eq_false (Nat.not_lt.2 c6)
 replace H:=mi_ H
 obtain ⟨c7,H⟩:=H
 have c7b0:=eq_true c7
 have c7b1:=decide_eq_true c7
 clear c7
 replace H:=mi_ H
 obtain ⟨c8,H⟩:=H
 have c8b0:=eq_true c8
 have c8b1:=decide_eq_true c8
 replace H:=mi_ H
 obtain ⟨c9,H⟩:=H
 have c9b0:=eq_true c9
 have c9b1:=decide_eq_true c9
 replace H:=mi_ H
 obtain ⟨c10,H⟩:=H
 have c10b0:=eq_true c10
 have c10b1:=decide_eq_true c10
 try have c10b2 : (9223372036854775807 < ((⟨#[37]⟩ : ByteArray) ++ ((⟨#[48,49,50,51,52,53,54,55,56,57,65,66,67,68,69,70]⟩ : ByteArray).extract ((ji2) : Int).toNat ((((ji2) + 1) % 256) : Int).toNat)).size + ((⟨#[48,49,50,51,52,53,54,55,56,57,65,66,67,68,69,70]⟩ : ByteArray).extract ((Go.bits .and .u8 a0 15) : Int).toNat ((((Go.bits .and .u8 a0 15) + 1) % 256) : Int).toNat).size) = False:=eq_false (Nat.not_lt.2 c10)
 obtain rfl:=Option.some.inj H
 go_enter Tryz.func157,Tryz.ntmps157
 go_wp2
 repeat (go_quiet (fail);try go_wp2)
 go_ret
 exact ⟨by first | rfl | (simp;done) | (simp only [← hji2] <;> (first | rfl | simp)) | (simp [*];done),by repeat (first | exact Drawn0.refl _ | apply Drawn0.step)⟩

/-! ### spec_l1Plain: function 118 -/
def spec_l1Plain.l0 : Nat → ByteArray → ByteArray → Int → Option (ByteArray)
 | 0,_,_,_ => none
 | k + 1,x0,x3,x4 => if x4 < (x0.size : Int) then ((spec_l1Byte.f k x0 x4).bind fun t248 => (if t248 < 0 then (if 0 ≤ x4 then (if x4 ≤ (wrap64 (x4 + 1)) then (if (wrap64 (x4 + 1)) ≤ (x0.size : Int) then (if x3.size + (x0.extract (x4 : Int).toNat ((wrap64 (x4 + 1)) : Int).toNat).size ≤ 9223372036854775807 then (spec_l1Plain.l0 k x0 (x3 ++ (x0.extract (x4 : Int).toNat ((wrap64 (x4 + 1)) : Int).toNat)) (wrap64 (x4 + 1))) else (none)) else (none)) else (none)) else (none)) else ((spec_l1Free.f ((t248) % 256)).bind fun t249 => (if t249 = true then ((some (([(t248) % 256] : List Int) : List Int)).bind fun y250 => (if x3.size + (strOfNums y250).size ≤ 9223372036854775807 then (spec_l1Plain.l0 k x0 (x3 ++ (strOfNums y250)) (wrap64 ((wrap64 (x4 + 2)) + 1))) else (none))) else ((spec_l1Percent.f ((t248) % 256)).bind fun t253 => (if x3.size + t253.size ≤ 9223372036854775807 then (spec_l1Plain.l0 k x0 (x3 ++ t253) (wrap64 ((wrap64 (x4 + 2)) + 1))) else (none))))))) else (some x3)
def spec_l1Plain.f (k : Nat) (a0 : ByteArray) : Option (ByteArray):=spec_l1Plain.l0 k a0 (⟨#[]⟩ : ByteArray) 0
set_option maxHeartbeats 8000000 in
set_option maxRecDepth 100000 in
theorem spec_l1Plain.calls (k : Nat) (a0 : ByteArray) (r : ByteArray) (w : World) (h : spec_l1Plain.f k a0 = some r) :
  Calls Tryz.prog 118 #[.string a0] w fun e w' => e = .returned (.string r) ∧ Below w.heap.size w w':=by
 have HB:=Aside0.mk (Below.refl w.heap.size w)
 have H:=h
 unfold spec_l1Plain.f at H
 clear h
 have H':=Aside0.mk H
 clear H
 go_enter Tryz.func118,Tryz.ntmps118
 go_wp2
 go_loopg [3,4] k (fun kq v3 v4 w' => ∃ (x3_1 : ByteArray) (x4_1 : Int),v3 = .string x3_1 ∧ v4 = .int .i64 x4_1 ∧ Aside0 (spec_l1Plain.l0 kq a0 x3_1 x4_1 = some r) ∧ Aside0 (kq ≤ k) ∧ Aside0 (Below w.heap.size w w'))
 case atStart => exact ⟨((⟨#[]⟩ : ByteArray)),(0),me_,me_,H',⟨Nat.le_refl _⟩,⟨xw_ HB⟩⟩
 case round =>
  clear H'
  obtain ⟨x3_1,x4_1,rfl,rfl,HA,HK1,HB⟩:=hrel
  cases gk with
  | zero => exact absurd HA.out (by simp [spec_l1Plain.l0])
  | succ k1 =>
   have H:=HA.out
   clear HA
   simp only [spec_l1Plain.l0] at H
   by_cases c2 : x4_1 < (a0.size : Int)
   ·rw [if_pos c2] at H
    have c2b0:=decide_eq_true c2
    clear c2
    replace H:=mb_ H
    obtain ⟨t248,A3,H⟩:=H
    by_cases c4 : t248 < 0
    ·rw [if_pos c4] at H
     have c4b0:=decide_eq_true c4
     clear c4
     replace H:=mi_ H
     obtain ⟨c5,H⟩:=H
     have c5b0:=eq_true c5
     have c5b1:=decide_eq_true c5
     clear c5
     replace H:=mi_ H
     obtain ⟨c6,H⟩:=H
     have c6b0:=eq_true c6
     have c6b1:=decide_eq_true c6
     replace H:=mi_ H
     obtain ⟨c7,H⟩:=H
     have c7b0:=eq_true c7
     have c7b1:=decide_eq_true c7
     replace H:=mi_ H
     obtain ⟨c8,H⟩:=H
     have c8b0:=eq_true c8
     have c8b1:=decide_eq_true c8
     try have c8b2 : (9223372036854775807 < x3_1.size + (a0.extract (x4_1 : Int).toNat ((wrap64 (x4_1 + 1)) : Int).toNat).size) = False:=eq_false (Nat.not_lt.2 c8)
     have H':=Aside0.mk H
     clear H
     go_wp2_with (first | ((with_reducible refine gc_ 109 ?_);refine xgl_ (some 14) Tryz.func109 #[.string a0,.int .i64 x4_1] ?_;(with_reducible refine (spec_l1Byte.calls k1 a0 x4_1 t248 _ A3.out).mono ?_);rintro e w' ⟨rfl,⟨nd,rfl⟩⟩;refine ⟨_,rfl,?_⟩))
     go_roundg k1
     case measure => have:=HK1.out;omega
     case rel => exact ⟨(x3_1 ++ (a0.extract (x4_1 : Int).toNat ((wrap64 (x4_1 + 1)) : Int).toNat)),(wrap64 (x4_1 + 1)),me_,me_,H',⟨by have:=HK1.out;omega⟩,⟨xw_ HB⟩⟩
    ·rw [if_neg c4] at H
     have c4b0:=decide_eq_false c4
     clear c4
     replace H:=mb_ H
     obtain ⟨t249,A9,H⟩:=H
     by_cases c10 : t249 = true
     ·subst c10
      rw [if_pos rfl] at H
      obtain ⟨y250,hy250⟩ : ∃ y_ : List Int,y_ = (([(t248) % 256] : List Int)):=⟨_,rfl⟩
      replace H : (if x3_1.size + (strOfNums y250).size ≤ 9223372036854775807 then (spec_l1Plain.l0 k1 a0 (x3_1 ++ (strOfNums y250)) (wrap64 ((wrap64 (x4_1 + 2)) + 1))) else (none)) = some r:=by first | (rw [hy250];with_reducible exact H) | (have H2_:=(Option.bind_some _ _).symm.trans H;rw [hy250];with_reducible exact H2_) | (have H2_:=(Option.bind_some _ _).symm.trans H;with_reducible exact H2_) | with_reducible exact H | (rw [hy250];exact H) | exact H
      have Ny250:=Aside0.mk hy250
      clear hy250
      replace H:=mi_ H
      obtain ⟨c11,H⟩:=H
      have c11b0:=eq_true c11
      have c11b1:=decide_eq_true c11
      try have c11b2 : (9223372036854775807 < x3_1.size + (strOfNums y250).size) = False:=eq_false (Nat.not_lt.2 c11)
      have H':=Aside0.mk H
      clear H
      go_wp2_with (first | ((with_reducible refine gc_ 109 ?_);refine xgl_ (some 14) Tryz.func109 #[.string a0,.int .i64 x4_1] ?_;(with_reducible refine (spec_l1Byte.calls k1 a0 x4_1 t248 _ A3.out).mono ?_);rintro e w' ⟨rfl,⟨nd,rfl⟩⟩;refine ⟨_,rfl,?_⟩) | ((with_reducible refine gc_ 107 ?_);refine xgl_ (some 35) Tryz.func107 #[.int .u8 ((t248) % 256)] ?_;(with_reducible refine (spec_l1Free.calls ((t248) % 256) true _ A9.out).mono ?_);rintro e w' ⟨rfl,⟨nd,rfl⟩⟩;refine ⟨_,rfl,?_⟩) | ((with_reducible refine gd_ 39 ?_);refine Kd.R_lit (Kd.int .u8) _ 5 ?hg (N:=39) ?hd (xs:=([(t248) % 256] : List Int)) (inner:=[.int .u8 ((t248) % 256)]) (ok:=fun _ => True) (okp:=fun _ => True) ?hr ?hp (fun _ hk => hk) trivial (Below.refl _ _) (Nat.le_refl _) (by simp) ?_;(case hd => rfl);(case hg => rfl);(case hr => first | (go_simp;done) | (go_simp;rfl));(case hp => exact (Reps.one (show Kd.M (Kd.int .u8) _ _ _ ((t248) % 256) [.int .u8 ((t248) % 256)] from rfl) (Reps.none _ _)));intro v251 w12 ho13 hb hg_ hnew_;clear hg_ hnew_;(first | rw [← Ny250.out] at ho13 | (simp only [Int.reduceToNat] at ho13;rw [← Ny250.out] at ho13));have HO252:=Aside0.mk (Kd.R_lower ho13 (below_size (xw_ HB)));replace HB:=xws_ HB hb;clear hb ho13;have hcv14:=own_string (P:=Tryz.prog) Tryz.underlying120 Tryz.underlying5 Tryz.underlying9 (Kd.own_of_R HO252.out)))
      go_roundg k1
      case measure => have:=HK1.out;omega
      case rel => exact ⟨(x3_1 ++ (strOfNums y250)),(wrap64 ((wrap64 (x4_1 + 2)) + 1)),me_,me_,H',⟨by have:=HK1.out;omega⟩,⟨xw_ HB⟩⟩
     ·replace c10:=Bool.eq_false_iff.mpr c10
      subst c10
      rw [if_neg (show ¬ (false = true) by decide)] at H
      replace H:=mb_ H
      obtain ⟨t253,A15,H⟩:=H
      replace H:=mi_ H
      obtain ⟨c16,H⟩:=H
      have c16b0:=eq_true c16
      have c16b1:=decide_eq_true c16
      try have c16b2 : (9223372036854775807 < x3_1.size + t253.size) = False:=eq_false (Nat.not_lt.2 c16)
      have H':=Aside0.mk H
      clear H
      go_wp2_with (first | ((with_reducible refine gc_ 109 ?_);refine xgl_ (some 14) Tryz.func109 #[.string a0,.int .i64 x4_1] ?_;(with_reducible refine (spec_l1Byte.calls k1 a0 x4_1 t248 _ A3.out).mono ?_);rintro e w' ⟨rfl,⟨nd,rfl⟩⟩;refine ⟨_,rfl,?_⟩) | ((with_reducible refine gc_ 107 ?_);refine xgl_ (some 35) Tryz.func107 #[.int .u8 ((t248) % 256)] ?_;(with_reducible refine (spec_l1Free.calls ((t248) % 256) false _ A9.out).mono ?_);rintro e w' ⟨rfl,⟨nd,rfl⟩⟩;refine ⟨_,rfl,?_⟩) | ((with_reducible refine gc_ 157 ?_);refine xgl_ (some 18) Tryz.func157 #[.int .u8 ((t248) % 256)] ?_;(with_reducible refine (spec_l1Percent.calls ((t248) % 256) t253 _ A15.out).mono ?_);rintro e w' ⟨rfl,⟨nd,rfl⟩⟩;refine ⟨_,rfl,?_⟩))
      go_roundg k1
      case measure => have:=HK1.out;omega
      case rel => exact ⟨(x3_1 ++ t253),(wrap64 ((wrap64 (x4_1 + 2)) + 1)),me_,me_,H',⟨by have:=HK1.out;omega⟩,⟨xw_ HB⟩⟩
   ·rw [if_neg c2] at H
    have c2b0:=decide_eq_false c2
    clear c2
    obtain rfl:=Option.some.inj H
    go_wp2
    go_ret
    exact ⟨mf_,xw_ HB⟩

/-! ### spec_l1Normal: function 72 -/
def spec_l1Normal.j0 : Nat → Bool → ByteArray → ByteArray → Int → ByteArray → ByteArray → Bool → Option (ByteArray × ByteArray × Int × ByteArray × ByteArray × Bool)
 | 0,_,_,_,_,_,_,_ => none
 | k + 1,x24,x255000,x255001,x255002,x255003,x255004,x255005 => if x24 = true then ((spec_l1Plain.f k x255003).bind fun t257 => ((spec_l1Dots.f k t257).bind fun t258 => ((spec_l1Plain.f k x255004).bind fun t259 => (some (x255000,x255001,0,t258,t259,x255005))))) else ((spec_l1Plain.f k x255003).bind fun t260 => ((spec_l1Dots.f k t260).bind fun t261 => ((spec_l1Plain.f k x255004).bind fun t262 => (some (x255000,x255001,x255002,t261,t262,x255005)))))
def spec_l1Normal.f (k : Nat) (a0_0 : ByteArray) (a0_1 : ByteArray) (a0_2 : Int) (a0_3 : ByteArray) (a0_4 : ByteArray) (a0_5 : Bool) : Option (ByteArray × ByteArray × Int × ByteArray × ByteArray × Bool):=(spec_l1Lower.f a0_1).bind fun t256 => (if a0_0.toList = ([104,116,116,112] : List UInt8) then (if a0_2 = 80 then (spec_l1Normal.j0 k true a0_0 t256 a0_2 a0_3 a0_4 a0_5) else (if a0_0.toList = ([104,116,116,112,115] : List UInt8) then (spec_l1Normal.j0 k (a0_2 == 443) a0_0 t256 a0_2 a0_3 a0_4 a0_5) else (spec_l1Normal.j0 k false a0_0 t256 a0_2 a0_3 a0_4 a0_5))) else (if a0_0.toList = ([104,116,116,112,115] : List UInt8) then (spec_l1Normal.j0 k (a0_2 == 443) a0_0 t256 a0_2 a0_3 a0_4 a0_5) else (spec_l1Normal.j0 k false a0_0 t256 a0_2 a0_3 a0_4 a0_5)))
set_option maxHeartbeats 8000000 in
set_option maxRecDepth 100000 in
theorem spec_l1Normal.calls (k : Nat) (a0_0 : ByteArray) (a0_1 : ByteArray) (a0_2 : Int) (a0_3 : ByteArray) (a0_4 : ByteArray) (a0_5 : Bool) (r1 : ByteArray) (r2 : ByteArray) (r3 : Int) (r4 : ByteArray) (r5 : ByteArray) (r6 : Bool) (w : World) (h : spec_l1Normal.f k a0_0 a0_1 a0_2 a0_3 a0_4 a0_5 = some (r1,r2,r3,r4,r5,r6)) :
  Calls Tryz.prog 72 #[.agg #[.string a0_0,.string a0_1,.int .i64 a0_2,.string a0_3,.string a0_4,.bool a0_5]] w fun e w' => e = .returned (.agg #[.string r1,.string r2,.int .i64 r3,.string r4,.string r5,.bool r6]) ∧ Below w.heap.size w w':=by
 have hu31:=Tryz.underlying31
 have HB:=Aside0.mk (Below.refl w.heap.size w)
 have H:=h
 unfold spec_l1Normal.f at H
 clear h
 replace H:=mb_ H
 obtain ⟨t256,A2,H⟩:=H
 have HC3:=Aside0.mk H
 clear H
 go_enter Tryz.func72,Tryz.ntmps72
 go_upto_region 2 with (first | ((with_reducible refine gd_ 1 ?_);refine xbe_ (N:=1) (cs:=#[.string a0_0,.string a0_1,.int .i64 a0_2,.string a0_3,.string a0_4,.bool a0_5]) (t:=31) ?_;intro gb254 hg w4 hbox hb;have BK254:=Aside0.mk (hbox);have GE254:=xge_ HB hg;replace HB:=xws_ HB hb;clear hb hbox hg) | ((with_reducible refine gd_ 2 ?_);refine xbe_ (N:=2) (cs:=#[.string (⟨#[]⟩ : ByteArray),.string (⟨#[]⟩ : ByteArray),.int .i64 0,.string (⟨#[]⟩ : ByteArray),.string (⟨#[]⟩ : ByteArray),.bool false]) (t:=31) ?_;intro gb255 hg w5 hbox hb;have BK255:=Aside0.mk (hbox);have GE255:=xge_ HB hg;replace HB:=xws_ HB hb;have NB254_255:=xlt_ BK254 hg;have NB255_254:=xgt_ BK254 hg;replace BK254:=xbb_ BK254 hb;clear hb hbox hg;have hnb6:=NB254_255.out;have hnc6:=NB255_254.out;have ⟨_,_,_,_,_,_,_,_,_,_,_,_⟩:=c6_ BK254) | ((with_reducible refine gc_ 90 ?_);refine xgl_ (some 5) Tryz.func90 #[.string a0_1] ?_;(with_reducible refine (spec_l1Lower.calls a0_1 t256 _ A2.out).mono ?_);rintro e w8 ⟨rfl,hb⟩;refine ⟨_,rfl,?_⟩;replace BK254:=xbb_ BK254 hb;replace BK255:=xbb_ BK255 hb;replace HB:=xws_ HB hb;(try clear hb);have ⟨_,_,_,_,_,_,_,_,_,_,_,_⟩:=c6_ BK254))
 (try simp only [Act.put,List.setIfInBounds_toArray,List.set_cons_zero,List.set_cons_succ])
 go_cut [24] (fun v24 wc => ∃ (kq : Nat) (x24_2 : Bool),v24 = .bool x24_2 ∧ Aside0 (spec_l1Normal.j0 kq x24_2 a0_0 t256 a0_2 a0_3 a0_4 a0_5 = some (r1,r2,r3,r4,r5,r6)) ∧ Aside0 (kq ≤ k) ∧ Aside0 (wc.heap[gb254]? = some (.cells #[.string a0_0,.string t256,.int .i64 a0_2,.string a0_3,.string a0_4,.bool a0_5] 31 (0,0))) ∧ Aside0 (wc.heap[gb255]? = some (.cells #[.string (⟨#[]⟩ : ByteArray),.string (⟨#[]⟩ : ByteArray),.int .i64 0,.string (⟨#[]⟩ : ByteArray),.string (⟨#[]⟩ : ByteArray),.bool false] 31 (0,0))) ∧ Aside0 (Below w.heap.size w wc))
 case first =>
  have H:=HC3.out
  clear HC3
  by_cases c10 : a0_0.toList = ([104,116,116,112] : List UInt8)
  ·rw [if_pos c10] at H
   have c10b0 : (a0_0.toList == ([104,116,116,112] : List UInt8)) = true:=beq_iff_eq.mpr c10
   have c10b1 : (a0_0.toList != ([104,116,116,112] : List UInt8)) = false:=bne_eq_false_iff_eq.mpr c10
   clear c10
   (first | rw [c10b0] | (simp only [i64_w,i32_w];rw [c10b0]) | skip)
   by_cases c11 : a0_2 = 80
   ·rw [if_pos c11] at H
    have c11b0 : (a0_2 == 80) = true:=beq_iff_eq.mpr c11
    have c11b1 : (a0_2 != 80) = false:=bne_eq_false_iff_eq.mpr c11
    clear c11
    have H':=Aside0.mk H
    clear H
    have hnb12:=NB254_255.out
    have hnc12:=NB255_254.out
    have ⟨_,_,_,_,_,_,_,_,_,_,_,_⟩:=c6_ BK254
    go_wp2
    go_meet
    case rel => exact ⟨_,(true),me_,H',⟨by first | omega | exact Nat.le_refl _⟩,⟨mx_ BK254⟩,⟨mx_ BK255⟩,⟨xw_ HB⟩⟩
   ·rw [if_neg c11] at H
    have c11b0 : (a0_2 == 80) = false:=beq_eq_false_iff_ne.mpr c11
    have c11b1 : (a0_2 != 80) = true:=bne_iff_ne.mpr c11
    by_cases c14 : a0_0.toList = ([104,116,116,112,115] : List UInt8)
    ·rw [if_pos c14] at H
     have c14b0 : (a0_0.toList == ([104,116,116,112,115] : List UInt8)) = true:=beq_iff_eq.mpr c14
     have c14b1 : (a0_0.toList != ([104,116,116,112,115] : List UInt8)) = false:=bne_eq_false_iff_eq.mpr c14
     clear c14
     have H':=Aside0.mk H
     clear H
     have hnb15:=NB254_255.out
     have hnc15:=NB255_254.out
     have ⟨_,_,_,_,_,_,_,_,_,_,_,_⟩:=c6_ BK254
     go_wp2
     go_meet
     case rel => exact ⟨_,((a0_2 == 443)),me_,H',⟨by first | omega | exact Nat.le_refl _⟩,⟨mx_ BK254⟩,⟨mx_ BK255⟩,⟨xw_ HB⟩⟩
    ·rw [if_neg c14] at H
     have c14b0 : (a0_0.toList == ([104,116,116,112,115] : List UInt8)) = false:=beq_eq_false_iff_ne.mpr c14
     have c14b1 : (a0_0.toList != ([104,116,116,112,115] : List UInt8)) = true:=bne_iff_ne.mpr c14
     have H':=Aside0.mk H
     clear H
     have hnb17:=NB254_255.out
     have hnc17:=NB255_254.out
     have ⟨_,_,_,_,_,_,_,_,_,_,_,_⟩:=c6_ BK254
     go_wp2
     go_meet
     case rel => exact ⟨_,(false),me_,H',⟨by first | omega | exact Nat.le_refl _⟩,⟨mx_ BK254⟩,⟨mx_ BK255⟩,⟨xw_ HB⟩⟩
  ·rw [if_neg c10] at H
   have c10b0 : (a0_0.toList == ([104,116,116,112] : List UInt8)) = false:=beq_eq_false_iff_ne.mpr c10
   have c10b1 : (a0_0.toList != ([104,116,116,112] : List UInt8)) = true:=bne_iff_ne.mpr c10
   (first | rw [c10b0] | (simp only [i64_w,i32_w];rw [c10b0]) | skip)
   by_cases c19 : a0_0.toList = ([104,116,116,112,115] : List UInt8)
   ·rw [if_pos c19] at H
    have c19b0 : (a0_0.toList == ([104,116,116,112,115] : List UInt8)) = true:=beq_iff_eq.mpr c19
    have c19b1 : (a0_0.toList != ([104,116,116,112,115] : List UInt8)) = false:=bne_eq_false_iff_eq.mpr c19
    clear c19
    have H':=Aside0.mk H
    clear H
    have hnb20:=NB254_255.out
    have hnc20:=NB255_254.out
    have ⟨_,_,_,_,_,_,_,_,_,_,_,_⟩:=c6_ BK254
    go_wp2
    go_meet
    case rel => exact ⟨_,((a0_2 == 443)),me_,H',⟨by first | omega | exact Nat.le_refl _⟩,⟨mx_ BK254⟩,⟨mx_ BK255⟩,⟨xw_ HB⟩⟩
   ·rw [if_neg c19] at H
    have c19b0 : (a0_0.toList == ([104,116,116,112,115] : List UInt8)) = false:=beq_eq_false_iff_ne.mpr c19
    have c19b1 : (a0_0.toList != ([104,116,116,112,115] : List UInt8)) = true:=bne_iff_ne.mpr c19
    have H':=Aside0.mk H
    clear H
    have hnb22:=NB254_255.out
    have hnc22:=NB255_254.out
    have ⟨_,_,_,_,_,_,_,_,_,_,_,_⟩:=c6_ BK254
    go_wp2
    go_meet
    case rel => exact ⟨_,(false),me_,H',⟨by first | omega | exact Nat.le_refl _⟩,⟨mx_ BK254⟩,⟨mx_ BK255⟩,⟨xw_ HB⟩⟩
 case rest =>
  clear HC3
  obtain ⟨kq,x24_2,rfl,HA,HJ2,BK254,BK255,HB⟩:=hcut
  cases kq with
  | zero => exact absurd HA.out (by simp [spec_l1Normal.j0])
  | succ kj2 =>
   have H:=HA.out
   clear HA
   simp only [spec_l1Normal.j0] at H
   by_cases c24 : x24_2 = true
   ·subst c24
    rw [if_pos rfl] at H
    replace H:=mb_ H
    obtain ⟨t257,A25,H⟩:=H
    replace H:=mb_ H
    obtain ⟨t258,A26,H⟩:=H
    replace H:=mb_ H
    obtain ⟨t259,A27,H⟩:=H
    simp only [Option.some.injEq,Prod.mk.injEq] at H
    obtain ⟨rfl,rfl,rfl,rfl,rfl,rfl⟩:=H
    have hnb28:=NB254_255.out
    have hnc28:=NB255_254.out
    have ⟨_,_,_,_,_,_,_,_,_,_,_,_⟩:=c6_ BK254
    go_wp2_with (first | ((with_reducible refine gc_ 118 ?_);refine xgl_ (some 28) Tryz.func118 #[.string a0_3] ?_;(with_reducible refine (spec_l1Plain.calls kj2 a0_3 t257 _ A25.out).mono ?_);rintro e w30 ⟨rfl,hb⟩;refine ⟨_,rfl,?_⟩;replace BK254:=mxb_ (o':=.cells #[.string a0_0,.string t256,.int .i64 0,.string a0_3,.string a0_4,.bool a0_5] 31 (0,0)) BK254 hb;replace BK255:=mxb_ (o':=.cells #[.string (⟨#[]⟩ : ByteArray),.string (⟨#[]⟩ : ByteArray),.int .i64 0,.string (⟨#[]⟩ : ByteArray),.string (⟨#[]⟩ : ByteArray),.bool false] 31 (0,0)) BK255 hb;replace HB:=xws_ HB hb;(try clear hb)) | ((with_reducible refine gc_ 117 ?_);refine xgl_ (some 29) Tryz.func117 #[.string t257] ?_;(with_reducible refine (spec_l1Dots.calls kj2 t257 t258 _ A26.out).mono ?_);rintro e w31 ⟨rfl,hb⟩;refine ⟨_,rfl,?_⟩;replace BK254:=xbb_ BK254 hb;replace BK255:=xbb_ BK255 hb;replace HB:=xws_ HB hb;(try clear hb);have ⟨_,_,_,_,_,_,_,_,_,_,_,_⟩:=c6_ BK254) | ((with_reducible refine gc_ 118 ?_);refine xgl_ (some 33) Tryz.func118 #[.string a0_4] ?_;(with_reducible refine (spec_l1Plain.calls kj2 a0_4 t259 _ A27.out).mono ?_);rintro e w33 ⟨rfl,hb⟩;refine ⟨_,rfl,?_⟩;replace BK254:=mxb_ (o':=.cells #[.string a0_0,.string t256,.int .i64 0,.string t258,.string a0_4,.bool a0_5] 31 (0,0)) BK254 hb;replace BK255:=mxb_ (o':=.cells #[.string (⟨#[]⟩ : ByteArray),.string (⟨#[]⟩ : ByteArray),.int .i64 0,.string (⟨#[]⟩ : ByteArray),.string (⟨#[]⟩ : ByteArray),.bool false] 31 (0,0)) BK255 hb;replace HB:=xws_ HB hb;(try clear hb);have ⟨_,_,_,_,_,_,_,_,_,_,_,_⟩:=c6_ BK254;have ⟨_,_,_,_,_,_,_,_,_,_,_,_⟩:=c6_ BK255))
    refine bodyPost_ret (results_cell_row rfl _ _ gb255 31 #[.string a0_0,.string t256,.int .i64 0,.string t258,.string t259,.bool a0_5] (0,0) _ rfl (mx_ BK255) Tryz.underlying31 rfl (by kernel_rfl)) rfl ?_
    exact ⟨mf_,xw_ HB⟩
   ·replace c24:=Bool.eq_false_iff.mpr c24
    subst c24
    rw [if_neg (show ¬ (false = true) by decide)] at H
    replace H:=mb_ H
    obtain ⟨t260,A36,H⟩:=H
    replace H:=mb_ H
    obtain ⟨t261,A37,H⟩:=H
    replace H:=mb_ H
    obtain ⟨t262,A38,H⟩:=H
    simp only [Option.some.injEq,Prod.mk.injEq] at H
    obtain ⟨rfl,rfl,rfl,rfl,rfl,rfl⟩:=H
    have hnb39:=NB254_255.out
    have hnc39:=NB255_254.out
    have ⟨_,_,_,_,_,_,_,_,_,_,_,_⟩:=c6_ BK254
    go_wp2_with (first | ((with_reducible refine gc_ 118 ?_);refine xgl_ (some 28) Tryz.func118 #[.string a0_3] ?_;(with_reducible refine (spec_l1Plain.calls kj2 a0_3 t260 _ A36.out).mono ?_);rintro e w41 ⟨rfl,hb⟩;refine ⟨_,rfl,?_⟩;replace BK254:=xbb_ BK254 hb;replace BK255:=xbb_ BK255 hb;replace HB:=xws_ HB hb;(try clear hb)) | ((with_reducible refine gc_ 117 ?_);refine xgl_ (some 29) Tryz.func117 #[.string t260] ?_;(with_reducible refine (spec_l1Dots.calls kj2 t260 t261 _ A37.out).mono ?_);rintro e w42 ⟨rfl,hb⟩;refine ⟨_,rfl,?_⟩;replace BK254:=xbb_ BK254 hb;replace BK255:=xbb_ BK255 hb;replace HB:=xws_ HB hb;(try clear hb);have ⟨_,_,_,_,_,_,_,_,_,_,_,_⟩:=c6_ BK254) | ((with_reducible refine gc_ 118 ?_);refine xgl_ (some 33) Tryz.func118 #[.string a0_4] ?_;(with_reducible refine (spec_l1Plain.calls kj2 a0_4 t262 _ A38.out).mono ?_);rintro e w44 ⟨rfl,hb⟩;refine ⟨_,rfl,?_⟩;replace BK254:=mxb_ (o':=.cells #[.string a0_0,.string t256,.int .i64 a0_2,.string t261,.string a0_4,.bool a0_5] 31 (0,0)) BK254 hb;replace BK255:=mxb_ (o':=.cells #[.string (⟨#[]⟩ : ByteArray),.string (⟨#[]⟩ : ByteArray),.int .i64 0,.string (⟨#[]⟩ : ByteArray),.string (⟨#[]⟩ : ByteArray),.bool false] 31 (0,0)) BK255 hb;replace HB:=xws_ HB hb;(try clear hb);have ⟨_,_,_,_,_,_,_,_,_,_,_,_⟩:=c6_ BK254;have ⟨_,_,_,_,_,_,_,_,_,_,_,_⟩:=c6_ BK255))
    refine bodyPost_ret (results_cell_row rfl _ _ gb255 31 #[.string a0_0,.string t256,.int .i64 a0_2,.string t261,.string t262,.bool a0_5] (0,0) _ rfl (mx_ BK255) Tryz.underlying31 rfl (by kernel_rfl)) rfl ?_
    exact ⟨mf_,xw_ HB⟩

/-! ### spec_l9Key: function 36 -/
def spec_l9Key.f (k : Nat) (a0_0 : ByteArray) (a0_1 : ByteArray) (a0_2 : Int) (a0_3 : ByteArray) (a0_4 : ByteArray) (a0_5 : Bool) (a1_0 : ByteArray) (a1_1 : ByteArray) (l1_2 : List (S105)) (a1_3 : ByteArray) : Option (ByteArray × Bool):=(spec_ResolveUrl.f k a0_0 a0_1 a0_2 a0_3 a0_4 a0_5 a1_1).bind fun bt265 => (if bt265.2.2.2.2.2.2 = true then ((spec_l1Normal.f k bt265.1 bt265.2.1 bt265.2.2.1 bt265.2.2.2.1 bt265.2.2.2.2.1 bt265.2.2.2.2.2.1).bind fun bt273 => ((spec_l1Text.f k bt273.1 bt273.2.1 bt273.2.2.1 bt273.2.2.2.1 bt273.2.2.2.2.1 bt273.2.2.2.2.2).bind fun t279 => (some (t279,true)))) else (some ((⟨#[]⟩ : ByteArray),false)))
set_option maxHeartbeats 8000000 in
set_option maxRecDepth 100000 in
theorem spec_l9Key.calls (k : Nat) (a0_0 : ByteArray) (a0_1 : ByteArray) (a0_2 : Int) (a0_3 : ByteArray) (a0_4 : ByteArray) (a0_5 : Bool) (a1_0 : ByteArray) (a1_1 : ByteArray) (A1_2 : Option Addr) (c1_2 : Nat) (l1_2 : List (S105)) (a1_3 : ByteArray) (r1 : ByteArray) (r2 : Bool) (w : World) (hr1_2 : Kd.C k105 w A1_2 l1_2.length l1_2) (hc1_2 : l1_2.length ≤ c1_2) (h : spec_l9Key.f k a0_0 a0_1 a0_2 a0_3 a0_4 a0_5 a1_0 a1_1 l1_2 a1_3 = some (r1,r2)) :
  Calls Tryz.prog 36 #[.agg #[.string a0_0,.string a0_1,.int .i64 a0_2,.string a0_3,.string a0_4,.bool a0_5],.agg #[.string a1_0,.string a1_1,.slice A1_2 l1_2.length c1_2,.string a1_3]] w fun e w' => e = .returned (.tuple #[.string r1,.bool r2]) ∧ Below w.heap.size w w':=by
 have hu31:=Tryz.underlying31
 have hu35:=Tryz.underlying35
 have HR1_2:=Aside0.mk hr1_2
 have HC1_2:=Aside0.mk hc1_2
 clear hr1_2 hc1_2
 have HB:=Aside0.mk (Below.refl w.heap.size w)
 have H:=h
 unfold spec_l9Key.f at H
 clear h
 replace H:=mb_ H
 obtain ⟨⟨t265,t266,t267,t268,t269,t270,t271⟩,A3,H⟩:=H
 dsimp only at H
 by_cases c4 : t271 = true
 ·subst c4
  rw [if_pos rfl] at H
  replace H:=mb_ H
  obtain ⟨⟨t273,t274,t275,t276,t277,t278⟩,A5,H⟩:=H
  dsimp only at H
  replace H:=mb_ H
  obtain ⟨t279,A6,H⟩:=H
  simp only [Option.some.injEq,Prod.mk.injEq] at H
  obtain ⟨rfl,rfl⟩:=H
  go_enter Tryz.func36,Tryz.ntmps36
  go_wp2_with (first | ((with_reducible refine gd_ 2 ?_);refine xbe_ (N:=2) (cs:=#[.string a0_0,.string a0_1,.int .i64 a0_2,.string a0_3,.string a0_4,.bool a0_5]) (t:=31) ?_;intro gb263 hg w7 hbox hb;have BK263:=Aside0.mk (hbox);have GE263:=xge_ HB hg;replace HB:=xws_ HB hb;clear hb hbox hg) | ((with_reducible refine gd_ 3 ?_);refine xbe_ (N:=3) (cs:=#[.string a1_0,.string a1_1,.slice A1_2 l1_2.length c1_2,.string a1_3]) (t:=35) ?_;intro gb264 hg w8 hbox hb;have BK264:=Aside0.mk (hbox);have GE264:=xge_ HB hg;replace HB:=xws_ HB hb;have NB263_264:=xlt_ BK263 hg;have NB264_263:=xgt_ BK263 hg;replace BK263:=xbb_ BK263 hb;clear hb hbox hg;have hnb9:=NB263_264.out;have hnc9:=NB264_263.out;have ⟨_,_,_,_,_,_,_,_,_,_,_,_⟩:=c6_ BK263;have ⟨_,_,_,_,_,_,_,_⟩:=c4_ BK264) | ((with_reducible refine gc_ 71 ?_);refine xgl_ (some 12) Tryz.func71 #[.agg #[.string a0_0,.string a0_1,.int .i64 a0_2,.string a0_3,.string a0_4,.bool a0_5],.string a1_1] ?_;(with_reducible refine (spec_ResolveUrl.calls k a0_0 a0_1 a0_2 a0_3 a0_4 a0_5 a1_1 t265 t266 t267 t268 t269 t270 true _ A3.out).mono ?_);rintro e w12 ⟨rfl,hb⟩;refine ⟨_,rfl,?_⟩;replace BK263:=xbb_ BK263 hb;replace BK264:=xbb_ BK264 hb;replace HB:=xws_ HB hb;(try clear hb)) | ((with_reducible refine gd_ 6 ?_);refine xbe_ (N:=6) (cs:=#[.string (⟨#[]⟩ : ByteArray),.string (⟨#[]⟩ : ByteArray),.int .i64 0,.string (⟨#[]⟩ : ByteArray),.string (⟨#[]⟩ : ByteArray),.bool false]) (t:=31) ?_;intro gb272 hg w13 hbox hb;have BK272:=Aside0.mk (hbox);have GE272:=xge_ HB hg;replace HB:=xws_ HB hb;have NB263_272:=xlt_ BK263 hg;have NB272_263:=xgt_ BK263 hg;replace BK263:=xbb_ BK263 hb;have NB264_272:=xlt_ BK264 hg;have NB272_264:=xgt_ BK264 hg;replace BK264:=xbb_ BK264 hb;clear hb hbox hg;have hnb14:=NB272_263.out;have hnc14:=NB263_272.out;have hnb15:=NB272_264.out;have hnc15:=NB264_272.out;have ⟨_,_,_,_,_,_,_,_,_,_,_,_⟩:=c6_ BK272) | ((with_reducible refine gc_ 72 ?_);refine xgl_ (some 18) Tryz.func72 #[.agg #[.string t265,.string t266,.int .i64 t267,.string t268,.string t269,.bool t270]] ?_;(with_reducible refine (spec_l1Normal.calls k t265 t266 t267 t268 t269 t270 t273 t274 t275 t276 t277 t278 _ A5.out).mono ?_);rintro e w17 ⟨rfl,hb⟩;refine ⟨_,rfl,?_⟩;replace BK263:=mxb_ (o':=.cells #[.string a0_0,.string a0_1,.int .i64 a0_2,.string a0_3,.string a0_4,.bool a0_5] 31 (0,0)) BK263 hb;replace BK264:=mxb_ (o':=.cells #[.string a1_0,.string a1_1,.slice A1_2 l1_2.length c1_2,.string a1_3] 35 (0,0)) BK264 hb;replace BK272:=mxb_ (o':=.cells #[.string t265,.string t266,.int .i64 t267,.string t268,.string t269,.bool t270] 31 (0,0)) BK272 hb;replace HB:=xws_ HB hb;(try clear hb)) | ((with_reducible refine gc_ 64 ?_);refine xgl_ (some 19) Tryz.func64 #[.agg #[.string t273,.string t274,.int .i64 t275,.string t276,.string t277,.bool t278]] ?_;(with_reducible refine (spec_l1Text.calls k t273 t274 t275 t276 t277 t278 t279 _ A6.out).mono ?_);rintro e w18 ⟨rfl,hb⟩;refine ⟨_,rfl,?_⟩;replace BK263:=xbb_ BK263 hb;replace BK264:=xbb_ BK264 hb;replace BK272:=xbb_ BK272 hb;replace HB:=xws_ HB hb;(try clear hb)))
  go_ret2
  exact ⟨mf_,xw_ HB⟩
 ·replace c4:=Bool.eq_false_iff.mpr c4
  subst c4
  rw [if_neg (show ¬ (false = true) by decide)] at H
  simp only [Option.some.injEq,Prod.mk.injEq] at H
  obtain ⟨rfl,rfl⟩:=H
  go_enter Tryz.func36,Tryz.ntmps36
  go_wp2_with (first | ((with_reducible refine gd_ 2 ?_);refine xbe_ (N:=2) (cs:=#[.string a0_0,.string a0_1,.int .i64 a0_2,.string a0_3,.string a0_4,.bool a0_5]) (t:=31) ?_;intro gb263 hg w19 hbox hb;have BK263:=Aside0.mk (hbox);have GE263:=xge_ HB hg;replace HB:=xws_ HB hb;clear hb hbox hg) | ((with_reducible refine gd_ 3 ?_);refine xbe_ (N:=3) (cs:=#[.string a1_0,.string a1_1,.slice A1_2 l1_2.length c1_2,.string a1_3]) (t:=35) ?_;intro gb264 hg w20 hbox hb;have BK264:=Aside0.mk (hbox);have GE264:=xge_ HB hg;replace HB:=xws_ HB hb;have NB263_264:=xlt_ BK263 hg;have NB264_263:=xgt_ BK263 hg;replace BK263:=xbb_ BK263 hb;clear hb hbox hg;have hnb21:=NB263_264.out;have hnc21:=NB264_263.out;have ⟨_,_,_,_,_,_,_,_,_,_,_,_⟩:=c6_ BK263;have ⟨_,_,_,_,_,_,_,_⟩:=c4_ BK264) | ((with_reducible refine gc_ 71 ?_);refine xgl_ (some 12) Tryz.func71 #[.agg #[.string a0_0,.string a0_1,.int .i64 a0_2,.string a0_3,.string a0_4,.bool a0_5],.string a1_1] ?_;(with_reducible refine (spec_ResolveUrl.calls k a0_0 a0_1 a0_2 a0_3 a0_4 a0_5 a1_1 t265 t266 t267 t268 t269 t270 false _ A3.out).mono ?_);rintro e w24 ⟨rfl,hb⟩;refine ⟨_,rfl,?_⟩;replace BK263:=xbb_ BK263 hb;replace BK264:=xbb_ BK264 hb;replace HB:=xws_ HB hb;(try clear hb)) | ((with_reducible refine gd_ 6 ?_);refine xbe_ (N:=6) (cs:=#[.string (⟨#[]⟩ : ByteArray),.string (⟨#[]⟩ : ByteArray),.int .i64 0,.string (⟨#[]⟩ : ByteArray),.string (⟨#[]⟩ : ByteArray),.bool false]) (t:=31) ?_;intro gb272 hg w25 hbox hb;have BK272:=Aside0.mk (hbox);have GE272:=xge_ HB hg;replace HB:=xws_ HB hb;have NB263_272:=xlt_ BK263 hg;have NB272_263:=xgt_ BK263 hg;replace BK263:=xbb_ BK263 hb;have NB264_272:=xlt_ BK264 hg;have NB272_264:=xgt_ BK264 hg;replace BK264:=xbb_ BK264 hb;clear hb hbox hg;have hnb26:=NB272_263.out;have hnc26:=NB263_272.out;have hnb27:=NB272_264.out;have hnc27:=NB264_272.out;have ⟨_,_,_,_,_,_,_,_,_,_,_,_⟩:=c6_ BK272))
  go_ret2
  exact ⟨mf_,xw_ HB⟩

/-! ### spec_KeyOf: function 9 -/
def spec_KeyOf.f (k : Nat) (a0_0 : ByteArray) (a0_1 : ByteArray) (a0_2 : Int) (a0_3 : ByteArray) (a0_4 : ByteArray) (a0_5 : Bool) (a1_0 : ByteArray) (a1_1 : ByteArray) (l1_2 : List (S105)) (a1_3 : ByteArray) : Option (ByteArray × Bool):=(spec_GoodUrl.f k a0_0 a0_1 a0_2 a0_3 a0_4 a0_5).bind fun t282 => (if t282 = true then ((spec_GoodRequest.f k a1_0 a1_1 l1_2 a1_3).bind fun t283 => (if t283 = true then ((spec_l9Key.f k a0_0 a0_1 a0_2 a0_3 a0_4 a0_5 a1_0 a1_1 l1_2 a1_3).bind fun bt284 => (some (bt284.1,bt284.2))) else (some ((⟨#[]⟩ : ByteArray),false)))) else (some ((⟨#[]⟩ : ByteArray),false)))
set_option maxHeartbeats 8000000 in
set_option maxRecDepth 100000 in
theorem spec_KeyOf.calls (k : Nat) (a0_0 : ByteArray) (a0_1 : ByteArray) (a0_2 : Int) (a0_3 : ByteArray) (a0_4 : ByteArray) (a0_5 : Bool) (a1_0 : ByteArray) (a1_1 : ByteArray) (A1_2 : Option Addr) (c1_2 : Nat) (l1_2 : List (S105)) (a1_3 : ByteArray) (r1 : ByteArray) (r2 : Bool) (w : World) (hr1_2 : Kd.C k105 w A1_2 l1_2.length l1_2) (hc1_2 : l1_2.length ≤ c1_2) (h : spec_KeyOf.f k a0_0 a0_1 a0_2 a0_3 a0_4 a0_5 a1_0 a1_1 l1_2 a1_3 = some (r1,r2)) :
  Calls Tryz.prog 9 #[.agg #[.string a0_0,.string a0_1,.int .i64 a0_2,.string a0_3,.string a0_4,.bool a0_5],.agg #[.string a1_0,.string a1_1,.slice A1_2 l1_2.length c1_2,.string a1_3]] w fun e w' => e = .returned (.tuple #[.string r1,.bool r2]) ∧ Below w.heap.size w w':=by
 have hu31:=Tryz.underlying31
 have hu35:=Tryz.underlying35
 have HR1_2:=Aside0.mk hr1_2
 have HC1_2:=Aside0.mk hc1_2
 clear hr1_2 hc1_2
 have HB:=Aside0.mk (Below.refl w.heap.size w)
 have H:=h
 unfold spec_KeyOf.f at H
 clear h
 replace H:=mb_ H
 obtain ⟨t282,A3,H⟩:=H
 by_cases c4 : t282 = true
 ·subst c4
  rw [if_pos rfl] at H
  replace H:=mb_ H
  obtain ⟨t283,A5,H⟩:=H
  by_cases c6 : t283 = true
  ·subst c6
   rw [if_pos rfl] at H
   replace H:=mb_ H
   obtain ⟨⟨t284,t285⟩,A7,H⟩:=H
   dsimp only at H
   simp only [Option.some.injEq,Prod.mk.injEq] at H
   obtain ⟨rfl,rfl⟩:=H
   go_enter Tryz.func9,Tryz.ntmps9
   go_wp2_with (first | ((with_reducible refine gd_ 2 ?_);refine xbe_ (N:=2) (cs:=#[.string a0_0,.string a0_1,.int .i64 a0_2,.string a0_3,.string a0_4,.bool a0_5]) (t:=31) ?_;intro gb280 hg w8 hbox hb;have BK280:=Aside0.mk (hbox);have GE280:=xge_ HB hg;replace HB:=xws_ HB hb;clear hb hbox hg) | ((with_reducible refine gd_ 3 ?_);refine xbe_ (N:=3) (cs:=#[.string a1_0,.string a1_1,.slice A1_2 l1_2.length c1_2,.string a1_3]) (t:=35) ?_;intro gb281 hg w9 hbox hb;have BK281:=Aside0.mk (hbox);have GE281:=xge_ HB hg;replace HB:=xws_ HB hb;have NB280_281:=xlt_ BK280 hg;have NB281_280:=xgt_ BK280 hg;replace BK280:=xbb_ BK280 hb;clear hb hbox hg;have hnb10:=NB280_281.out;have hnc10:=NB281_280.out;have ⟨_,_,_,_,_,_,_,_,_,_,_,_⟩:=c6_ BK280) | ((with_reducible refine gc_ 34 ?_);refine xgl_ (some 7) Tryz.func34 #[.agg #[.string a0_0,.string a0_1,.int .i64 a0_2,.string a0_3,.string a0_4,.bool a0_5]] ?_;(with_reducible refine (spec_GoodUrl.calls k a0_0 a0_1 a0_2 a0_3 a0_4 a0_5 true _ A3.out).mono ?_);rintro e w12 ⟨rfl,hb⟩;refine ⟨_,rfl,?_⟩;replace BK280:=xbb_ BK280 hb;replace BK281:=xbb_ BK281 hb;replace HB:=xws_ HB hb;(try clear hb);have ⟨_,_,_,_,_,_,_,_⟩:=c4_ BK281) | (go_at_call 35;(with_reducible refine (spec_GoodRequest.calls k a1_0 a1_1 _ _ l1_2 a1_3 true _ ?side1 ?side2 A5.out).mono ?_);(case side1 => exact xc_ ((Kd.C_below HR1_2.out HB.out)));(case side2 => exact HC1_2.out);rintro e w14 ⟨rfl,hb⟩;replace BK280:=xbb_ BK280 hb;replace BK281:=xbb_ BK281 hb;replace HB:=xws_ HB hb;(try clear hb);have ⟨_,_,_,_,_,_,_,_,_,_,_,_⟩:=c6_ BK280;have ⟨_,_,_,_,_,_,_,_⟩:=c4_ BK281) | ((with_reducible refine gc_ 36 ?_);refine xgl_ (some 16) Tryz.func36 #[.agg #[.string a0_0,.string a0_1,.int .i64 a0_2,.string a0_3,.string a0_4,.bool a0_5],.agg #[.string a1_0,.string a1_1,.slice A1_2 l1_2.length c1_2,.string a1_3]] ?_;(with_reducible refine (spec_l9Key.calls k a0_0 a0_1 a0_2 a0_3 a0_4 a0_5 a1_0 a1_1 _ _ l1_2 a1_3 t284 t285 _ ?side1 ?side2 A7.out).mono ?_);(case side1 => exact xc_ ((Kd.C_below HR1_2.out HB.out)));(case side2 => exact HC1_2.out);rintro e w17 ⟨rfl,hb⟩;refine ⟨_,rfl,?_⟩;replace BK280:=xbb_ BK280 hb;replace BK281:=xbb_ BK281 hb;replace HB:=xws_ HB hb;(try clear hb)))
   go_ret2
   exact ⟨mf_,xw_ HB⟩
  ·replace c6:=Bool.eq_false_iff.mpr c6
   subst c6
   rw [if_neg (show ¬ (false = true) by decide)] at H
   simp only [Option.some.injEq,Prod.mk.injEq] at H
   obtain ⟨rfl,rfl⟩:=H
   go_enter Tryz.func9,Tryz.ntmps9
   go_wp2_with (first | ((with_reducible refine gd_ 2 ?_);refine xbe_ (N:=2) (cs:=#[.string a0_0,.string a0_1,.int .i64 a0_2,.string a0_3,.string a0_4,.bool a0_5]) (t:=31) ?_;intro gb280 hg w18 hbox hb;have BK280:=Aside0.mk (hbox);have GE280:=xge_ HB hg;replace HB:=xws_ HB hb;clear hb hbox hg) | ((with_reducible refine gd_ 3 ?_);refine xbe_ (N:=3) (cs:=#[.string a1_0,.string a1_1,.slice A1_2 l1_2.length c1_2,.string a1_3]) (t:=35) ?_;intro gb281 hg w19 hbox hb;have BK281:=Aside0.mk (hbox);have GE281:=xge_ HB hg;replace HB:=xws_ HB hb;have NB280_281:=xlt_ BK280 hg;have NB281_280:=xgt_ BK280 hg;replace BK280:=xbb_ BK280 hb;clear hb hbox hg;have hnb20:=NB280_281.out;have hnc20:=NB281_280.out;have ⟨_,_,_,_,_,_,_,_,_,_,_,_⟩:=c6_ BK280) | ((with_reducible refine gc_ 34 ?_);refine xgl_ (some 7) Tryz.func34 #[.agg #[.string a0_0,.string a0_1,.int .i64 a0_2,.string a0_3,.string a0_4,.bool a0_5]] ?_;(with_reducible refine (spec_GoodUrl.calls k a0_0 a0_1 a0_2 a0_3 a0_4 a0_5 true _ A3.out).mono ?_);rintro e w22 ⟨rfl,hb⟩;refine ⟨_,rfl,?_⟩;replace BK280:=xbb_ BK280 hb;replace BK281:=xbb_ BK281 hb;replace HB:=xws_ HB hb;(try clear hb);have ⟨_,_,_,_,_,_,_,_⟩:=c4_ BK281) | (go_at_call 35;(with_reducible refine (spec_GoodRequest.calls k a1_0 a1_1 _ _ l1_2 a1_3 false _ ?side1 ?side2 A5.out).mono ?_);(case side1 => exact xc_ ((Kd.C_below HR1_2.out HB.out)));(case side2 => exact HC1_2.out);rintro e w24 ⟨rfl,hb⟩;replace BK280:=xbb_ BK280 hb;replace BK281:=xbb_ BK281 hb;replace HB:=xws_ HB hb;(try clear hb)))
   go_ret2
   exact ⟨mf_,xw_ HB⟩
 ·replace c4:=Bool.eq_false_iff.mpr c4
  subst c4
  rw [if_neg (show ¬ (false = true) by decide)] at H
  simp only [Option.some.injEq,Prod.mk.injEq] at H
  obtain ⟨rfl,rfl⟩:=H
  go_enter Tryz.func9,Tryz.ntmps9
  go_wp2_with (first | ((with_reducible refine gd_ 2 ?_);refine xbe_ (N:=2) (cs:=#[.string a0_0,.string a0_1,.int .i64 a0_2,.string a0_3,.string a0_4,.bool a0_5]) (t:=31) ?_;intro gb280 hg w25 hbox hb;have BK280:=Aside0.mk (hbox);have GE280:=xge_ HB hg;replace HB:=xws_ HB hb;clear hb hbox hg) | ((with_reducible refine gd_ 3 ?_);refine xbe_ (N:=3) (cs:=#[.string a1_0,.string a1_1,.slice A1_2 l1_2.length c1_2,.string a1_3]) (t:=35) ?_;intro gb281 hg w26 hbox hb;have BK281:=Aside0.mk (hbox);have GE281:=xge_ HB hg;replace HB:=xws_ HB hb;have NB280_281:=xlt_ BK280 hg;have NB281_280:=xgt_ BK280 hg;replace BK280:=xbb_ BK280 hb;clear hb hbox hg;have hnb27:=NB280_281.out;have hnc27:=NB281_280.out;have ⟨_,_,_,_,_,_,_,_,_,_,_,_⟩:=c6_ BK280) | ((with_reducible refine gc_ 34 ?_);refine xgl_ (some 7) Tryz.func34 #[.agg #[.string a0_0,.string a0_1,.int .i64 a0_2,.string a0_3,.string a0_4,.bool a0_5]] ?_;(with_reducible refine (spec_GoodUrl.calls k a0_0 a0_1 a0_2 a0_3 a0_4 a0_5 false _ A3.out).mono ?_);rintro e w29 ⟨rfl,hb⟩;refine ⟨_,rfl,?_⟩;replace BK280:=xbb_ BK280 hb;replace BK281:=xbb_ BK281 hb;replace HB:=xws_ HB hb;(try clear hb)))
  go_ret2
  exact ⟨mf_,xw_ HB⟩

/-! ### laws_toUrl: function 10 -/
def laws_toUrl.f (a0_0 : ByteArray) (a0_1 : ByteArray) (a0_2 : Int) (a0_3 : ByteArray) (a0_4 : ByteArray) (a0_5 : Bool) : Option (ByteArray × ByteArray × Int × ByteArray × ByteArray × Bool):=some (a0_0,a0_1,a0_2,a0_3,a0_4,a0_5)
set_option maxHeartbeats 8000000 in
set_option maxRecDepth 100000 in
theorem laws_toUrl.calls (a0_0 : ByteArray) (a0_1 : ByteArray) (a0_2 : Int) (a0_3 : ByteArray) (a0_4 : ByteArray) (a0_5 : Bool) (r1 : ByteArray) (r2 : ByteArray) (r3 : Int) (r4 : ByteArray) (r5 : ByteArray) (r6 : Bool) (w : World) (h : laws_toUrl.f a0_0 a0_1 a0_2 a0_3 a0_4 a0_5 = some (r1,r2,r3,r4,r5,r6)) :
  Calls Tryz.prog 10 #[.agg #[.string a0_0,.string a0_1,.int .i64 a0_2,.string a0_3,.string a0_4,.bool a0_5]] w fun e w' => e = .returned (.agg #[.string r1,.string r2,.int .i64 r3,.string r4,.string r5,.bool r6]) ∧ Below w.heap.size w w':=by
 have hu23:=Tryz.underlying23
 have hu31:=Tryz.underlying31
 have HB:=Aside0.mk (Below.refl w.heap.size w)
 have H:=h
 unfold laws_toUrl.f at H
 clear h
 simp only [Option.some.injEq,Prod.mk.injEq] at H
 obtain ⟨rfl,rfl,rfl,rfl,rfl,rfl⟩:=H
 go_enter Tryz.func10,Tryz.ntmps10
 go_wp2_with (first | ((with_reducible refine gd_ 1 ?_);refine xbe_ (N:=1) (cs:=#[.string a0_0,.string a0_1,.int .i64 a0_2,.string a0_3,.string a0_4,.bool a0_5]) (t:=23) ?_;intro gb286 hg w2 hbox hb;have BK286:=Aside0.mk (hbox);have GE286:=xge_ HB hg;replace HB:=xws_ HB hb;clear hb hbox hg) | ((with_reducible refine gd_ 2 ?_);refine xbe_ (N:=2) (cs:=#[.string (⟨#[]⟩ : ByteArray),.string (⟨#[]⟩ : ByteArray),.int .i64 0,.string (⟨#[]⟩ : ByteArray),.string (⟨#[]⟩ : ByteArray),.bool false]) (t:=31) ?_;intro gb287 hg w3 hbox hb;have BK287:=Aside0.mk (hbox);have GE287:=xge_ HB hg;replace HB:=xws_ HB hb;have NB286_287:=xlt_ BK286 hg;have NB287_286:=xgt_ BK286 hg;replace BK286:=xbb_ BK286 hb;clear hb hbox hg) | ((with_reducible refine gd_ 3 ?_);refine xbe_ (N:=3) (cs:=#[.string (⟨#[]⟩ : ByteArray),.string (⟨#[]⟩ : ByteArray),.int .i64 0,.string (⟨#[]⟩ : ByteArray),.string (⟨#[]⟩ : ByteArray),.bool false]) (t:=31) ?_;intro gb288 hg w4 hbox hb;have BK288:=Aside0.mk (hbox);have GE288:=xge_ HB hg;replace HB:=xws_ HB hb;have NB286_288:=xlt_ BK286 hg;have NB288_286:=xgt_ BK286 hg;replace BK286:=xbb_ BK286 hb;have NB287_288:=xlt_ BK287 hg;have NB288_287:=xgt_ BK287 hg;replace BK287:=xbb_ BK287 hb;clear hb hbox hg;have hnb5:=NB286_287.out;have hnc5:=NB287_286.out;have hnb6:=NB286_288.out;have hnc6:=NB288_286.out;have ⟨_,_,_,_,_,_,_,_,_,_,_,_⟩:=c6_ BK286;have hnb8:=NB288_287.out;have hnc8:=NB287_288.out;have ⟨_,_,_,_,_,_,_,_,_,_,_,_⟩:=c6_ BK288;have ⟨_,_,_,_,_,_,_,_,_,_,_,_⟩:=c6_ BK287))
 refine bodyPost_ret (results_cell_row rfl _ _ gb287 31 #[.string a0_0,.string a0_1,.int .i64 a0_2,.string a0_3,.string a0_4,.bool a0_5] (0,0) _ rfl (mx_ BK287) Tryz.underlying31 rfl (by kernel_rfl)) rfl ?_
 exact ⟨mf_,xw_ HB⟩

/-! ### laws_toField: function 73 -/
def laws_toField.f (a0_0 : ByteArray) (a0_1 : ByteArray) : Option (ByteArray × ByteArray):=some (a0_0,a0_1)
set_option maxHeartbeats 8000000 in
set_option maxRecDepth 100000 in
theorem laws_toField.calls (a0_0 : ByteArray) (a0_1 : ByteArray) (r1 : ByteArray) (r2 : ByteArray) (w : World) (h : laws_toField.f a0_0 a0_1 = some (r1,r2)) :
  Calls Tryz.prog 73 #[.agg #[.string a0_0,.string a0_1]] w fun e w' => e = .returned (.agg #[.string r1,.string r2]) ∧ Below w.heap.size w w':=by
 have hu97:=Tryz.underlying97
 have hu105:=Tryz.underlying105
 have HB:=Aside0.mk (Below.refl w.heap.size w)
 have H:=h
 unfold laws_toField.f at H
 clear h
 simp only [Option.some.injEq,Prod.mk.injEq] at H
 obtain ⟨rfl,rfl⟩:=H
 go_enter Tryz.func73,Tryz.ntmps73
 go_wp2_with (first | ((with_reducible refine gd_ 1 ?_);refine xbe_ (N:=1) (cs:=#[.string a0_0,.string a0_1]) (t:=97) ?_;intro gb289 hg w2 hbox hb;have BK289:=Aside0.mk (hbox);have GE289:=xge_ HB hg;replace HB:=xws_ HB hb;clear hb hbox hg) | ((with_reducible refine gd_ 2 ?_);refine xbe_ (N:=2) (cs:=#[.string (⟨#[]⟩ : ByteArray),.string (⟨#[]⟩ : ByteArray)]) (t:=105) ?_;intro gb290 hg w3 hbox hb;have BK290:=Aside0.mk (hbox);have GE290:=xge_ HB hg;replace HB:=xws_ HB hb;have NB289_290:=xlt_ BK289 hg;have NB290_289:=xgt_ BK289 hg;replace BK289:=xbb_ BK289 hb;clear hb hbox hg) | ((with_reducible refine gd_ 3 ?_);refine xbe_ (N:=3) (cs:=#[.string (⟨#[]⟩ : ByteArray),.string (⟨#[]⟩ : ByteArray)]) (t:=105) ?_;intro gb291 hg w4 hbox hb;have BK291:=Aside0.mk (hbox);have GE291:=xge_ HB hg;replace HB:=xws_ HB hb;have NB289_291:=xlt_ BK289 hg;have NB291_289:=xgt_ BK289 hg;replace BK289:=xbb_ BK289 hb;have NB290_291:=xlt_ BK290 hg;have NB291_290:=xgt_ BK290 hg;replace BK290:=xbb_ BK290 hb;clear hb hbox hg;have hnb5:=NB289_290.out;have hnc5:=NB290_289.out;have hnb6:=NB289_291.out;have hnc6:=NB291_289.out;have ⟨_,_,_,_⟩:=c2_ BK289;have hnb8:=NB291_290.out;have hnc8:=NB290_291.out;have ⟨_,_,_,_⟩:=c2_ BK291;have ⟨_,_,_,_⟩:=c2_ BK290))
 refine bodyPost_ret (results_cell_row rfl _ _ gb290 105 #[.string a0_0,.string a0_1] (0,0) _ rfl (mx_ BK290) Tryz.underlying105 rfl (by kernel_rfl)) rfl ?_
 exact ⟨mf_,xw_ HB⟩

end Go.Proofs.YtpggepjfhgalkaaGreatDoor.PFnExactKeyOf
