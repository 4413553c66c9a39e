-- Written by a program of this project (xprint.py) out of the translation; Lean checks it.
import Derived.Test.YtpggepjfhgalkaaGreatDoorPFnExactKeyOfx0
import Derived.Test.YtpggepjfhgalkaaGreatDoorPFnExactKeyOfx14
import Derived.Test.YtpggepjfhgalkaaGreatDoorPFnExactKeyOfx15
import Derived.Test.YtpggepjfhgalkaaGreatDoorPFnExactKeyOfx16
import Derived.Test.YtpggepjfhgalkaaGreatDoorPFnExactKeyOfx18
namespace Go.Proofs.YtpggepjfhgalkaaGreatDoor.PFnExactKeyOf
open Go.RowKit Go.Proofs.YtpggepjfhgalkaaGreatDoorW.PrintWords Go.Proofs.YtpggepjfhgalkaaGreatDoorW.PrintLast Go.Proofs.YtpggepjfhgalkaaGreatDoorW.PrintMore
attribute [local go_sem] max2_int min2_int max_two min_two max_three min_three max_four min_four   -- for this text's walks alone
set_option linter.unusedVariables false
set_option linter.unusedSimpArgs false

theorem own_len_ (A : Option Addr) (n m c : Nat) : (Value.slice A n c).ownBlock = (Value.slice A m c).ownBlock:=by cases A <;> rfl
/-! ### impl_dropDots: function 76 -/
mutual
def impl_dropDots.l0 : Nat → List ByteArray → List ByteArray → List ByteArray → Int → Int → Option (ByteArray)
 | 0,_,_,_,_,_ => none
 | k + 1,x3,x4,x11,x12,x13 => if x13 < x12 then (if 0 ≤ x13 then (if x13 < (x11.length : Int) then (if (rdOf ByteArray.empty x11 x13).toList = ([46] : List UInt8) then (impl_dropDots.j1 k x3 x4 (rdOf ByteArray.empty x11 x13) (x13 == (wrap64 ((x4.length : Int) - 1))) x11 x12 x13 ((rdOf ByteArray.empty x11 x13).toList == ([46] : List UInt8))) else (impl_dropDots.j1 k x3 x4 (rdOf ByteArray.empty x11 x13) (x13 == (wrap64 ((x4.length : Int) - 1))) x11 x12 x13 ((rdOf ByteArray.empty x11 x13).toList == ([46,46] : List UInt8)))) else (none)) else (none)) else ((strings_Join.f x3 (⟨#[47]⟩ : ByteArray)).bind fun t385 => (if 1 + t385.size ≤ 9223372036854775807 then (some ((⟨#[47]⟩ : ByteArray) ++ t385)) else (none)))
def impl_dropDots.j1 : Nat → List ByteArray → List ByteArray → ByteArray → Bool → List ByteArray → Int → Int → Bool → Option (ByteArray)
 | 0,_,_,_,_,_,_,_,_ => none
 | k + 1,x3,x4,x6,x7,x11,x12,x13,x28 => if x28 = true then (if x6.toList = ([46,46] : List UInt8) then (impl_dropDots.j2 k x3 x4 x7 x11 x12 x13 (decide ((x3.length : Int) > 0))) else (impl_dropDots.j2 k x3 x4 x7 x11 x12 x13 false)) else (if x3.length < 8796093022208 then (impl_dropDots.l0 k (x3 ++ [x6]) x4 x11 x12 (wrap64 (x13 + 1))) else (none))
def impl_dropDots.j2 : Nat → List ByteArray → List ByteArray → Bool → List ByteArray → Int → Int → Bool → Option (ByteArray)
 | 0,_,_,_,_,_,_,_ => none
 | k + 1,x3,x4,x7,x11,x12,x13,x37 => if x37 = true then (if 0 ≤ (wrap64 ((x3.length : Int) - 1)) then (if (wrap64 ((x3.length : Int) - 1)) ≤ (x3.length : Int) then ((some (x3.take ((wrap64 ((x3.length : Int) - 1)) : Int).toNat : List ByteArray)).bind fun y387 => (if x7 = true then (if y387.length < 8796093022208 then (impl_dropDots.l0 k (y387 ++ [(⟨#[]⟩ : ByteArray)]) x4 x11 x12 (wrap64 (x13 + 1))) else (none)) else (impl_dropDots.l0 k y387 x4 x11 x12 (wrap64 (x13 + 1))))) else (none)) else (none)) else (if x7 = true then (if x3.length < 8796093022208 then (impl_dropDots.l0 k (x3 ++ [(⟨#[]⟩ : ByteArray)]) x4 x11 x12 (wrap64 (x13 + 1))) else (none)) else (impl_dropDots.l0 k x3 x4 x11 x12 (wrap64 (x13 + 1))))
end
def impl_dropDots.f (k : Nat) (a0 : ByteArray) : Option (ByteArray):=if 1 ≤ (a0.size : Int) then ((strings_Split.f (a0.extract 1 a0.size) (⟨#[47]⟩ : ByteArray)).bind fun t382 => (impl_dropDots.l0 k ([] : List ByteArray) t382 t382 (t382.length : Int) 0)) else (none)
set_option maxHeartbeats 8000000 in
set_option maxRecDepth 100000 in
theorem impl_dropDots.calls (k : Nat) (a0 : ByteArray) (r : ByteArray) (w : World) (h : impl_dropDots.f k a0 = some r) (hT_ : TabOk w) :
  Calls Tryz.prog 76 #[.string a0] w fun e w' => e = .returned (.string r) ∧ Below w.heap.size w w':=by
 have HTB_:=Aside0.mk hT_
 clear hT_
 have HB:=Aside0.mk (Below.refl w.heap.size w)
 have H:=h
 unfold impl_dropDots.f at H
 clear h
 replace H:=mi_ H
 obtain ⟨c2,H⟩:=H
 have c2b0:=eq_true c2
 have c2b1:=decide_eq_true c2
 clear c2
 replace H:=mb_ H
 obtain ⟨t382,A3,H⟩:=H
 have H':=Aside0.mk H
 clear H
 go_enter Tryz.func76,Tryz.ntmps76
 go_wp2_with (first | ((with_reducible refine gc_ 128 ?_);refine xgl_ (some 10) Tryz.func128 #[.string (a0.extract 1 a0.size),.string (⟨#[47]⟩ : ByteArray)] ?_;(with_reducible refine (strings_Split.calls (a0.extract 1 a0.size) (⟨#[47]⟩ : ByteArray) t382 _ A3.out (HTB_.out.below (by first | (with_reducible exact Below.refl _ _) | (repeat (first | (with_reducible first | exact HB.out | exact Below.refl _ _ | apply below_alloc | apply pw_below_drewN | apply below_drew1) | exact HB.out)) | (repeat (first | exact Below.refl _ _ | apply below_alloc | apply pw_below_drewN | apply below_drew1))))).mono ?_);rintro e w4 ⟨v383,rfl,ho0,hb⟩;refine ⟨_,rfl,?_⟩;have HO384:=Aside0.mk (Kd.R_lower ho0 (below_size (xw_ HB)));replace HB:=xws_ HB hb;(try clear hb);(try clear ho0);obtain ⟨Ao5,co5,eo5⟩:=Kd.R_slice HO384.out;subst eo5))
 go_loopg [3,13] k (fun kq v3 v13 w' => ∃ (x3_1 : List ByteArray) (x13_1 : Int),v13 = .int .i64 x13_1 ∧ Aside0 (impl_dropDots.l0 kq x3_1 t382 t382 (t382.length : Int) x13_1 = some r) ∧ Aside0 (kq ≤ k) ∧ Aside0 (Kd.R Kd.string 9 w' w.heap.size (fun k_ => some k_ ≠ ((.slice Ao5 t382.length co5) : Value).ownBlock ∧ some k_ ≠ ((.slice Ao5 t382.length co5) : Value).ownBlock) v3 x3_1) ∧ Aside0 (Kd.R Kd.string 9 w' w.heap.size (fun k_ => some k_ ≠ (v3 : Value).ownBlock) (.slice Ao5 t382.length co5) t382) ∧ Aside0 (Kd.R Kd.string 9 w' w.heap.size (fun k_ => some k_ ≠ (v3 : Value).ownBlock) (.slice Ao5 t382.length co5) t382) ∧ Aside0 (Below w.heap.size w w'))
 case atStart => exact ⟨(([] : List ByteArray)),(0),me_,H',⟨Nat.le_refl _⟩,⟨by first | exact Kd.R_nil _ _ _ _ _ | exact Kd.N_nil _ _ _ _ _ | exact Kd.V_nil _ _ _ _ _ | exact Kd.Q_nil _ _ _ _ _ | exact Kd.S_nil _ _ _ _ _⟩,⟨xrt_ (Kd.R_mono HO384.out (fun _ hk => (by simp [Value.ownBlock])))⟩,⟨xrt_ (Kd.R_mono HO384.out (fun _ hk => (by simp [Value.ownBlock])))⟩,⟨xw_ HB⟩⟩
 case round =>
  clear H'
  try clear c2
  try clear c2b0
  try clear c2b1
  obtain ⟨x3_1,x13_1,rfl,HA,HK1,HO_3,HO_4,HO_11,HB⟩:=hrel
  cases gk with
  | zero => exact absurd HA.out (by simp [impl_dropDots.l0])
  | succ k1 =>
   have H:=HA.out
   clear HA
   simp only [impl_dropDots.l0] at H
   by_cases c6 : x13_1 < (t382.length : Int)
   ·rw [if_pos c6] at H
    have c6b0:=decide_eq_true c6
    clear c6
    replace H:=mi_ H
    obtain ⟨c7,H⟩:=H
    have c7b0:=decide_eq_true c7
    clear c7
    replace H:=mi_ H
    obtain ⟨c8,H⟩:=H
    have c8b0:=decide_eq_true c8
    clear c8
    have HC9:=Aside0.mk H
    clear H
    have p386 : 0 ≤ (x13_1 : Int):=md_
    have q386 : x13_1 < (t382.length : Int):=md_
    obtain ⟨ad386,e386,hx386_0⟩:=Kd.at_string (Kd.R_reads' HO_11.out).2.2 x13_1 p386 q386
    cases e386
    replace p386:=eq_true p386
    replace q386:=eq_true q386
    go_upto_if 28 with (fail)
    go_cut [28] (fun v28 wc => ∃ (kq : Nat) (x28_8 : Bool),v28 = .bool x28_8 ∧ Aside0 (impl_dropDots.j1 kq x3_1 t382 (rdOf ByteArray.empty t382 x13_1) (x13_1 == (wrap64 ((t382.length : Int) - 1))) t382 (t382.length : Int) x13_1 x28_8 = some r) ∧ Aside0 (kq ≤ k1) ∧ Aside0 (Kd.R Kd.string 9 wc w.heap.size (fun k_ => some k_ ≠ ((.slice (some ad386) t382.length co5) : Value).ownBlock ∧ some k_ ≠ ((.slice (some ad386) t382.length co5) : Value).ownBlock) u3 x3_1) ∧ Aside0 (Kd.R Kd.string 9 wc w.heap.size (fun k_ => some k_ ≠ (u3 : Value).ownBlock) (.slice (some ad386) t382.length co5) t382) ∧ Aside0 (Kd.R Kd.string 9 wc w.heap.size (fun k_ => some k_ ≠ (u3 : Value).ownBlock) (.slice (some ad386) t382.length co5) t382) ∧ Aside0 (Below w.heap.size w wc))
    case first =>
     have H:=HC9.out
     clear HC9
     by_cases c10 : (rdOf ByteArray.empty t382 x13_1).toList = ([46] : List UInt8)
     ·rw [if_pos c10] at H
      have c10b0 : ((rdOf ByteArray.empty t382 x13_1).toList == ([46] : List UInt8)) = true:=beq_iff_eq.mpr c10
      have c10b1 : ((rdOf ByteArray.empty t382 x13_1).toList != ([46] : List UInt8)) = false:=bne_eq_false_iff_eq.mpr c10
      clear c10
      (first | rw [c10b0] | (simp only [i64_w,i32_w];rw [c10b0]) | skip)
      have H':=Aside0.mk H
      clear H
      go_wp2
      go_meet
      case rel => exact ⟨_,(((rdOf ByteArray.empty t382 x13_1).toList == ([46] : List UInt8))),me_,H',⟨by have:=HK1.out;first | omega | exact Nat.le_refl _⟩,⟨xr_ HO_3⟩,⟨xr_ HO_4⟩,⟨xr_ HO_11⟩,⟨xw_ HB⟩⟩
     ·rw [if_neg c10] at H
      have c10b0 : ((rdOf ByteArray.empty t382 x13_1).toList == ([46] : List UInt8)) = false:=beq_eq_false_iff_ne.mpr c10
      have c10b1 : ((rdOf ByteArray.empty t382 x13_1).toList != ([46] : List UInt8)) = true:=bne_iff_ne.mpr c10
      (first | rw [c10b0] | (simp only [i64_w,i32_w];rw [c10b0]) | skip)
      have H':=Aside0.mk H
      clear H
      go_wp2
      go_meet
      case rel => exact ⟨_,(((rdOf ByteArray.empty t382 x13_1).toList == ([46,46] : List UInt8))),me_,H',⟨by have:=HK1.out;first | omega | exact Nat.le_refl _⟩,⟨xr_ HO_3⟩,⟨xr_ HO_4⟩,⟨xr_ HO_11⟩,⟨xw_ HB⟩⟩
    case rest =>
     clear HC9
     try clear c2
     try clear c2b0
     try clear c2b1
     try clear c6
     try clear c6b0
     try clear c7
     try clear c7b0
     try clear c8
     try clear c8b0
     try clear hx386_0
     try clear p386
     try clear q386
     obtain ⟨kq,x28_8,rfl,HA,HJ8,HO_3,HO_4,HO_11,HB⟩:=hcut
     cases kq with
     | zero => exact absurd HA.out (by simp [impl_dropDots.j1])
     | succ kj8 =>
      have H:=HA.out
      clear HA
      simp only [impl_dropDots.j1] at H
      by_cases c11 : x28_8 = true
      ·subst c11
       rw [if_pos rfl] at H
       have HC12:=Aside0.mk H
       clear H
       go_upto_region 11 with (fail)
       go_cut [37] (fun v37 wc => ∃ (kq : Nat) (x37_11 : Bool),v37 = .bool x37_11 ∧ Aside0 (impl_dropDots.j2 kq x3_1 t382 (x13_1 == (wrap64 ((t382.length : Int) - 1))) t382 (t382.length : Int) x13_1 x37_11 = some r) ∧ Aside0 (kq ≤ kj8) ∧ Aside0 (Kd.R Kd.string 9 wc w.heap.size (fun k_ => some k_ ≠ ((.slice (some ad386) t382.length co5) : Value).ownBlock ∧ some k_ ≠ ((.slice (some ad386) t382.length co5) : Value).ownBlock) u3 x3_1) ∧ Aside0 (Kd.R Kd.string 9 wc w.heap.size (fun k_ => some k_ ≠ (u3 : Value).ownBlock) (.slice (some ad386) t382.length co5) t382) ∧ Aside0 (Kd.R Kd.string 9 wc w.heap.size (fun k_ => some k_ ≠ (u3 : Value).ownBlock) (.slice (some ad386) t382.length co5) t382) ∧ Aside0 (Below w.heap.size w wc))
       case first =>
        have H:=HC12.out
        clear HC12
        by_cases c13 : (rdOf ByteArray.empty t382 x13_1).toList = ([46,46] : List UInt8)
        ·rw [if_pos c13] at H
         have c13b0 : ((rdOf ByteArray.empty t382 x13_1).toList == ([46,46] : List UInt8)) = true:=beq_iff_eq.mpr c13
         have c13b1 : ((rdOf ByteArray.empty t382 x13_1).toList != ([46,46] : List UInt8)) = false:=bne_eq_false_iff_eq.mpr c13
         clear c13
         (first | rw [c13b0] | (simp only [i64_w,i32_w];rw [c13b0]) | skip)
         have H':=Aside0.mk H
         clear H
         obtain ⟨Ao14,co14,eo14⟩:=Kd.R_slice HO_3.out
         subst eo14
         go_wp2
         go_meet
         case rel => exact ⟨_,(decide ((x3_1.length : Int) > 0)),me_,H',⟨by have:=HK1.out;have:=HJ8.out;first | omega | exact Nat.le_refl _⟩,⟨xr_ HO_3⟩,⟨xr_ HO_4⟩,⟨xr_ HO_11⟩,⟨xw_ HB⟩⟩
        ·rw [if_neg c13] at H
         have c13b0 : ((rdOf ByteArray.empty t382 x13_1).toList == ([46,46] : List UInt8)) = false:=beq_eq_false_iff_ne.mpr c13
         have c13b1 : ((rdOf ByteArray.empty t382 x13_1).toList != ([46,46] : List UInt8)) = true:=bne_iff_ne.mpr c13
         (first | rw [c13b0] | (simp only [i64_w,i32_w];rw [c13b0]) | skip)
         have H':=Aside0.mk H
         clear H
         go_wp2
         go_meet
         case rel => exact ⟨_,(false),me_,H',⟨by have:=HK1.out;have:=HJ8.out;first | omega | exact Nat.le_refl _⟩,⟨xr_ HO_3⟩,⟨xr_ HO_4⟩,⟨xr_ HO_11⟩,⟨xw_ HB⟩⟩
       case rest =>
        clear HC12
        try clear c2
        try clear c2b0
        try clear c2b1
        try clear c6
        try clear c6b0
        try clear c7
        try clear c7b0
        try clear c8
        try clear c8b0
        try clear c11
        try clear hx386_0
        try clear p386
        try clear q386
        obtain ⟨kq,x37_11,rfl,HA,HJ11,HO_3,HO_4,HO_11,HB⟩:=hcut
        cases kq with
        | zero => exact absurd HA.out (by simp [impl_dropDots.j2])
        | succ kj11 =>
         have H:=HA.out
         clear HA
         simp only [impl_dropDots.j2] at H
         by_cases c15 : x37_11 = true
         ·subst c15
          rw [if_pos rfl] at H
          obtain ⟨ji16,hji16⟩ : ∃ j_ : Int,(wrap64 ((x3_1.length : Int) - 1)) = j_:=⟨_,rfl⟩
          replace H : (if 0 ≤ (ji16) then (if (ji16) ≤ (x3_1.length : Int) then ((some (x3_1.take ((ji16) : Int).toNat : List ByteArray)).bind fun y387 => (if (x13_1 == (wrap64 ((t382.length : Int) - 1))) = true then (if y387.length < 8796093022208 then (impl_dropDots.l0 kj11 (y387 ++ [(⟨#[]⟩ : ByteArray)]) t382 t382 (t382.length : Int) (wrap64 (x13_1 + 1))) else (none)) else (impl_dropDots.l0 kj11 y387 t382 t382 (t382.length : Int) (wrap64 (x13_1 + 1))))) else (none)) else (none)) = some r:=by first | (rw [hji16] at H;exact H) | (simp only [hji16] at H ⊢;exact H)
          have hji16w : (IntKind.i64.wrap ((x3_1.length : Int) - 1)) = ji16:=(i64_w _).trans hji16
          replace H:=mi_ H
          obtain ⟨c17,H⟩:=H
          have c17b0:=eq_true c17
          have c17b1:=decide_eq_true c17
          clear c17
          replace H:=mi_ H
          obtain ⟨c18,H⟩:=H
          have c18b0:=eq_true c18
          have c18b1:=decide_eq_true c18
          clear c18
          obtain ⟨y387,hy387⟩ : ∃ y_ : List ByteArray,y_ = (x3_1.take ((ji16) : Int).toNat):=⟨_,rfl⟩
          replace H : (if (x13_1 == (wrap64 ((t382.length : Int) - 1))) = true then (if y387.length < 8796093022208 then (impl_dropDots.l0 kj11 (y387 ++ [(⟨#[]⟩ : ByteArray)]) t382 t382 (t382.length : Int) (wrap64 (x13_1 + 1))) else (none)) else (impl_dropDots.l0 kj11 y387 t382 t382 (t382.length : Int) (wrap64 (x13_1 + 1)))) = some r:=by first | (rw [hy387];with_reducible exact H) | (have H2_:=(Option.bind_some _ _).symm.trans H;rw [hy387];with_reducible exact H2_) | (have H2_:=(Option.bind_some _ _).symm.trans H;with_reducible exact H2_) | with_reducible exact H | (rw [hy387];exact H) | exact H
          have Ny387:=Aside0.mk hy387
          clear hy387
          by_cases c19 : (x13_1 == (wrap64 ((t382.length : Int) - 1))) = true
          ·rw [if_pos c19] at H
           have c19b0 : (x13_1 == (wrap64 ((t382.length : Int) - 1))) = true:=c19
           (try (have c19b1 : decide (x13_1 = (wrap64 ((t382.length : Int) - 1))) = true:=by simpa using c19))
           (try (have c19b2 : (x13_1 == (wrap64 ((t382.length : Int) - 1))) = true:=by simpa using c19))
           clear c19
           replace H:=mi_ H
           obtain ⟨c20,H⟩:=H
           have LMc20:=Aside0.mk c20
           clear c20
           obtain ⟨y390,hy390⟩ : ∃ y_ : List ByteArray,y_ = (y387 ++ [(⟨#[]⟩ : ByteArray)]):=⟨_,rfl⟩
           replace H : (impl_dropDots.l0 kj11 y390 t382 t382 (t382.length : Int) (wrap64 (x13_1 + 1))) = some r:=by first | (rw [hy390];with_reducible exact H) | (have H2_:=(Option.bind_some _ _).symm.trans H;rw [hy390];with_reducible exact H2_) | (have H2_:=(Option.bind_some _ _).symm.trans H;with_reducible exact H2_) | with_reducible exact H | (rw [hy390];exact H) | exact H
           have Ny390:=Aside0.mk hy390
           clear hy390
           have H':=Aside0.mk H
           clear H
           obtain ⟨Ao21,co21,eo21⟩:=Kd.R_slice HO_3.out
           subst eo21
           have q22 : ((ji16) : Int) ≤ ((x3_1.length : Int) : Int):=md_
           obtain ⟨i022,hi022,_,hsz22,_⟩:=info_parts info9
           have hcut22:=cut_to (P:=Tryz.prog) 50 9 .i64 Tryz.underlying50 hi022 Ao21 x3_1.length co21 (ji16) (md_) q22 (Kd.R_reads' HO_3.out).2.1
           have hr22:=Kd.R_take (m:=((ji16) : Int).toNat) HO_3.out (by omega)
           have hy22 : y387.length = ((ji16) : Int).toNat:=(by rw [Ny387.out,List.length_take];omega)
           rw [← Ny387.out] at hr22
           rw [← hy22] at hr22 hcut22
           clear hy22 hi022 hsz22 HO_3
           have HO389:=Aside0.mk hr22
           (try rw [own_len_ Ao21 x3_1.length y387.length co21] at HO392)
           (try rw [own_len_ Ao21 x3_1.length y387.length co21] at HO_11)
           (try rw [own_len_ Ao21 x3_1.length y387.length co21] at HO_3)
           (try rw [own_len_ Ao21 x3_1.length y387.length co21] at HO_4)
           clear hr22
           replace q22:=eq_true q22
           go_wp2_with (first | ((with_reducible refine gate_builtin (b:=.append) (xs:=#[.tmp 44,.tmp 45]) rfl ?_);(try (refine gate_guard (by rfl) ?_;dsimp only));at_builtin;refine Kd.R_append Kd.string (w0:=w) w.heap.size rfl (.tmp 44) (.tmp 45) 50 9 (.string ⟨#[]⟩) 16 rfl Tryz.underlying50 info9 rfl (by decide) (by omega) (.slice Ao21 y387.length co21) y387 (⟨#[]⟩ : ByteArray) [.string (⟨#[]⟩ : ByteArray)] (fun k_ => some k_ ≠ (.slice (some ad386) t382.length co5 : Value).ownBlock ∧ some k_ ≠ (.slice (some ad386) t382.length co5 : Value).ownBlock) (fun _ => False) rfl rfl ?aP (fun _ hk => hk.elim) ?aF ?aO ?aB ?aS ?aL ?_;(case aP => exact rfl);(case aB => exact (xw_ HB));(case aF => exact (fun k_ hk => ⟨Kd.fresh' (Kd.R_lt (xr_ HO_4)) k_ hk,Kd.fresh' (Kd.R_lt (xr_ HO_11)) k_ hk⟩));(case aO => exact (xr_ HO389));(case aS => exact (below_size (xw_ HB)));(case aL => have:=LMc20.out;omega);intro v391 w23 ho hb hg hat;rw [← Ny390.out] at ho;replace HO_4:=Aside0.mk (Kd.R_after (ok:=(fun _ => True)) (xrt_ (Kd.R_mono HO_4.out (fun _ hk => ⟨trivial,hk⟩))) hg hat);replace HO_11:=Aside0.mk (Kd.R_after (ok:=(fun _ => True)) (xrt_ (Kd.R_mono HO_11.out (fun _ hk => ⟨trivial,hk⟩))) hg hat);replace HB:=Aside0.mk (hb);have HO392:=Aside0.mk (ho);clear HO389;clear ho hb hg hat))
           go_roundg kj11
           case measure => have:=HK1.out;have:=HJ8.out;have:=HJ11.out;omega
           case rel => exact ⟨(y390),(wrap64 (x13_1 + 1)),me_,H',⟨by have:=HK1.out;have:=HJ8.out;have:=HJ11.out;omega⟩,⟨xr_ HO392⟩,⟨xrt_ (Kd.R_mono HO_4.out (fun _ hk => hk.2))⟩,⟨xrt_ (Kd.R_mono HO_11.out (fun _ hk => hk.2))⟩,⟨xw_ HB⟩⟩
          ·rw [if_neg c19] at H
           have c19b0 : (x13_1 == (wrap64 ((t382.length : Int) - 1))) = false:=by simpa using c19
           (try (have c19b1 : decide (x13_1 = (wrap64 ((t382.length : Int) - 1))) = false:=by simpa using c19))
           (try (have c19b2 : (x13_1 == (wrap64 ((t382.length : Int) - 1))) = false:=by simpa using c19))
           (try (have c19b3 : ¬ (x13_1 = (wrap64 ((t382.length : Int) - 1))):=by simpa using c19))
           clear c19
           have H':=Aside0.mk H
           clear H
           obtain ⟨Ao24,co24,eo24⟩:=Kd.R_slice HO_3.out
           subst eo24
           have q25 : ((ji16) : Int) ≤ ((x3_1.length : Int) : Int):=md_
           obtain ⟨i025,hi025,_,hsz25,_⟩:=info_parts info9
           have hcut25:=cut_to (P:=Tryz.prog) 50 9 .i64 Tryz.underlying50 hi025 Ao24 x3_1.length co24 (ji16) (md_) q25 (Kd.R_reads' HO_3.out).2.1
           have hr25:=Kd.R_take (m:=((ji16) : Int).toNat) HO_3.out (by omega)
           have hy25 : y387.length = ((ji16) : Int).toNat:=(by rw [Ny387.out,List.length_take];omega)
           rw [← Ny387.out] at hr25
           rw [← hy25] at hr25 hcut25
           clear hy25 hi025 hsz25 HO_3
           have HO389:=Aside0.mk hr25
           (try rw [own_len_ Ao24 x3_1.length y387.length co24] at HO395)
           (try rw [own_len_ Ao24 x3_1.length y387.length co24] at HO_11)
           (try rw [own_len_ Ao24 x3_1.length y387.length co24] at HO_3)
           (try rw [own_len_ Ao24 x3_1.length y387.length co24] at HO_4)
           clear hr25
           replace q25:=eq_true q25
           go_wp2
           go_roundg kj11
           case measure => have:=HK1.out;have:=HJ8.out;have:=HJ11.out;omega
           case rel => exact ⟨(y387),(wrap64 (x13_1 + 1)),me_,H',⟨by have:=HK1.out;have:=HJ8.out;have:=HJ11.out;omega⟩,⟨xr_ HO389⟩,⟨xr_ HO_4⟩,⟨xr_ HO_11⟩,⟨xw_ HB⟩⟩
         ·replace c15:=Bool.eq_false_iff.mpr c15
          subst c15
          rw [if_neg (show ¬ (false = true) by decide)] at H
          by_cases c26 : (x13_1 == (wrap64 ((t382.length : Int) - 1))) = true
          ·rw [if_pos c26] at H
           have c26b0 : (x13_1 == (wrap64 ((t382.length : Int) - 1))) = true:=c26
           (try (have c26b1 : decide (x13_1 = (wrap64 ((t382.length : Int) - 1))) = true:=by simpa using c26))
           (try (have c26b2 : (x13_1 == (wrap64 ((t382.length : Int) - 1))) = true:=by simpa using c26))
           clear c26
           replace H:=mi_ H
           obtain ⟨c27,H⟩:=H
           have LMc27:=Aside0.mk c27
           clear c27
           obtain ⟨y393,hy393⟩ : ∃ y_ : List ByteArray,y_ = (x3_1 ++ [(⟨#[]⟩ : ByteArray)]):=⟨_,rfl⟩
           replace H : (impl_dropDots.l0 kj11 y393 t382 t382 (t382.length : Int) (wrap64 (x13_1 + 1))) = some r:=by first | (rw [hy393];with_reducible exact H) | (have H2_:=(Option.bind_some _ _).symm.trans H;rw [hy393];with_reducible exact H2_) | (have H2_:=(Option.bind_some _ _).symm.trans H;with_reducible exact H2_) | with_reducible exact H | (rw [hy393];exact H) | exact H
           have Ny393:=Aside0.mk hy393
           clear hy393
           have H':=Aside0.mk H
           clear H
           go_wp2_with (first | ((with_reducible refine gate_builtin (b:=.append) (xs:=#[.tmp 44,.tmp 45]) rfl ?_);(try (refine gate_guard (by rfl) ?_;dsimp only));at_builtin;refine Kd.R_append Kd.string (w0:=w) w.heap.size rfl (.tmp 44) (.tmp 45) 50 9 (.string ⟨#[]⟩) 16 rfl Tryz.underlying50 info9 rfl (by decide) (by omega) u3 x3_1 (⟨#[]⟩ : ByteArray) [.string (⟨#[]⟩ : ByteArray)] (fun k_ => some k_ ≠ (.slice (some ad386) t382.length co5 : Value).ownBlock ∧ some k_ ≠ (.slice (some ad386) t382.length co5 : Value).ownBlock) (fun _ => False) rfl rfl ?aP (fun _ hk => hk.elim) ?aF ?aO ?aB ?aS ?aL ?_;(case aP => exact rfl);(case aB => exact (xw_ HB));(case aF => exact (fun k_ hk => ⟨Kd.fresh' (Kd.R_lt (xr_ HO_4)) k_ hk,Kd.fresh' (Kd.R_lt (xr_ HO_11)) k_ hk⟩));(case aO => exact (xr_ HO_3));(case aS => exact (below_size (xw_ HB)));(case aL => have:=LMc27.out;omega);intro v394 w28 ho hb hg hat;rw [← Ny393.out] at ho;replace HO_4:=Aside0.mk (Kd.R_after (ok:=(fun _ => True)) (xrt_ (Kd.R_mono HO_4.out (fun _ hk => ⟨trivial,hk⟩))) hg hat);replace HO_11:=Aside0.mk (Kd.R_after (ok:=(fun _ => True)) (xrt_ (Kd.R_mono HO_11.out (fun _ hk => ⟨trivial,hk⟩))) hg hat);replace HB:=Aside0.mk (hb);have HO395:=Aside0.mk (ho);clear HO_3;clear ho hb hg hat))
           go_roundg kj11
           case measure => have:=HK1.out;have:=HJ8.out;have:=HJ11.out;omega
           case rel => exact ⟨(y393),(wrap64 (x13_1 + 1)),me_,H',⟨by have:=HK1.out;have:=HJ8.out;have:=HJ11.out;omega⟩,⟨xr_ HO395⟩,⟨xrt_ (Kd.R_mono HO_4.out (fun _ hk => hk.2))⟩,⟨xrt_ (Kd.R_mono HO_11.out (fun _ hk => hk.2))⟩,⟨xw_ HB⟩⟩
          ·rw [if_neg c26] at H
           have c26b0 : (x13_1 == (wrap64 ((t382.length : Int) - 1))) = false:=by simpa using c26
           (try (have c26b1 : decide (x13_1 = (wrap64 ((t382.length : Int) - 1))) = false:=by simpa using c26))
           (try (have c26b2 : (x13_1 == (wrap64 ((t382.length : Int) - 1))) = false:=by simpa using c26))
           (try (have c26b3 : ¬ (x13_1 = (wrap64 ((t382.length : Int) - 1))):=by simpa using c26))
           clear c26
           have H':=Aside0.mk H
           clear H
           go_wp2
           go_roundg kj11
           case measure => have:=HK1.out;have:=HJ8.out;have:=HJ11.out;omega
           case rel => exact ⟨(x3_1),(wrap64 (x13_1 + 1)),me_,H',⟨by have:=HK1.out;have:=HJ8.out;have:=HJ11.out;omega⟩,⟨xr_ HO_3⟩,⟨xr_ HO_4⟩,⟨xr_ HO_11⟩,⟨xw_ HB⟩⟩
      ·replace c11:=Bool.eq_false_iff.mpr c11
       subst c11
       rw [if_neg (show ¬ (false = true) by decide)] at H
       replace H:=mi_ H
       obtain ⟨c29,H⟩:=H
       have LMc29:=Aside0.mk c29
       clear c29
       obtain ⟨y396,hy396⟩ : ∃ y_ : List ByteArray,y_ = (x3_1 ++ [(rdOf ByteArray.empty t382 x13_1)]):=⟨_,rfl⟩
       replace H : (impl_dropDots.l0 kj8 y396 t382 t382 (t382.length : Int) (wrap64 (x13_1 + 1))) = some r:=by first | (rw [hy396];with_reducible exact H) | (have H2_:=(Option.bind_some _ _).symm.trans H;rw [hy396];with_reducible exact H2_) | (have H2_:=(Option.bind_some _ _).symm.trans H;with_reducible exact H2_) | with_reducible exact H | (rw [hy396];exact H) | exact H
       have Ny396:=Aside0.mk hy396
       clear hy396
       have H':=Aside0.mk H
       clear H
       go_wp2_with (first | ((with_reducible refine gate_builtin (b:=.append) (xs:=#[.tmp 24,.tmp 26]) rfl ?_);(try (refine gate_guard (by rfl) ?_;dsimp only));at_builtin;refine Kd.R_append Kd.string (w0:=w) w.heap.size rfl (.tmp 24) (.tmp 26) 50 9 (.string ⟨#[]⟩) 16 rfl Tryz.underlying50 info9 rfl (by decide) (by omega) u3 x3_1 (rdOf ByteArray.empty t382 x13_1) [.string (rdOf ByteArray.empty t382 x13_1)] (fun k_ => some k_ ≠ (.slice (some ad386) t382.length co5 : Value).ownBlock ∧ some k_ ≠ (.slice (some ad386) t382.length co5 : Value).ownBlock) (fun _ => False) rfl rfl ?aP (fun _ hk => hk.elim) ?aF ?aO ?aB ?aS ?aL ?_;(case aP => exact rfl);(case aB => exact (xw_ HB));(case aF => exact (fun k_ hk => ⟨Kd.fresh' (Kd.R_lt (xr_ HO_4)) k_ hk,Kd.fresh' (Kd.R_lt (xr_ HO_11)) k_ hk⟩));(case aO => exact (xr_ HO_3));(case aS => exact (below_size (xw_ HB)));(case aL => have:=LMc29.out;omega);intro v397 w30 ho hb hg hat;rw [← Ny396.out] at ho;replace HO_4:=Aside0.mk (Kd.R_after (ok:=(fun _ => True)) (xrt_ (Kd.R_mono HO_4.out (fun _ hk => ⟨trivial,hk⟩))) hg hat);replace HO_11:=Aside0.mk (Kd.R_after (ok:=(fun _ => True)) (xrt_ (Kd.R_mono HO_11.out (fun _ hk => ⟨trivial,hk⟩))) hg hat);replace HB:=Aside0.mk (hb);have HO398:=Aside0.mk (ho);clear HO_3;clear ho hb hg hat))
       go_roundg kj8
       case measure => have:=HK1.out;have:=HJ8.out;omega
       case rel => exact ⟨(y396),(wrap64 (x13_1 + 1)),me_,H',⟨by have:=HK1.out;have:=HJ8.out;omega⟩,⟨xr_ HO398⟩,⟨xrt_ (Kd.R_mono HO_4.out (fun _ hk => hk.2))⟩,⟨xrt_ (Kd.R_mono HO_11.out (fun _ hk => hk.2))⟩,⟨xw_ HB⟩⟩
   ·rw [if_neg c6] at H
    have c6b0:=decide_eq_false c6
    clear c6
    replace H:=mb_ H
    obtain ⟨t385,A31,H⟩:=H
    replace H:=mi_ H
    obtain ⟨c32,H⟩:=H
    have c32b0:=eq_true c32
    have c32b1:=decide_eq_true c32
    try have c32b2 : (9223372036854775807 < 1 + t385.size) = False:=eq_false (Nat.not_lt.2 c32)
    obtain rfl:=Option.some.inj H
    obtain ⟨Ao33,co33,eo33⟩:=Kd.R_slice HO_3.out
    subst eo33
    go_wp2_with (first | ((with_reducible refine gc_ 94 ?_);refine xgl_ (some 49) Tryz.func94 #[.slice Ao33 x3_1.length co33,.string (⟨#[47]⟩ : ByteArray)] ?_;(with_reducible refine (strings_Join.calls _ _ x3_1 (⟨#[47]⟩ : ByteArray) t385 _ ?side1 ?side2 A31.out).mono ?_);(case side1 => exact xc_ ((Kd.R_reads' HO_3.out).2.2));(case side2 => exact (Kd.R_reads' HO_3.out).2.1);rintro e w34 ⟨rfl,hb⟩;refine ⟨_,rfl,?_⟩;replace HO_3:=xrb_ HO_3 hb;replace HO_4:=xrb_ HO_4 hb;replace HO_11:=xrb_ HO_11 hb;replace HB:=xws_ HB hb;(try clear hb)))
    go_ret
    exact ⟨mf_,xw_ HB⟩

/-! ### impl_ResolveUrl: function 38 -/
def impl_ResolveUrl.f (k : Nat) (a0_0 : ByteArray) (a0_1 : ByteArray) (a0_2 : Int) (a0_3 : ByteArray) (a0_4 : ByteArray) (a0_5 : Bool) (a1 : ByteArray) : Option (ByteArray × ByteArray × Int × ByteArray × ByteArray × Bool × Bool):=(impl_GoodUrl.f k a0_0 a0_1 a0_2 a0_3 a0_4 a0_5).bind fun t401 => (if t401 = true then (if a1.toList = ([] : List UInt8) then (some (a0_0,a0_1,a0_2,a0_3,a0_4,a0_5,true)) else ((impl_resolved.f k a0_0 a0_1 a0_2 a0_3 a0_4 a0_5 a1).bind fun bt402 => (if bt402.2.2.2.2.2.2 = true then ((impl_dropDots.f k bt402.2.2.2.1).bind fun t410 => ((impl_GoodUrl.f k bt402.1 bt402.2.1 bt402.2.2.1 t410 bt402.2.2.2.2.1 bt402.2.2.2.2.2.1).bind fun t411 => (if t411 = true then (some (bt402.1,bt402.2.1,bt402.2.2.1,t410,bt402.2.2.2.2.1,bt402.2.2.2.2.2.1,true)) else (some ((⟨#[]⟩ : ByteArray),(⟨#[]⟩ : ByteArray),0,(⟨#[]⟩ : ByteArray),(⟨#[]⟩ : ByteArray),false,false))))) else (some ((⟨#[]⟩ : ByteArray),(⟨#[]⟩ : ByteArray),0,(⟨#[]⟩ : ByteArray),(⟨#[]⟩ : ByteArray),false,false))))) else (some ((⟨#[]⟩ : ByteArray),(⟨#[]⟩ : ByteArray),0,(⟨#[]⟩ : ByteArray),(⟨#[]⟩ : ByteArray),false,false)))
set_option maxHeartbeats 8000000 in
set_option maxRecDepth 100000 in
theorem impl_ResolveUrl.calls (k : Nat) (a0_0 : ByteArray) (a0_1 : ByteArray) (a0_2 : Int) (a0_3 : ByteArray) (a0_4 : ByteArray) (a0_5 : Bool) (a1 : ByteArray) (r1 : ByteArray) (r2 : ByteArray) (r3 : Int) (r4 : ByteArray) (r5 : ByteArray) (r6 : Bool) (r7 : Bool) (w : World) (h : impl_ResolveUrl.f k a0_0 a0_1 a0_2 a0_3 a0_4 a0_5 a1 = some (r1,r2,r3,r4,r5,r6,r7)) (hT_ : TabOk w) :
  Calls Tryz.prog 38 #[.agg #[.string a0_0,.string a0_1,.int .i64 a0_2,.string a0_3,.string a0_4,.bool a0_5],.string a1] w fun e w' => e = .returned (.tuple #[.agg #[.string r1,.string r2,.int .i64 r3,.string r4,.string r5,.bool r6],.bool r7]) ∧ Below w.heap.size w w':=by
 have HTB_:=Aside0.mk hT_
 clear hT_
 have hu31:=Tryz.underlying31
 have HB:=Aside0.mk (Below.refl w.heap.size w)
 have H:=h
 unfold impl_ResolveUrl.f at H
 clear h
 replace H:=mb_ H
 obtain ⟨t401,A3,H⟩:=H
 by_cases c4 : t401 = true
 ·subst c4
  rw [if_pos rfl] at H
  by_cases c5 : a1.toList = ([] : List UInt8)
  ·rw [if_pos c5] at H
   have c5b0 : (a1.toList == ([] : List UInt8)) = true:=beq_iff_eq.mpr c5
   have c5b1 : (a1.toList != ([] : List UInt8)) = false:=bne_eq_false_iff_eq.mpr c5
   clear c5
   simp only [Option.some.injEq,Prod.mk.injEq] at H
   obtain ⟨rfl,rfl,rfl,rfl,rfl,rfl,rfl⟩:=H
   go_enter Tryz.func38,Tryz.ntmps38
   go_wp2_with (first | ((with_reducible refine gd_ 2 ?_);refine xbe_ (N:=2) (cs:=#[.string a0_0,.string a0_1,.int .i64 a0_2,.string a0_3,.string a0_4,.bool a0_5]) (t:=31) ?_;intro gb399 hg w6 hbox hb;have BK399:=Aside0.mk (hbox);have GE399:=xge_ HB hg;replace HB:=xws_ HB hb;clear hb hbox hg) | ((with_reducible refine gd_ 4 ?_);refine xbe_ (N:=4) (cs:=#[.string (⟨#[]⟩ : ByteArray),.string (⟨#[]⟩ : ByteArray),.int .i64 0,.string (⟨#[]⟩ : ByteArray),.string (⟨#[]⟩ : ByteArray),.bool false]) (t:=31) ?_;intro gb400 hg w7 hbox hb;have BK400:=Aside0.mk (hbox);have GE400:=xge_ HB hg;replace HB:=xws_ HB hb;have NB399_400:=xlt_ BK399 hg;have NB400_399:=xgt_ BK399 hg;replace BK399:=xbb_ BK399 hb;clear hb hbox hg;have hnb8:=NB399_400.out;have hnc8:=NB400_399.out;have ⟨_,_,_,_,_,_,_,_,_,_,_,_⟩:=c6_ BK399) | ((with_reducible refine gc_ 74 ?_);refine xgl_ (some 9) Tryz.func74 #[.agg #[.string a0_0,.string a0_1,.int .i64 a0_2,.string a0_3,.string a0_4,.bool a0_5]] ?_;(with_reducible refine (impl_GoodUrl.calls k a0_0 a0_1 a0_2 a0_3 a0_4 a0_5 true _ A3.out (HTB_.out.below (by first | (with_reducible exact Below.refl _ _) | (repeat (first | (with_reducible first | exact HB.out | exact Below.refl _ _ | apply below_alloc | apply pw_below_drewN | apply below_drew1 | refine below_set ?_ GE399.out | refine below_set ?_ GE400.out | refine below_set ?_ GE409.out) | exact HB.out)) | (repeat (first | exact Below.refl _ _ | apply below_alloc | apply pw_below_drewN | apply below_drew1 | refine below_set ?_ GE399.out | refine below_set ?_ GE400.out | refine below_set ?_ GE409.out))))).mono ?_);rintro e w10 ⟨rfl,hb⟩;refine ⟨_,rfl,?_⟩;replace BK399:=xbb_ BK399 hb;replace BK400:=xbb_ BK400 hb;replace HB:=xws_ HB hb;(try clear hb);have ⟨_,_,_,_,_,_,_,_,_,_,_,_⟩:=c6_ BK399;have ⟨_,_,_,_,_,_,_,_,_,_,_,_⟩:=c6_ BK400))
   refine bodyPost_ret (results_ct rfl _ _ gb400 31 #[.string a0_0,.string a0_1,.int .i64 a0_2,.string a0_3,.string a0_4,.bool a0_5] (0,0) _ rfl (mx_ BK400) Tryz.underlying31 rfl (by kernel_rfl)) rfl ?_
   exact ⟨mf_,xw_ HB⟩
  ·rw [if_neg c5] at H
   have c5b0 : (a1.toList == ([] : List UInt8)) = false:=beq_eq_false_iff_ne.mpr c5
   have c5b1 : (a1.toList != ([] : List UInt8)) = true:=bne_iff_ne.mpr c5
   replace H:=mb_ H
   obtain ⟨⟨t402,t403,t404,t405,t406,t407,t408⟩,A13,H⟩:=H
   dsimp only at H
   by_cases c14 : t408 = true
   ·subst c14
    rw [if_pos rfl] at H
    replace H:=mb_ H
    obtain ⟨t410,A15,H⟩:=H
    replace H:=mb_ H
    obtain ⟨t411,A16,H⟩:=H
    by_cases c17 : t411 = true
    ·subst c17
     rw [if_pos rfl] at H
     simp only [Option.some.injEq,Prod.mk.injEq] at H
     obtain ⟨rfl,rfl,rfl,rfl,rfl,rfl,rfl⟩:=H
     go_enter Tryz.func38,Tryz.ntmps38
     go_wp2_with (first | ((with_reducible refine gd_ 2 ?_);refine xbe_ (N:=2) (cs:=#[.string a0_0,.string a0_1,.int .i64 a0_2,.string a0_3,.string a0_4,.bool a0_5]) (t:=31) ?_;intro gb399 hg w18 hbox hb;have BK399:=Aside0.mk (hbox);have GE399:=xge_ HB hg;replace HB:=xws_ HB hb;clear hb hbox hg) | ((with_reducible refine gd_ 4 ?_);refine xbe_ (N:=4) (cs:=#[.string (⟨#[]⟩ : ByteArray),.string (⟨#[]⟩ : ByteArray),.int .i64 0,.string (⟨#[]⟩ : ByteArray),.string (⟨#[]⟩ : ByteArray),.bool false]) (t:=31) ?_;intro gb400 hg w19 hbox hb;have BK400:=Aside0.mk (hbox);have GE400:=xge_ HB hg;replace HB:=xws_ HB hb;have NB399_400:=xlt_ BK399 hg;have NB400_399:=xgt_ BK399 hg;replace BK399:=xbb_ BK399 hb;clear hb hbox hg;have hnb20:=NB399_400.out;have hnc20:=NB400_399.out;have ⟨_,_,_,_,_,_,_,_,_,_,_,_⟩:=c6_ BK399) | ((with_reducible refine gc_ 74 ?_);refine xgl_ (some 9) Tryz.func74 #[.agg #[.string a0_0,.string a0_1,.int .i64 a0_2,.string a0_3,.string a0_4,.bool a0_5]] ?_;(with_reducible refine (impl_GoodUrl.calls k a0_0 a0_1 a0_2 a0_3 a0_4 a0_5 true _ A3.out (HTB_.out.below (by first | (with_reducible exact Below.refl _ _) | (repeat (first | (with_reducible first | exact HB.out | exact Below.refl _ _ | apply below_alloc | apply pw_below_drewN | apply below_drew1 | refine below_set ?_ GE399.out | refine below_set ?_ GE400.out | refine below_set ?_ GE409.out) | exact HB.out)) | (repeat (first | exact Below.refl _ _ | apply below_alloc | apply pw_below_drewN | apply below_drew1 | refine below_set ?_ GE399.out | refine below_set ?_ GE400.out | refine below_set ?_ GE409.out))))).mono ?_);rintro e w22 ⟨rfl,hb⟩;refine ⟨_,rfl,?_⟩;replace BK399:=xbb_ BK399 hb;replace BK400:=xbb_ BK400 hb;replace HB:=xws_ HB hb;(try clear hb);have ⟨_,_,_,_,_,_,_,_,_,_,_,_⟩:=c6_ BK399) | ((with_reducible refine gc_ 75 ?_);refine xgl_ (some 18) Tryz.func75 #[.agg #[.string a0_0,.string a0_1,.int .i64 a0_2,.string a0_3,.string a0_4,.bool a0_5],.string a1] ?_;(with_reducible refine (impl_resolved.calls k a0_0 a0_1 a0_2 a0_3 a0_4 a0_5 a1 t402 t403 t404 t405 t406 t407 true _ A13.out (HTB_.out.below (by first | (with_reducible exact Below.refl _ _) | (repeat (first | (with_reducible first | exact HB.out | exact Below.refl _ _ | apply below_alloc | apply pw_below_drewN | apply below_drew1 | refine below_set ?_ GE399.out | refine below_set ?_ GE400.out | refine below_set ?_ GE409.out) | exact HB.out)) | (repeat (first | exact Below.refl _ _ | apply below_alloc | apply pw_below_drewN | apply below_drew1 | refine below_set ?_ GE399.out | refine below_set ?_ GE400.out | refine below_set ?_ GE409.out))))).mono ?_);rintro e w24 ⟨rfl,hb⟩;refine ⟨_,rfl,?_⟩;replace BK399:=xbb_ BK399 hb;replace BK400:=xbb_ BK400 hb;replace HB:=xws_ HB hb;(try clear hb)) | ((with_reducible refine gd_ 6 ?_);refine xbe_ (N:=6) (cs:=#[.string (⟨#[]⟩ : ByteArray),.string (⟨#[]⟩ : ByteArray),.int .i64 0,.string (⟨#[]⟩ : ByteArray),.string (⟨#[]⟩ : ByteArray),.bool false]) (t:=31) ?_;intro gb409 hg w25 hbox hb;have BK409:=Aside0.mk (hbox);have GE409:=xge_ HB hg;replace HB:=xws_ HB hb;have NB399_409:=xlt_ BK399 hg;have NB409_399:=xgt_ BK399 hg;replace BK399:=xbb_ BK399 hb;have NB400_409:=xlt_ BK400 hg;have NB409_400:=xgt_ BK400 hg;replace BK400:=xbb_ BK400 hb;clear hb hbox hg;have hnb26:=NB409_399.out;have hnc26:=NB399_409.out;have hnb27:=NB409_400.out;have hnc27:=NB400_409.out;have ⟨_,_,_,_,_,_,_,_,_,_,_,_⟩:=c6_ BK409) | ((with_reducible refine gc_ 76 ?_);refine xgl_ (some 26) Tryz.func76 #[.string t405] ?_;(with_reducible refine (impl_dropDots.calls k t405 t410 _ A15.out (HTB_.out.below (by first | (with_reducible exact Below.refl _ _) | (repeat (first | (with_reducible first | exact HB.out | exact Below.refl _ _ | apply below_alloc | apply pw_below_drewN | apply below_drew1 | refine below_set ?_ GE399.out | refine below_set ?_ GE400.out | refine below_set ?_ GE409.out) | exact HB.out)) | (repeat (first | exact Below.refl _ _ | apply below_alloc | apply pw_below_drewN | apply below_drew1 | refine below_set ?_ GE399.out | refine below_set ?_ GE400.out | refine below_set ?_ GE409.out))))).mono ?_);rintro e w29 ⟨rfl,hb⟩;refine ⟨_,rfl,?_⟩;replace BK399:=mxb_ (o':=.cells #[.string a0_0,.string a0_1,.int .i64 a0_2,.string a0_3,.string a0_4,.bool a0_5] 31 (0,0)) BK399 hb;replace BK400:=mxb_ (o':=.cells #[.string (⟨#[]⟩ : ByteArray),.string (⟨#[]⟩ : ByteArray),.int .i64 0,.string (⟨#[]⟩ : ByteArray),.string (⟨#[]⟩ : ByteArray),.bool false] 31 (0,0)) BK400 hb;replace BK409:=mxb_ (o':=.cells #[.string t402,.string t403,.int .i64 t404,.string t405,.string t406,.bool t407] 31 (0,0)) BK409 hb;replace HB:=xws_ HB hb;(try clear hb);have ⟨_,_,_,_,_,_,_,_,_,_,_,_⟩:=c6_ BK409) | ((with_reducible refine gc_ 74 ?_);refine xgl_ (some 29) Tryz.func74 #[.agg #[.string t402,.string t403,.int .i64 t404,.string t410,.string t406,.bool t407]] ?_;(with_reducible refine (impl_GoodUrl.calls k t402 t403 t404 t410 t406 t407 true _ A16.out (HTB_.out.below (by first | (with_reducible exact Below.refl _ _) | (repeat (first | (with_reducible first | exact HB.out | exact Below.refl _ _ | apply below_alloc | apply pw_below_drewN | apply below_drew1 | refine below_set ?_ GE399.out | refine below_set ?_ GE400.out | refine below_set ?_ GE409.out) | exact HB.out)) | (repeat (first | exact Below.refl _ _ | apply below_alloc | apply pw_below_drewN | apply below_drew1 | refine below_set ?_ GE399.out | refine below_set ?_ GE400.out | refine below_set ?_ GE409.out))))).mono ?_);rintro e w31 ⟨rfl,hb⟩;refine ⟨_,rfl,?_⟩;replace BK399:=mxb_ (o':=.cells #[.string a0_0,.string a0_1,.int .i64 a0_2,.string a0_3,.string a0_4,.bool a0_5] 31 (0,0)) BK399 hb;replace BK400:=mxb_ (o':=.cells #[.string (⟨#[]⟩ : ByteArray),.string (⟨#[]⟩ : ByteArray),.int .i64 0,.string (⟨#[]⟩ : ByteArray),.string (⟨#[]⟩ : ByteArray),.bool false] 31 (0,0)) BK400 hb;replace BK409:=mxb_ (o':=.cells #[.string t402,.string t403,.int .i64 t404,.string t410,.string t406,.bool t407] 31 (0,0)) BK409 hb;replace HB:=xws_ HB hb;(try clear hb);have ⟨_,_,_,_,_,_,_,_,_,_,_,_⟩:=c6_ BK409;have ⟨_,_,_,_,_,_,_,_,_,_,_,_⟩:=c6_ BK400))
     refine bodyPost_ret (results_ct rfl _ _ gb400 31 #[.string t402,.string t403,.int .i64 t404,.string t410,.string t406,.bool t407] (0,0) _ rfl (mx_ BK400) Tryz.underlying31 rfl (by kernel_rfl)) rfl ?_
     exact ⟨mf_,xw_ HB⟩
    ·replace c17:=Bool.eq_false_iff.mpr c17
     subst c17
     rw [if_neg (show ¬ (false = true) by decide)] at H
     simp only [Option.some.injEq,Prod.mk.injEq] at H
     obtain ⟨rfl,rfl,rfl,rfl,rfl,rfl,rfl⟩:=H
     go_enter Tryz.func38,Tryz.ntmps38
     go_wp2_with (first | ((with_reducible refine gd_ 2 ?_);refine xbe_ (N:=2) (cs:=#[.string a0_0,.string a0_1,.int .i64 a0_2,.string a0_3,.string a0_4,.bool a0_5]) (t:=31) ?_;intro gb399 hg w34 hbox hb;have BK399:=Aside0.mk (hbox);have GE399:=xge_ HB hg;replace HB:=xws_ HB hb;clear hb hbox hg) | ((with_reducible refine gd_ 4 ?_);refine xbe_ (N:=4) (cs:=#[.string (⟨#[]⟩ : ByteArray),.string (⟨#[]⟩ : ByteArray),.int .i64 0,.string (⟨#[]⟩ : ByteArray),.string (⟨#[]⟩ : ByteArray),.bool false]) (t:=31) ?_;intro gb400 hg w35 hbox hb;have BK400:=Aside0.mk (hbox);have GE400:=xge_ HB hg;replace HB:=xws_ HB hb;have NB399_400:=xlt_ BK399 hg;have NB400_399:=xgt_ BK399 hg;replace BK399:=xbb_ BK399 hb;clear hb hbox hg;have hnb36:=NB399_400.out;have hnc36:=NB400_399.out;have ⟨_,_,_,_,_,_,_,_,_,_,_,_⟩:=c6_ BK399) | ((with_reducible refine gc_ 74 ?_);refine xgl_ (some 9) Tryz.func74 #[.agg #[.string a0_0,.string a0_1,.int .i64 a0_2,.string a0_3,.string a0_4,.bool a0_5]] ?_;(with_reducible refine (impl_GoodUrl.calls k a0_0 a0_1 a0_2 a0_3 a0_4 a0_5 true _ A3.out (HTB_.out.below (by first | (with_reducible exact Below.refl _ _) | (repeat (first | (with_reducible first | exact HB.out | exact Below.refl _ _ | apply below_alloc | apply pw_below_drewN | apply below_drew1 | refine below_set ?_ GE399.out | refine below_set ?_ GE400.out | refine below_set ?_ GE409.out) | exact HB.out)) | (repeat (first | exact Below.refl _ _ | apply below_alloc | apply pw_below_drewN | apply below_drew1 | refine below_set ?_ GE399.out | refine below_set ?_ GE400.out | refine below_set ?_ GE409.out))))).mono ?_);rintro e w38 ⟨rfl,hb⟩;refine ⟨_,rfl,?_⟩;replace BK399:=xbb_ BK399 hb;replace BK400:=xbb_ BK400 hb;replace HB:=xws_ HB hb;(try clear hb);have ⟨_,_,_,_,_,_,_,_,_,_,_,_⟩:=c6_ BK399) | ((with_reducible refine gc_ 75 ?_);refine xgl_ (some 18) Tryz.func75 #[.agg #[.string a0_0,.string a0_1,.int .i64 a0_2,.string a0_3,.string a0_4,.bool a0_5],.string a1] ?_;(with_reducible refine (impl_resolved.calls k a0_0 a0_1 a0_2 a0_3 a0_4 a0_5 a1 t402 t403 t404 t405 t406 t407 true _ A13.out (HTB_.out.below (by first | (with_reducible exact Below.refl _ _) | (repeat (first | (with_reducible first | exact HB.out | exact Below.refl _ _ | apply below_alloc | apply pw_below_drewN | apply below_drew1 | refine below_set ?_ GE399.out | refine below_set ?_ GE400.out | refine below_set ?_ GE409.out) | exact HB.out)) | (repeat (first | exact Below.refl _ _ | apply below_alloc | apply pw_below_drewN | apply below_drew1 | refine below_set ?_ GE399.out | refine below_set ?_ GE400.out | refine below_set ?_ GE409.out))))).mono ?_);rintro e w40 ⟨rfl,hb⟩;refine ⟨_,rfl,?_⟩;replace BK399:=xbb_ BK399 hb;replace BK400:=xbb_ BK400 hb;replace HB:=xws_ HB hb;(try clear hb)) | ((with_reducible refine gd_ 6 ?_);refine xbe_ (N:=6) (cs:=#[.string (⟨#[]⟩ : ByteArray),.string (⟨#[]⟩ : ByteArray),.int .i64 0,.string (⟨#[]⟩ : ByteArray),.string (⟨#[]⟩ : ByteArray),.bool false]) (t:=31) ?_;intro gb409 hg w41 hbox hb;have BK409:=Aside0.mk (hbox);have GE409:=xge_ HB hg;replace HB:=xws_ HB hb;have NB399_409:=xlt_ BK399 hg;have NB409_399:=xgt_ BK399 hg;replace BK399:=xbb_ BK399 hb;have NB400_409:=xlt_ BK400 hg;have NB409_400:=xgt_ BK400 hg;replace BK400:=xbb_ BK400 hb;clear hb hbox hg;have hnb42:=NB409_399.out;have hnc42:=NB399_409.out;have hnb43:=NB409_400.out;have hnc43:=NB400_409.out;have ⟨_,_,_,_,_,_,_,_,_,_,_,_⟩:=c6_ BK409) | ((with_reducible refine gc_ 76 ?_);refine xgl_ (some 26) Tryz.func76 #[.string t405] ?_;(with_reducible refine (impl_dropDots.calls k t405 t410 _ A15.out (HTB_.out.below (by first | (with_reducible exact Below.refl _ _) | (repeat (first | (with_reducible first | exact HB.out | exact Below.refl _ _ | apply below_alloc | apply pw_below_drewN | apply below_drew1 | refine below_set ?_ GE399.out | refine below_set ?_ GE400.out | refine below_set ?_ GE409.out) | exact HB.out)) | (repeat (first | exact Below.refl _ _ | apply below_alloc | apply pw_below_drewN | apply below_drew1 | refine below_set ?_ GE399.out | refine below_set ?_ GE400.out | refine below_set ?_ GE409.out))))).mono ?_);rintro e w45 ⟨rfl,hb⟩;refine ⟨_,rfl,?_⟩;replace BK399:=mxb_ (o':=.cells #[.string a0_0,.string a0_1,.int .i64 a0_2,.string a0_3,.string a0_4,.bool a0_5] 31 (0,0)) BK399 hb;replace BK400:=mxb_ (o':=.cells #[.string (⟨#[]⟩ : ByteArray),.string (⟨#[]⟩ : ByteArray),.int .i64 0,.string (⟨#[]⟩ : ByteArray),.string (⟨#[]⟩ : ByteArray),.bool false] 31 (0,0)) BK400 hb;replace BK409:=mxb_ (o':=.cells #[.string t402,.string t403,.int .i64 t404,.string t405,.string t406,.bool t407] 31 (0,0)) BK409 hb;replace HB:=xws_ HB hb;(try clear hb);have ⟨_,_,_,_,_,_,_,_,_,_,_,_⟩:=c6_ BK409) | ((with_reducible refine gc_ 74 ?_);refine xgl_ (some 29) Tryz.func74 #[.agg #[.string t402,.string t403,.int .i64 t404,.string t410,.string t406,.bool t407]] ?_;(with_reducible refine (impl_GoodUrl.calls k t402 t403 t404 t410 t406 t407 false _ A16.out (HTB_.out.below (by first | (with_reducible exact Below.refl _ _) | (repeat (first | (with_reducible first | exact HB.out | exact Below.refl _ _ | apply below_alloc | apply pw_below_drewN | apply below_drew1 | refine below_set ?_ GE399.out | refine below_set ?_ GE400.out | refine below_set ?_ GE409.out) | exact HB.out)) | (repeat (first | exact Below.refl _ _ | apply below_alloc | apply pw_below_drewN | apply below_drew1 | refine below_set ?_ GE399.out | refine below_set ?_ GE400.out | refine below_set ?_ GE409.out))))).mono ?_);rintro e w47 ⟨rfl,hb⟩;refine ⟨_,rfl,?_⟩;replace BK399:=mxb_ (o':=.cells #[.string a0_0,.string a0_1,.int .i64 a0_2,.string a0_3,.string a0_4,.bool a0_5] 31 (0,0)) BK399 hb;replace BK400:=mxb_ (o':=.cells #[.string (⟨#[]⟩ : ByteArray),.string (⟨#[]⟩ : ByteArray),.int .i64 0,.string (⟨#[]⟩ : ByteArray),.string (⟨#[]⟩ : ByteArray),.bool false] 31 (0,0)) BK400 hb;replace BK409:=mxb_ (o':=.cells #[.string t402,.string t403,.int .i64 t404,.string t410,.string t406,.bool t407] 31 (0,0)) BK409 hb;replace HB:=xws_ HB hb;(try clear hb);have ⟨_,_,_,_,_,_,_,_,_,_,_,_⟩:=c6_ BK400))
     refine bodyPost_ret (results_ct rfl _ _ gb400 31 #[.string (⟨#[]⟩ : ByteArray),.string (⟨#[]⟩ : ByteArray),.int .i64 0,.string (⟨#[]⟩ : ByteArray),.string (⟨#[]⟩ : ByteArray),.bool false] (0,0) _ rfl (mx_ BK400) Tryz.underlying31 rfl (by kernel_rfl)) rfl ?_
     exact ⟨mf_,xw_ HB⟩
   ·replace c14:=Bool.eq_false_iff.mpr c14
    subst c14
    rw [if_neg (show ¬ (false = true) by decide)] at H
    simp only [Option.some.injEq,Prod.mk.injEq] at H
    obtain ⟨rfl,rfl,rfl,rfl,rfl,rfl,rfl⟩:=H
    go_enter Tryz.func38,Tryz.ntmps38
    go_wp2_with (first | ((with_reducible refine gd_ 2 ?_);refine xbe_ (N:=2) (cs:=#[.string a0_0,.string a0_1,.int .i64 a0_2,.string a0_3,.string a0_4,.bool a0_5]) (t:=31) ?_;intro gb399 hg w49 hbox hb;have BK399:=Aside0.mk (hbox);have GE399:=xge_ HB hg;replace HB:=xws_ HB hb;clear hb hbox hg) | ((with_reducible refine gd_ 4 ?_);refine xbe_ (N:=4) (cs:=#[.string (⟨#[]⟩ : ByteArray),.string (⟨#[]⟩ : ByteArray),.int .i64 0,.string (⟨#[]⟩ : ByteArray),.string (⟨#[]⟩ : ByteArray),.bool false]) (t:=31) ?_;intro gb400 hg w50 hbox hb;have BK400:=Aside0.mk (hbox);have GE400:=xge_ HB hg;replace HB:=xws_ HB hb;have NB399_400:=xlt_ BK399 hg;have NB400_399:=xgt_ BK399 hg;replace BK399:=xbb_ BK399 hb;clear hb hbox hg;have hnb51:=NB399_400.out;have hnc51:=NB400_399.out;have ⟨_,_,_,_,_,_,_,_,_,_,_,_⟩:=c6_ BK399) | ((with_reducible refine gc_ 74 ?_);refine xgl_ (some 9) Tryz.func74 #[.agg #[.string a0_0,.string a0_1,.int .i64 a0_2,.string a0_3,.string a0_4,.bool a0_5]] ?_;(with_reducible refine (impl_GoodUrl.calls k a0_0 a0_1 a0_2 a0_3 a0_4 a0_5 true _ A3.out (HTB_.out.below (by first | (with_reducible exact Below.refl _ _) | (repeat (first | (with_reducible first | exact HB.out | exact Below.refl _ _ | apply below_alloc | apply pw_below_drewN | apply below_drew1 | refine below_set ?_ GE399.out | refine below_set ?_ GE400.out | refine below_set ?_ GE409.out) | exact HB.out)) | (repeat (first | exact Below.refl _ _ | apply below_alloc | apply pw_below_drewN | apply below_drew1 | refine below_set ?_ GE399.out | refine below_set ?_ GE400.out | refine below_set ?_ GE409.out))))).mono ?_);rintro e w53 ⟨rfl,hb⟩;refine ⟨_,rfl,?_⟩;replace BK399:=xbb_ BK399 hb;replace BK400:=xbb_ BK400 hb;replace HB:=xws_ HB hb;(try clear hb);have ⟨_,_,_,_,_,_,_,_,_,_,_,_⟩:=c6_ BK399) | ((with_reducible refine gc_ 75 ?_);refine xgl_ (some 18) Tryz.func75 #[.agg #[.string a0_0,.string a0_1,.int .i64 a0_2,.string a0_3,.string a0_4,.bool a0_5],.string a1] ?_;(with_reducible refine (impl_resolved.calls k a0_0 a0_1 a0_2 a0_3 a0_4 a0_5 a1 t402 t403 t404 t405 t406 t407 false _ A13.out (HTB_.out.below (by first | (with_reducible exact Below.refl _ _) | (repeat (first | (with_reducible first | exact HB.out | exact Below.refl _ _ | apply below_alloc | apply pw_below_drewN | apply below_drew1 | refine below_set ?_ GE399.out | refine below_set ?_ GE400.out | refine below_set ?_ GE409.out) | exact HB.out)) | (repeat (first | exact Below.refl _ _ | apply below_alloc | apply pw_below_drewN | apply below_drew1 | refine below_set ?_ GE399.out | refine below_set ?_ GE400.out | refine below_set ?_ GE409.out))))).mono ?_);rintro e w55 ⟨rfl,hb⟩;refine ⟨_,rfl,?_⟩;replace BK399:=xbb_ BK399 hb;replace BK400:=xbb_ BK400 hb;replace HB:=xws_ HB hb;(try clear hb)) | ((with_reducible refine gd_ 6 ?_);refine xbe_ (N:=6) (cs:=#[.string (⟨#[]⟩ : ByteArray),.string (⟨#[]⟩ : ByteArray),.int .i64 0,.string (⟨#[]⟩ : ByteArray),.string (⟨#[]⟩ : ByteArray),.bool false]) (t:=31) ?_;intro gb409 hg w56 hbox hb;have BK409:=Aside0.mk (hbox);have GE409:=xge_ HB hg;replace HB:=xws_ HB hb;have NB399_409:=xlt_ BK399 hg;have NB409_399:=xgt_ BK399 hg;replace BK399:=xbb_ BK399 hb;have NB400_409:=xlt_ BK400 hg;have NB409_400:=xgt_ BK400 hg;replace BK400:=xbb_ BK400 hb;clear hb hbox hg;have hnb57:=NB409_399.out;have hnc57:=NB399_409.out;have hnb58:=NB409_400.out;have hnc58:=NB400_409.out;have ⟨_,_,_,_,_,_,_,_,_,_,_,_⟩:=c6_ BK409;have ⟨_,_,_,_,_,_,_,_,_,_,_,_⟩:=c6_ BK400))
    refine bodyPost_ret (results_ct rfl _ _ gb400 31 #[.string (⟨#[]⟩ : ByteArray),.string (⟨#[]⟩ : ByteArray),.int .i64 0,.string (⟨#[]⟩ : ByteArray),.string (⟨#[]⟩ : ByteArray),.bool false] (0,0) _ rfl (mx_ BK400) Tryz.underlying31 rfl (by kernel_rfl)) rfl ?_
    exact ⟨mf_,xw_ HB⟩
 ·replace c4:=Bool.eq_false_iff.mpr c4
  subst c4
  rw [if_neg (show ¬ (false = true) by decide)] at H
  simp only [Option.some.injEq,Prod.mk.injEq] at H
  obtain ⟨rfl,rfl,rfl,rfl,rfl,rfl,rfl⟩:=H
  go_enter Tryz.func38,Tryz.ntmps38
  go_wp2_with (first | ((with_reducible refine gd_ 2 ?_);refine xbe_ (N:=2) (cs:=#[.string a0_0,.string a0_1,.int .i64 a0_2,.string a0_3,.string a0_4,.bool a0_5]) (t:=31) ?_;intro gb399 hg w61 hbox hb;have BK399:=Aside0.mk (hbox);have GE399:=xge_ HB hg;replace HB:=xws_ HB hb;clear hb hbox hg) | ((with_reducible refine gd_ 4 ?_);refine xbe_ (N:=4) (cs:=#[.string (⟨#[]⟩ : ByteArray),.string (⟨#[]⟩ : ByteArray),.int .i64 0,.string (⟨#[]⟩ : ByteArray),.string (⟨#[]⟩ : ByteArray),.bool false]) (t:=31) ?_;intro gb400 hg w62 hbox hb;have BK400:=Aside0.mk (hbox);have GE400:=xge_ HB hg;replace HB:=xws_ HB hb;have NB399_400:=xlt_ BK399 hg;have NB400_399:=xgt_ BK399 hg;replace BK399:=xbb_ BK399 hb;clear hb hbox hg;have hnb63:=NB399_400.out;have hnc63:=NB400_399.out;have ⟨_,_,_,_,_,_,_,_,_,_,_,_⟩:=c6_ BK399) | ((with_reducible refine gc_ 74 ?_);refine xgl_ (some 9) Tryz.func74 #[.agg #[.string a0_0,.string a0_1,.int .i64 a0_2,.string a0_3,.string a0_4,.bool a0_5]] ?_;(with_reducible refine (impl_GoodUrl.calls k a0_0 a0_1 a0_2 a0_3 a0_4 a0_5 false _ A3.out (HTB_.out.below (by first | (with_reducible exact Below.refl _ _) | (repeat (first | (with_reducible first | exact HB.out | exact Below.refl _ _ | apply below_alloc | apply pw_below_drewN | apply below_drew1 | refine below_set ?_ GE399.out | refine below_set ?_ GE400.out | refine below_set ?_ GE409.out) | exact HB.out)) | (repeat (first | exact Below.refl _ _ | apply below_alloc | apply pw_below_drewN | apply below_drew1 | refine below_set ?_ GE399.out | refine below_set ?_ GE400.out | refine below_set ?_ GE409.out))))).mono ?_);rintro e w65 ⟨rfl,hb⟩;refine ⟨_,rfl,?_⟩;replace BK399:=xbb_ BK399 hb;replace BK400:=xbb_ BK400 hb;replace HB:=xws_ HB hb;(try clear hb);have ⟨_,_,_,_,_,_,_,_,_,_,_,_⟩:=c6_ BK400))
  refine bodyPost_ret (results_ct rfl _ _ gb400 31 #[.string (⟨#[]⟩ : ByteArray),.string (⟨#[]⟩ : ByteArray),.int .i64 0,.string (⟨#[]⟩ : ByteArray),.string (⟨#[]⟩ : ByteArray),.bool false] (0,0) _ rfl (mx_ BK400) Tryz.underlying31 rfl (by kernel_rfl)) rfl ?_
  exact ⟨mf_,xw_ HB⟩

/-! ### impl_isToken_1: function 148 -/
def impl_isToken_1.f (a0 : Int) : Option (Bool):=(impl_isAmong.f a0 (⟨#[33,35,36,37,38,39,42,43,45,46,94,95,124,126,96]⟩ : ByteArray)).bind fun t412 => (some t412)
set_option maxHeartbeats 8000000 in
set_option maxRecDepth 100000 in
theorem impl_isToken_1.calls (a0 : Int) (r : Bool) (w : World) (h : impl_isToken_1.f a0 = some r) :
  Calls Tryz.prog 148 #[.int .u8 a0] w fun e w' => e = .returned (.bool r) ∧ Drawn0 w w':=by
 have H:=h
 unfold impl_isToken_1.f at H
 clear h
 replace H:=mb_ H
 obtain ⟨t412,A2,H⟩:=H
 obtain rfl:=Option.some.inj H
 go_enter Tryz.func148,Tryz.ntmps148
 go_wp2_with (first | ((with_reducible refine gc_ 122 ?_);refine xgl_ (some 4) Tryz.func122 #[.int .u8 a0,.string (⟨#[33,35,36,37,38,39,42,43,45,46,94,95,124,126,96]⟩ : ByteArray)] ?_;(with_reducible refine (impl_isAmong.calls a0 (⟨#[33,35,36,37,38,39,42,43,45,46,94,95,124,126,96]⟩ : ByteArray) t412 _ A2.out).mono ?_);rintro e w' ⟨rfl,⟨nd,rfl⟩⟩;refine ⟨_,rfl,?_⟩))
 go_ret
 exact ⟨by first | rfl | (simp;done) | (simp [*];done),by repeat (first | exact Drawn0.refl _ | apply Drawn0.step)⟩

/-! ### xAll_u8_impl_isToken_1: function 158, with function 148 -/
def xAll_u8_impl_isToken_1.z (x : Int) : Option Bool:=(impl_isToken_1.f x).bind fun b => some (!b)
def xAll_u8_impl_isToken_1.f (l0 : List Int) : Option (Bool):=if l0.length < 9223372036854775807 then ((idxO (xAll_u8_impl_isToken_1.z) l0 0).bind fun i => some (!decide (i ≥ 0))) else none
set_option maxHeartbeats 8000000 in
set_option maxRecDepth 100000 in
theorem xAll_u8_impl_isToken_1.calls (A0 : Option Addr) (c0 : Nat) (l0 : List Int) (r : Bool) (w : World) (hr0 : Kd.C (Kd.int .u8) w A0 l0.length l0) (hc0 : l0.length ≤ c0) (h : xAll_u8_impl_isToken_1.f l0 = some r) :
    Calls Tryz.prog 158 #[.slice A0 l0.length c0,.func (.func 148) #[] #[]] w fun e w' => e = .returned (.bool r) ∧ Below w.heap.size w w':=by
  have hbig : l0.length < 9223372036854775807:=by
    by_cases c : l0.length < 9223372036854775807
    · exact c
    · unfold xAll_u8_impl_isToken_1.f at h;rw [if_neg c] at h;cases h
  have h1 : ((idxO (xAll_u8_impl_isToken_1.z) l0 0).bind fun i => some (!decide (i ≥ 0))) = some r:=by unfold xAll_u8_impl_isToken_1.f at h;rw [if_pos hbig] at h;exact h
  clear h
  obtain ⟨i,hi1,hi2⟩:=Option.bind_eq_some_iff.mp h1
  clear h1
  obtain rfl:=Option.some.inj hi2
  clear hi2
  have eg : ∀ args w,(callFunc 197 args).run Tryz.prog w = .ok (.enter 197 args) w:=enters_of Tryz.func197 (by kernel_rfl) rfl
  have hb1 : Below w.heap.size w (w.alloc (.cells #[.func (.func 148) #[] #[]] 123)):=(Below.refl _ w).alloc (Nat.le_refl _) _
  have hcall:=xContainsFunc_u8 (xAll_u8_impl_isToken_1.z) 197 #[.pointer (some ⟨w.heap.size,0,none⟩)] eg A0 c0 l0 i (w.alloc (.cells #[.func (.func 148) #[] #[]] 123)) (Kd.C_below hr0 hb1) hc0 hbig
    (by
      intro W x b hb hz
      have hcell : W.cell? ⟨w.heap.size,0,none⟩ = some (.func (.func 148) #[] #[]):=(hb.cell (p:=⟨w.heap.size,0,none⟩) (by simp)).trans (by simp)
      obtain ⟨b2,hq,hb2⟩:=Option.bind_eq_some_iff.mp hz
      obtain rfl : (!b2) = b:=Option.some.inj hb2
      have hq':=Aside0.mk hq
      have hb':=Aside0.mk hb
      clear hb hz hb2 hq
      show Calls Tryz.prog 197 #[.int .u8 x,.pointer (some ⟨w.heap.size,0,none⟩)] W _
      go_enter Tryz.func197,Tryz.ntmps197
      go_wp2_with (go_at_call 148;refine (impl_isToken_1.calls x b2 _ hq'.out).mono ?_;rintro e w' ⟨rfl,⟨nd,rfl⟩⟩)
      go_ret
      exact ⟨rfl,by repeat (first | (with_reducible first | exact hb'.out | apply below_alloc | apply pw_below_drewN | apply below_drew1) | exact hb'.out)⟩)
    hi1
  have hb1':=Aside0.mk hb1
  clear hr0 hc0 hbig hi1 hb1 eg
  go_enter Tryz.func158,Tryz.ntmps158
  go_wp2_with (go_at_call 196;refine hcall.mono ?_;rintro e w' ⟨rfl,hb'⟩)
  go_ret
  exact ⟨rfl,below_then hb1'.out (by simp) hb'⟩
/-! ### xBytes_impl_isToken_1: function 120, with function 148 -/
def xBytes_impl_isToken_1.f (a0 : ByteArray) : Option (Bool):=if a0.size < 100000000 then xAll_u8_impl_isToken_1.f (bytesOf a0) else none
set_option maxHeartbeats 4000000 in
theorem xBytes_impl_isToken_1.calls (a0 : ByteArray) (r : Bool) (w : World) (h : xBytes_impl_isToken_1.f a0 = some r) :
    Calls Tryz.prog 120 #[.string a0,.func (.func 148) #[] #[]] w fun e w' => e = .returned (.bool r) ∧ Below w.heap.size w w':=by
  unfold xBytes_impl_isToken_1.f at h
  by_cases c : a0.size < 100000000
  · rw [if_pos c] at h
    have hcv:=Lib.run_convert_string_bytes (P:=Tryz.prog) w 9 120 5 a0 Tryz.underlying9 Tryz.underlying120 Tryz.underlying5
    have hC : (Kd.int .u8).C (Lib.bytesWorld w 5 a0) (some ⟨w.heap.size,0,none⟩) (bytesOf a0).length (bytesOf a0):=by
      rw [bytesOf_length]
      exact Kd.C_of_reads (d:=(0 : Int)) (bytes_reads w 5 a0 (by omega))
    have hbe:=Lib.bytesWorld_below w 5 a0
    have hcall:=xAll_u8_impl_isToken_1.calls (some ⟨w.heap.size,0,none⟩) (grownCap w a0.size 0 5) (bytesOf a0) r (Lib.bytesWorld w 5 a0) hC (by rw [bytesOf_length];exact grownCap_ge w a0.size 0 5) h
    rw [bytesOf_length] at hcall
    obtain ⟨W0,hW0⟩ : ∃ W0,W0 = Lib.bytesWorld w 5 a0:=⟨_,rfl⟩
    rw [← hW0] at hcv hcall hbe
    have HB0:=Aside0.mk hbe
    clear hW0 hbe c h hC
    go_enter Tryz.func120,Tryz.ntmps120
    go_wp2_with (go_at_call 158;refine hcall.mono ?_;rintro e w' ⟨rfl,hb'⟩)
    go_ret
    exact ⟨rfl,below_step HB0.out hb'⟩
  · rw [if_neg c] at h;cases h

/-! ### impl_isToken: function 97 -/
def impl_isToken.f (a0 : ByteArray) : Option (Bool):=(impl_within.f (a0.size : Int) 1 60).bind fun t413 => (if t413 = true then ((xBytes_impl_isToken_1.f a0).bind fun t414 => (some t414)) else (some false))
set_option maxHeartbeats 8000000 in
set_option maxRecDepth 100000 in
theorem impl_isToken.calls (a0 : ByteArray) (r : Bool) (w : World) (h : impl_isToken.f a0 = some r) :
  Calls Tryz.prog 97 #[.string a0] w fun e w' => e = .returned (.bool r) ∧ Below w.heap.size w w':=by
 have HB:=Aside0.mk (Below.refl w.heap.size w)
 have H:=h
 unfold impl_isToken.f at H
 clear h
 replace H:=mb_ H
 obtain ⟨t413,A2,H⟩:=H
 by_cases c3 : t413 = true
 ·subst c3
  rw [if_pos rfl] at H
  replace H:=mb_ H
  obtain ⟨t414,A4,H⟩:=H
  obtain rfl:=Option.some.inj H
  go_enter Tryz.func97,Tryz.ntmps97
  go_wp2_with (first | ((with_reducible refine gc_ 119 ?_);refine xgl_ (some 5) Tryz.func119 #[.int .i64 (a0.size : Int),.int .i64 1,.int .i64 60] ?_;(with_reducible refine (impl_within.calls (a0.size : Int) 1 60 true _ A2.out).mono ?_);rintro e w' ⟨rfl,⟨nd,rfl⟩⟩;refine ⟨_,rfl,?_⟩) | (go_at_call 120;(with_reducible refine (xBytes_impl_isToken_1.calls a0  t414 _ A4.out).mono ?_);rintro e w5 ⟨rfl,hb⟩;replace HB:=xws_ HB hb;(try clear hb)))
  go_ret
  exact ⟨mf_,xw_ HB⟩
 ·replace c3:=Bool.eq_false_iff.mpr c3
  subst c3
  rw [if_neg (show ¬ (false = true) by decide)] at H
  obtain rfl:=Option.some.inj H
  go_enter Tryz.func97,Tryz.ntmps97
  go_wp2_with (first | ((with_reducible refine gc_ 119 ?_);refine xgl_ (some 5) Tryz.func119 #[.int .i64 (a0.size : Int),.int .i64 1,.int .i64 60] ?_;(with_reducible refine (impl_within.calls (a0.size : Int) 1 60 false _ A2.out).mono ?_);rintro e w' ⟨rfl,⟨nd,rfl⟩⟩;refine ⟨_,rfl,?_⟩))
  go_ret
  exact ⟨mf_,xw_ HB⟩

/-! ### impl_isTarget_1: function 167 -/
def impl_isTarget_1.f (a0 : Int) : Option (Bool):=if a0 ≥ 33 then (some (decide (a0 ≤ 126))) else (some false)
set_option maxHeartbeats 8000000 in
set_option maxRecDepth 100000 in
theorem impl_isTarget_1.calls (a0 : Int) (r : Bool) (w : World) (h : impl_isTarget_1.f a0 = some r) :
  Calls Tryz.prog 167 #[.int .u8 a0] w fun e w' => e = .returned (.bool r) ∧ Drawn0 w w':=by
 have H:=h
 unfold impl_isTarget_1.f at H
 clear h
 by_cases c2 : a0 ≥ 33
 ·rw [if_pos c2] at H
  have c2b0 : decide (33 ≤ a0) = true:=decide_eq_true c2
  clear c2
  obtain rfl:=Option.some.inj H
  go_enter Tryz.func167,Tryz.ntmps167
  go_wp2
  go_ret
  exact ⟨by first | rfl | (simp;done) | (simp [*];done),by repeat (first | exact Drawn0.refl _ | apply Drawn0.step)⟩
 ·rw [if_neg c2] at H
  have c2b0 : decide (33 ≤ a0) = false:=decide_eq_false c2
  clear c2
  obtain rfl:=Option.some.inj H
  go_enter Tryz.func167,Tryz.ntmps167
  go_wp2
  go_ret
  exact ⟨by first | rfl | (simp;done) | (simp [*];done),by repeat (first | exact Drawn0.refl _ | apply Drawn0.step)⟩

/-! ### xAll_u8_impl_isTarget_1: function 158, with function 167 -/
def xAll_u8_impl_isTarget_1.z (x : Int) : Option Bool:=(impl_isTarget_1.f x).bind fun b => some (!b)
def xAll_u8_impl_isTarget_1.f (l0 : List Int) : Option (Bool):=if l0.length < 9223372036854775807 then ((idxO (xAll_u8_impl_isTarget_1.z) l0 0).bind fun i => some (!decide (i ≥ 0))) else none
set_option maxHeartbeats 8000000 in
set_option maxRecDepth 100000 in
theorem xAll_u8_impl_isTarget_1.calls (A0 : Option Addr) (c0 : Nat) (l0 : List Int) (r : Bool) (w : World) (hr0 : Kd.C (Kd.int .u8) w A0 l0.length l0) (hc0 : l0.length ≤ c0) (h : xAll_u8_impl_isTarget_1.f l0 = some r) :
    Calls Tryz.prog 158 #[.slice A0 l0.length c0,.func (.func 167) #[] #[]] w fun e w' => e = .returned (.bool r) ∧ Below w.heap.size w w':=by
  have hbig : l0.length < 9223372036854775807:=by
    by_cases c : l0.length < 9223372036854775807
    · exact c
    · unfold xAll_u8_impl_isTarget_1.f at h;rw [if_neg c] at h;cases h
  have h1 : ((idxO (xAll_u8_impl_isTarget_1.z) l0 0).bind fun i => some (!decide (i ≥ 0))) = some r:=by unfold xAll_u8_impl_isTarget_1.f at h;rw [if_pos hbig] at h;exact h
  clear h
  obtain ⟨i,hi1,hi2⟩:=Option.bind_eq_some_iff.mp h1
  clear h1
  obtain rfl:=Option.some.inj hi2
  clear hi2
  have eg : ∀ args w,(callFunc 197 args).run Tryz.prog w = .ok (.enter 197 args) w:=enters_of Tryz.func197 (by kernel_rfl) rfl
  have hb1 : Below w.heap.size w (w.alloc (.cells #[.func (.func 167) #[] #[]] 123)):=(Below.refl _ w).alloc (Nat.le_refl _) _
  have hcall:=xContainsFunc_u8 (xAll_u8_impl_isTarget_1.z) 197 #[.pointer (some ⟨w.heap.size,0,none⟩)] eg A0 c0 l0 i (w.alloc (.cells #[.func (.func 167) #[] #[]] 123)) (Kd.C_below hr0 hb1) hc0 hbig
    (by
      intro W x b hb hz
      have hcell : W.cell? ⟨w.heap.size,0,none⟩ = some (.func (.func 167) #[] #[]):=(hb.cell (p:=⟨w.heap.size,0,none⟩) (by simp)).trans (by simp)
      obtain ⟨b2,hq,hb2⟩:=Option.bind_eq_some_iff.mp hz
      obtain rfl : (!b2) = b:=Option.some.inj hb2
      have hq':=Aside0.mk hq
      have hb':=Aside0.mk hb
      clear hb hz hb2 hq
      show Calls Tryz.prog 197 #[.int .u8 x,.pointer (some ⟨w.heap.size,0,none⟩)] W _
      go_enter Tryz.func197,Tryz.ntmps197
      go_wp2_with (go_at_call 167;refine (impl_isTarget_1.calls x b2 _ hq'.out).mono ?_;rintro e w' ⟨rfl,⟨nd,rfl⟩⟩)
      go_ret
      exact ⟨rfl,by repeat (first | (with_reducible first | exact hb'.out | apply below_alloc | apply pw_below_drewN | apply below_drew1) | exact hb'.out)⟩)
    hi1
  have hb1':=Aside0.mk hb1
  clear hr0 hc0 hbig hi1 hb1 eg
  go_enter Tryz.func158,Tryz.ntmps158
  go_wp2_with (go_at_call 196;refine hcall.mono ?_;rintro e w' ⟨rfl,hb'⟩)
  go_ret
  exact ⟨rfl,below_then hb1'.out (by simp) hb'⟩
/-! ### xBytes_impl_isTarget_1: function 120, with function 167 -/
def xBytes_impl_isTarget_1.f (a0 : ByteArray) : Option (Bool):=if a0.size < 100000000 then xAll_u8_impl_isTarget_1.f (bytesOf a0) else none
set_option maxHeartbeats 4000000 in
theorem xBytes_impl_isTarget_1.calls (a0 : ByteArray) (r : Bool) (w : World) (h : xBytes_impl_isTarget_1.f a0 = some r) :
    Calls Tryz.prog 120 #[.string a0,.func (.func 167) #[] #[]] w fun e w' => e = .returned (.bool r) ∧ Below w.heap.size w w':=by
  unfold xBytes_impl_isTarget_1.f at h
  by_cases c : a0.size < 100000000
  · rw [if_pos c] at h
    have hcv:=Lib.run_convert_string_bytes (P:=Tryz.prog) w 9 120 5 a0 Tryz.underlying9 Tryz.underlying120 Tryz.underlying5
    have hC : (Kd.int .u8).C (Lib.bytesWorld w 5 a0) (some ⟨w.heap.size,0,none⟩) (bytesOf a0).length (bytesOf a0):=by
      rw [bytesOf_length]
      exact Kd.C_of_reads (d:=(0 : Int)) (bytes_reads w 5 a0 (by omega))
    have hbe:=Lib.bytesWorld_below w 5 a0
    have hcall:=xAll_u8_impl_isTarget_1.calls (some ⟨w.heap.size,0,none⟩) (grownCap w a0.size 0 5) (bytesOf a0) r (Lib.bytesWorld w 5 a0) hC (by rw [bytesOf_length];exact grownCap_ge w a0.size 0 5) h
    rw [bytesOf_length] at hcall
    obtain ⟨W0,hW0⟩ : ∃ W0,W0 = Lib.bytesWorld w 5 a0:=⟨_,rfl⟩
    rw [← hW0] at hcv hcall hbe
    have HB0:=Aside0.mk hbe
    clear hW0 hbe c h hC
    go_enter Tryz.func120,Tryz.ntmps120
    go_wp2_with (go_at_call 158;refine hcall.mono ?_;rintro e w' ⟨rfl,hb'⟩)
    go_ret
    exact ⟨rfl,below_step HB0.out hb'⟩
  · rw [if_neg c] at h;cases h

/-! ### impl_isTarget: function 129 -/
def impl_isTarget.f (a0 : ByteArray) : Option (Bool):=(impl_within.f (a0.size : Int) 1 200).bind fun t415 => (if t415 = true then ((xBytes_impl_isTarget_1.f a0).bind fun t416 => (some t416)) else (some false))
set_option maxHeartbeats 8000000 in
set_option maxRecDepth 100000 in
theorem impl_isTarget.calls (a0 : ByteArray) (r : Bool) (w : World) (h : impl_isTarget.f a0 = some r) :
  Calls Tryz.prog 129 #[.string a0] w fun e w' => e = .returned (.bool r) ∧ Below w.heap.size w w':=by
 have HB:=Aside0.mk (Below.refl w.heap.size w)
 have H:=h
 unfold impl_isTarget.f at H
 clear h
 replace H:=mb_ H
 obtain ⟨t415,A2,H⟩:=H
 by_cases c3 : t415 = true
 ·subst c3
  rw [if_pos rfl] at H
  replace H:=mb_ H
  obtain ⟨t416,A4,H⟩:=H
  obtain rfl:=Option.some.inj H
  go_enter Tryz.func129,Tryz.ntmps129
  go_wp2_with (first | ((with_reducible refine gc_ 119 ?_);refine xgl_ (some 5) Tryz.func119 #[.int .i64 (a0.size : Int),.int .i64 1,.int .i64 200] ?_;(with_reducible refine (impl_within.calls (a0.size : Int) 1 200 true _ A2.out).mono ?_);rintro e w' ⟨rfl,⟨nd,rfl⟩⟩;refine ⟨_,rfl,?_⟩) | (go_at_call 120;(with_reducible refine (xBytes_impl_isTarget_1.calls a0  t416 _ A4.out).mono ?_);rintro e w5 ⟨rfl,hb⟩;replace HB:=xws_ HB hb;(try clear hb)))
  go_ret
  exact ⟨mf_,xw_ HB⟩
 ·replace c3:=Bool.eq_false_iff.mpr c3
  subst c3
  rw [if_neg (show ¬ (false = true) by decide)] at H
  obtain rfl:=Option.some.inj H
  go_enter Tryz.func129,Tryz.ntmps129
  go_wp2_with (first | ((with_reducible refine gc_ 119 ?_);refine xgl_ (some 5) Tryz.func119 #[.int .i64 (a0.size : Int),.int .i64 1,.int .i64 200] ?_;(with_reducible refine (impl_within.calls (a0.size : Int) 1 200 false _ A2.out).mono ?_);rintro e w' ⟨rfl,⟨nd,rfl⟩⟩;refine ⟨_,rfl,?_⟩))
  go_ret
  exact ⟨mf_,xw_ HB⟩

/-! ### impl_isRequestLine: function 77 -/
def impl_isRequestLine.f (a0_0 : ByteArray) (a0_1 : ByteArray) (l0_2 : List (S105)) (a0_3 : ByteArray) : Option (Bool):=(impl_isToken.f a0_0).bind fun t418 => (if t418 = true then (if (a0_0.size : Int) ≤ 10 then ((impl_isTarget.f a0_1).bind fun t419 => (some t419)) else (some false)) else (some false))
set_option maxHeartbeats 8000000 in
set_option maxRecDepth 100000 in
theorem impl_isRequestLine.calls (a0_0 : ByteArray) (a0_1 : ByteArray) (A0_2 : Option Addr) (c0_2 : Nat) (l0_2 : List (S105)) (a0_3 : ByteArray) (r : Bool) (w : World) (hr0_2 : Kd.C k105 w A0_2 l0_2.length l0_2) (hc0_2 : l0_2.length ≤ c0_2) (h : impl_isRequestLine.f a0_0 a0_1 l0_2 a0_3 = some r) :
  Calls Tryz.prog 77 #[.agg #[.string a0_0,.string a0_1,.slice A0_2 l0_2.length c0_2,.string a0_3]] w fun e w' => e = .returned (.bool r) ∧ Below w.heap.size w w':=by
 have hu35:=Tryz.underlying35
 have HR0_2:=Aside0.mk hr0_2
 have HC0_2:=Aside0.mk hc0_2
 clear hr0_2 hc0_2
 have HB:=Aside0.mk (Below.refl w.heap.size w)
 have H:=h
 unfold impl_isRequestLine.f at H
 clear h
 replace H:=mb_ H
 obtain ⟨t418,A2,H⟩:=H
 by_cases c3 : t418 = true
 ·subst c3
  rw [if_pos rfl] at H
  by_cases c4 : (a0_0.size : Int) ≤ 10
  ·rw [if_pos c4] at H
   have c4b0:=decide_eq_true c4
   have c4b1 : decide (a0_0.size ≤ 10) = true:=decide_eq_true (by omega)
   clear c4
   replace H:=mb_ H
   obtain ⟨t419,A5,H⟩:=H
   obtain rfl:=Option.some.inj H
   go_enter Tryz.func77,Tryz.ntmps77
   go_wp2_with (first | ((with_reducible refine gd_ 1 ?_);(try (refine gate_guard (by rfl) ?_;dsimp only));refine xbe_ (N:=1) (cs:=#[.string a0_0,.string a0_1,.slice A0_2 l0_2.length c0_2,.string a0_3]) (t:=35) ?_;intro gb417 hg w6 hbox hb;have BK417:=Aside0.mk (hbox);have GE417:=xge_ HB hg;replace HB:=xws_ HB hb;clear hb hbox hg;have ⟨_,_,_,_,_,_,_,_⟩:=c4_ BK417) | ((with_reducible refine gc_ 97 ?_);refine xgl_ (some 5) Tryz.func97 #[.string a0_0] ?_;(with_reducible refine (impl_isToken.calls a0_0 true _ A2.out).mono ?_);rintro e w8 ⟨rfl,hb⟩;refine ⟨_,rfl,?_⟩;replace BK417:=xbb_ BK417 hb;replace HB:=xws_ HB hb;(try clear hb);have ⟨_,_,_,_,_,_,_,_⟩:=c4_ BK417) | (go_at_call 129;(with_reducible refine (impl_isTarget.calls a0_1 t419 _ A5.out).mono ?_);rintro e w10 ⟨rfl,hb⟩;replace BK417:=xbb_ BK417 hb;replace HB:=xws_ HB hb;(try clear hb)))
   go_ret
   exact ⟨mf_,xw_ HB⟩
  ·rw [if_neg c4] at H
   have c4b0:=decide_eq_false c4
   have c4b1 : decide (a0_0.size ≤ 10) = false:=decide_eq_false (by omega)
   clear c4
   obtain rfl:=Option.some.inj H
   go_enter Tryz.func77,Tryz.ntmps77
   go_wp2_with (first | ((with_reducible refine gd_ 1 ?_);(try (refine gate_guard (by rfl) ?_;dsimp only));refine xbe_ (N:=1) (cs:=#[.string a0_0,.string a0_1,.slice A0_2 l0_2.length c0_2,.string a0_3]) (t:=35) ?_;intro gb417 hg w11 hbox hb;have BK417:=Aside0.mk (hbox);have GE417:=xge_ HB hg;replace HB:=xws_ HB hb;clear hb hbox hg;have ⟨_,_,_,_,_,_,_,_⟩:=c4_ BK417) | ((with_reducible refine gc_ 97 ?_);refine xgl_ (some 5) Tryz.func97 #[.string a0_0] ?_;(with_reducible refine (impl_isToken.calls a0_0 true _ A2.out).mono ?_);rintro e w13 ⟨rfl,hb⟩;refine ⟨_,rfl,?_⟩;replace BK417:=xbb_ BK417 hb;replace HB:=xws_ HB hb;(try clear hb);have ⟨_,_,_,_,_,_,_,_⟩:=c4_ BK417))
   go_ret
   exact ⟨mf_,xw_ HB⟩
 ·replace c3:=Bool.eq_false_iff.mpr c3
  subst c3
  rw [if_neg (show ¬ (false = true) by decide)] at H
  obtain rfl:=Option.some.inj H
  go_enter Tryz.func77,Tryz.ntmps77
  go_wp2_with (first | ((with_reducible refine gd_ 1 ?_);(try (refine gate_guard (by rfl) ?_;dsimp only));refine xbe_ (N:=1) (cs:=#[.string a0_0,.string a0_1,.slice A0_2 l0_2.length c0_2,.string a0_3]) (t:=35) ?_;intro gb417 hg w15 hbox hb;have BK417:=Aside0.mk (hbox);have GE417:=xge_ HB hg;replace HB:=xws_ HB hb;clear hb hbox hg;have ⟨_,_,_,_,_,_,_,_⟩:=c4_ BK417) | ((with_reducible refine gc_ 97 ?_);refine xgl_ (some 5) Tryz.func97 #[.string a0_0] ?_;(with_reducible refine (impl_isToken.calls a0_0 false _ A2.out).mono ?_);rintro e w17 ⟨rfl,hb⟩;refine ⟨_,rfl,?_⟩;replace BK417:=xbb_ BK417 hb;replace HB:=xws_ HB hb;(try clear hb)))
  go_ret
  exact ⟨mf_,xw_ HB⟩

end Go.Proofs.YtpggepjfhgalkaaGreatDoor.PFnExactKeyOf
