-- Written by a program of this project (xprint.py) out of the translation; Lean checks it.
import Derived.Test.YtpggepjfhgalkaaGreatDoorPFnExactKeyOfx0
import Derived.Test.YtpggepjfhgalkaaGreatDoorPFnExactKeyOfx9
namespace Go.Proofs.YtpggepjfhgalkaaGreatDoor.PFnExactKeyOf
open Go.RowKit Go.Proofs.YtpggepjfhgalkaaGreatDoorW.PrintWords Go.Proofs.YtpggepjfhgalkaaGreatDoorW.PrintLast Go.Proofs.YtpggepjfhgalkaaGreatDoorW.PrintMore
attribute [local go_sem] max2_int min2_int max_two min_two max_three min_three max_four min_four   -- for this text's walks alone
set_option linter.unusedVariables false
set_option linter.unusedSimpArgs false

/-! ### spec_l1Dots: function 117 -/
mutual
def spec_l1Dots.j1 : Nat → List ByteArray → ByteArray → Option (ByteArray)
 | 0,_,_ => none
 | k + 1,x3,x5 => spec_l1Dots.l1 k x5 (⟨#[]⟩ : ByteArray) x3 (x3.length : Int) 0
def spec_l1Dots.l1 : Nat → ByteArray → ByteArray → List ByteArray → Int → Int → Option (ByteArray)
 | 0,_,_,_,_,_ => none
 | k + 1,x5,x9,x41,x42,x43 => if x43 < x42 then (if 0 ≤ x43 then (if x43 < (x41.length : Int) then (if 1 + (rdOf ByteArray.empty x41 x43).size ≤ 9223372036854775807 then (if x9.size + ((⟨#[47]⟩ : ByteArray) ++ (rdOf ByteArray.empty x41 x43)).size ≤ 9223372036854775807 then (spec_l1Dots.l1 k x5 (x9 ++ ((⟨#[47]⟩ : ByteArray) ++ (rdOf ByteArray.empty x41 x43))) x41 x42 (wrap64 (x43 + 1))) else (none)) else (none)) else (none)) else (none)) else (if x9.toList = ([] : List UInt8) then (if x9.size + 1 ≤ 9223372036854775807 then (some (x9 ++ (⟨#[47]⟩ : ByteArray))) else (none)) else (if x5.toList = ([46] : List UInt8) then (if x9.size + 1 ≤ 9223372036854775807 then (some (x9 ++ (⟨#[47]⟩ : ByteArray))) else (none)) else (if x5.toList = ([46,46] : List UInt8) then (if x9.size + 1 ≤ 9223372036854775807 then (some (x9 ++ (⟨#[47]⟩ : ByteArray))) else (none)) else (some x9))))
def spec_l1Dots.l0 : Nat → List ByteArray → ByteArray → Option (ByteArray)
 | 0,_,_ => none
 | k + 1,x3,x4 => (spec_l1Cut.f k x4 47).bind fun bt215 => (if bt215.1.toList = ([46] : List UInt8) then (if bt215.2.2 = true then (spec_l1Dots.l0 k x3 bt215.2.1) else (spec_l1Dots.j1 k x3 bt215.1)) else (if bt215.1.toList = ([46,46] : List UInt8) then (if (x3.length : Int) > 0 then (if 0 ≤ (wrap64 ((x3.length : Int) - 1)) then (if (wrap64 ((x3.length : Int) - 1)) ≤ (x3.length : Int) then ((some (x3.take ((wrap64 ((x3.length : Int) - 1)) : Int).toNat : List ByteArray)).bind fun y218 => (if bt215.2.2 = true then (spec_l1Dots.l0 k y218 bt215.2.1) else (spec_l1Dots.j1 k y218 bt215.1))) else (none)) else (none)) else (if bt215.2.2 = true then (spec_l1Dots.l0 k x3 bt215.2.1) else (spec_l1Dots.j1 k x3 bt215.1))) else (if x3.length < 8796093022208 then ((some (x3 ++ [bt215.1] : List ByteArray)).bind fun y221 => (if bt215.2.2 = true then (spec_l1Dots.l0 k y221 bt215.2.1) else (spec_l1Dots.j1 k y221 bt215.1))) else (none))))
end
def spec_l1Dots.f (k : Nat) (a0 : ByteArray) : Option (ByteArray):=if 1 ≤ (a0.size : Int) then (spec_l1Dots.l0 k ([] : List ByteArray) (a0.extract 1 a0.size)) else (none)
set_option maxHeartbeats 8000000 in
set_option maxRecDepth 100000 in
theorem spec_l1Dots.calls (k : Nat) (a0 : ByteArray) (r : ByteArray) (w : World) (h : spec_l1Dots.f k a0 = some r) :
  Calls Tryz.prog 117 #[.string a0] w fun e w' => e = .returned (.string r) ∧ Below w.heap.size w w':=by
 have HB:=Aside0.mk (Below.refl w.heap.size w)
 have H:=h
 unfold spec_l1Dots.f at H
 clear h
 replace H:=mi_ H
 obtain ⟨c2,H⟩:=H
 have c2b0:=eq_true c2
 have c2b1:=decide_eq_true c2
 clear c2
 have HC3:=Aside0.mk H
 clear H
 go_enter Tryz.func117,Tryz.ntmps117
 go_upto_block 0 with (fail)
 go_cut [3,5] (fun v3 v5 wc => ∃ (kq : Nat) (x3_2 : List ByteArray) (x5_2 : ByteArray),v5 = .string x5_2 ∧ Aside0 (spec_l1Dots.j1 kq x3_2 x5_2 = some r) ∧ Aside0 (kq ≤ k) ∧ Aside0 (Kd.R Kd.string 9 wc w.heap.size (fun _ => True) v3 x3_2) ∧ Aside0 (Below w.heap.size w wc))
 case first =>
  have H:=HC3.out
  clear HC3
  have H':=Aside0.mk H
  clear H
  go_wp2
  go_loopg [3,4] k (fun kq v3 v4 w' => ∃ (x3_1 : List ByteArray) (x4_1 : ByteArray),v4 = .string x4_1 ∧ Aside0 (spec_l1Dots.l0 kq x3_1 x4_1 = some r) ∧ Aside0 (kq ≤ k) ∧ Aside0 (Kd.R Kd.string 9 w' w.heap.size (fun _ => True) v3 x3_1) ∧ Aside0 (Below w.heap.size w w'))
  case atStart => exact ⟨(([] : List ByteArray)),(a0.extract 1 a0.size),me_,H',⟨Nat.le_refl _⟩,⟨by first | exact Kd.R_nil _ _ _ _ _ | exact Kd.N_nil _ _ _ _ _ | exact Kd.V_nil _ _ _ _ _ | exact Kd.Q_nil _ _ _ _ _ | exact Kd.S_nil _ _ _ _ _⟩,⟨xw_ HB⟩⟩
  case round =>
   clear H'
   try clear c2
   try clear c2b0
   try clear c2b1
   obtain ⟨x3_1,x4_1,rfl,HA,HK1,HO_3,HB⟩:=hrel
   cases gk with
   | zero => exact absurd HA.out (by simp [spec_l1Dots.l0])
   | succ k1 =>
    have H:=HA.out
    clear HA
    simp only [spec_l1Dots.l0] at H
    replace H:=mb_ H
    obtain ⟨⟨t215,t216,t217⟩,A4,H⟩:=H
    dsimp only at H
    by_cases c5 : t215.toList = ([46] : List UInt8)
    ·rw [if_pos c5] at H
     have c5b0 : (t215.toList == ([46] : List UInt8)) = true:=beq_iff_eq.mpr c5
     have c5b1 : (t215.toList != ([46] : List UInt8)) = false:=bne_eq_false_iff_eq.mpr c5
     clear c5
     (first | rw [c5b0] | (simp only [i64_w,i32_w];rw [c5b0]) | skip)
     by_cases c6 : t217 = true
     ·subst c6
      rw [if_pos rfl] at H
      have H':=Aside0.mk H
      clear H
      go_wp2_with (first | ((with_reducible refine gc_ 116 ?_);refine xgl_ (some 16) Tryz.func116 #[.string x4_1,.int .u8 47] ?_;(with_reducible refine (spec_l1Cut.calls k1 x4_1 47 t215 t216 true _ A4.out).mono ?_);rintro e w' ⟨rfl,⟨nd,rfl⟩⟩;refine ⟨_,rfl,?_⟩))
      go_roundg k1
      case measure => have:=HK1.out;omega
      case rel => exact ⟨(x3_1),(t216),me_,H',⟨by have:=HK1.out;omega⟩,⟨xr_ HO_3⟩,⟨xw_ HB⟩⟩
     ·replace c6:=Bool.eq_false_iff.mpr c6
      subst c6
      rw [if_neg (show ¬ (false = true) by decide)] at H
      have H':=Aside0.mk H
      clear H
      go_wp2_with (first | ((with_reducible refine gc_ 116 ?_);refine xgl_ (some 16) Tryz.func116 #[.string x4_1,.int .u8 47] ?_;(with_reducible refine (spec_l1Cut.calls k1 x4_1 47 t215 t216 false _ A4.out).mono ?_);rintro e w' ⟨rfl,⟨nd,rfl⟩⟩;refine ⟨_,rfl,?_⟩))
      go_meet
      case rel => exact ⟨_,(x3_1),(t215),me_,H',⟨by have:=HK1.out;first | omega | exact Nat.le_refl _⟩,⟨xr_ HO_3⟩,⟨xw_ HB⟩⟩
    ·rw [if_neg c5] at H
     have c5b0 : (t215.toList == ([46] : List UInt8)) = false:=beq_eq_false_iff_ne.mpr c5
     have c5b1 : (t215.toList != ([46] : List UInt8)) = true:=bne_iff_ne.mpr c5
     (first | rw [c5b0] | (simp only [i64_w,i32_w];rw [c5b0]) | skip)
     by_cases c7 : t215.toList = ([46,46] : List UInt8)
     ·rw [if_pos c7] at H
      have c7b0 : (t215.toList == ([46,46] : List UInt8)) = true:=beq_iff_eq.mpr c7
      have c7b1 : (t215.toList != ([46,46] : List UInt8)) = false:=bne_eq_false_iff_eq.mpr c7
      clear c7
      by_cases c8 : (x3_1.length : Int) > 0
      ·rw [if_pos c8] at H
       have c8b0 : decide (0 < (x3_1.length : Int)) = true:=decide_eq_true c8
       have c8b1 : decide (0 < x3_1.length) = true:=decide_eq_true (by omega)
       clear c8
       obtain ⟨ji9,hji9⟩ : ∃ j_ : Int,(wrap64 ((x3_1.length : Int) - 1)) = j_:=⟨_,rfl⟩
       replace H : (if 0 ≤ (ji9) then (if (ji9) ≤ (x3_1.length : Int) then ((some (x3_1.take ((ji9) : Int).toNat : List ByteArray)).bind fun y218 => (if t217 = true then (spec_l1Dots.l0 k1 y218 t216) else (spec_l1Dots.j1 k1 y218 t215))) else (none)) else (none)) = some r:=by first | (rw [hji9] at H;exact H) | (simp only [hji9] at H ⊢;exact H)
       (try rw [hji9] at A4)
       have hji9w : (IntKind.i64.wrap ((x3_1.length : Int) - 1)) = ji9:=(i64_w _).trans hji9
       replace H:=mi_ H
       obtain ⟨c10,H⟩:=H
       have c10b0:=eq_true c10
       have c10b1:=decide_eq_true c10
       clear c10
       replace H:=mi_ H
       obtain ⟨c11,H⟩:=H
       have c11b0:=eq_true c11
       have c11b1:=decide_eq_true c11
       clear c11
       obtain ⟨y218,hy218⟩ : ∃ y_ : List ByteArray,y_ = (x3_1.take ((ji9) : Int).toNat):=⟨_,rfl⟩
       replace H : (if t217 = true then (spec_l1Dots.l0 k1 y218 t216) else (spec_l1Dots.j1 k1 y218 t215)) = some r:=by first | (rw [hy218];with_reducible exact H) | (have H2_:=(Option.bind_some _ _).symm.trans H;rw [hy218];with_reducible exact H2_) | (have H2_:=(Option.bind_some _ _).symm.trans H;with_reducible exact H2_) | with_reducible exact H | (rw [hy218];exact H) | exact H
       have Ny218:=Aside0.mk hy218
       clear hy218
       by_cases c12 : t217 = true
       ·subst c12
        rw [if_pos rfl] at H
        have H':=Aside0.mk H
        clear H
        go_wp2_with (first | ((with_reducible refine gc_ 116 ?_);refine xgl_ (some 16) Tryz.func116 #[.string x4_1,.int .u8 47] ?_;(with_reducible refine (spec_l1Cut.calls k1 x4_1 47 t215 t216 true _ A4.out).mono ?_);rintro e w' ⟨rfl,⟨nd,rfl⟩⟩;refine ⟨_,rfl,?_⟩;obtain ⟨Ao13,co13,eo13⟩:=Kd.R_slice HO_3.out;subst eo13;have q14 : ((ji9) : Int) ≤ ((x3_1.length : Int) : Int):=md_;obtain ⟨i014,hi014,_,hsz14,_⟩:=info_parts info9;have hcut14:=cut_to (P:=Tryz.prog) 50 9 .i64 Tryz.underlying50 hi014 Ao13 x3_1.length co13 (ji9) (md_) q14 (Kd.R_reads' HO_3.out).2.1;have hr14:=Kd.R_take (m:=((ji9) : Int).toNat) HO_3.out (by omega);have hy14 : y218.length = ((ji9) : Int).toNat:=(by rw [Ny218.out,List.length_take];omega);rw [← Ny218.out] at hr14;rw [← hy14] at hr14 hcut14;clear hy14 hi014 hsz14 HO_3;have HO220:=Aside0.mk hr14;clear hr14;replace q14:=eq_true q14))
        go_roundg k1
        case measure => have:=HK1.out;omega
        case rel => exact ⟨(y218),(t216),me_,H',⟨by have:=HK1.out;omega⟩,⟨xr_ HO220⟩,⟨xw_ HB⟩⟩
       ·replace c12:=Bool.eq_false_iff.mpr c12
        subst c12
        rw [if_neg (show ¬ (false = true) by decide)] at H
        have H':=Aside0.mk H
        clear H
        go_wp2_with (first | ((with_reducible refine gc_ 116 ?_);refine xgl_ (some 16) Tryz.func116 #[.string x4_1,.int .u8 47] ?_;(with_reducible refine (spec_l1Cut.calls k1 x4_1 47 t215 t216 false _ A4.out).mono ?_);rintro e w' ⟨rfl,⟨nd,rfl⟩⟩;refine ⟨_,rfl,?_⟩;obtain ⟨Ao15,co15,eo15⟩:=Kd.R_slice HO_3.out;subst eo15;have q16 : ((ji9) : Int) ≤ ((x3_1.length : Int) : Int):=md_;obtain ⟨i016,hi016,_,hsz16,_⟩:=info_parts info9;have hcut16:=cut_to (P:=Tryz.prog) 50 9 .i64 Tryz.underlying50 hi016 Ao15 x3_1.length co15 (ji9) (md_) q16 (Kd.R_reads' HO_3.out).2.1;have hr16:=Kd.R_take (m:=((ji9) : Int).toNat) HO_3.out (by omega);have hy16 : y218.length = ((ji9) : Int).toNat:=(by rw [Ny218.out,List.length_take];omega);rw [← Ny218.out] at hr16;rw [← hy16] at hr16 hcut16;clear hy16 hi016 hsz16 HO_3;have HO220:=Aside0.mk hr16;clear hr16;replace q16:=eq_true q16))
        go_meet
        case rel => exact ⟨_,(y218),(t215),me_,H',⟨by have:=HK1.out;first | omega | exact Nat.le_refl _⟩,⟨xr_ HO220⟩,⟨xw_ HB⟩⟩
      ·rw [if_neg c8] at H
       have c8b0 : decide (0 < (x3_1.length : Int)) = false:=decide_eq_false c8
       have c8b1 : decide (0 < x3_1.length) = false:=decide_eq_false (by omega)
       clear c8
       by_cases c17 : t217 = true
       ·subst c17
        rw [if_pos rfl] at H
        have H':=Aside0.mk H
        clear H
        go_wp2_with (first | ((with_reducible refine gc_ 116 ?_);refine xgl_ (some 16) Tryz.func116 #[.string x4_1,.int .u8 47] ?_;(with_reducible refine (spec_l1Cut.calls k1 x4_1 47 t215 t216 true _ A4.out).mono ?_);rintro e w' ⟨rfl,⟨nd,rfl⟩⟩;refine ⟨_,rfl,?_⟩;obtain ⟨Ao18,co18,eo18⟩:=Kd.R_slice HO_3.out;subst eo18))
        go_roundg k1
        case measure => have:=HK1.out;omega
        case rel => exact ⟨(x3_1),(t216),me_,H',⟨by have:=HK1.out;omega⟩,⟨xr_ HO_3⟩,⟨xw_ HB⟩⟩
       ·replace c17:=Bool.eq_false_iff.mpr c17
        subst c17
        rw [if_neg (show ¬ (false = true) by decide)] at H
        have H':=Aside0.mk H
        clear H
        go_wp2_with (first | ((with_reducible refine gc_ 116 ?_);refine xgl_ (some 16) Tryz.func116 #[.string x4_1,.int .u8 47] ?_;(with_reducible refine (spec_l1Cut.calls k1 x4_1 47 t215 t216 false _ A4.out).mono ?_);rintro e w' ⟨rfl,⟨nd,rfl⟩⟩;refine ⟨_,rfl,?_⟩;obtain ⟨Ao19,co19,eo19⟩:=Kd.R_slice HO_3.out;subst eo19))
        go_meet
        case rel => exact ⟨_,(x3_1),(t215),me_,H',⟨by have:=HK1.out;first | omega | exact Nat.le_refl _⟩,⟨xr_ HO_3⟩,⟨xw_ HB⟩⟩
     ·rw [if_neg c7] at H
      have c7b0 : (t215.toList == ([46,46] : List UInt8)) = false:=beq_eq_false_iff_ne.mpr c7
      have c7b1 : (t215.toList != ([46,46] : List UInt8)) = true:=bne_iff_ne.mpr c7
      replace H:=mi_ H
      obtain ⟨c20,H⟩:=H
      have LMc20:=Aside0.mk c20
      clear c20
      obtain ⟨y221,hy221⟩ : ∃ y_ : List ByteArray,y_ = (x3_1 ++ [t215]):=⟨_,rfl⟩
      replace H : (if t217 = true then (spec_l1Dots.l0 k1 y221 t216) else (spec_l1Dots.j1 k1 y221 t215)) = some r:=by first | (rw [hy221];with_reducible exact H) | (have H2_:=(Option.bind_some _ _).symm.trans H;rw [hy221];with_reducible exact H2_) | (have H2_:=(Option.bind_some _ _).symm.trans H;with_reducible exact H2_) | with_reducible exact H | (rw [hy221];exact H) | exact H
      have Ny221:=Aside0.mk hy221
      clear hy221
      by_cases c21 : t217 = true
      ·subst c21
       rw [if_pos rfl] at H
       have H':=Aside0.mk H
       clear H
       go_wp2_with (first | ((with_reducible refine gc_ 116 ?_);refine xgl_ (some 16) Tryz.func116 #[.string x4_1,.int .u8 47] ?_;(with_reducible refine (spec_l1Cut.calls k1 x4_1 47 t215 t216 true _ A4.out).mono ?_);rintro e w' ⟨rfl,⟨nd,rfl⟩⟩;refine ⟨_,rfl,?_⟩) | ((with_reducible refine gate_builtin (b:=.append) (xs:=#[.tmp 22,.tmp 24]) rfl ?_);at_builtin;refine Kd.R_append Kd.string (w0:=w) w.heap.size rfl (.tmp 22) (.tmp 24) 50 9 (.string ⟨#[]⟩) 16 rfl Tryz.underlying50 info9 rfl (by decide) (by omega) u3 x3_1 t215 [.string t215] (fun _ => True) (fun _ => False) rfl rfl ?aP (fun _ hk => hk.elim) ?aF ?aO ?aB ?aS ?aL ?_;(case aP => exact rfl);(case aB => exact (xw_ HB));(case aF => exact (fun _ _ => trivial));(case aO => exact (xr_ HO_3));(case aS => exact (below_size (xw_ HB)));(case aL => have:=LMc20.out;omega);intro v222 w22 ho hb hg hat;rw [← Ny221.out] at ho;replace HB:=Aside0.mk (hb);have HO223:=Aside0.mk (ho);clear HO_3;clear ho hb hg hat))
       go_roundg k1
       case measure => have:=HK1.out;omega
       case rel => exact ⟨(y221),(t216),me_,H',⟨by have:=HK1.out;omega⟩,⟨xr_ HO223⟩,⟨xw_ HB⟩⟩
      ·replace c21:=Bool.eq_false_iff.mpr c21
       subst c21
       rw [if_neg (show ¬ (false = true) by decide)] at H
       have H':=Aside0.mk H
       clear H
       go_wp2_with (first | ((with_reducible refine gc_ 116 ?_);refine xgl_ (some 16) Tryz.func116 #[.string x4_1,.int .u8 47] ?_;(with_reducible refine (spec_l1Cut.calls k1 x4_1 47 t215 t216 false _ A4.out).mono ?_);rintro e w' ⟨rfl,⟨nd,rfl⟩⟩;refine ⟨_,rfl,?_⟩) | ((with_reducible refine gate_builtin (b:=.append) (xs:=#[.tmp 22,.tmp 24]) rfl ?_);at_builtin;refine Kd.R_append Kd.string (w0:=w) w.heap.size rfl (.tmp 22) (.tmp 24) 50 9 (.string ⟨#[]⟩) 16 rfl Tryz.underlying50 info9 rfl (by decide) (by omega) u3 x3_1 t215 [.string t215] (fun _ => True) (fun _ => False) rfl rfl ?aP (fun _ hk => hk.elim) ?aF ?aO ?aB ?aS ?aL ?_;(case aP => exact rfl);(case aB => exact (xw_ HB));(case aF => exact (fun _ _ => trivial));(case aO => exact (xr_ HO_3));(case aS => exact (below_size (xw_ HB)));(case aL => have:=LMc20.out;omega);intro v222 w23 ho hb hg hat;rw [← Ny221.out] at ho;replace HB:=Aside0.mk (hb);have HO223:=Aside0.mk (ho);clear HO_3;clear ho hb hg hat))
       go_meet
       case rel => exact ⟨_,(y221),(t215),me_,H',⟨by have:=HK1.out;first | omega | exact Nat.le_refl _⟩,⟨xr_ HO223⟩,⟨xw_ HB⟩⟩
 case rest =>
  clear HC3
  try clear c2
  try clear c2b0
  try clear c2b1
  obtain ⟨kq,x3_2,x5_2,rfl,HA,HJ2,HO_3,HB⟩:=hcut
  cases kq with
  | zero => exact absurd HA.out (by simp [spec_l1Dots.j1])
  | succ kj2 =>
   have H:=HA.out
   clear HA
   simp only [spec_l1Dots.j1] at H
   have H':=Aside0.mk H
   clear H
   obtain ⟨Ao24,co24,eo24⟩:=Kd.R_slice HO_3.out
   subst eo24
   go_wp2
   go_loopg [9,43] kj2 (fun kq v9 v43 w' => ∃ (x9_2 : ByteArray) (x43_2 : Int),v9 = .string x9_2 ∧ v43 = .int .i64 x43_2 ∧ Aside0 (spec_l1Dots.l1 kq x5_2 x9_2 x3_2 (x3_2.length : Int) x43_2 = some r) ∧ Aside0 (kq ≤ kj2) ∧ Aside0 (Kd.R Kd.string 9 w' w.heap.size (fun _ => True) (.slice Ao24 x3_2.length co24) x3_2) ∧ Aside0 (Below w.heap.size w w'))
   case atStart => exact ⟨((⟨#[]⟩ : ByteArray)),(0),me_,me_,H',⟨Nat.le_refl _⟩,⟨xr_ HO_3⟩,⟨xw_ HB⟩⟩
   case round =>
    clear H'
    try clear c2
    try clear c2b0
    try clear c2b1
    obtain ⟨x9_2,x43_2,rfl,rfl,HA,HK2,HO_41,HB⟩:=hrel
    cases gk with
    | zero => exact absurd HA.out (by simp [spec_l1Dots.l1])
    | succ k2 =>
     have H:=HA.out
     clear HA
     simp only [spec_l1Dots.l1] at H
     by_cases c25 : x43_2 < (x3_2.length : Int)
     ·rw [if_pos c25] at H
      have c25b0:=decide_eq_true c25
      clear c25
      replace H:=mi_ H
      obtain ⟨c26,H⟩:=H
      have c26b0:=decide_eq_true c26
      clear c26
      replace H:=mi_ H
      obtain ⟨c27,H⟩:=H
      have c27b0:=decide_eq_true c27
      clear c27
      replace H:=mi_ H
      obtain ⟨c28,H⟩:=H
      have c28b0:=eq_true c28
      have c28b1:=decide_eq_true c28
      try have c28b2 : (9223372036854775807 < 1 + (rdOf ByteArray.empty x3_2 x43_2).size) = False:=eq_false (Nat.not_lt.2 c28)
      replace H:=mi_ H
      obtain ⟨c29,H⟩:=H
      have c29b0:=eq_true c29
      have c29b1:=decide_eq_true c29
      try have c29b2 : (9223372036854775807 < x9_2.size + ((⟨#[47]⟩ : ByteArray) ++ (rdOf ByteArray.empty x3_2 x43_2)).size) = False:=eq_false (Nat.not_lt.2 c29)
      have H':=Aside0.mk H
      clear H
      have p224 : 0 ≤ (x43_2 : Int):=md_
      have q224 : x43_2 < (x3_2.length : Int):=md_
      obtain ⟨ad224,e224,hx224_0⟩:=Kd.at_string (Kd.R_reads' HO_41.out).2.2 x43_2 p224 q224
      cases e224
      replace p224:=eq_true p224
      replace q224:=eq_true q224
      go_wp2
      go_roundg k2
      case measure => have:=HJ2.out;have:=HK2.out;omega
      case rel => exact ⟨(x9_2 ++ ((⟨#[47]⟩ : ByteArray) ++ (rdOf ByteArray.empty x3_2 x43_2))),(wrap64 (x43_2 + 1)),me_,me_,H',⟨by have:=HJ2.out;have:=HK2.out;omega⟩,⟨xr_ HO_41⟩,⟨xw_ HB⟩⟩
     ·rw [if_neg c25] at H
      have c25b0:=decide_eq_false c25
      clear c25
      by_cases c30 : x9_2.toList = ([] : List UInt8)
      ·rw [if_pos c30] at H
       have c30b0 : (x9_2.toList == ([] : List UInt8)) = true:=beq_iff_eq.mpr c30
       have c30b1 : (x9_2.toList != ([] : List UInt8)) = false:=bne_eq_false_iff_eq.mpr c30
       clear c30
       replace H:=mi_ H
       obtain ⟨c31,H⟩:=H
       have c31b0:=eq_true c31
       have c31b1:=decide_eq_true c31
       try have c31b2 : (9223372036854775807 < x9_2.size + 1) = False:=eq_false (Nat.not_lt.2 c31)
       obtain rfl:=Option.some.inj H
       go_wp2
       go_ret
       exact ⟨mf_,xw_ HB⟩
      ·rw [if_neg c30] at H
       have c30b0 : (x9_2.toList == ([] : List UInt8)) = false:=beq_eq_false_iff_ne.mpr c30
       have c30b1 : (x9_2.toList != ([] : List UInt8)) = true:=bne_iff_ne.mpr c30
       by_cases c32 : x5_2.toList = ([46] : List UInt8)
       ·rw [if_pos c32] at H
        have c32b0 : (x5_2.toList == ([46] : List UInt8)) = true:=beq_iff_eq.mpr c32
        have c32b1 : (x5_2.toList != ([46] : List UInt8)) = false:=bne_eq_false_iff_eq.mpr c32
        clear c32
        replace H:=mi_ H
        obtain ⟨c33,H⟩:=H
        have c33b0:=eq_true c33
        have c33b1:=decide_eq_true c33
        try have c33b2 : (9223372036854775807 < x9_2.size + 1) = False:=eq_false (Nat.not_lt.2 c33)
        obtain rfl:=Option.some.inj H
        go_wp2
        go_ret
        exact ⟨mf_,xw_ HB⟩
       ·rw [if_neg c32] at H
        have c32b0 : (x5_2.toList == ([46] : List UInt8)) = false:=beq_eq_false_iff_ne.mpr c32
        have c32b1 : (x5_2.toList != ([46] : List UInt8)) = true:=bne_iff_ne.mpr c32
        by_cases c34 : x5_2.toList = ([46,46] : List UInt8)
        ·rw [if_pos c34] at H
         have c34b0 : (x5_2.toList == ([46,46] : List UInt8)) = true:=beq_iff_eq.mpr c34
         have c34b1 : (x5_2.toList != ([46,46] : List UInt8)) = false:=bne_eq_false_iff_eq.mpr c34
         clear c34
         replace H:=mi_ H
         obtain ⟨c35,H⟩:=H
         have c35b0:=eq_true c35
         have c35b1:=decide_eq_true c35
         try have c35b2 : (9223372036854775807 < x9_2.size + 1) = False:=eq_false (Nat.not_lt.2 c35)
         obtain rfl:=Option.some.inj H
         go_wp2
         go_ret
         exact ⟨mf_,xw_ HB⟩
        ·rw [if_neg c34] at H
         have c34b0 : (x5_2.toList == ([46,46] : List UInt8)) = false:=beq_eq_false_iff_ne.mpr c34
         have c34b1 : (x5_2.toList != ([46,46] : List UInt8)) = true:=bne_iff_ne.mpr c34
         obtain rfl:=Option.some.inj H
         go_wp2
         go_ret
         exact ⟨mf_,xw_ HB⟩

end Go.Proofs.YtpggepjfhgalkaaGreatDoor.PFnExactKeyOf
