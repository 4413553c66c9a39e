-- Written by a program of this project (xprint.py) out of the translation; Lean checks it.
import Derived.Test.YtpggepjfhgalkaaGreatDoorPFnExactPickItemx0
import Derived.Test.YtpggepjfhgalkaaGreatDoorPFnExactPickItemx3
namespace Go.Proofs.YtpggepjfhgalkaaGreatDoor.PFnExactPickItem
open Go.RowKit Go.Proofs.YtpggepjfhgalkaaGreatDoorW.PrintWords Go.Proofs.YtpggepjfhgalkaaGreatDoorW.PrintLast Go.Proofs.YtpggepjfhgalkaaGreatDoorW.PrintMore
attribute [local go_sem] max2_int min2_int max_two min_two max_three min_three max_four min_four   -- for this text's walks alone
set_option linter.unusedVariables false
set_option linter.unusedSimpArgs false

/-! ### spec_l3List: function 88 -/
mutual
def spec_l3List.l0 : Nat → ByteArray → List ByteArray → Int → Bool → Int → Option (List ByteArray × Bool)
 | 0, _, _, _, _, _ => none
 | k + 1, x0, x4, x5, x6, x7 => if x7 ≤ (x0.size : Int) then (if x7 = (x0.size : Int) then (spec_l3List.j1 k x0 x4 x5 x6 x7 true) else (if 0 ≤ x7 then (if x7 < (x0.size : Int) then (if (bt x0 x7) = 44 then (spec_l3List.j1 k x0 x4 x5 x6 x7 (!x6)) else (spec_l3List.j1 k x0 x4 x5 x6 x7 false)) else (none)) else (none))) else (some (x4, !x6))
def spec_l3List.j1 : Nat → ByteArray → List ByteArray → Int → Bool → Int → Bool → Option (List ByteArray × Bool)
 | 0, _, _, _, _, _, _ => none
 | k + 1, x0, x4, x5, x6, x7, x28 => if x28 = true then (if 0 ≤ x5 then (if x5 ≤ x7 then (if x7 ≤ (x0.size : Int) then ((spec_l3Trim.f k (x0.extract (x5 : Int).toNat (x7 : Int).toNat)).bind fun t152 => (if t152.toList = ([] : List UInt8) then (spec_l3List.l0 k x0 x4 (wrap64 (x7 + 1)) x6 (wrap64 (x7 + 1))) else (if x4.length < 8796093022208 then (spec_l3List.l0 k x0 (x4 ++ [t152]) (wrap64 (x7 + 1)) x6 (wrap64 (x7 + 1))) else (none)))) else (none)) else (none)) else (none)) else (if 0 ≤ x7 then (if x7 < (x0.size : Int) then (if (bt x0 x7) = 34 then (spec_l3List.j2 k x0 x4 x5 (!x6) x7) else (spec_l3List.j2 k x0 x4 x5 x6 x7)) else (none)) else (none))
def spec_l3List.j2 : Nat → ByteArray → List ByteArray → Int → Bool → Int → Option (List ByteArray × Bool)
 | 0, _, _, _, _, _ => none
 | k + 1, x0, x4, x5, x6, x7 => if 0 ≤ x7 then (if x7 < (x0.size : Int) then (if (bt x0 x7) = 92 then (spec_l3List.j3 k x0 x4 x5 x6 x7 x6) else (spec_l3List.j3 k x0 x4 x5 x6 x7 false)) else (none)) else (none)
def spec_l3List.j3 : Nat → ByteArray → List ByteArray → Int → Bool → Int → Bool → Option (List ByteArray × Bool)
 | 0, _, _, _, _, _, _ => none
 | k + 1, x0, x4, x5, x6, x7, x54 => if x54 = true then (if (wrap64 (x7 + 1)) = (x0.size : Int) then (some (([] : List ByteArray), false)) else (spec_l3List.l0 k x0 x4 x5 x6 (wrap64 ((wrap64 (x7 + 1)) + 1)))) else (spec_l3List.l0 k x0 x4 x5 x6 (wrap64 (x7 + 1)))
end
def spec_l3List.f (k : Nat) (a0 : ByteArray) : Option (List ByteArray × Bool) := spec_l3List.l0 k a0 ([] : List ByteArray) 0 false 0
set_option maxHeartbeats 8000000 in
set_option maxRecDepth 100000 in
theorem spec_l3List.calls (k : Nat) (a0 : ByteArray) (r1 : List ByteArray) (r2 : Bool) (w : World) (h : spec_l3List.f k a0 = some (r1, r2)) :
  Calls Tryz.prog 88 #[.string a0] w fun e w' => ∃ v0_ : Value, e = .returned (.tuple #[v0_, .bool r2]) ∧ Kd.R Kd.string 9 w' w.heap.size (fun _ => True) v0_ r1 ∧ Below w.heap.size w w' := by
 have HB := Aside0.mk (Below.refl w.heap.size w)
 have H := h
 unfold spec_l3List.f at H
 clear h
 have H' := Aside0.mk H
 clear H
 go_enter Tryz.func88, Tryz.ntmps88
 go_wp2
 go_loopg [4, 5, 6, 7] k (fun kq v4 v5 v6 v7 w' => ∃ (x4_1 : List ByteArray) (x5_1 : Int) (x6_1 : Bool) (x7_1 : Int), v5 = .int .i64 x5_1 ∧ v6 = .bool x6_1 ∧ v7 = .int .i64 x7_1 ∧ Aside0 (spec_l3List.l0 kq a0 x4_1 x5_1 x6_1 x7_1 = some (r1, r2)) ∧ Aside0 (kq ≤ k) ∧ Aside0 (Kd.R Kd.string 9 w' w.heap.size (fun _ => True) v4 x4_1) ∧ Aside0 (Below w.heap.size w w'))
 case atStart => exact ⟨(([] : List ByteArray)), (0), (false), (0), me_, me_, me_, H', ⟨Nat.le_refl _⟩, ⟨by first | exact Kd.R_nil _ _ _ _ _ | exact Kd.N_nil _ _ _ _ _ | exact Kd.V_nil _ _ _ _ _ | exact Kd.Q_nil _ _ _ _ _ | exact Kd.S_nil _ _ _ _ _⟩, ⟨xw_ HB⟩⟩
 case round =>
  clear H'
  obtain ⟨x4_1, x5_1, x6_1, x7_1, rfl, rfl, rfl, HA, HK1, HO_4, HB⟩ := hrel
  cases gk with
  | zero => exact absurd HA.out (by simp [spec_l3List.l0])
  | succ k1 =>
   have H := HA.out
   clear HA
   simp only [spec_l3List.l0] at H
   by_cases c2 : x7_1 ≤ (a0.size : Int)
   ·rw [if_pos c2] at H
    have c2b0 := decide_eq_true c2
    clear c2
    have HC3 := Aside0.mk H
    clear H
    go_upto_region 7 with (fail)
    go_cut [28] (fun v28 wc => ∃ (kq : Nat) (x28_2 : Bool), v28 = .bool x28_2 ∧ Aside0 (spec_l3List.j1 kq a0 x4_1 x5_1 x6_1 x7_1 x28_2 = some (r1, r2)) ∧ Aside0 (kq ≤ k1) ∧ Aside0 (Kd.R Kd.string 9 wc w.heap.size (fun _ => True) u4 x4_1) ∧ Aside0 (Below w.heap.size w wc))
    case first =>
     have H := HC3.out
     clear HC3
     by_cases c4 : x7_1 = (a0.size : Int)
     ·rw [if_pos c4] at H
      have c4b0 : (x7_1 == (a0.size : Int)) = true := beq_iff_eq.mpr c4
      have c4b1 : (x7_1 != (a0.size : Int)) = false := bne_eq_false_iff_eq.mpr c4
      clear c4
      (first | rw [c4b0] | (simp only [i64_w, i32_w]; rw [c4b0]) | skip)
      have H' := Aside0.mk H
      clear H
      go_wp2
      go_meet
      case rel => exact ⟨_, (true), me_, H', ⟨by have := HK1.out; first | omega | exact Nat.le_refl _⟩, ⟨xr_ HO_4⟩, ⟨xw_ HB⟩⟩
     ·rw [if_neg c4] at H
      have c4b0 : (x7_1 == (a0.size : Int)) = false := beq_eq_false_iff_ne.mpr c4
      have c4b1 : (x7_1 != (a0.size : Int)) = true := bne_iff_ne.mpr c4
      (first | rw [c4b0] | (simp only [i64_w, i32_w]; rw [c4b0]) | skip)
      replace H := mi_ H
      obtain ⟨c5, H⟩ := H
      have c5b0 := decide_eq_true c5
      clear c5
      replace H := mi_ H
      obtain ⟨c6, H⟩ := H
      have c6b0 := decide_eq_true c6
      clear c6
      by_cases c8 : (bt a0 x7_1) = 44
      ·rw [if_pos c8] at H
       have c8b0 : ((bt a0 x7_1) == 44) = true := beq_iff_eq.mpr c8
       have c8b1 : ((bt a0 x7_1) != 44) = false := bne_eq_false_iff_eq.mpr c8
       clear c8
       have H' := Aside0.mk H
       clear H
       have p7 : 0 ≤ (x7_1 : Int) := md_
       have q7 : x7_1 < (a0.size : Int) := md_
       have hx7 := bt_at a0 x7_1
       replace p7 := eq_true p7
       replace q7 := eq_true q7
       go_wp2
       go_meet
       case rel => exact ⟨_, (!x6_1), me_, H', ⟨by have := HK1.out; first | omega | exact Nat.le_refl _⟩, ⟨xr_ HO_4⟩, ⟨xw_ HB⟩⟩
      ·rw [if_neg c8] at H
       have c8b0 : ((bt a0 x7_1) == 44) = false := beq_eq_false_iff_ne.mpr c8
       have c8b1 : ((bt a0 x7_1) != 44) = true := bne_iff_ne.mpr c8
       have H' := Aside0.mk H
       clear H
       have p7 : 0 ≤ (x7_1 : Int) := md_
       have q7 : x7_1 < (a0.size : Int) := md_
       have hx7 := bt_at a0 x7_1
       replace p7 := eq_true p7
       replace q7 := eq_true q7
       go_wp2
       go_meet
       case rel => exact ⟨_, (false), me_, H', ⟨by have := HK1.out; first | omega | exact Nat.le_refl _⟩, ⟨xr_ HO_4⟩, ⟨xw_ HB⟩⟩
    case rest =>
     clear HC3
     try clear c2
     try clear c2b0
     obtain ⟨kq, x28_2, rfl, HA, HJ2, HO_4, HB⟩ := hcut
     cases kq with
     | zero => exact absurd HA.out (by simp [spec_l3List.j1])
     | succ kj2 =>
      have H := HA.out
      clear HA
      simp only [spec_l3List.j1] at H
      by_cases c9 : x28_2 = true
      ·subst c9
       rw [if_pos rfl] at H
       replace H := mi_ H
       obtain ⟨c10, H⟩ := H
       have c10b0 := eq_true c10
       have c10b1 := decide_eq_true c10
       clear c10
       replace H := mi_ H
       obtain ⟨c11, H⟩ := H
       have c11b0 := eq_true c11
       have c11b1 := decide_eq_true c11
       clear c11
       replace H := mi_ H
       obtain ⟨c12, H⟩ := H
       have c12b0 := eq_true c12
       have c12b1 := decide_eq_true c12
       clear c12
       replace H := mb_ H
       obtain ⟨t152, A13, H⟩ := H
       by_cases c14 : t152.toList = ([] : List UInt8)
       ·rw [if_pos c14] at H
        have c14b0 : (t152.toList == ([] : List UInt8)) = true := beq_iff_eq.mpr c14
        have c14b1 : (t152.toList != ([] : List UInt8)) = false := bne_eq_false_iff_eq.mpr c14
        clear c14
        have H' := Aside0.mk H
        clear H
        go_wp2_with (first | ((with_reducible refine gc_ 139 ?_); refine xgl_ (some 33) Tryz.func139 #[.string (a0.extract (x5_1 : Int).toNat (x7_1 : Int).toNat)] ?_; (with_reducible refine (spec_l3Trim.calls kj2 (a0.extract (x5_1 : Int).toNat (x7_1 : Int).toNat) t152 _ A13.out).mono ?_); rintro e w' ⟨rfl, ⟨nd, rfl⟩⟩; refine ⟨_, rfl, ?_⟩))
        go_roundg kj2
        case measure => have := HK1.out; have := HJ2.out; omega
        case rel => exact ⟨(x4_1), (wrap64 (x7_1 + 1)), (x6_1), (wrap64 (x7_1 + 1)), me_, me_, me_, H', ⟨by have := HK1.out; have := HJ2.out; omega⟩, ⟨xr_ HO_4⟩, ⟨xw_ HB⟩⟩
       ·rw [if_neg c14] at H
        have c14b0 : (t152.toList == ([] : List UInt8)) = false := beq_eq_false_iff_ne.mpr c14
        have c14b1 : (t152.toList != ([] : List UInt8)) = true := bne_iff_ne.mpr c14
        replace H := mi_ H
        obtain ⟨c15, H⟩ := H
        have LMc15 := Aside0.mk c15
        clear c15
        obtain ⟨y153, hy153⟩ : ∃ y_ : List ByteArray, y_ = (x4_1 ++ [t152]) := ⟨_, rfl⟩
        replace H : (spec_l3List.l0 kj2 a0 y153 (wrap64 (x7_1 + 1)) x6_1 (wrap64 (x7_1 + 1))) = some (r1, r2) := by first | (rw [hy153]; with_reducible exact H) | (have H2_ := (Option.bind_some _ _).symm.trans H; rw [hy153]; with_reducible exact H2_) | (have H2_ := (Option.bind_some _ _).symm.trans H; with_reducible exact H2_) | with_reducible exact H | (rw [hy153]; exact H) | exact H
        have Ny153 := Aside0.mk hy153
        clear hy153
        have H' := Aside0.mk H
        clear H
        go_wp2_with (first | ((with_reducible refine gc_ 139 ?_); refine xgl_ (some 33) Tryz.func139 #[.string (a0.extract (x5_1 : Int).toNat (x7_1 : Int).toNat)] ?_; (with_reducible refine (spec_l3Trim.calls kj2 (a0.extract (x5_1 : Int).toNat (x7_1 : Int).toNat) t152 _ A13.out).mono ?_); rintro e w' ⟨rfl, ⟨nd, rfl⟩⟩; refine ⟨_, rfl, ?_⟩) | ((with_reducible refine gate_builtin (b := .append) (xs := #[.tmp 36, .tmp 38]) rfl ?_); at_builtin; refine Kd.R_append Kd.string (w0 := w) w.heap.size rfl (.tmp 36) (.tmp 38) 50 9 (.string ⟨#[]⟩) 16 rfl Tryz.underlying50 info9 rfl (by decide) (by omega) u4 x4_1 t152 [.string t152] (fun _ => True) (fun _ => False) rfl rfl ?aP (fun _ hk => hk.elim) ?aF ?aO ?aB ?aS ?aL ?_; (case aP => exact rfl); (case aB => exact (xw_ HB)); (case aF => exact (fun _ _ => trivial)); (case aO => exact (xr_ HO_4)); (case aS => exact (below_size (xw_ HB))); (case aL => have := LMc15.out; omega); intro v154 w16 ho hb hg hat; rw [← Ny153.out] at ho; replace HB := Aside0.mk (hb); have HO155 := Aside0.mk (ho); clear HO_4; clear ho hb hg hat))
        go_roundg kj2
        case measure => have := HK1.out; have := HJ2.out; omega
        case rel => exact ⟨(y153), (wrap64 (x7_1 + 1)), (x6_1), (wrap64 (x7_1 + 1)), me_, me_, me_, H', ⟨by have := HK1.out; have := HJ2.out; omega⟩, ⟨xr_ HO155⟩, ⟨xw_ HB⟩⟩
      ·replace c9 := Bool.eq_false_iff.mpr c9
       subst c9
       rw [if_neg (show ¬ (false = true) by decide)] at H
       replace H := mi_ H
       obtain ⟨c17, H⟩ := H
       have c17b0 := decide_eq_true c17
       clear c17
       replace H := mi_ H
       obtain ⟨c18, H⟩ := H
       have c18b0 := decide_eq_true c18
       clear c18
       have HC20 := Aside0.mk H
       clear H
       have p19 : 0 ≤ (x7_1 : Int) := md_
       have q19 : x7_1 < (a0.size : Int) := md_
       have hx19 := bt_at a0 x7_1
       replace p19 := eq_true p19
       replace q19 := eq_true q19
       go_upto_if 45 with (fail)
       go_cut [6] (fun v6 wc => ∃ (kq : Nat) (x6_19 : Bool), v6 = .bool x6_19 ∧ Aside0 (spec_l3List.j2 kq a0 x4_1 x5_1 x6_19 x7_1 = some (r1, r2)) ∧ Aside0 (kq ≤ kj2) ∧ Aside0 (Kd.R Kd.string 9 wc w.heap.size (fun _ => True) u4 x4_1) ∧ Aside0 (Below w.heap.size w wc))
       case first =>
        have H := HC20.out
        clear HC20
        by_cases c21 : (bt a0 x7_1) = 34
        ·rw [if_pos c21] at H
         have c21b0 : ((bt a0 x7_1) == 34) = true := beq_iff_eq.mpr c21
         have c21b1 : ((bt a0 x7_1) != 34) = false := bne_eq_false_iff_eq.mpr c21
         clear c21
         (first | rw [c21b0] | (simp only [i64_w, i32_w]; rw [c21b0]) | skip)
         have H' := Aside0.mk H
         clear H
         go_wp2
         go_meet
         case rel => exact ⟨_, (!x6_1), me_, H', ⟨by have := HK1.out; have := HJ2.out; first | omega | exact Nat.le_refl _⟩, ⟨xr_ HO_4⟩, ⟨xw_ HB⟩⟩
        ·rw [if_neg c21] at H
         have c21b0 : ((bt a0 x7_1) == 34) = false := beq_eq_false_iff_ne.mpr c21
         have c21b1 : ((bt a0 x7_1) != 34) = true := bne_iff_ne.mpr c21
         (first | rw [c21b0] | (simp only [i64_w, i32_w]; rw [c21b0]) | skip)
         have H' := Aside0.mk H
         clear H
         go_wp2
         go_meet
         case rel => exact ⟨_, (x6_1), me_, H', ⟨by have := HK1.out; have := HJ2.out; first | omega | exact Nat.le_refl _⟩, ⟨xr_ HO_4⟩, ⟨xw_ HB⟩⟩
       case rest =>
        clear HC20
        try clear c2
        try clear c2b0
        try clear c9
        try clear c10
        try clear c10b0
        try clear c10b1
        try clear c11
        try clear c11b0
        try clear c11b1
        try clear c12
        try clear c12b0
        try clear c12b1
        try clear c14
        try clear c17
        try clear c17b0
        try clear c18
        try clear c18b0
        try clear p19
        try clear q19
        try clear hx19
        try clear p19
        try clear q19
        obtain ⟨kq, x6_19, rfl, HA, HJ19, HO_4, HB⟩ := hcut
        cases kq with
        | zero => exact absurd HA.out (by simp [spec_l3List.j2])
        | succ kj19 =>
         have H := HA.out
         clear HA
         simp only [spec_l3List.j2] at H
         have HC22 := Aside0.mk H
         clear H
         go_upto_region 14 with (fail)
         go_cut [54] (fun v54 wc => ∃ (kq : Nat) (x54_21 : Bool), v54 = .bool x54_21 ∧ Aside0 (spec_l3List.j3 kq a0 x4_1 x5_1 x6_19 x7_1 x54_21 = some (r1, r2)) ∧ Aside0 (kq ≤ kj19) ∧ Aside0 (Kd.R Kd.string 9 wc w.heap.size (fun _ => True) u4 x4_1) ∧ Aside0 (Below w.heap.size w wc))
         case first =>
          have H := HC22.out
          clear HC22
          replace H := mi_ H
          obtain ⟨c23, H⟩ := H
          have c23b0 := decide_eq_true c23
          clear c23
          (first | rw [c23b0] | (simp only [i64_w, i32_w]; rw [c23b0]) | skip)
          replace H := mi_ H
          obtain ⟨c24, H⟩ := H
          have c24b0 := decide_eq_true c24
          clear c24
          by_cases c26 : (bt a0 x7_1) = 92
          ·rw [if_pos c26] at H
           have c26b0 : ((bt a0 x7_1) == 92) = true := beq_iff_eq.mpr c26
           have c26b1 : ((bt a0 x7_1) != 92) = false := bne_eq_false_iff_eq.mpr c26
           clear c26
           have H' := Aside0.mk H
           clear H
           have p25 : 0 ≤ (x7_1 : Int) := md_
           have q25 : x7_1 < (a0.size : Int) := md_
           have hx25 := bt_at a0 x7_1
           replace p25 := eq_true p25
           replace q25 := eq_true q25
           go_wp2
           go_meet
           case rel => exact ⟨_, (x6_19), me_, H', ⟨by have := HK1.out; have := HJ2.out; have := HJ19.out; first | omega | exact Nat.le_refl _⟩, ⟨xr_ HO_4⟩, ⟨xw_ HB⟩⟩
          ·rw [if_neg c26] at H
           have c26b0 : ((bt a0 x7_1) == 92) = false := beq_eq_false_iff_ne.mpr c26
           have c26b1 : ((bt a0 x7_1) != 92) = true := bne_iff_ne.mpr c26
           have H' := Aside0.mk H
           clear H
           have p25 : 0 ≤ (x7_1 : Int) := md_
           have q25 : x7_1 < (a0.size : Int) := md_
           have hx25 := bt_at a0 x7_1
           replace p25 := eq_true p25
           replace q25 := eq_true q25
           go_wp2
           go_meet
           case rel => exact ⟨_, (false), me_, H', ⟨by have := HK1.out; have := HJ2.out; have := HJ19.out; first | omega | exact Nat.le_refl _⟩, ⟨xr_ HO_4⟩, ⟨xw_ HB⟩⟩
         case rest =>
          clear HC22
          try clear c2
          try clear c2b0
          try clear c9
          try clear c10
          try clear c10b0
          try clear c10b1
          try clear c11
          try clear c11b0
          try clear c11b1
          try clear c12
          try clear c12b0
          try clear c12b1
          try clear c14
          try clear c17
          try clear c17b0
          try clear c18
          try clear c18b0
          try clear p19
          try clear q19
          try clear hx19
          try clear p19
          try clear q19
          obtain ⟨kq, x54_21, rfl, HA, HJ21, HO_4, HB⟩ := hcut
          cases kq with
          | zero => exact absurd HA.out (by simp [spec_l3List.j3])
          | succ kj21 =>
           have H := HA.out
           clear HA
           simp only [spec_l3List.j3] at H
           by_cases c27 : x54_21 = true
           ·subst c27
            rw [if_pos rfl] at H
            by_cases c28 : (wrap64 (x7_1 + 1)) = (a0.size : Int)
            ·rw [if_pos c28] at H
             have c28b0 : ((wrap64 (x7_1 + 1)) == (a0.size : Int)) = true := beq_iff_eq.mpr c28
             have c28b1 : ((wrap64 (x7_1 + 1)) != (a0.size : Int)) = false := bne_eq_false_iff_eq.mpr c28
             clear c28
             simp only [Option.some.injEq, Prod.mk.injEq] at H
             obtain ⟨rfl, rfl⟩ := H
             go_wp2
             go_ret2
             exact ⟨_, mf_, by first | exact Kd.R_nil _ _ _ _ _ | exact Kd.N_nil _ _ _ _ _ | exact Kd.V_nil _ _ _ _ _ | exact Kd.Q_nil _ _ _ _ _ | exact Kd.S_nil _ _ _ _ _, xw_ HB⟩
            ·rw [if_neg c28] at H
             have c28b0 : ((wrap64 (x7_1 + 1)) == (a0.size : Int)) = false := beq_eq_false_iff_ne.mpr c28
             have c28b1 : ((wrap64 (x7_1 + 1)) != (a0.size : Int)) = true := bne_iff_ne.mpr c28
             have H' := Aside0.mk H
             clear H
             go_wp2
             go_roundg kj21
             case measure => have := HK1.out; have := HJ2.out; have := HJ19.out; have := HJ21.out; omega
             case rel => exact ⟨(x4_1), (x5_1), (x6_19), (wrap64 ((wrap64 (x7_1 + 1)) + 1)), me_, me_, me_, H', ⟨by have := HK1.out; have := HJ2.out; have := HJ19.out; have := HJ21.out; omega⟩, ⟨xr_ HO_4⟩, ⟨xw_ HB⟩⟩
           ·replace c27 := Bool.eq_false_iff.mpr c27
            subst c27
            rw [if_neg (show ¬ (false = true) by decide)] at H
            have H' := Aside0.mk H
            clear H
            go_wp2
            go_roundg kj21
            case measure => have := HK1.out; have := HJ2.out; have := HJ19.out; have := HJ21.out; omega
            case rel => exact ⟨(x4_1), (x5_1), (x6_19), (wrap64 (x7_1 + 1)), me_, me_, me_, H', ⟨by have := HK1.out; have := HJ2.out; have := HJ19.out; have := HJ21.out; omega⟩, ⟨xr_ HO_4⟩, ⟨xw_ HB⟩⟩
   ·rw [if_neg c2] at H
    have c2b0 := decide_eq_false c2
    clear c2
    simp only [Option.some.injEq, Prod.mk.injEq] at H
    obtain ⟨rfl, rfl⟩ := H
    go_wp2
    go_ret2
    exact ⟨_, mf_, by (with_reducible repeat (first | apply Kd.R_alloc | apply Kd.R_drewN | apply Kd.R_drew)); exact HO_4.out, xw_ HB⟩

def lowB (b : UInt8) : UInt8 := if 65 ≤ b ∧ b ≤ 90 then b + 32 else b
/-- the converted row: its first i bytes told small -/
def LowRow (w : World) (g i : Nat) (s : ByteArray) : Prop := ∀ j, j < s.size → w.cell? ⟨g, j, none⟩ = some (.int .u8 ((if j < i then lowB (s.data.toList.getD j 0) else s.data.toList.getD j 0).toNat : Nat)) ∧ w.frozen? ⟨g, j, none⟩ = false
theorem low_start (w : World) (s : ByteArray) : LowRow (Lib.bytesWorld w 5 s) w.heap.size 0 s := fun j hj => ⟨by rw [Lib.bytesWorld_cell w 5 s j hj, if_neg (Nat.not_lt_zero j)], by
  simp [World.frozen?, Lib.bytesWorld_at_new, Lib.bytesCells]
  intro h
  have : s.data.size = s.size := rfl
  omega⟩
theorem low_keep {w : World} {g i : Nat} {s : ByteArray} (h : LowRow w g i s) (hb : lowB (s.data.toList.getD i 0) = s.data.toList.getD i 0) : LowRow w g (i + 1) s := fun j hj => by
  obtain ⟨h1, h2⟩ := h j hj
  refine ⟨?_, h2⟩
  rw [h1]
  by_cases e : j = i
  · subst e; rw [if_neg (Nat.lt_irrefl j), if_pos (Nat.lt_succ_self j), hb]
  · by_cases c : j < i
    · rw [if_pos c, if_pos (by omega)]
    · rw [if_neg c, if_neg (by omega)]
theorem low_step {w : World} {g i : Nat} {s : ByteArray} (h : LowRow w g i s) (hi : i < s.size) : LowRow (w.setCell ⟨g, i, none⟩ (.int .u8 ((lowB (s.data.toList.getD i 0)).toNat : Nat))) g (i + 1) s := fun j hj => by
  obtain ⟨h1, h2⟩ := h j hj
  refine ⟨?_, by rw [World.frozen?_setCell]; exact h2⟩
  by_cases e : j = i
  · subst e
    have hs : ∀ v, (w.setCell ⟨g, j, none⟩ v).cell? ⟨g, j, none⟩ = some v := fun v => by first | exact World.cell?_setCell_same h1 | exact World.cell?_setCell_same w h1 | exact World.cell?_setCell_same w _ h1 | exact World.cell?_setCell_same w _ _ h1
    rw [hs, if_pos (Nat.lt_succ_self j)]
  · have hne : (⟨g, i, none⟩ : Addr) ≠ ⟨g, j, none⟩ := by intro hh; injection hh with _ h3 _; exact e h3.symm
    have hs : ∀ v, (w.setCell ⟨g, i, none⟩ v).cell? ⟨g, j, none⟩ = w.cell? ⟨g, j, none⟩ := fun v => by first | exact World.cell?_setCell_other hne | exact World.cell?_setCell_other w hne | exact World.cell?_setCell_other w _ hne | exact World.cell?_setCell_other w _ _ hne | exact World.cell?_setCell_other w _ _ _ hne
    rw [hs, h1]
    by_cases c : j < i
    · rw [if_pos c, if_pos (by omega)]
    · rw [if_neg c, if_neg (by omega)]
theorem low_back (w : World) (g c : Nat) (s : ByteArray) (h : LowRow w g s.size s) : (convert 120 9 (.slice (some ⟨g, 0, none⟩) s.size c)).run Tryz.prog w = .ok (.string ⟨s.data.map lowB⟩) w := by
  have z := run_convert_bytes_back (P := Tryz.prog) w 120 9 5 ⟨g, 0, none⟩ c (s.data.toList.map lowB) Tryz.underlying120 Tryz.underlying5 Tryz.underlying9 (fun j hj => by
    have hj2 : j < s.size := by rw [List.length_map, Array.length_toList] at hj; exact hj
    have h1 := (h j hj2).1
    rw [if_pos hj2] at h1
    have ha : (⟨g, 0, none⟩ : Addr).add j = ⟨g, j, none⟩ := by simp [Addr.add]; omega
    rw [ha, h1, List.getElem_map]
    have hj3 : j < s.data.toList.length := by rw [Array.length_toList]; exact hj2
    rw [List.getD_eq_getElem?_getD, List.getElem?_eq_getElem hj3]; rfl)
  have hl : (s.data.toList.map lowB).length = s.size := by rw [List.length_map, Array.length_toList]; rfl
  rw [hl] at z
  rw [z, ← List.map_toArray, Array.toArray_toList]
theorem lowB_no1 (b : UInt8) (h : ¬ 65 ≤ b.toNat) : lowB b = b := by unfold lowB; rw [if_neg (fun hh => h (by have z := UInt8.le_iff_toNat_le.mp hh.1; have : (65 : UInt8).toNat = 65 := rfl; omega))]
theorem lowB_no2 (b : UInt8) (h : ¬ b.toNat ≤ 90) : lowB b = b := by unfold lowB; rw [if_neg (fun hh => h (by have z := UInt8.le_iff_toNat_le.mp hh.2; have : (90 : UInt8).toNat = 90 := rfl; omega))]
theorem lowB_yes (b : UInt8) (h1 : 65 ≤ b.toNat) (h2 : b.toNat ≤ 90) : ((lowB b).toNat : Int) = (b.toNat : Int) + 32 := by
  unfold lowB
  rw [if_pos ⟨UInt8.le_iff_toNat_le.mpr h1, UInt8.le_iff_toNat_le.mpr h2⟩, UInt8.toNat_add]
  have : (32 : UInt8).toNat = 32 := rfl
  omega
/-! ### spec_l1Lower: function 90 -/
def spec_l1Lower.f (a0 : ByteArray) : Option (ByteArray) := if a0.size < 100000000 then some ⟨a0.data.map lowB⟩ else none
set_option maxHeartbeats 4000000 in
theorem spec_l1Lower.calls (a0 : ByteArray) (r : ByteArray) (w : World) (h : spec_l1Lower.f a0 = some r) :
    Calls Tryz.prog 90 #[.string a0] w fun e w' => e = .returned (.string r) ∧ Below w.heap.size w w' := by
  unfold spec_l1Lower.f at h
  by_cases c : a0.size < 100000000
  · rw [if_pos c] at h
    obtain rfl := Option.some.inj h
    have hcv := Lib.run_convert_string_bytes (P := Tryz.prog) w 9 120 5 a0 Tryz.underlying9 Tryz.underlying120 Tryz.underlying5
    have hst := low_start w a0
    have hbe := Lib.bytesWorld_below w 5 a0
    obtain ⟨W0, hW0⟩ : ∃ W0, W0 = Lib.bytesWorld w 5 a0 := ⟨_, rfl⟩
    rw [← hW0] at hcv hst hbe
    have HS := Aside0.mk hst
    have HB0 := Aside0.mk hbe
    have HC := Aside0.mk c
    clear hW0 hst hbe c h
    go_enter Tryz.func90, Tryz.ntmps90
    go_wp2
    go_loopg [9] 1000000001 (fun kq v9 w' => ∃ (i : Nat), v9 = .int .i64 i ∧ Aside0 (a0.size + 1 ≤ i + kq) ∧ Aside0 (i ≤ a0.size) ∧ Aside0 (LowRow w' w.heap.size i a0) ∧ Aside0 (Below w.heap.size w w'))
    case atStart => exact ⟨0, rfl, ⟨by have := HC.out; omega⟩, ⟨Nat.zero_le _⟩, HS, HB0⟩
    case round =>
      obtain ⟨i, rfl, HK, HI, HL, HB⟩ := hrel
      cases gk with
      | zero => exact absurd HK.out (by have := HI.out; omega)
      | succ k1 =>
        by_cases c2 : i < a0.size
        · have c2b : decide ((i : Int) < (a0.size : Int)) = true := decide_eq_true (by omega)
          have hx := (HL.out i c2).1
          have hf := (HL.out i c2).2
          rw [if_neg (Nat.lt_irrefl i)] at hx
          have p1 : (0 ≤ (i : Int)) = True := eq_true (by omega)
          have q1 : ((i : Int) < (a0.size : Int)) = True := eq_true (by omega)
          obtain ⟨B, hB⟩ : ∃ B, B = a0.data.toList.getD i 0 := ⟨_, rfl⟩
          rw [← hB] at hx
          have HBB := Aside0.mk hB
          clear hB
          have hw1 : wrap64 ((i : Int) + 1) = ((i + 1 : Nat) : Int) := by unfold wrap64; have := HC.out; omega
          have HW1 := Aside0.mk hw1
          clear hw1
          by_cases d1 : 65 ≤ B.toNat
          · have d1b : decide ((B.toNat : Int) ≥ 65) = true := decide_eq_true (by omega)
            have d1c : decide (65 ≤ (B.toNat : Int)) = true := decide_eq_true (by omega)
            by_cases d2 : B.toNat ≤ 90
            · have d2b : decide ((B.toNat : Int) ≤ 90) = true := decide_eq_true (by omega)
              have HL2 := Aside0.mk (low_step HL.out c2)
              have hlow : ((lowB (a0.data.toList.getD i 0)).toNat : Int) = (B.toNat : Int) + 32 := by rw [← HBB.out]; exact lowB_yes B d1 d2
              rw [hlow] at HL2
              have HB2 := Aside0.mk (HB.out.setCell (p := ⟨w.heap.size, i, none⟩) (Nat.le_refl _) (.int .u8 ((B.toNat : Int) + 32)))
              clear hlow
              go_wp2
              go_roundg k1
              case measure => have := HK.out; omega
              case rel => exact ⟨i + 1, by rw [HW1.out], ⟨by have := HK.out; omega⟩, ⟨by omega⟩, HL2, HB2⟩
            · have d2b : decide ((B.toNat : Int) ≤ 90) = false := decide_eq_false (by omega)
              have HL2 := Aside0.mk (low_keep HL.out (by rw [← HBB.out]; exact lowB_no2 B d2))
              go_wp2
              go_roundg k1
              case measure => have := HK.out; omega
              case rel => exact ⟨i + 1, by rw [HW1.out], ⟨by have := HK.out; omega⟩, ⟨by omega⟩, HL2, HB⟩
          · have d1b : decide ((B.toNat : Int) ≥ 65) = false := decide_eq_false (by omega)
            have d1c : decide (65 ≤ (B.toNat : Int)) = false := decide_eq_false (by omega)
            have HL2 := Aside0.mk (low_keep HL.out (by rw [← HBB.out]; exact lowB_no1 B d1))
            go_wp2
            go_roundg k1
            case measure => have := HK.out; omega
            case rel => exact ⟨i + 1, by rw [HW1.out], ⟨by have := HK.out; omega⟩, ⟨by omega⟩, HL2, HB⟩
        · have c2b : decide ((i : Int) < (a0.size : Int)) = false := decide_eq_false (by omega)
          have hi : i = a0.size := by have := HI.out; omega
          subst hi
          have hbk := low_back wr w.heap.size (grownCap w a0.size 0 5) a0 HL.out
          go_wp2
          go_ret
          exact ⟨rfl, HB.out⟩
  · rw [if_neg c] at h; cases h

/-! ### spec_l3Is: function 155 -/
def spec_l3Is.f (a0_0 : ByteArray) (a0_1 : ByteArray) (a1 : ByteArray) : Option (Bool) := (spec_l1Lower.f a0_0).bind fun t157 => ((spec_l1Lower.f a1).bind fun t158 => (some (t157.toList == t158.toList)))
set_option maxHeartbeats 8000000 in
set_option maxRecDepth 100000 in
theorem spec_l3Is.calls (a0_0 : ByteArray) (a0_1 : ByteArray) (a1 : ByteArray) (r : Bool) (w : World) (h : spec_l3Is.f a0_0 a0_1 a1 = some r) :
  Calls Tryz.prog 155 #[.agg #[.string a0_0, .string a0_1], .string a1] w fun e w' => e = .returned (.bool r) ∧ Below w.heap.size w w' := by
 have hu105 := Tryz.underlying105
 have HB := Aside0.mk (Below.refl w.heap.size w)
 have H := h
 unfold spec_l3Is.f at H
 clear h
 replace H := mb_ H
 obtain ⟨t157, A3, H⟩ := H
 replace H := mb_ H
 obtain ⟨t158, A4, H⟩ := H
 obtain rfl := Option.some.inj H
 go_enter Tryz.func155, Tryz.ntmps155
 go_wp2_with (first | ((with_reducible refine gd_ 2 ?_); refine xbe_ (N := 2) (cs := #[.string a0_0, .string a0_1]) (t := 105) ?_; intro gb156 hg w5 hbox hb; have BK156 := Aside0.mk (hbox); have GE156 := xge_ HB hg; replace HB := xws_ HB hb; clear hb hbox hg; have ⟨_, _, _, _⟩ := c2_ BK156) | ((with_reducible refine gc_ 90 ?_); refine xgl_ (some 7) Tryz.func90 #[.string a0_0] ?_; (with_reducible refine (spec_l1Lower.calls a0_0 t157 _ A3.out).mono ?_); rintro e w7 ⟨rfl, hb⟩; refine ⟨_, rfl, ?_⟩; replace BK156 := xbb_ BK156 hb; replace HB := xws_ HB hb; (try clear hb)) | ((with_reducible refine gc_ 90 ?_); refine xgl_ (some 9) Tryz.func90 #[.string a1] ?_; (with_reducible refine (spec_l1Lower.calls a1 t158 _ A4.out).mono ?_); rintro e w8 ⟨rfl, hb⟩; refine ⟨_, rfl, ?_⟩; replace BK156 := xbb_ BK156 hb; replace HB := xws_ HB hb; (try clear hb)))
 go_ret
 exact ⟨mf_, xw_ HB⟩

/-! ### spec_l3Values: function 113 -/
def spec_l3Values.l0 : Nat → ByteArray → List ByteArray → List (S105) → Int → Int → Option (List ByteArray)
 | 0, _, _, _, _, _ => none
 | k + 1, x1, x5, x8, x9, x10 => if x10 < x9 then (if 0 ≤ x10 then (if x10 < (x8.length : Int) then ((spec_l3Is.f ((rd_T105 x8 x10).f0) ((rd_T105 x8 x10).f1) x1).bind fun t161 => (if t161 = true then (if x5.length < 8796093022208 then (spec_l3Values.l0 k x1 (x5 ++ [(rd_T105 x8 x10).f1]) x8 x9 (wrap64 (x10 + 1))) else (none)) else (spec_l3Values.l0 k x1 x5 x8 x9 (wrap64 (x10 + 1))))) else (none)) else (none)) else (some x5)
def spec_l3Values.f (k : Nat) (l0 : List (S105)) (a1 : ByteArray) : Option (List ByteArray) := spec_l3Values.l0 k a1 ([] : List ByteArray) l0 (l0.length : Int) 0
set_option maxHeartbeats 8000000 in
set_option maxRecDepth 100000 in
theorem spec_l3Values.calls (k : Nat) (A0 : Option Addr) (c0 : Nat) (l0 : List (S105)) (a1 : ByteArray) (r : List ByteArray) (w : World) (hr0 : Kd.C k105 w A0 l0.length l0) (hc0 : l0.length ≤ c0) (h : spec_l3Values.f k l0 a1 = some r) :
  Calls Tryz.prog 113 #[.slice A0 l0.length c0, .string a1] w fun e w' => ∃ v0_ : Value, e = .returned (v0_) ∧ Kd.R Kd.string 9 w' w.heap.size (fun _ => True) v0_ r ∧ Below w.heap.size w w' := by
 have hu105 := Tryz.underlying105
 have HR0 := Aside0.mk hr0
 have HC0 := Aside0.mk hc0
 clear hr0 hc0
 have HB := Aside0.mk (Below.refl w.heap.size w)
 have H := h
 unfold spec_l3Values.f at H
 clear h
 have H' := Aside0.mk H
 clear H
 go_enter Tryz.func113, Tryz.ntmps113
 go_wp2
 go_loopg [5, 10] k (fun kq v5 v10 w' => ∃ (x5_1 : List ByteArray) (x10_1 : Int), v10 = .int .i64 x10_1 ∧ Aside0 (spec_l3Values.l0 kq a1 x5_1 l0 (l0.length : Int) x10_1 = some r) ∧ Aside0 (kq ≤ k) ∧ Aside0 (Kd.R Kd.string 9 w' w.heap.size (fun _ => True) v5 x5_1) ∧ Aside0 (Below w.heap.size w w'))
 case atStart => exact ⟨(([] : List ByteArray)), (0), me_, H', ⟨Nat.le_refl _⟩, ⟨by first | exact Kd.R_nil _ _ _ _ _ | exact Kd.N_nil _ _ _ _ _ | exact Kd.V_nil _ _ _ _ _ | exact Kd.Q_nil _ _ _ _ _ | exact Kd.S_nil _ _ _ _ _⟩, ⟨xw_ HB⟩⟩
 case round =>
  clear H'
  obtain ⟨x5_1, x10_1, rfl, HA, HK1, HO_5, HB⟩ := hrel
  cases gk with
  | zero => exact absurd HA.out (by simp [spec_l3Values.l0])
  | succ k1 =>
   have H := HA.out
   clear HA
   simp only [spec_l3Values.l0] at H
   by_cases c3 : x10_1 < (l0.length : Int)
   ·rw [if_pos c3] at H
    have c3b0 := decide_eq_true c3
    clear c3
    replace H := mi_ H
    obtain ⟨c4, H⟩ := H
    have c4b0 := decide_eq_true c4
    clear c4
    replace H := mi_ H
    obtain ⟨c5, H⟩ := H
    have c5b0 := decide_eq_true c5
    clear c5
    replace H := mb_ H
    obtain ⟨t161, A6, H⟩ := H
    by_cases c7 : t161 = true
    ·subst c7
     rw [if_pos rfl] at H
     replace H := mi_ H
     obtain ⟨c8, H⟩ := H
     have LMc8 := Aside0.mk c8
     clear c8
     obtain ⟨y162, hy162⟩ : ∃ y_ : List ByteArray, y_ = (x5_1 ++ [(rd_T105 l0 x10_1).f1]) := ⟨_, rfl⟩
     replace H : (spec_l3Values.l0 k1 a1 y162 l0 (l0.length : Int) (wrap64 (x10_1 + 1))) = some r := by first | (rw [hy162]; with_reducible exact H) | (have H2_ := (Option.bind_some _ _).symm.trans H; rw [hy162]; with_reducible exact H2_) | (have H2_ := (Option.bind_some _ _).symm.trans H; with_reducible exact H2_) | with_reducible exact H | (rw [hy162]; exact H) | exact H
     have Ny162 := Aside0.mk hy162
     clear hy162
     have H' := Aside0.mk H
     clear H
     have p159 : 0 ≤ (x10_1 : Int) := md_
     have q159 : x10_1 < (l0.length : Int) := md_
     obtain ⟨ad159, e159, hx159_0, hx159_1⟩ := at_T105 HR0.out x10_1 p159 q159
     cases e159
     (try replace hx159_0 := (HB.out.cell (World.block_lt_of_cell? w _ hx159_0)).trans hx159_0)
     (try replace hx159_1 := (HB.out.cell (World.block_lt_of_cell? w _ hx159_1)).trans hx159_1)
     replace p159 := eq_true p159
     replace q159 := eq_true q159
     go_wp2_with (first | ((with_reducible refine gd_ 7 ?_); refine xbe_ (N := 7) (cs := #[.string (⟨#[]⟩ : ByteArray), .string (⟨#[]⟩ : ByteArray)]) (t := 105) ?_; intro gb160 hg w9 hbox hb; replace HO_5 := xrb_ HO_5 hb; have BK160 := Aside0.mk (hbox); have GE160 := xge_ HB hg; replace HB := xws_ HB hb; clear hb hbox hg; have ⟨_, _, _, _⟩ := c2_ BK160) | ((with_reducible refine gc_ 155 ?_); refine xgl_ (some 16) Tryz.func155 #[.agg #[.string ((rd_T105 l0 x10_1).f0), .string ((rd_T105 l0 x10_1).f1)], .string a1] ?_; (with_reducible refine (spec_l3Is.calls ((rd_T105 l0 x10_1).f0) ((rd_T105 l0 x10_1).f1) a1 true _ A6.out).mono ?_); rintro e w11 ⟨rfl, hb⟩; refine ⟨_, rfl, ?_⟩; replace HO_5 := Aside0.mk (Kd.R_below (xrt_ ((Kd.R_mono (Kd.R_far (p := ⟨gb160, 1, none⟩) (Kd.R_far (p := ⟨gb160, 0, none⟩) (Kd.R_types HO_5.out BK160.out (by decide)) (fun _ hk => hk.2) (.string ((rd_T105 l0 x10_1).f0))) (fun _ hk => hk.2) (.string ((rd_T105 l0 x10_1).f1))) (fun _ h_ => h_.1)))) hb); replace BK160 := mxb_ (o' := .cells #[.string ((rd_T105 l0 x10_1).f0), .string ((rd_T105 l0 x10_1).f1)] 105 (0, 0)) BK160 hb; replace HB := xws_ HB hb; (try clear hb); have ⟨_, _, _, _⟩ := c2_ BK160) | ((with_reducible refine gate_builtin (b := .append) (xs := #[.tmp 17, .tmp 20]) rfl ?_); at_builtin; refine Kd.R_append Kd.string (w0 := w) w.heap.size rfl (.tmp 17) (.tmp 20) 50 9 (.string ⟨#[]⟩) 16 rfl Tryz.underlying50 info9 rfl (by decide) (by omega) u5 x5_1 ((rd_T105 l0 x10_1).f1) [.string ((rd_T105 l0 x10_1).f1)] (fun _ => True) (fun _ => False) rfl rfl ?aP (fun _ hk => hk.elim) ?aF ?aO ?aB ?aS ?aL ?_; (case aP => exact rfl); (case aB => exact (xw_ HB)); (case aF => exact (fun _ _ => trivial)); (case aO => exact (xr_ HO_5)); (case aS => exact (below_size (xw_ HB))); (case aL => have := LMc8.out; omega); intro v163 w13 ho hb hg hat; rw [← Ny162.out] at ho; replace BK160 := Aside0.mk (blk_grown (g := gb160) (o := .cells #[.string ((rd_T105 l0 x10_1).f0), .string ((rd_T105 l0 x10_1).f1)] 105 (0, 0)) (xb_ BK160) hg (Kd.R_ne HO_5.out BK160.out (by decide))); replace HB := Aside0.mk (hb); have HO164 := Aside0.mk (ho); clear HO_5; clear ho hb hg hat))
     go_roundg k1
     case measure => have := HK1.out; omega
     case rel => exact ⟨(y162), (wrap64 (x10_1 + 1)), me_, H', ⟨by have := HK1.out; omega⟩, ⟨xr_ HO164⟩, ⟨xw_ HB⟩⟩
    ·replace c7 := Bool.eq_false_iff.mpr c7
     subst c7
     rw [if_neg (show ¬ (false = true) by decide)] at H
     have H' := Aside0.mk H
     clear H
     have p159 : 0 ≤ (x10_1 : Int) := md_
     have q159 : x10_1 < (l0.length : Int) := md_
     obtain ⟨ad159, e159, hx159_0, hx159_1⟩ := at_T105 HR0.out x10_1 p159 q159
     cases e159
     (try replace hx159_0 := (HB.out.cell (World.block_lt_of_cell? w _ hx159_0)).trans hx159_0)
     (try replace hx159_1 := (HB.out.cell (World.block_lt_of_cell? w _ hx159_1)).trans hx159_1)
     replace p159 := eq_true p159
     replace q159 := eq_true q159
     go_wp2_with (first | ((with_reducible refine gd_ 7 ?_); refine xbe_ (N := 7) (cs := #[.string (⟨#[]⟩ : ByteArray), .string (⟨#[]⟩ : ByteArray)]) (t := 105) ?_; intro gb160 hg w14 hbox hb; replace HO_5 := xrb_ HO_5 hb; have BK160 := Aside0.mk (hbox); have GE160 := xge_ HB hg; replace HB := xws_ HB hb; clear hb hbox hg; have ⟨_, _, _, _⟩ := c2_ BK160) | ((with_reducible refine gc_ 155 ?_); refine xgl_ (some 16) Tryz.func155 #[.agg #[.string ((rd_T105 l0 x10_1).f0), .string ((rd_T105 l0 x10_1).f1)], .string a1] ?_; (with_reducible refine (spec_l3Is.calls ((rd_T105 l0 x10_1).f0) ((rd_T105 l0 x10_1).f1) a1 false _ A6.out).mono ?_); rintro e w16 ⟨rfl, hb⟩; refine ⟨_, rfl, ?_⟩; replace HO_5 := Aside0.mk (Kd.R_below (xrt_ ((Kd.R_mono (Kd.R_far (p := ⟨gb160, 1, none⟩) (Kd.R_far (p := ⟨gb160, 0, none⟩) (Kd.R_types HO_5.out BK160.out (by decide)) (fun _ hk => hk.2) (.string ((rd_T105 l0 x10_1).f0))) (fun _ hk => hk.2) (.string ((rd_T105 l0 x10_1).f1))) (fun _ h_ => h_.1)))) hb); replace BK160 := mxb_ (o' := .cells #[.string ((rd_T105 l0 x10_1).f0), .string ((rd_T105 l0 x10_1).f1)] 105 (0, 0)) BK160 hb; replace HB := xws_ HB hb; (try clear hb)))
     go_roundg k1
     case measure => have := HK1.out; omega
     case rel => exact ⟨(x5_1), (wrap64 (x10_1 + 1)), me_, H', ⟨by have := HK1.out; omega⟩, ⟨xr_ HO_5⟩, ⟨xw_ HB⟩⟩
   ·rw [if_neg c3] at H
    have c3b0 := decide_eq_false c3
    clear c3
    obtain rfl := Option.some.inj H
    go_wp2
    go_ret
    exact ⟨_, mf_, by (with_reducible repeat (first | apply Kd.R_alloc | apply Kd.R_drewN | apply Kd.R_drew)); exact HO_5.out, xw_ HB⟩

end Go.Proofs.YtpggepjfhgalkaaGreatDoor.PFnExactPickItem
