-- Written by a program of this project (xprint.py) out of the translation; Lean checks it.
import Derived.Test.YtpggepjfhgalkaaGreatDoorPFnExactPickItemx0
import Derived.Test.YtpggepjfhgalkaaGreatDoorPFnExactPickItemx14
import Derived.Test.YtpggepjfhgalkaaGreatDoorPFnExactPickItemx15
namespace Go.Proofs.YtpggepjfhgalkaaGreatDoor.PFnExactPickItem
open Go.RowKit Go.Proofs.YtpggepjfhgalkaaGreatDoorW.PrintWords Go.Proofs.YtpggepjfhgalkaaGreatDoorW.PrintLast Go.Proofs.YtpggepjfhgalkaaGreatDoorW.PrintMore
attribute [local go_sem] max2_int min2_int max_two min_two max_three min_three max_four min_four   -- for this text's walks alone
set_option linter.unusedVariables false
set_option linter.unusedSimpArgs false

/-! ### impl_lengthOf: function 168 -/
mutual
def impl_lengthOf.l0 : Nat → Int → Bool → List ByteArray → Int → Int → Option (Int × Bool × Bool)
 | 0, _, _, _, _, _ => none
 | k + 1, x5, x6, x16, x17, x18 => if x18 < x17 then (if 0 ≤ x18 then (if x18 < (x16.length : Int) then ((impl_listOf.f k (rdOf ByteArray.empty x16 x18)).bind fun bt378 => (if bt378.2 = true then (impl_lengthOf.j1 k x5 x6 bt378.1 x16 x17 x18 ((bt378.1.length : Int) == 0)) else (impl_lengthOf.j1 k x5 x6 bt378.1 x16 x17 x18 true))) else (none)) else (none)) else (some (x5, x6, true))
def impl_lengthOf.j1 : Nat → Int → Bool → List ByteArray → List ByteArray → Int → Int → Bool → Option (Int × Bool × Bool)
 | 0, _, _, _, _, _, _, _ => none
 | k + 1, x5, x6, x9, x16, x17, x18, x33 => if x33 = true then (some (0, false, false)) else (impl_lengthOf.l1 k x5 x6 x16 x17 x18 x9 (x9.length : Int) 0)
def impl_lengthOf.l1 : Nat → Int → Bool → List ByteArray → Int → Int → List ByteArray → Int → Int → Option (Int × Bool × Bool)
 | 0, _, _, _, _, _, _, _, _ => none
 | k + 1, x5, x6, x16, x17, x18, x34, x35, x36 => if x36 < x35 then (if 0 ≤ x36 then (if x36 < (x34.length : Int) then ((strconv_Atoi.f (rdOf ByteArray.empty x34 x36)).bind fun bt383 => (if bt383.2.isNone = true then (if ((rdOf ByteArray.empty x34 x36).size : Int) > 9 then (some (0, false, false)) else ((xBytes_impl_isDigit.f (rdOf ByteArray.empty x34 x36)).bind fun t386 => (if t386 = true then (if x6 = true then (if bt383.1 = x5 then (impl_lengthOf.l1 k bt383.1 true x16 x17 x18 x34 x35 (wrap64 (x36 + 1))) else (some (0, false, false))) else (impl_lengthOf.l1 k bt383.1 true x16 x17 x18 x34 x35 (wrap64 (x36 + 1)))) else (some (0, false, false))))) else (some (0, false, false)))) else (none)) else (none)) else (impl_lengthOf.l0 k x5 x6 x16 x17 (wrap64 (x18 + 1)))
end
def impl_lengthOf.f (k : Nat) (l0 : List (S105)) : Option (Int × Bool × Bool) := (impl_valuesOf.f k l0 (⟨#[99, 111, 110, 116, 101, 110, 116, 45, 108, 101, 110, 103, 116, 104]⟩ : ByteArray)).bind fun t374 => (impl_lengthOf.l0 k 0 false t374 (t374.length : Int) 0)
set_option maxHeartbeats 8000000 in
set_option maxRecDepth 100000 in
theorem impl_lengthOf.calls (k : Nat) (A0 : Option Addr) (c0 : Nat) (l0 : List (S105)) (r1 : Int) (r2 : Bool) (r3 : Bool) (w : World) (hr0 : Kd.C k105 w A0 l0.length l0) (hc0 : l0.length ≤ c0) (h : impl_lengthOf.f k l0 = some (r1, r2, r3)) (hT_ : TabOk w) :
  Calls Tryz.prog 168 #[.slice A0 l0.length c0] w fun e w' => e = .returned (.tuple #[.int .i64 r1, .bool r2, .bool r3]) ∧ Below w.heap.size w w' := by
 have HTB_ := Aside0.mk hT_
 clear hT_
 have hu147 := Tryz.underlying147
 have HR0 := Aside0.mk hr0
 have HC0 := Aside0.mk hc0
 clear hr0 hc0
 have HB := Aside0.mk (Below.refl w.heap.size w)
 have H := h
 unfold impl_lengthOf.f at H
 clear h
 replace H := mb_ H
 obtain ⟨t374, A2, H⟩ := H
 have H' := Aside0.mk H
 clear H
 go_enter Tryz.func168, Tryz.ntmps168
 go_wp2_with (first | ((with_reducible refine gc_ 95 ?_); refine xgl_ (some 16) Tryz.func95 #[.slice A0 l0.length c0, .string (⟨#[99, 111, 110, 116, 101, 110, 116, 45, 108, 101, 110, 103, 116, 104]⟩ : ByteArray)] ?_; (with_reducible refine (impl_valuesOf.calls k _ _ l0 (⟨#[99, 111, 110, 116, 101, 110, 116, 45, 108, 101, 110, 103, 116, 104]⟩ : ByteArray) t374 _ ?side1 ?side2 A2.out).mono ?_); (case side1 => repeat (first | exact HR0.out | (with_reducible refine Kd.C_alloc ?_ _) | (with_reducible refine Kd.C_drewN ?_ _) | (with_reducible refine Kd.C_drew ?_))); (case side2 => exact HC0.out); rintro e w3 ⟨v375, rfl, ho0, hb⟩; refine ⟨_, rfl, ?_⟩; have HO376 := Aside0.mk (Kd.R_lower ho0 (below_size (xw_ HB))); replace HB := xws_ HB hb; (try clear hb); (try clear ho0); obtain ⟨Ao4, co4, eo4⟩ := Kd.R_slice HO376.out; subst eo4))
 go_loopg [5, 6, 18] k (fun kq v5 v6 v18 w' => ∃ (x5_1 : Int) (x6_1 : Bool) (x18_1 : Int), v5 = .int .i64 x5_1 ∧ v6 = .bool x6_1 ∧ v18 = .int .i64 x18_1 ∧ Aside0 (impl_lengthOf.l0 kq x5_1 x6_1 t374 (t374.length : Int) x18_1 = some (r1, r2, r3)) ∧ Aside0 (kq ≤ k) ∧ Aside0 (Kd.R Kd.string 9 w' w.heap.size (fun _ => True) (.slice Ao4 t374.length co4) t374) ∧ Aside0 (Below w.heap.size w w'))
 case atStart => exact ⟨(0), (false), (0), me_, me_, me_, H', ⟨Nat.le_refl _⟩, ⟨xr_ HO376⟩, ⟨xw_ HB⟩⟩
 case round =>
  clear H'
  obtain ⟨x5_1, x6_1, x18_1, rfl, rfl, rfl, HA, HK1, HO_16, HB⟩ := hrel
  cases gk with
  | zero => exact absurd HA.out (by simp [impl_lengthOf.l0])
  | succ k1 =>
   have H := HA.out
   clear HA
   simp only [impl_lengthOf.l0] at H
   by_cases c5 : x18_1 < (t374.length : Int)
   ·rw [if_pos c5] at H
    have c5b0 := decide_eq_true c5
    clear c5
    replace H := mi_ H
    obtain ⟨c6, H⟩ := H
    have c6b0 := decide_eq_true c6
    clear c6
    replace H := mi_ H
    obtain ⟨c7, H⟩ := H
    have c7b0 := decide_eq_true c7
    clear c7
    replace H := mb_ H
    obtain ⟨⟨t378, t379⟩, A8, H⟩ := H
    dsimp only at H
    have HC9 := Aside0.mk H
    clear H
    have p377 : 0 ≤ (x18_1 : Int) := md_
    have q377 : x18_1 < (t374.length : Int) := md_
    obtain ⟨ad377, e377, hx377_0⟩ := Kd.at_string (Kd.R_reads' HO_16.out).2.2 x18_1 p377 q377
    cases e377
    replace p377 := eq_true p377
    replace q377 := eq_true q377
    go_upto_region 6 with (first | ((with_reducible refine gc_ 93 ?_); refine xgl_ (some 24) Tryz.func93 #[.string (rdOf ByteArray.empty t374 x18_1)] ?_; (with_reducible refine (impl_listOf.calls k1 (rdOf ByteArray.empty t374 x18_1) t378 t379 _ A8.out).mono ?_); rintro e w10 ⟨v380, rfl, ho0, hb⟩; refine ⟨_, rfl, ?_⟩; have HO381 := Aside0.mk (Kd.R_lower (Kd.R_new' ho0 (Kd.R_lt (xr_ HO_16))) (below_size (xw_ HB))); replace HO_16 := xre_ HO_16 ho0 hb; replace HB := xws_ HB hb; (try clear hb); (try clear ho0)))
    (try simp only [Act.put, List.setIfInBounds_toArray, List.set_cons_zero, List.set_cons_succ])
    go_cut [33] (fun v33 wc => ∃ (kq : Nat) (x33_8 : Bool), v33 = .bool x33_8 ∧ Aside0 (impl_lengthOf.j1 kq x5_1 x6_1 t378 t374 (t374.length : Int) x18_1 x33_8 = some (r1, r2, r3)) ∧ Aside0 (kq ≤ k1) ∧ Aside0 (Kd.R Kd.string 9 wc w.heap.size (fun k_ => some k_ ≠ ((.slice (some ad377) t374.length co4) : Value).ownBlock) v380 t378) ∧ Aside0 (Kd.R Kd.string 9 wc w.heap.size (fun k_ => some k_ ≠ (v380 : Value).ownBlock) (.slice (some ad377) t374.length co4) t374) ∧ Aside0 (Below w.heap.size w wc))
    case first =>
     have H := HC9.out
     clear HC9
     by_cases c11 : t379 = true
     ·subst c11
      rw [if_pos rfl] at H
      have H' := Aside0.mk H
      clear H
      obtain ⟨Ao12, co12, eo12⟩ := Kd.R_slice HO381.out
      subst eo12
      go_wp2
      go_meet
      case rel => exact ⟨_, (((t378.length : Int) == 0)), me_, H', ⟨by have := HK1.out; first | omega | exact Nat.le_refl _⟩, ⟨xrt_ (Kd.R_mono HO381.out (fun _ hk => hk.2))⟩, ⟨xrt_ (Kd.R_mono HO_16.out (fun _ hk => hk.2))⟩, ⟨xw_ HB⟩⟩
     ·replace c11 := Bool.eq_false_iff.mpr c11
      subst c11
      rw [if_neg (show ¬ (false = true) by decide)] at H
      have H' := Aside0.mk H
      clear H
      go_wp2
      go_meet
      case rel => exact ⟨_, (true), me_, H', ⟨by have := HK1.out; first | omega | exact Nat.le_refl _⟩, ⟨xrt_ (Kd.R_mono HO381.out (fun _ hk => hk.2))⟩, ⟨xrt_ (Kd.R_mono HO_16.out (fun _ hk => hk.2))⟩, ⟨xw_ HB⟩⟩
    case rest =>
     clear HC9
     try clear c5
     try clear c5b0
     try clear c6
     try clear c6b0
     try clear c7
     try clear c7b0
     try clear hx377_0
     try clear p377
     try clear q377
     obtain ⟨kq, x33_8, rfl, HA, HJ8, HO_9, HO_16, HB⟩ := hcut
     cases kq with
     | zero => exact absurd HA.out (by simp [impl_lengthOf.j1])
     | succ kj8 =>
      have H := HA.out
      clear HA
      simp only [impl_lengthOf.j1] at H
      by_cases c13 : x33_8 = true
      ·subst c13
       rw [if_pos rfl] at H
       simp only [Option.some.injEq, Prod.mk.injEq] at H
       obtain ⟨rfl, rfl, rfl⟩ := H
       go_wp2
       go_ret3
       exact ⟨mf_, xw_ HB⟩
      ·replace c13 := Bool.eq_false_iff.mpr c13
       subst c13
       rw [if_neg (show ¬ (false = true) by decide)] at H
       have H' := Aside0.mk H
       clear H
       obtain ⟨Ao14, co14, eo14⟩ := Kd.R_slice HO_9.out
       subst eo14
       go_wp2
       go_loopg [5, 6, 36] kj8 (fun kq v5 v6 v36 w' => ∃ (x5_3 : Int) (x6_3 : Bool) (x36_3 : Int), v5 = .int .i64 x5_3 ∧ v6 = .bool x6_3 ∧ v36 = .int .i64 x36_3 ∧ Aside0 (impl_lengthOf.l1 kq x5_3 x6_3 t374 (t374.length : Int) x18_1 t378 (t378.length : Int) x36_3 = some (r1, r2, r3)) ∧ Aside0 (kq ≤ kj8) ∧ Aside0 (Kd.R Kd.string 9 w' w.heap.size (fun k_ => some k_ ≠ ((.slice Ao14 t378.length co14) : Value).ownBlock) (.slice (some ad377) t374.length co4) t374) ∧ Aside0 (Kd.R Kd.string 9 w' w.heap.size (fun k_ => some k_ ≠ ((.slice (some ad377) t374.length co4) : Value).ownBlock) (.slice Ao14 t378.length co14) t378) ∧ Aside0 (Below w.heap.size w w'))
       case atStart => exact ⟨(x5_1), (x6_1), (0), me_, me_, me_, H', ⟨Nat.le_refl _⟩, ⟨xr_ HO_16⟩, ⟨xr_ HO_9⟩, ⟨xw_ HB⟩⟩
       case round =>
        clear H'
        try clear c5
        try clear c5b0
        try clear c6
        try clear c6b0
        try clear c7
        try clear c7b0
        try clear c13
        try clear hx377_0
        try clear p377
        try clear q377
        obtain ⟨x5_3, x6_3, x36_3, rfl, rfl, rfl, HA, HK3, HO_16, HO_34, HB⟩ := hrel
        cases gk with
        | zero => exact absurd HA.out (by simp [impl_lengthOf.l1])
        | succ k3 =>
         have H := HA.out
         clear HA
         simp only [impl_lengthOf.l1] at H
         by_cases c15 : x36_3 < (t378.length : Int)
         ·rw [if_pos c15] at H
          have c15b0 := decide_eq_true c15
          clear c15
          replace H := mi_ H
          obtain ⟨c16, H⟩ := H
          have c16b0 := decide_eq_true c16
          clear c16
          replace H := mi_ H
          obtain ⟨c17, H⟩ := H
          have c17b0 := decide_eq_true c17
          clear c17
          replace H := mb_ H
          obtain ⟨⟨t383, t384⟩, A18, H⟩ := H
          dsimp only at H
          rcases t384 with _ | q385
          ·rw [if_pos (show (none : Option Int).isNone = true by rfl)] at H
           try simp only [errW_none, errW_some]
           by_cases c19 : ((rdOf ByteArray.empty t378 x36_3).size : Int) > 9
           ·rw [if_pos c19] at H
            have c19b0 : decide (9 < ((rdOf ByteArray.empty t378 x36_3).size : Int)) = true := decide_eq_true c19
            have c19b1 : decide (9 < (rdOf ByteArray.empty t378 x36_3).size) = true := decide_eq_true (by omega)
            clear c19
            simp only [Option.some.injEq, Prod.mk.injEq] at H
            obtain ⟨rfl, rfl, rfl⟩ := H
            have p382 : 0 ≤ (x36_3 : Int) := md_
            have q382 : x36_3 < (t378.length : Int) := md_
            obtain ⟨ad382, e382, hx382_0⟩ := Kd.at_string (Kd.R_reads' HO_34.out).2.2 x36_3 p382 q382
            cases e382
            replace p382 := eq_true p382
            replace q382 := eq_true q382
            go_wp2_with (first | ((with_reducible refine gc_ 199 ?_); refine xgl_ (some 42) Tryz.func199 #[.string (rdOf ByteArray.empty t378 x36_3)] ?_; (with_reducible refine (strconv_Atoi.calls (rdOf ByteArray.empty t378 x36_3) t383 none _ A18.out).mono ?_); rintro e w20 ⟨rfl, hb⟩; refine ⟨_, rfl, ?_⟩; replace HO_16 := xrb_ HO_16 hb; replace HO_34 := xrb_ HO_34 hb; replace HB := xws_ HB hb; (try clear hb); (try simp only [errW_none, errW_some])))
            go_ret3
            exact ⟨mf_, xw_ HB⟩
           ·rw [if_neg c19] at H
            have c19b0 : decide (9 < ((rdOf ByteArray.empty t378 x36_3).size : Int)) = false := decide_eq_false c19
            have c19b1 : decide (9 < (rdOf ByteArray.empty t378 x36_3).size) = false := decide_eq_false (by omega)
            clear c19
            replace H := mb_ H
            obtain ⟨t386, A21, H⟩ := H
            by_cases c22 : t386 = true
            ·subst c22
             rw [if_pos rfl] at H
             by_cases c23 : x6_3 = true
             ·subst c23
              rw [if_pos rfl] at H
              by_cases c24 : t383 = x5_3
              ·rw [if_pos c24] at H
               have c24b0 : (t383 == x5_3) = true := beq_iff_eq.mpr c24
               have c24b1 : (t383 != x5_3) = false := bne_eq_false_iff_eq.mpr c24
               clear c24
               have H' := Aside0.mk H
               clear H
               have p382 : 0 ≤ (x36_3 : Int) := md_
               have q382 : x36_3 < (t378.length : Int) := md_
               obtain ⟨ad382, e382, hx382_0⟩ := Kd.at_string (Kd.R_reads' HO_34.out).2.2 x36_3 p382 q382
               cases e382
               replace p382 := eq_true p382
               replace q382 := eq_true q382
               go_wp2_with (first | ((with_reducible refine gc_ 199 ?_); refine xgl_ (some 42) Tryz.func199 #[.string (rdOf ByteArray.empty t378 x36_3)] ?_; (with_reducible refine (strconv_Atoi.calls (rdOf ByteArray.empty t378 x36_3) t383 none _ A18.out).mono ?_); rintro e w25 ⟨rfl, hb⟩; refine ⟨_, rfl, ?_⟩; replace HO_16 := xrb_ HO_16 hb; replace HO_34 := xrb_ HO_34 hb; replace HB := xws_ HB hb; (try clear hb); (try simp only [errW_none, errW_some])) | (go_at_call 120; (with_reducible refine (xBytes_impl_isDigit.calls (rdOf ByteArray.empty t378 x36_3)  true _ A21.out).mono ?_); rintro e w26 ⟨rfl, hb⟩; replace HO_16 := xrb_ HO_16 hb; replace HO_34 := xrb_ HO_34 hb; replace HB := xws_ HB hb; (try clear hb)))
               go_roundg k3
               case measure => have := HK1.out; have := HJ8.out; have := HK3.out; omega
               case rel => exact ⟨(t383), (true), (wrap64 (x36_3 + 1)), me_, me_, me_, H', ⟨by have := HK1.out; have := HJ8.out; have := HK3.out; omega⟩, ⟨xr_ HO_16⟩, ⟨xr_ HO_34⟩, ⟨xw_ HB⟩⟩
              ·rw [if_neg c24] at H
               have c24b0 : (t383 == x5_3) = false := beq_eq_false_iff_ne.mpr c24
               have c24b1 : (t383 != x5_3) = true := bne_iff_ne.mpr c24
               simp only [Option.some.injEq, Prod.mk.injEq] at H
               obtain ⟨rfl, rfl, rfl⟩ := H
               have p382 : 0 ≤ (x36_3 : Int) := md_
               have q382 : x36_3 < (t378.length : Int) := md_
               obtain ⟨ad382, e382, hx382_0⟩ := Kd.at_string (Kd.R_reads' HO_34.out).2.2 x36_3 p382 q382
               cases e382
               replace p382 := eq_true p382
               replace q382 := eq_true q382
               go_wp2_with (first | ((with_reducible refine gc_ 199 ?_); refine xgl_ (some 42) Tryz.func199 #[.string (rdOf ByteArray.empty t378 x36_3)] ?_; (with_reducible refine (strconv_Atoi.calls (rdOf ByteArray.empty t378 x36_3) t383 none _ A18.out).mono ?_); rintro e w27 ⟨rfl, hb⟩; refine ⟨_, rfl, ?_⟩; replace HO_16 := xrb_ HO_16 hb; replace HO_34 := xrb_ HO_34 hb; replace HB := xws_ HB hb; (try clear hb); (try simp only [errW_none, errW_some])) | (go_at_call 120; (with_reducible refine (xBytes_impl_isDigit.calls (rdOf ByteArray.empty t378 x36_3)  true _ A21.out).mono ?_); rintro e w28 ⟨rfl, hb⟩; replace HO_16 := xrb_ HO_16 hb; replace HO_34 := xrb_ HO_34 hb; replace HB := xws_ HB hb; (try clear hb)))
               go_ret3
               exact ⟨mf_, xw_ HB⟩
             ·replace c23 := Bool.eq_false_iff.mpr c23
              subst c23
              rw [if_neg (show ¬ (false = true) by decide)] at H
              have H' := Aside0.mk H
              clear H
              have p382 : 0 ≤ (x36_3 : Int) := md_
              have q382 : x36_3 < (t378.length : Int) := md_
              obtain ⟨ad382, e382, hx382_0⟩ := Kd.at_string (Kd.R_reads' HO_34.out).2.2 x36_3 p382 q382
              cases e382
              replace p382 := eq_true p382
              replace q382 := eq_true q382
              go_wp2_with (first | ((with_reducible refine gc_ 199 ?_); refine xgl_ (some 42) Tryz.func199 #[.string (rdOf ByteArray.empty t378 x36_3)] ?_; (with_reducible refine (strconv_Atoi.calls (rdOf ByteArray.empty t378 x36_3) t383 none _ A18.out).mono ?_); rintro e w29 ⟨rfl, hb⟩; refine ⟨_, rfl, ?_⟩; replace HO_16 := xrb_ HO_16 hb; replace HO_34 := xrb_ HO_34 hb; replace HB := xws_ HB hb; (try clear hb); (try simp only [errW_none, errW_some])) | (go_at_call 120; (with_reducible refine (xBytes_impl_isDigit.calls (rdOf ByteArray.empty t378 x36_3)  true _ A21.out).mono ?_); rintro e w30 ⟨rfl, hb⟩; replace HO_16 := xrb_ HO_16 hb; replace HO_34 := xrb_ HO_34 hb; replace HB := xws_ HB hb; (try clear hb)))
              go_roundg k3
              case measure => have := HK1.out; have := HJ8.out; have := HK3.out; omega
              case rel => exact ⟨(t383), (true), (wrap64 (x36_3 + 1)), me_, me_, me_, H', ⟨by have := HK1.out; have := HJ8.out; have := HK3.out; omega⟩, ⟨xr_ HO_16⟩, ⟨xr_ HO_34⟩, ⟨xw_ HB⟩⟩
            ·replace c22 := Bool.eq_false_iff.mpr c22
             subst c22
             rw [if_neg (show ¬ (false = true) by decide)] at H
             simp only [Option.some.injEq, Prod.mk.injEq] at H
             obtain ⟨rfl, rfl, rfl⟩ := H
             have p382 : 0 ≤ (x36_3 : Int) := md_
             have q382 : x36_3 < (t378.length : Int) := md_
             obtain ⟨ad382, e382, hx382_0⟩ := Kd.at_string (Kd.R_reads' HO_34.out).2.2 x36_3 p382 q382
             cases e382
             replace p382 := eq_true p382
             replace q382 := eq_true q382
             go_wp2_with (first | ((with_reducible refine gc_ 199 ?_); refine xgl_ (some 42) Tryz.func199 #[.string (rdOf ByteArray.empty t378 x36_3)] ?_; (with_reducible refine (strconv_Atoi.calls (rdOf ByteArray.empty t378 x36_3) t383 none _ A18.out).mono ?_); rintro e w31 ⟨rfl, hb⟩; refine ⟨_, rfl, ?_⟩; replace HO_16 := xrb_ HO_16 hb; replace HO_34 := xrb_ HO_34 hb; replace HB := xws_ HB hb; (try clear hb); (try simp only [errW_none, errW_some])) | (go_at_call 120; (with_reducible refine (xBytes_impl_isDigit.calls (rdOf ByteArray.empty t378 x36_3)  false _ A21.out).mono ?_); rintro e w32 ⟨rfl, hb⟩; replace HO_16 := xrb_ HO_16 hb; replace HO_34 := xrb_ HO_34 hb; replace HB := xws_ HB hb; (try clear hb)))
             go_ret3
             exact ⟨mf_, xw_ HB⟩
          ·rw [if_neg (show ¬ (some q385).isNone = true by simp)] at H
           try simp only [errW_none, errW_some]
           simp only [Option.some.injEq, Prod.mk.injEq] at H
           obtain ⟨rfl, rfl, rfl⟩ := H
           have p382 : 0 ≤ (x36_3 : Int) := md_
           have q382 : x36_3 < (t378.length : Int) := md_
           obtain ⟨ad382, e382, hx382_0⟩ := Kd.at_string (Kd.R_reads' HO_34.out).2.2 x36_3 p382 q382
           cases e382
           replace p382 := eq_true p382
           replace q382 := eq_true q382
           go_wp2_with (first | ((with_reducible refine gc_ 199 ?_); refine xgl_ (some 42) Tryz.func199 #[.string (rdOf ByteArray.empty t378 x36_3)] ?_; (with_reducible refine (strconv_AtoiF.calls (rdOf ByteArray.empty t378 x36_3) t383 q385 _ A18.out (HTB_.out.below (by first | (with_reducible exact Below.refl _ _) | (repeat (first | (with_reducible first | exact HB.out | exact Below.refl _ _ | apply below_alloc | apply pw_below_drewN | apply below_drew1) | exact HB.out)) | (repeat (first | exact Below.refl _ _ | apply below_alloc | apply pw_below_drewN | apply below_drew1))))).mono ?_); rintro e w33 ⟨te_, pe_, rfl, hb⟩; refine ⟨_, rfl, ?_⟩; replace HO_16 := xrb_ HO_16 hb; replace HO_34 := xrb_ HO_34 hb; replace HB := xws_ HB hb; (try clear hb); (try simp only [errW_none, errW_some])))
           go_ret3
           exact ⟨mf_, xw_ HB⟩
         ·rw [if_neg c15] at H
          have c15b0 := decide_eq_false c15
          clear c15
          have H' := Aside0.mk H
          clear H
          go_wp2
          go_roundg k3
          case measure => have := HK1.out; have := HJ8.out; have := HK3.out; omega
          case rel => exact ⟨(x5_3), (x6_3), (wrap64 (x18_1 + 1)), me_, me_, me_, H', ⟨by have := HK1.out; have := HJ8.out; have := HK3.out; omega⟩, ⟨xrt_ (Kd.R_mono HO_16.out (fun _ hk => trivial))⟩, ⟨xw_ HB⟩⟩
   ·rw [if_neg c5] at H
    have c5b0 := decide_eq_false c5
    clear c5
    simp only [Option.some.injEq, Prod.mk.injEq] at H
    obtain ⟨rfl, rfl, rfl⟩ := H
    go_wp2
    go_ret3
    exact ⟨mf_, xw_ HB⟩

/-! ### impl_isFramed: function 131 -/
def impl_isFramed.f (k : Nat) (l0 : List (S105)) (a1 : ByteArray) : Option (Bool) := (impl_lengthOf.f k l0).bind fun bt387 => (if bt387.2.2 = true then ((impl_valuesOf.f k l0 (⟨#[116, 114, 97, 110, 115, 102, 101, 114, 45, 101, 110, 99, 111, 100, 105, 110, 103]⟩ : ByteArray)).bind fun t390 => (if (t390.length : Int) = 0 then (if bt387.2.1 = true then (if bt387.1 = (a1.size : Int) then (some true) else (some false)) else (some (a1.toList == ([] : List UInt8)))) else (some false))) else (some false))
set_option maxHeartbeats 8000000 in
set_option maxRecDepth 100000 in
theorem impl_isFramed.calls (k : Nat) (A0 : Option Addr) (c0 : Nat) (l0 : List (S105)) (a1 : ByteArray) (r : Bool) (w : World) (hr0 : Kd.C k105 w A0 l0.length l0) (hc0 : l0.length ≤ c0) (h : impl_isFramed.f k l0 a1 = some r) (hT_ : TabOk w) :
  Calls Tryz.prog 131 #[.slice A0 l0.length c0, .string a1] w fun e w' => e = .returned (.bool r) ∧ Below w.heap.size w w' := by
 have HTB_ := Aside0.mk hT_
 clear hT_
 have HR0 := Aside0.mk hr0
 have HC0 := Aside0.mk hc0
 clear hr0 hc0
 have HB := Aside0.mk (Below.refl w.heap.size w)
 have H := h
 unfold impl_isFramed.f at H
 clear h
 replace H := mb_ H
 obtain ⟨⟨t387, t388, t389⟩, A3, H⟩ := H
 dsimp only at H
 by_cases c4 : t389 = true
 ·subst c4
  rw [if_pos rfl] at H
  replace H := mb_ H
  obtain ⟨t390, A5, H⟩ := H
  by_cases c6 : (t390.length : Int) = 0
  ·rw [if_pos c6] at H
   have c6b0 : ((t390.length : Int) == 0) = true := beq_iff_eq.mpr c6
   have c6b1 : ((t390.length : Int) != 0) = false := bne_eq_false_iff_eq.mpr c6
   clear c6
   by_cases c7 : t388 = true
   ·subst c7
    rw [if_pos rfl] at H
    by_cases c8 : t387 = (a1.size : Int)
    ·rw [if_pos c8] at H
     have c8b0 : (t387 == (a1.size : Int)) = true := beq_iff_eq.mpr c8
     have c8b1 : (t387 != (a1.size : Int)) = false := bne_eq_false_iff_eq.mpr c8
     clear c8
     obtain rfl := Option.some.inj H
     go_enter Tryz.func131, Tryz.ntmps131
     go_wp2_with (first | ((with_reducible refine gc_ 168 ?_); refine xgl_ (some 10) Tryz.func168 #[.slice A0 l0.length c0] ?_; (with_reducible refine (impl_lengthOf.calls k _ _ l0 t387 true true _ ?side1 ?side2 A3.out (HTB_.out.below (by first | (with_reducible exact Below.refl _ _) | (repeat (first | (with_reducible first | exact HB.out | exact Below.refl _ _ | apply below_alloc | apply pw_below_drewN | apply below_drew1) | exact HB.out)) | (repeat (first | exact Below.refl _ _ | apply below_alloc | apply pw_below_drewN | apply below_drew1))))).mono ?_); (case side1 => repeat (first | exact HR0.out | (with_reducible refine Kd.C_alloc ?_ _) | (with_reducible refine Kd.C_drewN ?_ _) | (with_reducible refine Kd.C_drew ?_))); (case side2 => exact HC0.out); rintro e w9 ⟨rfl, hb⟩; refine ⟨_, rfl, ?_⟩; replace HB := xws_ HB hb; (try clear hb)) | (go_at_call 95; (with_reducible refine (impl_valuesOf.calls k _ _ l0 (⟨#[116, 114, 97, 110, 115, 102, 101, 114, 45, 101, 110, 99, 111, 100, 105, 110, 103]⟩ : ByteArray) t390 _ ?side1 ?side2 A5.out).mono ?_); (case side1 => exact xc_ ((Kd.C_below HR0.out HB.out))); (case side2 => exact HC0.out); rintro e w10 ⟨v391, rfl, ho0, hb⟩; have HO392 := Aside0.mk (Kd.R_lower ho0 (below_size (xw_ HB))); replace HB := xws_ HB hb; (try clear hb); (try clear ho0); obtain ⟨Ao11, co11, eo11⟩ := Kd.R_slice HO392.out; subst eo11))
     go_ret
     exact ⟨mf_, xw_ HB⟩
    ·rw [if_neg c8] at H
     have c8b0 : (t387 == (a1.size : Int)) = false := beq_eq_false_iff_ne.mpr c8
     have c8b1 : (t387 != (a1.size : Int)) = true := bne_iff_ne.mpr c8
     obtain rfl := Option.some.inj H
     go_enter Tryz.func131, Tryz.ntmps131
     go_wp2_with (first | ((with_reducible refine gc_ 168 ?_); refine xgl_ (some 10) Tryz.func168 #[.slice A0 l0.length c0] ?_; (with_reducible refine (impl_lengthOf.calls k _ _ l0 t387 true true _ ?side1 ?side2 A3.out (HTB_.out.below (by first | (with_reducible exact Below.refl _ _) | (repeat (first | (with_reducible first | exact HB.out | exact Below.refl _ _ | apply below_alloc | apply pw_below_drewN | apply below_drew1) | exact HB.out)) | (repeat (first | exact Below.refl _ _ | apply below_alloc | apply pw_below_drewN | apply below_drew1))))).mono ?_); (case side1 => repeat (first | exact HR0.out | (with_reducible refine Kd.C_alloc ?_ _) | (with_reducible refine Kd.C_drewN ?_ _) | (with_reducible refine Kd.C_drew ?_))); (case side2 => exact HC0.out); rintro e w12 ⟨rfl, hb⟩; refine ⟨_, rfl, ?_⟩; replace HB := xws_ HB hb; (try clear hb)) | (go_at_call 95; (with_reducible refine (impl_valuesOf.calls k _ _ l0 (⟨#[116, 114, 97, 110, 115, 102, 101, 114, 45, 101, 110, 99, 111, 100, 105, 110, 103]⟩ : ByteArray) t390 _ ?side1 ?side2 A5.out).mono ?_); (case side1 => exact xc_ ((Kd.C_below HR0.out HB.out))); (case side2 => exact HC0.out); rintro e w13 ⟨v391, rfl, ho0, hb⟩; have HO392 := Aside0.mk (Kd.R_lower ho0 (below_size (xw_ HB))); replace HB := xws_ HB hb; (try clear hb); (try clear ho0); obtain ⟨Ao14, co14, eo14⟩ := Kd.R_slice HO392.out; subst eo14))
     go_ret
     exact ⟨mf_, xw_ HB⟩
   ·replace c7 := Bool.eq_false_iff.mpr c7
    subst c7
    rw [if_neg (show ¬ (false = true) by decide)] at H
    obtain rfl := Option.some.inj H
    go_enter Tryz.func131, Tryz.ntmps131
    go_wp2_with (first | ((with_reducible refine gc_ 168 ?_); refine xgl_ (some 10) Tryz.func168 #[.slice A0 l0.length c0] ?_; (with_reducible refine (impl_lengthOf.calls k _ _ l0 t387 false true _ ?side1 ?side2 A3.out (HTB_.out.below (by first | (with_reducible exact Below.refl _ _) | (repeat (first | (with_reducible first | exact HB.out | exact Below.refl _ _ | apply below_alloc | apply pw_below_drewN | apply below_drew1) | exact HB.out)) | (repeat (first | exact Below.refl _ _ | apply below_alloc | apply pw_below_drewN | apply below_drew1))))).mono ?_); (case side1 => repeat (first | exact HR0.out | (with_reducible refine Kd.C_alloc ?_ _) | (with_reducible refine Kd.C_drewN ?_ _) | (with_reducible refine Kd.C_drew ?_))); (case side2 => exact HC0.out); rintro e w15 ⟨rfl, hb⟩; refine ⟨_, rfl, ?_⟩; replace HB := xws_ HB hb; (try clear hb)) | (go_at_call 95; (with_reducible refine (impl_valuesOf.calls k _ _ l0 (⟨#[116, 114, 97, 110, 115, 102, 101, 114, 45, 101, 110, 99, 111, 100, 105, 110, 103]⟩ : ByteArray) t390 _ ?side1 ?side2 A5.out).mono ?_); (case side1 => exact xc_ ((Kd.C_below HR0.out HB.out))); (case side2 => exact HC0.out); rintro e w16 ⟨v391, rfl, ho0, hb⟩; have HO392 := Aside0.mk (Kd.R_lower ho0 (below_size (xw_ HB))); replace HB := xws_ HB hb; (try clear hb); (try clear ho0); obtain ⟨Ao17, co17, eo17⟩ := Kd.R_slice HO392.out; subst eo17))
    go_ret
    exact ⟨mf_, xw_ HB⟩
  ·rw [if_neg c6] at H
   have c6b0 : ((t390.length : Int) == 0) = false := beq_eq_false_iff_ne.mpr c6
   have c6b1 : ((t390.length : Int) != 0) = true := bne_iff_ne.mpr c6
   have c6b2 : ¬ (t390 = []) := fun h_ => c6 (by rw [h_]; rfl)
   obtain rfl := Option.some.inj H
   go_enter Tryz.func131, Tryz.ntmps131
   go_wp2_with (first | ((with_reducible refine gc_ 168 ?_); refine xgl_ (some 10) Tryz.func168 #[.slice A0 l0.length c0] ?_; (with_reducible refine (impl_lengthOf.calls k _ _ l0 t387 t388 true _ ?side1 ?side2 A3.out (HTB_.out.below (by first | (with_reducible exact Below.refl _ _) | (repeat (first | (with_reducible first | exact HB.out | exact Below.refl _ _ | apply below_alloc | apply pw_below_drewN | apply below_drew1) | exact HB.out)) | (repeat (first | exact Below.refl _ _ | apply below_alloc | apply pw_below_drewN | apply below_drew1))))).mono ?_); (case side1 => repeat (first | exact HR0.out | (with_reducible refine Kd.C_alloc ?_ _) | (with_reducible refine Kd.C_drewN ?_ _) | (with_reducible refine Kd.C_drew ?_))); (case side2 => exact HC0.out); rintro e w18 ⟨rfl, hb⟩; refine ⟨_, rfl, ?_⟩; replace HB := xws_ HB hb; (try clear hb)) | (go_at_call 95; (with_reducible refine (impl_valuesOf.calls k _ _ l0 (⟨#[116, 114, 97, 110, 115, 102, 101, 114, 45, 101, 110, 99, 111, 100, 105, 110, 103]⟩ : ByteArray) t390 _ ?side1 ?side2 A5.out).mono ?_); (case side1 => exact xc_ ((Kd.C_below HR0.out HB.out))); (case side2 => exact HC0.out); rintro e w19 ⟨v391, rfl, ho0, hb⟩; have HO392 := Aside0.mk (Kd.R_lower ho0 (below_size (xw_ HB))); replace HB := xws_ HB hb; (try clear hb); (try clear ho0); obtain ⟨Ao20, co20, eo20⟩ := Kd.R_slice HO392.out; subst eo20))
   go_ret
   exact ⟨mf_, xw_ HB⟩
 ·replace c4 := Bool.eq_false_iff.mpr c4
  subst c4
  rw [if_neg (show ¬ (false = true) by decide)] at H
  obtain rfl := Option.some.inj H
  go_enter Tryz.func131, Tryz.ntmps131
  go_wp2_with (first | ((with_reducible refine gc_ 168 ?_); refine xgl_ (some 10) Tryz.func168 #[.slice A0 l0.length c0] ?_; (with_reducible refine (impl_lengthOf.calls k _ _ l0 t387 t388 false _ ?side1 ?side2 A3.out (HTB_.out.below (by first | (with_reducible exact Below.refl _ _) | (repeat (first | (with_reducible first | exact HB.out | exact Below.refl _ _ | apply below_alloc | apply pw_below_drewN | apply below_drew1) | exact HB.out)) | (repeat (first | exact Below.refl _ _ | apply below_alloc | apply pw_below_drewN | apply below_drew1))))).mono ?_); (case side1 => repeat (first | exact HR0.out | (with_reducible refine Kd.C_alloc ?_ _) | (with_reducible refine Kd.C_drewN ?_ _) | (with_reducible refine Kd.C_drew ?_))); (case side2 => exact HC0.out); rintro e w21 ⟨rfl, hb⟩; refine ⟨_, rfl, ?_⟩; replace HB := xws_ HB hb; (try clear hb)))
  go_ret
  exact ⟨mf_, xw_ HB⟩

/-! ### impl_isMessage: function 78 -/
def impl_isMessage.f (k : Nat) (a0 : ByteArray) (l1 : List (S105)) (a2 : ByteArray) : Option (Bool) := (impl_areFields.f k l1).bind fun t393 => (if t393 = true then (if (a2.size : Int) ≤ 300 then ((impl_headText.f k a0 l1).bind fun t394 => (if (t394.size : Int) ≤ 2000 then ((impl_isFramed.f k l1 a2).bind fun t395 => (some t395)) else (some false))) else (some false)) else (some false))
set_option maxHeartbeats 8000000 in
set_option maxRecDepth 100000 in
theorem impl_isMessage.calls (k : Nat) (a0 : ByteArray) (A1 : Option Addr) (c1 : Nat) (l1 : List (S105)) (a2 : ByteArray) (r : Bool) (w : World) (hr1 : Kd.C k105 w A1 l1.length l1) (hc1 : l1.length ≤ c1) (h : impl_isMessage.f k a0 l1 a2 = some r) (hT_ : TabOk w) :
  Calls Tryz.prog 78 #[.string a0, .slice A1 l1.length c1, .string a2] w fun e w' => e = .returned (.bool r) ∧ Below w.heap.size w w' := by
 have HTB_ := Aside0.mk hT_
 clear hT_
 have HR1 := Aside0.mk hr1
 have HC1 := Aside0.mk hc1
 clear hr1 hc1
 have HB := Aside0.mk (Below.refl w.heap.size w)
 have H := h
 unfold impl_isMessage.f at H
 clear h
 replace H := mb_ H
 obtain ⟨t393, A4, H⟩ := H
 by_cases c5 : t393 = true
 ·subst c5
  rw [if_pos rfl] at H
  by_cases c6 : (a2.size : Int) ≤ 300
  ·rw [if_pos c6] at H
   have c6b0 := decide_eq_true c6
   have c6b1 : decide (a2.size ≤ 300) = true := decide_eq_true (by omega)
   clear c6
   replace H := mb_ H
   obtain ⟨t394, A7, H⟩ := H
   by_cases c8 : (t394.size : Int) ≤ 2000
   ·rw [if_pos c8] at H
    have c8b0 := decide_eq_true c8
    have c8b1 : decide (t394.size ≤ 2000) = true := decide_eq_true (by omega)
    clear c8
    replace H := mb_ H
    obtain ⟨t395, A9, H⟩ := H
    obtain rfl := Option.some.inj H
    go_enter Tryz.func78, Tryz.ntmps78
    go_wp2_with (first | ((with_reducible refine gc_ 102 ?_); refine xgl_ (some 8) Tryz.func102 #[.slice A1 l1.length c1] ?_; (with_reducible refine (impl_areFields.calls k _ _ l1 true _ ?side1 ?side2 A4.out).mono ?_); (case side1 => repeat (first | exact HR1.out | (with_reducible refine Kd.C_alloc ?_ _) | (with_reducible refine Kd.C_drewN ?_ _) | (with_reducible refine Kd.C_drew ?_))); (case side2 => exact HC1.out); rintro e w10 ⟨rfl, hb⟩; refine ⟨_, rfl, ?_⟩; replace HB := xws_ HB hb; (try clear hb)) | (go_at_call 130; (with_reducible refine (impl_headText.calls k a0 _ _ l1 t394 _ ?side1 ?side2 A7.out).mono ?_); (case side1 => exact xc_ ((Kd.C_below HR1.out HB.out))); (case side2 => exact HC1.out); rintro e w11 ⟨rfl, hb⟩; replace HB := xws_ HB hb; (try clear hb)) | (go_at_call 131; (with_reducible refine (impl_isFramed.calls k _ _ l1 a2 t395 _ ?side1 ?side2 A9.out (HTB_.out.below (by first | (with_reducible exact Below.refl _ _) | (repeat (first | (with_reducible first | exact HB.out | exact Below.refl _ _ | apply below_alloc | apply pw_below_drewN | apply below_drew1) | exact HB.out)) | (repeat (first | exact Below.refl _ _ | apply below_alloc | apply pw_below_drewN | apply below_drew1))))).mono ?_); (case side1 => exact xc_ ((Kd.C_below HR1.out HB.out))); (case side2 => exact HC1.out); rintro e w12 ⟨rfl, hb⟩; replace HB := xws_ HB hb; (try clear hb)))
    go_ret
    exact ⟨mf_, xw_ HB⟩
   ·rw [if_neg c8] at H
    have c8b0 := decide_eq_false c8
    have c8b1 : decide (t394.size ≤ 2000) = false := decide_eq_false (by omega)
    clear c8
    obtain rfl := Option.some.inj H
    go_enter Tryz.func78, Tryz.ntmps78
    go_wp2_with (first | ((with_reducible refine gc_ 102 ?_); refine xgl_ (some 8) Tryz.func102 #[.slice A1 l1.length c1] ?_; (with_reducible refine (impl_areFields.calls k _ _ l1 true _ ?side1 ?side2 A4.out).mono ?_); (case side1 => repeat (first | exact HR1.out | (with_reducible refine Kd.C_alloc ?_ _) | (with_reducible refine Kd.C_drewN ?_ _) | (with_reducible refine Kd.C_drew ?_))); (case side2 => exact HC1.out); rintro e w13 ⟨rfl, hb⟩; refine ⟨_, rfl, ?_⟩; replace HB := xws_ HB hb; (try clear hb)) | (go_at_call 130; (with_reducible refine (impl_headText.calls k a0 _ _ l1 t394 _ ?side1 ?side2 A7.out).mono ?_); (case side1 => exact xc_ ((Kd.C_below HR1.out HB.out))); (case side2 => exact HC1.out); rintro e w14 ⟨rfl, hb⟩; replace HB := xws_ HB hb; (try clear hb)))
    go_ret
    exact ⟨mf_, xw_ HB⟩
  ·rw [if_neg c6] at H
   have c6b0 := decide_eq_false c6
   have c6b1 : decide (a2.size ≤ 300) = false := decide_eq_false (by omega)
   clear c6
   obtain rfl := Option.some.inj H
   go_enter Tryz.func78, Tryz.ntmps78
   go_wp2_with (first | ((with_reducible refine gc_ 102 ?_); refine xgl_ (some 8) Tryz.func102 #[.slice A1 l1.length c1] ?_; (with_reducible refine (impl_areFields.calls k _ _ l1 true _ ?side1 ?side2 A4.out).mono ?_); (case side1 => repeat (first | exact HR1.out | (with_reducible refine Kd.C_alloc ?_ _) | (with_reducible refine Kd.C_drewN ?_ _) | (with_reducible refine Kd.C_drew ?_))); (case side2 => exact HC1.out); rintro e w15 ⟨rfl, hb⟩; refine ⟨_, rfl, ?_⟩; replace HB := xws_ HB hb; (try clear hb)))
   go_ret
   exact ⟨mf_, xw_ HB⟩
 ·replace c5 := Bool.eq_false_iff.mpr c5
  subst c5
  rw [if_neg (show ¬ (false = true) by decide)] at H
  obtain rfl := Option.some.inj H
  go_enter Tryz.func78, Tryz.ntmps78
  go_wp2_with (first | ((with_reducible refine gc_ 102 ?_); refine xgl_ (some 8) Tryz.func102 #[.slice A1 l1.length c1] ?_; (with_reducible refine (impl_areFields.calls k _ _ l1 false _ ?side1 ?side2 A4.out).mono ?_); (case side1 => repeat (first | exact HR1.out | (with_reducible refine Kd.C_alloc ?_ _) | (with_reducible refine Kd.C_drewN ?_ _) | (with_reducible refine Kd.C_drew ?_))); (case side2 => exact HC1.out); rintro e w16 ⟨rfl, hb⟩; refine ⟨_, rfl, ?_⟩; replace HB := xws_ HB hb; (try clear hb)))
  go_ret
  exact ⟨mf_, xw_ HB⟩

/-! ### impl_requestLine: function 79 -/
def impl_requestLine.f (a0_0 : ByteArray) (a0_1 : ByteArray) (l0_2 : List (S105)) (a0_3 : ByteArray) : Option (ByteArray) := if a0_0.size + 1 ≤ 9223372036854775807 then (if (a0_0 ++ (⟨#[32]⟩ : ByteArray)).size + a0_1.size ≤ 9223372036854775807 then (if ((a0_0 ++ (⟨#[32]⟩ : ByteArray)) ++ a0_1).size + 9 ≤ 9223372036854775807 then (some (((a0_0 ++ (⟨#[32]⟩ : ByteArray)) ++ a0_1) ++ (⟨#[32, 72, 84, 84, 80, 47, 49, 46, 49]⟩ : ByteArray))) else (none)) else (none)) else (none)
set_option maxHeartbeats 8000000 in
set_option maxRecDepth 100000 in
theorem impl_requestLine.calls (a0_0 : ByteArray) (a0_1 : ByteArray) (A0_2 : Option Addr) (c0_2 : Nat) (l0_2 : List (S105)) (a0_3 : ByteArray) (r : ByteArray) (w : World) (hr0_2 : Kd.C k105 w A0_2 l0_2.length l0_2) (hc0_2 : l0_2.length ≤ c0_2) (h : impl_requestLine.f a0_0 a0_1 l0_2 a0_3 = some r) :
  Calls Tryz.prog 79 #[.agg #[.string a0_0, .string a0_1, .slice A0_2 l0_2.length c0_2, .string a0_3]] w fun e w' => e = .returned (.string r) ∧ Below w.heap.size w w' := by
 have hu35 := Tryz.underlying35
 have HR0_2 := Aside0.mk hr0_2
 have HC0_2 := Aside0.mk hc0_2
 clear hr0_2 hc0_2
 have HB := Aside0.mk (Below.refl w.heap.size w)
 have H := h
 unfold impl_requestLine.f at H
 clear h
 replace H := mi_ H
 obtain ⟨c2, H⟩ := H
 have c2b0 := eq_true c2
 have c2b1 := decide_eq_true c2
 try have c2b2 : (9223372036854775807 < a0_0.size + 1) = False := eq_false (Nat.not_lt.2 c2)
 replace H := mi_ H
 obtain ⟨c3, H⟩ := H
 have c3b0 := eq_true c3
 have c3b1 := decide_eq_true c3
 try have c3b2 : (9223372036854775807 < (a0_0 ++ (⟨#[32]⟩ : ByteArray)).size + a0_1.size) = False := eq_false (Nat.not_lt.2 c3)
 try have c3b3 : (9223372036854775807 < a0_0.size + 1 + a0_1.size) = False := eq_false (Nat.not_lt.2 (by have z_ := c3; simp only [ByteArray.size_append] at z_; exact z_))
 replace H := mi_ H
 obtain ⟨c4, H⟩ := H
 have c4b0 := eq_true c4
 have c4b1 := decide_eq_true c4
 try have c4b2 : (9223372036854775807 < ((a0_0 ++ (⟨#[32]⟩ : ByteArray)) ++ a0_1).size + 9) = False := eq_false (Nat.not_lt.2 c4)
 try have c4b3 : (9223372036854775807 < a0_0.size + 1 + a0_1.size + 9) = False := eq_false (Nat.not_lt.2 (by have z_ := c4; simp only [ByteArray.size_append] at z_; exact z_))
 obtain rfl := Option.some.inj H
 go_enter Tryz.func79, Tryz.ntmps79
 go_wp2_with (first | ((with_reducible refine gd_ 1 ?_); refine xbe_ (N := 1) (cs := #[.string a0_0, .string a0_1, .slice A0_2 l0_2.length c0_2, .string a0_3]) (t := 35) ?_; intro gb396 hg w5 hbox hb; have BK396 := Aside0.mk (hbox); have GE396 := xge_ HB hg; replace HB := xws_ HB hb; clear hb hbox hg; have ⟨_, _, _, _, _, _, _, _⟩ := c4_ BK396))
 go_ret
 exact ⟨mf_, xw_ HB⟩

end Go.Proofs.YtpggepjfhgalkaaGreatDoor.PFnExactPickItem
