-- Written by a program of this project (xprint.py) out of the translation; Lean checks it.
import Derived.Test.YtemeajidcggniaaPFnSummedx0
namespace Go.Proofs.Ytemeajidcggniaa.PFnSummed
open Go.RowKit Go.Proofs.YtemeajidcggniaaW.PrintWords Go.Proofs.YtemeajidcggniaaW.PrintLast Go.Proofs.YtemeajidcggniaaW.PrintMore
attribute [local go_sem] max2_int min2_int max_two min_two max_three min_three max_four min_four   -- for this text's walks alone
set_option linter.unusedVariables false
set_option linter.unusedSimpArgs false

/-! ### laws_sameInts: function 21 -/
def laws_sameInts.l0 : Nat → List Int → List Int → Int → Int → Option (Bool)
 | 0, _, _, _, _ => none
 | k + 1, x0, x1, x12, x13 => if x13 < x12 then (if 0 ≤ x13 then (if x13 < (x0.length : Int) then (if x13 < (x1.length : Int) then (if (rd x0 x13) = (rd x1 x13) then (laws_sameInts.l0 k x0 x1 x12 (wrap64 (x13 + 1))) else (some false)) else (none)) else (none)) else (none)) else (some true)
def laws_sameInts.f (k : Nat) (l0 : List Int) (l1 : List Int) : Option (Bool) := if (l0.length : Int) = (l1.length : Int) then (laws_sameInts.l0 k l0 l1 (l0.length : Int) 0) else (some false)
theorem laws_sameInts.mono_l : ∀ k, (∀ y0 y1 y2 y3, LeO (laws_sameInts.l0 k y0 y1 y2 y3) (laws_sameInts.l0 (k + 1) y0 y1 y2 y3))
 | 0 => fun _ _ _ _ r h => by simp [laws_sameInts.l0] at h
 | k + 1 => by
  have ih0 := laws_sameInts.mono_l k
  ·intro y0 y1 y2 y3
   unfold laws_sameInts.l0
   repeat' first
   | (with_reducible exact ih0 _ _ _ _)
   | (with_reducible exact LeO.refl _)
   | (with_reducible exact LeO.none _)
   | (with_reducible refine LeO.ite ?_ ?_)
   | (with_reducible refine LeO.bind ?_ (fun _ => ?_))
   | exact ih0 _ _ _ _
   | exact LeO.none _
   | refine LeO.ite ?_ ?_
   | refine LeO.bind ?_ (fun _ => ?_)
theorem laws_sameInts.mono : ∀ a0 a1 k, LeO (laws_sameInts.f k a0 a1) (laws_sameInts.f (k + 1) a0 a1) := by
 intro a0 a1 k
 have ih0 := laws_sameInts.mono_l k
 unfold laws_sameInts.f
 repeat' first
   | (with_reducible exact ih0 _ _ _ _)
   | (with_reducible exact LeO.refl _)
   | (with_reducible exact LeO.none _)
   | (with_reducible refine LeO.ite ?_ ?_)
   | (with_reducible refine LeO.bind ?_ (fun _ => ?_))
   | exact ih0 _ _ _ _
   | exact LeO.none _
   | refine LeO.ite ?_ ?_
   | refine LeO.bind ?_ (fun _ => ?_)
set_option maxHeartbeats 8000000 in
set_option maxRecDepth 100000 in
theorem laws_sameInts.calls (k : Nat) (A0 : Option Addr) (c0 : Nat) (l0 : List Int) (A1 : Option Addr) (c1 : Nat) (l1 : List Int) (r : Bool) (w : World) (hr0 : Kd.C (Kd.int .i64) w A0 l0.length l0) (hc0 : l0.length ≤ c0) (hr1 : Kd.C (Kd.int .i64) w A1 l1.length l1) (hc1 : l1.length ≤ c1) (h : laws_sameInts.f k l0 l1 = some r) :
  Calls Try.prog 21 #[.slice A0 l0.length c0, .slice A1 l1.length c1] w fun e w' => e = .returned (.bool r) ∧ Drawn0 w w' := by
 have HR0 := Aside0.mk hr0
 have HC0 := Aside0.mk hc0
 clear hr0 hc0
 have HR1 := Aside0.mk hr1
 have HC1 := Aside0.mk hc1
 clear hr1 hc1
 have H : (if (l0.length : Int) = (l1.length : Int) then (laws_sameInts.l0 k l0 l1 (l0.length : Int) 0) else (some false)) = some r := h
 clear h
 by_cases c3 : (l0.length : Int) = (l1.length : Int)
 ·rw [if_pos c3] at H
  have c3b0 : ((l0.length : Int) == (l1.length : Int)) = true := beq_iff_eq.mpr c3
  have c3b1 : ((l0.length : Int) != (l1.length : Int)) = false := bne_eq_false_iff_eq.mpr c3
  have c3b2 : (l0.length == l1.length) = true := by first | simpa using c3 | (simp at c3 ⊢; omega)
  clear c3
  have H' := Aside0.mk H
  clear H
  go_enter Try.func21, Try.ntmps21
  go_wp2
  repeat (go_quiet (fail); try go_wp2)
  go_loopg [13] k (fun kq v13 w' => ∃ (x13_1 : Int), v13 = .int .i64 x13_1 ∧ Aside0 (laws_sameInts.l0 kq l0 l1 (l0.length : Int) x13_1 = some r) ∧ Aside0 (kq ≤ k) ∧ Drawn0 w w')
  case atStart => exact ⟨(0), (by first | rfl | (simp; done) | (simp [*]; done)), H', ⟨Nat.le_refl _⟩, by repeat (first | exact Drawn0.refl _ | apply Drawn0.step)⟩
  case round =>
   clear H'
   try clear c1
   try clear c2
   try clear p2
   try clear c3
   try clear c3b0
   try clear c3b1
   try clear c3b2
   obtain ⟨x13_1, rfl, HA, HK1, ⟨m1, rfl⟩⟩ := hrel
   cases gk with
   | zero => exact absurd HA.out (by simp [laws_sameInts.l0])
   | succ k1 =>
    have H := HA.out
    clear HA
    simp only [laws_sameInts.l0] at H
    by_cases c4 : x13_1 < (l0.length : Int)
    ·rw [if_pos c4] at H
     have c4b0 : decide (x13_1 < (l0.length : Int)) = true := decide_eq_true c4
     clear c4
     by_cases c5 : 0 ≤ x13_1
     ·rw [if_pos c5] at H
      have c5b0 : decide (0 ≤ x13_1) = true := decide_eq_true c5
      clear c5
      by_cases c6 : x13_1 < (l0.length : Int)
      ·rw [if_pos c6] at H
       have c6b0 : decide (x13_1 < (l0.length : Int)) = true := decide_eq_true c6
       clear c6
       by_cases c7 : x13_1 < (l1.length : Int)
       ·rw [if_pos c7] at H
        have c7b0 : decide (x13_1 < (l1.length : Int)) = true := decide_eq_true c7
        clear c7
        by_cases c8 : (rd l0 x13_1) = (rd l1 x13_1)
        ·rw [if_pos c8] at H
         have c8b0 : ((rd l0 x13_1) == (rd l1 x13_1)) = true := beq_iff_eq.mpr c8
         have c8b1 : ((rd l0 x13_1) != (rd l1 x13_1)) = false := bne_eq_false_iff_eq.mpr c8
         clear c8
         have H' := Aside0.mk H
         clear H
         have p101 : 0 ≤ (x13_1 : Int) := of_decide_eq_true (by first | (with_reducible assumption) | assumption)
         have q101 : x13_1 < (l0.length : Int) := of_decide_eq_true (by first | (with_reducible assumption) | assumption)
         obtain ⟨ad101, e101, hx101_0⟩ := Kd.at_int HR0.out x13_1 p101 q101
         cases e101
         replace p101 := eq_true p101
         replace q101 := eq_true q101
         have p102 : 0 ≤ (x13_1 : Int) := of_decide_eq_true (by first | (with_reducible assumption) | assumption)
         have q102 : x13_1 < (l1.length : Int) := of_decide_eq_true (by first | (with_reducible assumption) | assumption)
         obtain ⟨ad102, e102, hx102_0⟩ := Kd.at_int HR1.out x13_1 p102 q102
         cases e102
         replace p102 := eq_true p102
         replace q102 := eq_true q102
         go_wp2
         repeat (go_quiet (fail); try go_wp2)
         go_roundg k1
         case measure => have := HK1.out; omega
         case rel => exact ⟨(wrap64 (x13_1 + 1)), (by first | rfl | (simp; done) | (simp [*]; done)), H', ⟨by have := HK1.out; omega⟩, by repeat (first | exact Drawn0.refl _ | apply Drawn0.step)⟩
        ·rw [if_neg c8] at H
         have c8b0 : ((rd l0 x13_1) == (rd l1 x13_1)) = false := beq_eq_false_iff_ne.mpr c8
         have c8b1 : ((rd l0 x13_1) != (rd l1 x13_1)) = true := bne_iff_ne.mpr c8
         obtain rfl := Option.some.inj H
         have p101 : 0 ≤ (x13_1 : Int) := of_decide_eq_true (by first | (with_reducible assumption) | assumption)
         have q101 : x13_1 < (l0.length : Int) := of_decide_eq_true (by first | (with_reducible assumption) | assumption)
         obtain ⟨ad101, e101, hx101_0⟩ := Kd.at_int HR0.out x13_1 p101 q101
         cases e101
         replace p101 := eq_true p101
         replace q101 := eq_true q101
         have p102 : 0 ≤ (x13_1 : Int) := of_decide_eq_true (by first | (with_reducible assumption) | assumption)
         have q102 : x13_1 < (l1.length : Int) := of_decide_eq_true (by first | (with_reducible assumption) | assumption)
         obtain ⟨ad102, e102, hx102_0⟩ := Kd.at_int HR1.out x13_1 p102 q102
         cases e102
         replace p102 := eq_true p102
         replace q102 := eq_true q102
         go_wp2
         repeat (go_quiet (fail); try go_wp2)
         go_ret
         exact ⟨by first | rfl | (simp; done) | (simp [*]; done), by repeat (first | exact Drawn0.refl _ | apply Drawn0.step)⟩
       ·rw [if_neg c7] at H
        exact absurd H (by simp)
      ·rw [if_neg c6] at H
       exact absurd H (by simp)
     ·rw [if_neg c5] at H
      exact absurd H (by simp)
    ·rw [if_neg c4] at H
     have c4b0 : decide (x13_1 < (l0.length : Int)) = false := decide_eq_false c4
     clear c4
     obtain rfl := Option.some.inj H
     go_wp2
     repeat (go_quiet (fail); try go_wp2)
     go_ret
     exact ⟨by first | rfl | (simp; done) | (simp [*]; done), by repeat (first | exact Drawn0.refl _ | apply Drawn0.step)⟩
 ·rw [if_neg c3] at H
  have c3b0 : ((l0.length : Int) == (l1.length : Int)) = false := beq_eq_false_iff_ne.mpr c3
  have c3b1 : ((l0.length : Int) != (l1.length : Int)) = true := bne_iff_ne.mpr c3
  have c3b2 : (l0.length == l1.length) = false := by first | simpa using c3 | (simp at c3 ⊢; omega)
  obtain rfl := Option.some.inj H
  go_enter Try.func21, Try.ntmps21
  go_wp2
  repeat (go_quiet (fail); try go_wp2)
  go_ret
  exact ⟨by first | rfl | (simp; done) | (simp [*]; done), by repeat (first | exact Drawn0.refl _ | apply Drawn0.step)⟩

/-! ### laws_sameSketches: function 8 -/
def laws_sameSketches.f (k : Nat) (l0_0 : List Int) (a0_1 : Int) (l1_0 : List Int) (a1_1 : Int) : Option (Bool) := if a0_1 = a1_1 then ((laws_sameInts.f k l0_0 l1_0).bind fun t105 => (some t105)) else (some false)
theorem laws_sameSketches.mono : ∀ a0 a1 a2 a3 k, LeO (laws_sameSketches.f k a0 a1 a2 a3) (laws_sameSketches.f (k + 1) a0 a1 a2 a3) := by
 intro a0 a1 a2 a3 k
 unfold laws_sameSketches.f
 repeat' first
   | (with_reducible exact laws_sameInts.mono _ _ _)
   | (with_reducible exact LeO.refl _)
   | (with_reducible exact LeO.none _)
   | (with_reducible refine LeO.ite ?_ ?_)
   | (with_reducible refine LeO.bind ?_ (fun _ => ?_))
   | exact laws_sameInts.mono _ _ _
   | exact LeO.none _
   | refine LeO.ite ?_ ?_
   | refine LeO.bind ?_ (fun _ => ?_)
set_option maxHeartbeats 8000000 in
set_option maxRecDepth 100000 in
theorem laws_sameSketches.calls (k : Nat) (A0_0 : Option Addr) (c0_0 : Nat) (l0_0 : List Int) (a0_1 : Int) (A1_0 : Option Addr) (c1_0 : Nat) (l1_0 : List Int) (a1_1 : Int) (r : Bool) (w : World) (hr0_0 : Kd.C (Kd.int .i64) w A0_0 l0_0.length l0_0) (hc0_0 : l0_0.length ≤ c0_0) (hr1_0 : Kd.C (Kd.int .i64) w A1_0 l1_0.length l1_0) (hc1_0 : l1_0.length ≤ c1_0) (h : laws_sameSketches.f k l0_0 a0_1 l1_0 a1_1 = some r) :
  Calls Try.prog 8 #[.agg #[.slice A0_0 l0_0.length c0_0, .int .i64 a0_1], .agg #[.slice A1_0 l1_0.length c1_0, .int .i64 a1_1]] w fun e w' => e = .returned (.bool r) ∧ Below w.heap.size w w' := by
 have hu25 := Try.underlying25
 have HR0_0 := Aside0.mk hr0_0
 have HC0_0 := Aside0.mk hc0_0
 clear hr0_0 hc0_0
 have HR1_0 := Aside0.mk hr1_0
 have HC1_0 := Aside0.mk hc1_0
 clear hr1_0 hc1_0
 have HB := Aside0.mk (Below.refl w.heap.size w)
 have H : (if a0_1 = a1_1 then ((laws_sameInts.f k l0_0 l1_0).bind fun t105 => (some t105)) else (some false)) = some r := h
 clear h
 by_cases c3 : a0_1 = a1_1
 ·rw [if_pos c3] at H
  have c3b0 : (a0_1 == a1_1) = true := beq_iff_eq.mpr c3
  have c3b1 : (a0_1 != a1_1) = false := bne_eq_false_iff_eq.mpr c3
  clear c3
  replace H := Option.bind_eq_some_iff.mp H
  obtain ⟨t105, A40, H⟩ := H
  replace H : (some t105) = some r := H
  have A4 := Aside0.mk A40
  clear A40
  obtain rfl := Option.some.inj H
  go_enter Try.func8, Try.ntmps8
  go_wp2_with (first | ((with_reducible refine gate_dst (N := 2) rfl ?_); refine xbe_ (N := 2) (cs := #[.slice A0_0 l0_0.length c0_0, .int .i64 a0_1]) (t := 25) ?_; intro gb103 hg w5 hbox hb; have BK103 := Aside0.mk (hbox); have GW103 := xge_ HB hg; have GE103 := xge_ HB hg; replace HB := xws_ HB hb; clear hb hbox hg) | ((with_reducible refine gate_dst (N := 3) rfl ?_); refine xbe_ (N := 3) (cs := #[.slice A1_0 l1_0.length c1_0, .int .i64 a1_1]) (t := 25) ?_; intro gb104 hg w6 hbox hb; have BK104 := Aside0.mk (hbox); have GW104 := xge_ HB hg; have GE104 := xge_ HB hg; replace HB := xws_ HB hb; have NB103_104 := xlt_ BK103 hg; have NB104_103 := xgt_ BK103 hg; replace BK103 := xbb_ BK103 hb; clear hb hbox hg; have hnb7 := NB103_104.out; have hnc7 := NB104_103.out; have hcz8_0 : w6.cell? ⟨gb103, 0, none⟩ = some (.slice A0_0 l0_0.length c0_0) := xk_ BK103 0; have hcz8_1 : w6.cell? ⟨gb103, 1, none⟩ = some (.int .i64 a0_1) := xk_ BK103 1; have hfz8_0 := blk_frozen BK103.out 0; have hfz8_1 := blk_frozen BK103.out 1; have hcz9_0 : w6.cell? ⟨gb104, 0, none⟩ = some (.slice A1_0 l1_0.length c1_0) := xk_ BK104 0; have hcz9_1 : w6.cell? ⟨gb104, 1, none⟩ = some (.int .i64 a1_1) := xk_ BK104 1; have hfz9_0 := blk_frozen BK104.out 0; have hfz9_1 := blk_frozen BK104.out 1) | (go_at_call 21; (with_reducible refine (laws_sameInts.calls k _ _ l0_0 _ _ l1_0 t105 _ ?side1 ?side2 ?side3 ?side4 A4.out).mono ?_); (case side1 => exact xc_ ((Kd.C_below HR0_0.out HB.out))); (case side2 => exact HC0_0.out); (case side3 => exact xc_ ((Kd.C_below HR1_0.out HB.out))); (case side4 => exact HC1_0.out); rintro e w' ⟨rfl, ⟨nd, rfl⟩⟩))
  go_ret
  exact ⟨by first | rfl | (simp [errW_none, errW_some] <;> rfl) | (simp [*, errW_none, errW_some] <;> rfl), xw_ HB⟩
 ·rw [if_neg c3] at H
  have c3b0 : (a0_1 == a1_1) = false := beq_eq_false_iff_ne.mpr c3
  have c3b1 : (a0_1 != a1_1) = true := bne_iff_ne.mpr c3
  obtain rfl := Option.some.inj H
  go_enter Try.func8, Try.ntmps8
  go_wp2_with (first | ((with_reducible refine gate_dst (N := 2) rfl ?_); refine xbe_ (N := 2) (cs := #[.slice A0_0 l0_0.length c0_0, .int .i64 a0_1]) (t := 25) ?_; intro gb103 hg w10 hbox hb; have BK103 := Aside0.mk (hbox); have GW103 := xge_ HB hg; have GE103 := xge_ HB hg; replace HB := xws_ HB hb; clear hb hbox hg) | ((with_reducible refine gate_dst (N := 3) rfl ?_); refine xbe_ (N := 3) (cs := #[.slice A1_0 l1_0.length c1_0, .int .i64 a1_1]) (t := 25) ?_; intro gb104 hg w11 hbox hb; have BK104 := Aside0.mk (hbox); have GW104 := xge_ HB hg; have GE104 := xge_ HB hg; replace HB := xws_ HB hb; have NB103_104 := xlt_ BK103 hg; have NB104_103 := xgt_ BK103 hg; replace BK103 := xbb_ BK103 hb; clear hb hbox hg; have hnb12 := NB103_104.out; have hnc12 := NB104_103.out; have hcz13_0 : w11.cell? ⟨gb103, 0, none⟩ = some (.slice A0_0 l0_0.length c0_0) := xk_ BK103 0; have hcz13_1 : w11.cell? ⟨gb103, 1, none⟩ = some (.int .i64 a0_1) := xk_ BK103 1; have hfz13_0 := blk_frozen BK103.out 0; have hfz13_1 := blk_frozen BK103.out 1; have hcz14_0 : w11.cell? ⟨gb104, 0, none⟩ = some (.slice A1_0 l1_0.length c1_0) := xk_ BK104 0; have hcz14_1 : w11.cell? ⟨gb104, 1, none⟩ = some (.int .i64 a1_1) := xk_ BK104 1; have hfz14_0 := blk_frozen BK104.out 0; have hfz14_1 := blk_frozen BK104.out 1))
  go_ret
  exact ⟨by first | rfl | (simp [errW_none, errW_some] <;> rfl) | (simp [*, errW_none, errW_some] <;> rfl), xw_ HB⟩

/-! ### impl_within: function 29 -/
def impl_within.f (a0 : Int) (a1 : Int) (a2 : Int) : Option (Bool) := if a1 ≤ a0 then (some (decide (a0 ≤ a2))) else (some false)
set_option maxHeartbeats 8000000 in
set_option maxRecDepth 100000 in
theorem impl_within.calls (a0 : Int) (a1 : Int) (a2 : Int) (r : Bool) (w : World) (h : impl_within.f a0 a1 a2 = some r) :
  Calls Try.prog 29 #[.int .i64 a0, .int .i64 a1, .int .i64 a2] w fun e w' => e = .returned (.bool r) ∧ Drawn0 w w' := by
 have H : (if a1 ≤ a0 then (some (decide (a0 ≤ a2))) else (some false)) = some r := h
 clear h
 by_cases c4 : a1 ≤ a0
 ·rw [if_pos c4] at H
  have c4b0 : decide (a1 ≤ a0) = true := decide_eq_true c4
  clear c4
  obtain rfl := Option.some.inj H
  go_enter Try.func29, Try.ntmps29
  go_wp2
  go_ret
  exact ⟨by first | rfl | (simp; done) | (simp [*]; done), by repeat (first | exact Drawn0.refl _ | apply Drawn0.step)⟩
 ·rw [if_neg c4] at H
  have c4b0 : decide (a1 ≤ a0) = false := decide_eq_false c4
  clear c4
  obtain rfl := Option.some.inj H
  go_enter Try.func29, Try.ntmps29
  go_wp2
  go_ret
  exact ⟨by first | rfl | (simp; done) | (simp [*]; done), by repeat (first | exact Drawn0.refl _ | apply Drawn0.step)⟩

/-! ### impl_isCount: function 35 -/
def impl_isCount.f (a0 : Int) : Option (Bool) := (impl_within.f a0 0 1000000).bind fun t106 => (some t106)
set_option maxHeartbeats 8000000 in
set_option maxRecDepth 100000 in
theorem impl_isCount.calls (a0 : Int) (r : Bool) (w : World) (h : impl_isCount.f a0 = some r) :
  Calls Try.prog 35 #[.int .i64 a0] w fun e w' => e = .returned (.bool r) ∧ Drawn0 w w' := by
 have H : ((impl_within.f a0 0 1000000).bind fun t106 => (some t106)) = some r := h
 clear h
 replace H := Option.bind_eq_some_iff.mp H
 obtain ⟨t106, A20, H⟩ := H
 replace H : (some t106) = some r := H
 have A2 := Aside0.mk A20
 clear A20
 obtain rfl := Option.some.inj H
 go_enter Try.func35, Try.ntmps35
 go_wp2_with (first | ((with_reducible refine gate_callee (f := 29) rfl ?_); refine xgl_ (some 4) Try.func29 #[.int .i64 a0, .int .i64 0, .int .i64 1000000] ?_; (with_reducible refine (impl_within.calls a0 0 1000000 t106 _ A2.out).mono ?_); rintro e w' ⟨rfl, ⟨nd, rfl⟩⟩; refine ⟨_, rfl, ?_⟩))
 go_ret
 exact ⟨by first | rfl | (simp; done) | (simp [*]; done), by repeat (first | exact Drawn0.refl _ | apply Drawn0.step)⟩

/-! ### impl_sumOf: function 38 -/
def impl_sumOf.l0 : Nat → Int → List Int → Int → Int → Option (Int)
 | 0, _, _, _, _ => none
 | k + 1, x3, x6, x7, x8 => if x8 < x7 then (if 0 ≤ x8 then (if x8 < (x6.length : Int) then (impl_sumOf.l0 k (wrap64 (x3 + (rd x6 x8))) x6 x7 (wrap64 (x8 + 1))) else (none)) else (none)) else (some x3)
def impl_sumOf.f (k : Nat) (l0 : List Int) : Option (Int) := impl_sumOf.l0 k 0 l0 (l0.length : Int) 0
theorem impl_sumOf.mono_l : ∀ k, (∀ y0 y1 y2 y3, LeO (impl_sumOf.l0 k y0 y1 y2 y3) (impl_sumOf.l0 (k + 1) y0 y1 y2 y3))
 | 0 => fun _ _ _ _ r h => by simp [impl_sumOf.l0] at h
 | k + 1 => by
  have ih0 := impl_sumOf.mono_l k
  ·intro y0 y1 y2 y3
   unfold impl_sumOf.l0
   repeat' first
   | (with_reducible exact ih0 _ _ _ _)
   | (with_reducible exact LeO.refl _)
   | (with_reducible exact LeO.none _)
   | (with_reducible refine LeO.ite ?_ ?_)
   | (with_reducible refine LeO.bind ?_ (fun _ => ?_))
   | exact ih0 _ _ _ _
   | exact LeO.none _
   | refine LeO.ite ?_ ?_
   | refine LeO.bind ?_ (fun _ => ?_)
theorem impl_sumOf.mono : ∀ a0 k, LeO (impl_sumOf.f k a0) (impl_sumOf.f (k + 1) a0) := by
 intro a0 k
 have ih0 := impl_sumOf.mono_l k
 unfold impl_sumOf.f
 repeat' first
   | (with_reducible exact ih0 _ _ _ _)
   | (with_reducible exact LeO.refl _)
   | (with_reducible exact LeO.none _)
   | (with_reducible refine LeO.ite ?_ ?_)
   | (with_reducible refine LeO.bind ?_ (fun _ => ?_))
   | exact ih0 _ _ _ _
   | exact LeO.none _
   | refine LeO.ite ?_ ?_
   | refine LeO.bind ?_ (fun _ => ?_)
set_option maxHeartbeats 8000000 in
set_option maxRecDepth 100000 in
theorem impl_sumOf.calls (k : Nat) (A0 : Option Addr) (c0 : Nat) (l0 : List Int) (r : Int) (w : World) (hr0 : Kd.C (Kd.int .i64) w A0 l0.length l0) (hc0 : l0.length ≤ c0) (h : impl_sumOf.f k l0 = some r) :
  Calls Try.prog 38 #[.slice A0 l0.length c0] w fun e w' => e = .returned (.int .i64 r) ∧ Drawn0 w w' := by
 have HR0 := Aside0.mk hr0
 have HC0 := Aside0.mk hc0
 clear hr0 hc0
 have H : (impl_sumOf.l0 k 0 l0 (l0.length : Int) 0) = some r := h
 clear h
 have H' := Aside0.mk H
 clear H
 go_enter Try.func38, Try.ntmps38
 go_wp2
 go_loopg [3, 8] k (fun kq v3 v8 w' => ∃ (x3_1 : Int) (x8_1 : Int), v3 = .int .i64 x3_1 ∧ v8 = .int .i64 x8_1 ∧ Aside0 (impl_sumOf.l0 kq x3_1 l0 (l0.length : Int) x8_1 = some r) ∧ Aside0 (kq ≤ k) ∧ Drawn0 w w')
 case atStart => exact ⟨(0), (0), (by first | rfl | (simp; done) | (simp [*]; done)), (by first | rfl | (simp; done) | (simp [*]; done)), H', ⟨Nat.le_refl _⟩, by repeat (first | exact Drawn0.refl _ | apply Drawn0.step)⟩
 case round =>
  clear H'
  obtain ⟨x3_1, x8_1, rfl, rfl, HA, HK1, ⟨m1, rfl⟩⟩ := hrel
  cases gk with
  | zero => exact absurd HA.out (by simp [impl_sumOf.l0])
  | succ k1 =>
   have H := HA.out
   clear HA
   simp only [impl_sumOf.l0] at H
   by_cases c2 : x8_1 < (l0.length : Int)
   ·rw [if_pos c2] at H
    have c2b0 : decide (x8_1 < (l0.length : Int)) = true := decide_eq_true c2
    clear c2
    by_cases c3 : 0 ≤ x8_1
    ·rw [if_pos c3] at H
     have c3b0 : decide (0 ≤ x8_1) = true := decide_eq_true c3
     clear c3
     by_cases c4 : x8_1 < (l0.length : Int)
     ·rw [if_pos c4] at H
      have c4b0 : decide (x8_1 < (l0.length : Int)) = true := decide_eq_true c4
      clear c4
      have H' := Aside0.mk H
      clear H
      have p107 : 0 ≤ (x8_1 : Int) := of_decide_eq_true (by first | (with_reducible assumption) | assumption)
      have q107 : x8_1 < (l0.length : Int) := of_decide_eq_true (by first | (with_reducible assumption) | assumption)
      obtain ⟨ad107, e107, hx107_0⟩ := Kd.at_int HR0.out x8_1 p107 q107
      cases e107
      replace p107 := eq_true p107
      replace q107 := eq_true q107
      go_wp2
      go_roundg k1
      case measure => have := HK1.out; omega
      case rel => exact ⟨(wrap64 (x3_1 + (rd l0 x8_1))), (wrap64 (x8_1 + 1)), (by first | rfl | (simp; done) | (simp [*]; done)), (by first | rfl | (simp; done) | (simp [*]; done)), H', ⟨by have := HK1.out; omega⟩, by repeat (first | exact Drawn0.refl _ | apply Drawn0.step)⟩
     ·rw [if_neg c4] at H
      exact absurd H (by simp)
    ·rw [if_neg c3] at H
     exact absurd H (by simp)
   ·rw [if_neg c2] at H
    have c2b0 : decide (x8_1 < (l0.length : Int)) = false := decide_eq_false c2
    clear c2
    obtain rfl := Option.some.inj H
    go_wp2
    go_ret
    exact ⟨by first | rfl | (simp; done) | (simp [*]; done), by repeat (first | exact Drawn0.refl _ | apply Drawn0.step)⟩

/-- the first place, counted from n, at which p holds; -1 if there is none -/
def idxO {α : Type} (p : α → Option Bool) : List α → Int → Option Int
  | [], _ => some (-1)
  | x :: xs, n => (p x).bind fun b => if b = true then some n else idxO p xs (n + 1)
theorem idxO_at {α : Type} (p : α → Option Bool) (l : List α) (n : Nat) (h : n < l.length) : idxO p (l.drop n) (n : Int) = (p l[n]).bind fun b => if b = true then some (n : Int) else idxO p (l.drop (n + 1)) ((n + 1 : Nat) : Int) := by
  rw [List.drop_eq_getElem_cons h]; rfl
theorem idxO_mono {α : Type} (p q : α → Option Bool) (h : ∀ x, LeO (p x) (q x)) (l : List α) : ∀ n, LeO (idxO p l n) (idxO q l n) := by
  induction l with
  | nil => intro n; exact LeO.refl _
  | cons x xs ih => intro n; unfold idxO; exact LeO.bind (h x) (fun b => LeO.ite (LeO.refl _) (ih _))
set_option maxHeartbeats 4000000 in
/-- slices.IndexFunc: the first place at which the predicate holds -/
theorem xIndexFunc_i64 (p : Int → Option Bool) (g : Nat) (lb : Array Value) (eg : ∀ args w, (callFunc g args).run Try.prog w = .ok (.enter g args) w) (A0 : Option Addr) (c0 : Nat) (l0 : List Int) (i : Int) (w : World)
    (hr0 : Kd.C (Kd.int .i64) w A0 l0.length l0) (hc0 : l0.length ≤ c0) (hbig : l0.length < 9223372036854775807)
    (hp : ∀ (W : World) (x : Int) (b : Bool), Below w.heap.size w W → p x = some b → Calls Try.prog g (#[.int .i64 x] ++ lb) W fun e w' => e = .returned (.bool b) ∧ Below w.heap.size w w')
    (h : idxO p l0 0 = some i) :
    Calls Try.prog 50 #[.slice A0 l0.length c0, .func (.func g) #[] lb] w fun e w' => e = .returned (.int .i64 i) ∧ Below w.heap.size w w' := by
  have HR0 := Aside0.mk hr0
  have HC0 := Aside0.mk hc0
  have HP := Aside0.mk hp
  have HI := Aside0.mk h
  clear hr0 hc0 hp h
  go_enter Try.func50, Try.ntmps50
  go_wp2
  go_loopg [5, 8] l0.length (fun gg _ s8 wr => ∃ kk : Nat, kk ≤ l0.length ∧ l0.length - kk ≤ gg ∧ s8 = .int .i64 kk ∧ Aside0 (Below w.heap.size w wr) ∧ Aside0 (idxO p (l0.drop kk) (kk : Int) = some i))
  case atStart => exact ⟨0, Nat.zero_le _, by omega, rfl, ⟨Below.refl _ w⟩, HI⟩
  case round =>
    obtain ⟨kk, hkk, hg, rfl, BW, A⟩ := hrel
    clear HI
    by_cases hlt : kk < l0.length
    · have hltz : (kk : Int) < (l0.length : Int) := by omega
      have H := A.out
      clear A
      rw [idxO_at p l0 kk hlt] at H
      obtain ⟨b, hb, H⟩ := Option.bind_eq_some_iff.mp H
      have hcall := HP.out wr l0[kk] b BW.out hb
      have hrd : rd l0 (kk : Int) = l0[kk] := by unfold rd; simp [List.getD_eq_getElem?_getD, hlt]
      obtain ⟨ad, he, hy0⟩ := Kd.at_int (Kd.C_below HR0.out BW.out) (kk : Int) (by omega) hltz
      cases he
      have hx0 : wr.cell? (ad.add kk) = some (.int .i64 (l0[kk])) := by rw [← hrd]; exact hy0
      clear hy0
      generalize l0[kk] = x at *
      cases b with
      | true =>
        obtain rfl : (kk : Int) = i := Option.some.inj H
        clear H hb
        go_wp2_with (go_at_fn g; refine hcall.mono ?_; rintro e w' ⟨rfl, hb'⟩)
        go_ret
        exact ⟨rfl, hb'⟩
      | false =>
        have H' := Aside0.mk H
        clear H hb
        go_wp2_with (go_at_fn g; refine hcall.mono ?_; rintro e w' ⟨rfl, hb'⟩)
        go_roundg (l0.length - (kk + 1))
        case measure => omega
        case rel => exact ⟨kk + 1, by omega, by omega, by go_num, ⟨hb'⟩, ⟨by have z := H'.out; rw [if_neg (by decide)] at z; exact z⟩⟩
    · have hltz : ¬ (kk : Int) < (l0.length : Int) := by omega
      have H := A.out
      rw [List.drop_of_length_le (by omega)] at H
      obtain rfl : (-1 : Int) = i := Option.some.inj H
      clear H A
      go_wp2
      go_ret
      exact ⟨rfl, BW.out⟩
set_option maxHeartbeats 4000000 in
theorem xContainsFunc_i64 (p : Int → Option Bool) (g : Nat) (lb : Array Value) (eg : ∀ args w, (callFunc g args).run Try.prog w = .ok (.enter g args) w) (A0 : Option Addr) (c0 : Nat) (l0 : List Int) (i : Int) (w : World)
    (hr0 : Kd.C (Kd.int .i64) w A0 l0.length l0) (hc0 : l0.length ≤ c0) (hbig : l0.length < 9223372036854775807)
    (hp : ∀ (W : World) (x : Int) (b : Bool), Below w.heap.size w W → p x = some b → Calls Try.prog g (#[.int .i64 x] ++ lb) W fun e w' => e = .returned (.bool b) ∧ Below w.heap.size w w')
    (h : idxO p l0 0 = some i) :
    Calls Try.prog 46 #[.slice A0 l0.length c0, .func (.func g) #[] lb] w fun e w' => e = .returned (.bool (decide (i ≥ 0))) ∧ Below w.heap.size w w' := by
  have hcall := xIndexFunc_i64 p g lb eg A0 c0 l0 i w hr0 hc0 hbig hp h
  clear hr0 hc0 hbig hp h
  go_enter Try.func46, Try.ntmps46
  go_wp2_with (go_at_call 50; refine hcall.mono ?_; rintro e w' ⟨rfl, hb'⟩)
  go_ret
  exact ⟨rfl, hb'⟩
/-! ### xAll_i64_impl_isCount: function 36, with function 35 -/
def xAll_i64_impl_isCount.z (x : Int) : Option Bool := (impl_isCount.f x).bind fun b => some (!b)
def xAll_i64_impl_isCount.f (l0 : List Int) : Option (Bool) := if l0.length < 9223372036854775807 then ((idxO (xAll_i64_impl_isCount.z) l0 0).bind fun i => some (!decide (i ≥ 0))) else none
set_option maxHeartbeats 8000000 in
set_option maxRecDepth 100000 in
theorem xAll_i64_impl_isCount.calls (A0 : Option Addr) (c0 : Nat) (l0 : List Int) (r : Bool) (w : World) (hr0 : Kd.C (Kd.int .i64) w A0 l0.length l0) (hc0 : l0.length ≤ c0) (h : xAll_i64_impl_isCount.f l0 = some r) :
    Calls Try.prog 36 #[.slice A0 l0.length c0, .func (.func 35) #[] #[]] w fun e w' => e = .returned (.bool r) ∧ Below w.heap.size w w' := by
  have hbig : l0.length < 9223372036854775807 := by
    by_cases c : l0.length < 9223372036854775807
    · exact c
    · unfold xAll_i64_impl_isCount.f at h; rw [if_neg c] at h; cases h
  have h1 : ((idxO (xAll_i64_impl_isCount.z) l0 0).bind fun i => some (!decide (i ≥ 0))) = some r := by unfold xAll_i64_impl_isCount.f at h; rw [if_pos hbig] at h; exact h
  clear h
  obtain ⟨i, hi1, hi2⟩ := Option.bind_eq_some_iff.mp h1
  clear h1
  obtain rfl := Option.some.inj hi2
  clear hi2
  have eg : ∀ args w, (callFunc 47 args).run Try.prog w = .ok (.enter 47 args) w := enters_of Try.func47 (by kernel_rfl) rfl
  have hb1 : Below w.heap.size w (w.alloc (.cells #[.func (.func 35) #[] #[]] 59)) := (Below.refl _ w).alloc (Nat.le_refl _) _
  have hcall := xContainsFunc_i64 (xAll_i64_impl_isCount.z) 47 #[.pointer (some ⟨w.heap.size, 0, none⟩)] eg A0 c0 l0 i (w.alloc (.cells #[.func (.func 35) #[] #[]] 59)) (Kd.C_below hr0 hb1) hc0 hbig
    (by
      intro W x b hb hz
      have hcell : W.cell? ⟨w.heap.size, 0, none⟩ = some (.func (.func 35) #[] #[]) := (hb.cell (p := ⟨w.heap.size, 0, none⟩) (by simp)).trans (by simp)
      obtain ⟨b2, hq, hb2⟩ := Option.bind_eq_some_iff.mp hz
      obtain rfl : (!b2) = b := Option.some.inj hb2
      have hq' := Aside0.mk hq
      have hb' := Aside0.mk hb
      clear hb hz hb2 hq
      show Calls Try.prog 47 #[.int .i64 x, .pointer (some ⟨w.heap.size, 0, none⟩)] W _
      go_enter Try.func47, Try.ntmps47
      go_wp2_with (go_at_call 35; refine (impl_isCount.calls x b2 _ hq'.out).mono ?_; rintro e w' ⟨rfl, ⟨nd, rfl⟩⟩)
      go_ret
      exact ⟨rfl, by repeat (first | (with_reducible first | exact hb'.out | apply below_alloc | apply pw_below_drewN | apply below_drew1) | exact hb'.out)⟩)
    hi1
  have hb1' := Aside0.mk hb1
  clear hr0 hc0 hbig hi1 hb1 eg
  go_enter Try.func36, Try.ntmps36
  go_wp2_with (go_at_call 46; refine hcall.mono ?_; rintro e w' ⟨rfl, hb'⟩)
  go_ret
  exact ⟨rfl, below_then hb1'.out (by simp) hb'⟩
section
attribute [local go_sem] Oper.semAt_some
open Go.Shelf
/-- the four pieces of 32 that slices.Chunk hands out of a row of 128 -/
def xpiece (ad : Addr) (x : Fin 4) : Array Value := #[.slice (some (ad.add (32 * x.val))) 32 32]
def xfour : List (Fin 4) := [0, 1, 2, 3]
theorem xfour_take (k : Nat) (h : k < 4) : xfour.take k ++ [⟨k, h⟩] = xfour.take (k + 1) := by
  rcases (show k = 0 ∨ k = 1 ∨ k = 2 ∨ k = 3 by omega) with rfl | rfl | rfl | rfl <;> rfl
set_option maxRecDepth 100000 in
set_option maxHeartbeats 8000000 in
theorem xChunk1_in (F : Fence) (n : Nat) (h7 : F.fn 48) (hro : F.round = none) (hn : 1 ≤ n) (l Bs Bn n₀ cap : Nat) (hcap : 128 ≤ cap) (ad : Addr) (hb1 : Bs < n₀) (hb2 : Bn < n₀) (J Jx : List (Fin 4) → World → Prop) (hJd : ∀ pre W, J pre W → J pre W.drew)
    (hY : ∀ pre x W, J pre W → pre.length < 4 → YieldAt F (n - 1) Try.prog l (xpiece ad x) W fun e W' =>
      (e = .returned (.bool true) ∧ J (pre ++ [x]) W' ∧ Below n₀ W W') ∨ (e = .returned (.bool false) ∧ Jx (pre ++ [x]) W'))
    (W : World) (hBs : W.cell? ⟨Bs, 0, none⟩ = some (.slice (some ad) 128 cap)) (hBn : W.cell? ⟨Bn, 0, none⟩ = some (.int .i64 32)) (h0 : J [] W) :
    CallsIn F n Try.prog 48 #[.func (.yield l) #[] #[], .pointer (some ⟨Bs, 0, none⟩), .pointer (some ⟨Bn, 0, none⟩)] W fun e W' => (∃ v, e = .returned v) ∧
      ((∃ ys, ys = xfour ∧ J ys W') ∨ (∃ pre, pre <+: xfour ∧ Jx pre W')) := by
  refine callsIn_of_wp Try.func48 rfl h7 ?_ hro
  simp only [Try.ntmps48, List.size_toArray, List.length_cons, List.length_nil, Nat.reduceAdd, Nat.reduceSub, Array.replicate_succ, Array.replicate_zero, List.push_toArray, List.append_toArray, List.nil_append, List.cons_append]
  gi_wp2
  gi_loopw [4] (fun i wr => ∃ k : Nat, k ≤ 4 ∧ i = .int .i64 ((32 * k : Nat) : Int) ∧ J (xfour.take k) wr ∧ Below n₀ W wr)
    (fun i _ => 128 - (RowKit.intOf i).toNat)
  case atStart => exact ⟨0, by omega, rfl, h0, Below.refl _ _⟩
  case round =>
    obtain ⟨k, hk, rfl, hJs, hnx⟩ := hrel
    have hs := (hnx.cell (p := ⟨Bs, 0, none⟩) hb1).trans hBs
    have hn2 := (hnx.cell (p := ⟨Bn, 0, none⟩) hb2).trans hBn
    by_cases h4 : k = 4
    · subst h4
      gi_wp2
      go_end0
      exact ⟨⟨_, rfl⟩, .inl ⟨_, rfl, hJs⟩⟩
    · have hk4 : k < 4 := by omega
      obtain ⟨fn, tmps, assign, body, hy, hR⟩ := hY _ ⟨k, hk4⟩ wr.drew (hJd _ _ hJs) (by rw [List.length_take]; exact Nat.lt_of_le_of_lt (Nat.min_le_left _ _) hk4)
      unfold xpiece at hy
      have c1 : ((32 * k : Nat) : Int) < 128 := by omega
      have c2 : ¬ ((128 - 32 * k : Nat) : Int) < 32 := by omega
      have hd1 : wr.drew.cell? ⟨Bs, 0, none⟩ = some (.slice (some ad) 128 cap) := hs
      have hd2 : wr.drew.cell? ⟨Bn, 0, none⟩ = some (.int .i64 32) := hn2
      have hw1 : wrap64 (32 * (k : Int) + 32) = 32 * (k : Int) + 32 := by unfold wrap64; omega
      gi_wp2
      gi_region
      all_goals (try simp only [if_neg c2])
      all_goals gi_wp2
      all_goals refine hR.mono ?_
      all_goals rintro e W3 (⟨rfl, hJ3, hk3⟩ | ⟨rfl, hJx3⟩)
      all_goals first
        | (have hs3 := (hk3.cell (p := ⟨Bs, 0, none⟩) hb1).trans hd1
           have hn3 := (hk3.cell (p := ⟨Bn, 0, none⟩) hb2).trans hd2
           gi_wp2
           go_roundw
           case rel => exact ⟨k + 1, by omega, by rw [show (32 * (k : Int) + 32) = ((32 * (k + 1) : Nat) : Int) by omega], by rw [← xfour_take k hk4]; exact hJ3, hnx.trans (((Below.refl n₀ wr).drew).trans hk3)⟩
           case measure => simp [RowKit.intOf]; omega)
        | (gi_wp2
           refine bodyPost_ret (results_none rfl _ _ _) rfl ?_
           exact ⟨⟨_, rfl⟩, .inr ⟨_, by rw [xfour_take k hk4]; exact List.take_prefix _ _, hJx3⟩⟩)
set_option maxHeartbeats 1000000 in
theorem xChunk_in (F : Fence) (n : Nat) (h5 : F.fn 37) (hro : F.round = none) (a : Option Addr) (len cap : Nat) (w : World) :
    CallsIn F n Try.prog 37 #[.slice a len cap, .int .i64 32] w fun e w' => e = .returned (.func (.func 48) #[] #[.pointer (some ⟨w.heap.size, 0, none⟩), .pointer (some ⟨w.heap.size + 1, 0, none⟩)]) ∧ w' = (w.alloc (.cells #[.slice a len cap] 23)).alloc (.cells #[.int .i64 32] 3) := by
  refine callsIn_of_wp Try.func37 rfl h5 ?_ hro
  simp only [Try.ntmps37, List.size_toArray, List.length_cons, List.length_nil, Nat.reduceAdd, Nat.reduceSub, Array.replicate_succ, Array.replicate_zero, List.push_toArray, List.append_toArray, List.nil_append, List.cons_append]
  gi_wp2
  go_ret
  exact ⟨rfl, rfl⟩
theorem xChunk_stops (F : Fence) (n : Nat) (h7 : F.fn 48) (hro : F.round = none) (hn : 1 ≤ n) (Bs Bn n₀ cap : Nat) (hcap : 128 ≤ cap) (ad : Addr) (w : World) (hb1 : Bs < n₀) (hb2 : Bn < n₀) (hn₀ : n₀ ≤ w.heap.size)
    (hs : w.cell? ⟨Bs, 0, none⟩ = some (.slice (some ad) 128 cap)) (hc : w.cell? ⟨Bn, 0, none⟩ = some (.int .i64 32)) :
    SeqStopsK F n Try.prog 48 #[.pointer (some ⟨Bs, 0, none⟩), .pointer (some ⟨Bn, 0, none⟩)] (xpiece ad) (Below n₀) (fun ys => ys = xfour) (fun pre => pre <+: xfour) 4 w := fun l J Jx W hW hJ _ hY h0 =>
  xChunk1_in F n h7 hro hn l Bs Bn n₀ cap hcap ad hb1 hb2 J Jx (fun pre W1 h => hJ pre W1 W1.drew none h ⟨rfl, rfl, rfl, Nat.le_refl _, fun _ _ _ => rfl⟩ (fun _ e => by cases e)) hY W ((hW.cell (p := ⟨Bs, 0, none⟩) (Nat.lt_of_lt_of_le hb1 hn₀)).trans hs) ((hW.cell (p := ⟨Bn, 0, none⟩) (Nat.lt_of_lt_of_le hb2 hn₀)).trans hc) h0
end
/-! ### impl_GoodSketch: function 9 -/
/-! GoodSketch -/
def xsumL (l : List Int) : Int := l.foldl (fun s v => wrap64 (s + v)) 0
theorem xsum_loop (l : List Int) (hb : l.length < 1000) : ∀ (d k n : Nat) (s : Int), n + d = l.length → d < k → impl_sumOf.l0 k s l (l.length : Int) (n : Int) = some ((l.drop n).foldl (fun s v => wrap64 (s + v)) s) := by
  intro d
  induction d with
  | zero =>
    intro k n s hn hk
    obtain ⟨k, rfl⟩ : ∃ m, k = m + 1 := ⟨k - 1, by omega⟩
    simp only [impl_sumOf.l0]
    rw [if_neg (by omega), List.drop_of_length_le (by omega)]; rfl
  | succ d ih =>
    intro k n s hn hk
    obtain ⟨k, rfl⟩ : ∃ m, k = m + 1 := ⟨k - 1, by omega⟩
    have h1 : n < l.length := by omega
    have hr : rd l (n : Int) = l[n] := by unfold rd; simp [List.getD_eq_getElem?_getD, h1]
    simp only [impl_sumOf.l0]
    rw [if_pos (by omega), if_pos (by omega), if_pos (by omega), hr, show wrap64 ((n : Int) + 1) = ((n + 1 : Nat) : Int) by unfold wrap64; omega, ih k (n + 1) _ (by omega) (by omega), List.drop_eq_getElem_cons h1, List.foldl_cons]
theorem xsum_f (l : List Int) (hb : l.length < 1000) : impl_sumOf.f 1001 l = some (xsumL l) := by
  unfold impl_sumOf.f
  exact xsum_loop l hb l.length 1001 0 0 (by omega) (by omega)
def xpart (l : List Int) (x : Nat) : List Int := (l.drop (32 * x)).take 32
def xgoodsums (l : List Int) (t : Int) (p : List Nat) : Bool := p.all fun x => xsumL (xpart l x) == t
def impl_GoodSketch.f (l0 : List Int) (a1 : Int) : Option Bool :=
  if l0.length = 128 then ((impl_isCount.f a1).bind fun b => if b = true then ((xAll_i64_impl_isCount.f l0).bind fun b2 => if b2 = true then some (xgoodsums l0 a1 (List.range 4)) else some false) else some false) else some false
theorem xpart_row (w : World) (ad : Addr) (l : List Int) (x : Nat) (hx : x < 4) (hl : l.length = 128) (h : Kd.C (Kd.int .i64) w (some ad) l.length l) : Kd.C (Kd.int .i64) w (some (ad.add (32 * x))) (xpart l x).length (xpart l x) := by
  have hpl : (xpart l x).length = 32 := by unfold xpart; rw [List.length_take, List.length_drop]; omega
  refine ⟨rfl, by omega, fun _ => ?_⟩
  obtain ⟨ad', e, hc⟩ := h.2.2 (by omega)
  injection e with e
  subst e
  refine ⟨ad.add (32 * x), rfl, fun j p hj => ?_⟩
  have hj2 : l[32 * x + j]? = some p := by
    unfold xpart at hj
    rw [List.getElem?_take] at hj
    split at hj
    · rw [List.getElem?_drop] at hj; exact hj
    · cases hj
  obtain ⟨c, h1, h2, h3⟩ := hc _ _ hj2
  refine ⟨c, h1, h2, fun i u hu => ?_⟩
  have h4 := h3 i u hu
  rw [add_add]
  have hs : (Kd.int .i64).sz = 1 := rfl
  rw [hs] at h4 ⊢
  rw [show 32 * x + (j * 1 + i) = (32 * x + j) * 1 + i by omega]
  exact h4
theorem xcells_own {β : Type} (B : Nat) (o : β → Obj) (hc : ∀ s, (o s).isCells = true) : Own (fun s W => W.heap[B]? = some (o s)) := fun s _ _ _ hs hg hrow => (grownBy_keeps_cells hg hrow hs (hc s)).trans hs
section
attribute [local go_sem] Oper.semAt_some
open Go.Shelf
set_option maxRecDepth 100000 in
set_option maxHeartbeats 8000000 in
theorem xGoodSketch_sums (ad : Addr) (c0 : Nat) (l : List Int) (t : Int) (w : World) (hl : l.length = 128) (HR : Aside0 (Kd.C (Kd.int .i64) w (some ad) l.length l)) (HC : Aside0 (128 ≤ c0)) (HB1 : Aside0 (impl_isCount.f t = some true)) (HB2 : Aside0 (xAll_i64_impl_isCount.f l = some true)) :
    Calls Try.prog 9 #[.agg #[.slice (some ad) 128 c0, .int .i64 t]] w fun e w' => e = .returned (.bool (xgoodsums l t [0, 1, 2, 3])) ∧ Below w.heap.size w w' := by
  have hall : ∀ (b : Bool) (W : World), Kd.C (Kd.int .i64) W (some ad) 128 l → xAll_i64_impl_isCount.f l = some b → Calls Try.prog 36 #[.slice (some ad) 128 c0, .func (.func 35) #[] #[]] W fun e w' => e = .returned (.bool b) ∧ Below W.heap.size W w' := fun b W hr hb => by
    have hr2 : Kd.C (Kd.int .i64) W (some ad) l.length l := by rw [hl]; exact hr
    have hx := xAll_i64_impl_isCount.calls (some ad) c0 l b W hr2 (by rw [hl]; exact HC.out) hb
    rw [hl] at hx
    exact hx
  have HALL := Aside0.mk hall
  have HR1 : Aside0 (Kd.C (Kd.int .i64) w (some ad) 128 l) := ⟨by rw [← hl]; exact HR.out⟩
  have hbx : Boxed ((w.alloc (.cells #[.slice (some ad) 128 c0, .int .i64 t] 25)).alloc (.cells #[.bool false] 4)) (w.heap.size + 1) 4 (.bool false) := by
    have h0 := Boxed.new (w.alloc (.cells #[.slice (some ad) 128 c0, .int .i64 t] 25)) 4 (.bool false)
    rw [World.size_alloc] at h0
    exact h0
  have HBR := Aside0.mk hbx
  have HSK : Aside0 (((w.alloc (.cells #[.slice (some ad) 128 c0, .int .i64 t] 25)).alloc (.cells #[.bool false] 4)).heap[w.heap.size]? = some (.cells #[.slice (some ad) 128 c0, .int .i64 t] 25)) := ⟨(heap_alloc_old _ _ (by simp)).trans (heap_alloc_new _ _)⟩
  have HW0 := Aside0.mk (((Below.refl _ w).alloc (Nat.le_refl _) (.cells #[.slice (some ad) 128 c0, .int .i64 t] 25)).alloc (by simp) (.cells #[.bool false] 4))
  clear hall hbx
  refine (callsIn_wide (n := 10)).1 ?_
  have h1 : 1 ≤ 10 := by omega
  refine callsIn_of_wp_marks Try.func9 rfl trivial ?_ rfl
  simp only [Try.ntmps9, List.size_toArray, List.length_cons, List.length_nil, Nat.reduceAdd, Nat.reduceSub, Array.replicate_succ, Array.replicate_zero, List.push_toArray, List.append_toArray, List.nil_append, List.cons_append]
  gi_wp2_with (first
    | (refine ⟨trivial, ?_⟩; gi_at_call 35; refine (callsIn_wide.2 (impl_isCount.calls t true _ HB1.out)).mono ?_; rintro e w' ⟨rfl, ⟨nd, rfl⟩⟩)
    | (refine ⟨trivial, ?_⟩; gi_at_call 36; go_loud (refine (callsIn_wide.2 (HALL.out true _ (Kd.C_drewN (Kd.C_alloc (Kd.C_alloc HR1.out _) _) nd) HB2.out)).mono ?_; rintro e w3 ⟨rfl, hb3⟩; have HB3 := Aside0.mk hb3; have hbx3 : Boxed w3 (w.heap.size + 1) 4 (.bool false) := (hb3.block (w.heap.size + 1) (by simp)).trans HBR.out; have hsk3 : w3.heap[w.heap.size]? = some (.cells #[.slice (some ad) 128 c0, .int .i64 t] 25) := (hb3.block w.heap.size (by simp; omega)).trans HSK.out; have hc0 : w3.cell? ⟨w.heap.size, 0, none⟩ = some (.slice (some ad) 128 c0) := (by unfold World.cell?; rw [hsk3]; rfl); have hc3 := hbx3.cell; have hf3 := hbx3.frozen; have HX3 := Aside0.mk hbx3; have HS3 := Aside0.mk hsk3; clear hb3 hbx3 hsk3))
    | (refine ⟨trivial, ?_⟩; gi_at_call 37; refine (xChunk_in Fence.wide _ trivial rfl _ _ _ _).mono ?_; rintro e w4 ⟨rfl, rfl⟩))
  have bS := Boxed.new w3 23 (.slice (some ad) 128 c0)
  have bN := Boxed.new (w3.alloc (.cells #[.slice (some ad) 128 c0] 23)) 3 (.int .i64 32)
  rw [World.size_alloc] at bN
  have hsz3 : w.heap.size + 2 ≤ w3.heap.size := by have := HB3.out.size; simp at this; omega
  have hB0 : Below w.heap.size w ((w3.alloc (.cells #[.slice (some ad) 128 c0] 23)).alloc (.cells #[.int .i64 32] 3)) := ((((pw_below_drewN HW0.out nd).trans (HB3.out.mono (by simp; omega))).alloc (by omega) _).alloc (by simp; omega) _)
  refine wpIn_rangeFunc_ownG rfl h1 (gf := 48) (lb := #[.pointer (some ⟨w3.heap.size, 0, none⟩), .pointer (some ⟨w3.heap.size + 1, 0, none⟩)]) rfl trivial (enters_of Try.func48 (by kernel_rfl) rfl)
    (xChunk_stops Fence.wide 9 trivial rfl (by omega) w3.heap.size (w3.heap.size + 1) (w3.heap.size + 2) c0 HC.out ad _ (by omega) (by omega) (by simp) (bS.alloc _).cell bN.cell) belowK_t (belowK_b (by simp)) (Below.refl _ _) (fun _ => rfl)
    (fun pre W => ((Boxed W (w.heap.size + 1) 4 (.bool false) ∧ W.heap[w.heap.size]? = some (.cells #[.slice (some ad) 128 c0, .int .i64 t] 25)) ∧ xgoodsums l t (pre.map Fin.val) = true) ∧ Below w.heap.size w W)
    (fun c pre W => (Boxed W (w.heap.size + 1) 4 (.bool false) ∧ (c = .ret ∧ xgoodsums l t (pre.map Fin.val) = false)) ∧ Below w.heap.size w W)
    (OwnFrom.and (OwnFrom.and (OwnFrom.and (Own.from (boxed_own _ _ _) _) (Own.from (xcells_own _ _ (fun _ => rfl)) _)) (ownFrom_pure _ _)) (ownFrom_below (Nat.le_refl _) (by simp; omega)))
    (fun c => OwnFrom.and (OwnFrom.and (Own.from (boxed_own _ _ _) _) (ownFrom_pure _ _)) (ownFrom_below (Nat.le_refl _) (by simp; omega)))
    ⟨⟨⟨(HX3.out.alloc _).alloc _, (heap_alloc_old _ _ (by simp; omega)).trans ((heap_alloc_old _ _ (by omega)).trans HS3.out)⟩, rfl⟩, hB0⟩
    (fun x => { tmps := #[.agg #[.slice (some ad) 128 c0, .int .i64 t], .pointer (some ⟨w.heap.size, 0, none⟩), .pointer (some ⟨w.heap.size + 1, 0, none⟩), .slice (some (ad.add (32 * x.val))) 32 32, .pointer (some ⟨w.heap.size, 0, none⟩), .slice (some ad) 128 c0, .int .i64 128, .bool false, .bool false, .pointer (some ⟨w.heap.size, 1, none⟩), .int .i64 t, .bool true, .bool false, .bool false, .bool false, .pointer (some ⟨w.heap.size, 0, none⟩), .slice (some ad) 128 c0, .bool true, .bool false, .bool false, .pointer (some ⟨w.heap.size, 0, none⟩), .slice (some ad) 128 c0, .func (.func 48) #[] #[.pointer (some ⟨w3.heap.size, 0, none⟩), .pointer (some ⟨w3.heap.size + 1, 0, none⟩)], .slice (some (ad.add (32 * x.val))) 32 32, undef, undef, undef, undef, undef], defers := [] }) ?assign ?body ?done ?stop
  case assign =>
    intro l x W K hK
    unfold xpiece
    gi_wp2
    exact hK
  case body =>
    rintro l' pre x W ⟨⟨⟨hbx, hsk⟩, hg⟩, hB⟩ hlt
    have hpl : (xpart l x.val).length = 32 := by unfold xpart; rw [List.length_take, List.length_drop]; omega
    have hS : Calls Try.prog 38 #[.slice (some (ad.add (32 * x.val))) 32 32] W.drew fun e w' => e = .returned (.int .i64 (xsumL (xpart l x.val))) ∧ Drawn0 W.drew w' := by
      have hx := impl_sumOf.calls 1001 (some (ad.add (32 * x.val))) 32 (xpart l x.val) _ W.drew (xpart_row W.drew ad l x.val x.isLt hl (Kd.C_below HR.out hB.drew)) (by omega) (xsum_f _ (by omega))
      rw [hpl] at hx
      exact hx
    have ct : W.cell? ⟨w.heap.size, 1, none⟩ = some (.int .i64 t) := by unfold World.cell?; rw [hsk]; rfl
    have hc1 := hbx.cell
    have hf1 := hbx.frozen
    by_cases he : xsumL (xpart l x.val) = t
    · have hgs : xgoodsums l t ((pre ++ [x]).map Fin.val) = true := by
        unfold xgoodsums at hg ⊢
        rw [List.map_append, List.all_append, hg, List.map_cons, List.map_nil, List.all_cons, List.all_nil, he]
        simp
      gi_wp2_with (refine ⟨trivial, ?_⟩; gi_at_call 38; go_loud (refine (CallsIn.inRound l' (callsIn_wide.2 hS)).mono ?_; rintro e w' ⟨rfl, ⟨nd, rfl⟩⟩))
      gi_region_with (refine ⟨trivial, ?_⟩; gi_at_call 38; refine (CallsIn.inRound l' (callsIn_wide.2 hS)).mono ?_; rintro e w' ⟨rfl, ⟨nd, rfl⟩⟩)
      all_goals gi_wp2
      all_goals exact ⟨⟨Nat.le_refl _, fun k o _ h _ => h⟩, pw_below_drewN (Below.refl _ W) _, ⟨⟨hbx, hsk⟩, hgs⟩, pw_below_drewN hB _⟩
    · have hgs : xgoodsums l t ((pre ++ [x]).map Fin.val) = false := by
        unfold xgoodsums
        rw [List.map_append, List.all_append, List.map_cons, List.map_nil, List.all_cons, beq_eq_false_iff_ne.2 he, Bool.false_and, Bool.and_false]
      gi_wp2_with (refine ⟨trivial, ?_⟩; gi_at_call 38; refine (CallsIn.inRound l' (callsIn_wide.2 hS)).mono ?_; rintro e w' ⟨rfl, ⟨nd, rfl⟩⟩)
      gi_region_with (refine ⟨trivial, ?_⟩; gi_at_call 38; refine (CallsIn.inRound l' (callsIn_wide.2 hS)).mono ?_; rintro e w' ⟨rfl, ⟨nd, rfl⟩⟩)
      all_goals gi_wp2
      all_goals exact ⟨KeepsFrom.trans (Y := W.drewN _) ⟨Nat.le_refl _, fun k o _ h _ => h⟩ ((KeepsOthers.setCell _ _ _).from _), ⟨(show Boxed (W.drewN (1 + nd)) (w.heap.size + 1) 4 (.bool false) from hbx).set (.bool false), rfl, hgs⟩, (pw_below_drewN hB _).setCell (p := ⟨w.heap.size + 1, 0, none⟩) (Nat.le_succ _) _⟩
  case done =>
    rintro D ys W hD rfl ⟨⟨⟨hbx, hsk⟩, hg⟩, hB⟩ hK
    have cR := hbx.cell
    have fR := hbx.frozen
    have hgs : xgoodsums l t [0, 1, 2, 3] = true := hg
    gi_wp2
    have hK' := (KeepsOthers.setCell W ⟨w.heap.size + 1, 0, none⟩ (.bool true)).same D _ hK rfl
    refine ⟨by simp, .inl ⟨_, _, rfl, run_takeDeferred hK', ?_⟩⟩
    have hc5 := cell_kept (hbx.set (.bool true)).cell (grownBy_putObj' _ D (.deferred none)) (fun r e => by cases e; exact ⟨_, hK', rfl⟩)
    refine ⟨.bool true, ?_, by rw [hgs], (hB.setCell (p := ⟨w.heap.size + 1, 0, none⟩) (Nat.le_succ _) _).trans (belowK_b (w := w) (Nat.le_refl _) _ D _ _ (by simp at hD; omega) hK' rfl rfl)⟩
    simp [results, Try.f9, go_sem, hc5]
  case stop =>
    rintro D c pre W hD ⟨s, hs⟩ ⟨⟨hbx, rfl, hg⟩, hB⟩ hK
    have hgs : xgoodsums l t [0, 1, 2, 3] = false := by
      have e : [0, 1, 2, 3] = pre.map Fin.val ++ s.map Fin.val := by rw [← List.map_append, hs]; rfl
      rw [e]
      unfold xgoodsums at hg ⊢
      rw [List.all_append, hg, Bool.false_and]
    gi_wp2
    refine ⟨by simp, .inl ⟨_, _, rfl, run_takeDeferred hK, ?_⟩⟩
    have hc5 := cell_kept hbx.cell (grownBy_putObj' _ D (.deferred none)) (fun r e => by cases e; exact ⟨_, hK, rfl⟩)
    refine ⟨.bool false, ?_, by rw [hgs], hB.trans (belowK_b (w := w) (Nat.le_refl _) W D _ _ (by simp at hD; omega) hK rfl rfl)⟩
    simp [results, Try.f9, go_sem, hc5]
end
set_option maxRecDepth 100000 in
set_option maxHeartbeats 8000000 in
theorem impl_GoodSketch.calls (A0_0 : Option Addr) (c0_0 : Nat) (l0_0 : List Int) (a0_1 : Int) (r : Bool) (w : World) (hr0_0 : Kd.C (Kd.int .i64) w A0_0 l0_0.length l0_0) (hc0_0 : l0_0.length ≤ c0_0) (h : impl_GoodSketch.f l0_0 a0_1 = some r) :
    Calls Try.prog 9 #[.agg #[.slice A0_0 l0_0.length c0_0, .int .i64 a0_1]] w fun e w' => e = .returned (.bool r) ∧ Below w.heap.size w w' := by
  have hu24 := Try.underlying25
  have HR0 := Aside0.mk hr0_0
  have HC0 := Aside0.mk hc0_0
  clear hr0_0 hc0_0
  unfold impl_GoodSketch.f at h
  have hbx : Boxed ((w.alloc (.cells #[.slice A0_0 l0_0.length c0_0, .int .i64 a0_1] 25)).alloc (.cells #[.bool false] 4)) (w.heap.size + 1) 4 (.bool false) := by
    have h0 := Boxed.new (w.alloc (.cells #[.slice A0_0 l0_0.length c0_0, .int .i64 a0_1] 25)) 4 (.bool false)
    rw [World.size_alloc] at h0
    exact h0
  have HBR := Aside0.mk hbx
  have HW0 := Aside0.mk (((Below.refl _ w).alloc (Nat.le_refl _) (.cells #[.slice A0_0 l0_0.length c0_0, .int .i64 a0_1] 25)).alloc (by simp) (.cells #[.bool false] 4))
  clear hbx
  by_cases h128 : l0_0.length = 128
  · rw [if_pos h128] at h
    obtain ⟨b1, hb1, h⟩ := Option.bind_eq_some_iff.mp h
    have hall : ∀ (b : Bool) (W : World), Kd.C (Kd.int .i64) W A0_0 128 l0_0 → xAll_i64_impl_isCount.f l0_0 = some b → Calls Try.prog 36 #[.slice A0_0 128 c0_0, .func (.func 35) #[] #[]] W fun e w' => e = .returned (.bool b) ∧ Below W.heap.size W w' := fun b W hr hb => by
      have hr2 : Kd.C (Kd.int .i64) W A0_0 l0_0.length l0_0 := by rw [h128]; exact hr
      have hx := xAll_i64_impl_isCount.calls A0_0 c0_0 l0_0 b W hr2 HC0.out hb
      rw [h128] at hx
      exact hx
    have HALL := Aside0.mk hall
    have H128 := Aside0.mk h128
    have HR1 : Aside0 (Kd.C (Kd.int .i64) w A0_0 128 l0_0) := ⟨by rw [← h128]; exact HR0.out⟩
    have HC1 : Aside0 (128 ≤ c0_0) := ⟨by rw [← h128]; exact HC0.out⟩
    have HR2 := HR0
    rw [h128] at HBR HW0 ⊢
    clear hall h128 HR0 HC0
    cases b1 with
    | false =>
      rw [if_neg (by decide)] at h
      obtain rfl := Option.some.inj h
      have HB1 := Aside0.mk hb1
      clear h hb1
      go_enter Try.func9, Try.ntmps9
      go_wp2_with (go_at_call 35; refine (impl_isCount.calls a0_1 false _ HB1.out).mono ?_; rintro e w' ⟨rfl, ⟨nd, rfl⟩⟩)
      have hc0 : (((w.alloc (.cells #[.slice A0_0 128 c0_0, .int .i64 a0_1] 25)).alloc (.cells #[.bool false] 4)).drewN nd).cell? ⟨w.heap.size + 1, 0, none⟩ = some (.bool false) := HBR.out.cell
      have hc := World.cell?_setCell_same' _ ⟨w.heap.size + 1, 0, none⟩ (.bool false) (by rw [hc0]; rfl)
      refine bodyPost_ret (v := .bool false) (by simp [results, Try.f9, go_sem, hc]) rfl ⟨rfl, (pw_below_drewN HW0.out nd).setCell (p := ⟨w.heap.size + 1, 0, none⟩) (Nat.le_succ _) _⟩
    | true =>
      rw [if_pos rfl] at h
      obtain ⟨b2, hb2, h⟩ := Option.bind_eq_some_iff.mp h
      have HB1 := Aside0.mk hb1
      have HB2 := Aside0.mk hb2
      clear hb1 hb2
      cases b2 with
      | false =>
        rw [if_neg (by decide)] at h
        obtain rfl := Option.some.inj h
        clear h
        go_enter Try.func9, Try.ntmps9
        go_wp2_with (first
          | (go_at_call 35; refine (impl_isCount.calls a0_1 true _ HB1.out).mono ?_; rintro e w' ⟨rfl, ⟨nd, rfl⟩⟩)
          | (go_at_call 36; go_loud (refine (HALL.out false _ (Kd.C_drewN (Kd.C_alloc (Kd.C_alloc HR1.out _) _) nd) HB2.out).mono ?_; rintro e w3 ⟨rfl, hb3⟩; have HB3 := Aside0.mk hb3; have hbx3 : Boxed w3 (w.heap.size + 1) 4 (.bool false) := (hb3.block (w.heap.size + 1) (by simp)).trans HBR.out; have hc3 := hbx3.cell; have hf3 := hbx3.frozen; have HX3 := Aside0.mk hbx3; clear hb3 hbx3)))
        have hc := (HX3.out.set (.bool false)).cell
        refine bodyPost_ret (v := .bool false) (by simp [results, Try.f9, go_sem, hc]) rfl ⟨rfl, ((pw_below_drewN HW0.out nd).trans (HB3.out.mono (by simp; omega))).setCell (p := ⟨w.heap.size + 1, 0, none⟩) (Nat.le_succ _) _⟩
      | true =>
        rw [if_pos rfl] at h
        obtain rfl := Option.some.inj h
        obtain ⟨ad, he, _⟩ := HR1.out.2.2 (by omega)
        subst he
        exact xGoodSketch_sums ad c0_0 l0_0 a0_1 w H128.out HR2 HC1 HB1 HB2
  · rw [if_neg h128] at h
    obtain rfl := Option.some.inj h
    have hz : ¬ ((l0_0.length : Nat) : Int) = 128 := by omega
    clear h
    go_enter Try.func9, Try.ntmps9
    go_wp2
    have hc := (HBR.out.set (.bool false)).cell
    first
    | refine bodyPost_ret (v := .bool false) (by simp [results, Try.f9, go_sem, hc]) rfl ⟨rfl, HW0.out.setCell (p := ⟨w.heap.size + 1, 0, none⟩) (Nat.le_succ _) _⟩
    | refine bodyPost_ret (v := .bool false) (by simp [results, Try.f9, go_sem, hc]) rfl ⟨rfl, HW0.out⟩

/-! ### impl_isKey: function 28 -/
def impl_isKey.f (a0 : ByteArray) : Option (Bool) := (impl_within.f (a0.size : Int) 1 20).bind fun t108 => (some t108)
set_option maxHeartbeats 8000000 in
set_option maxRecDepth 100000 in
theorem impl_isKey.calls (a0 : ByteArray) (r : Bool) (w : World) (h : impl_isKey.f a0 = some r) :
  Calls Try.prog 28 #[.string a0] w fun e w' => e = .returned (.bool r) ∧ Drawn0 w w' := by
 have H : ((impl_within.f (a0.size : Int) 1 20).bind fun t108 => (some t108)) = some r := h
 clear h
 replace H := Option.bind_eq_some_iff.mp H
 obtain ⟨t108, A20, H⟩ := H
 replace H : (some t108) = some r := H
 have A2 := Aside0.mk A20
 clear A20
 obtain rfl := Option.some.inj H
 go_enter Try.func28, Try.ntmps28
 go_wp2_with (first | ((with_reducible refine gate_callee (f := 29) rfl ?_); refine xgl_ (some 5) Try.func29 #[.int .i64 (a0.size : Int), .int .i64 1, .int .i64 20] ?_; (with_reducible refine (impl_within.calls (a0.size : Int) 1 20 t108 _ A2.out).mono ?_); rintro e w' ⟨rfl, ⟨nd, rfl⟩⟩; refine ⟨_, rfl, ?_⟩))
 go_ret
 exact ⟨by first | rfl | (simp; done) | (simp [*]; done), by repeat (first | exact Drawn0.refl _ | apply Drawn0.step)⟩

/-! ### impl_hashed: function 45 -/
def impl_hashed.l0 : Nat → Int → ByteArray → Int → Int → Option (Int)
 | 0, _, _, _, _ => none
 | k + 1, x0, x1, x7, x8 => if x8 < x7 then (if 0 ≤ x8 then (if x8 < (x1.size : Int) then (impl_hashed.l0 k (((Go.bits .xor .u32 x0 ((bt x1 x8) % 4294967296)) * 16777619) % 4294967296) x1 x7 (wrap64 (x8 + 1))) else (none)) else (none)) else (some x0)
def impl_hashed.f (k : Nat) (a0 : Int) (a1 : ByteArray) : Option (Int) := impl_hashed.l0 k a0 a1 (a1.size : Int) 0
theorem impl_hashed.mono_l : ∀ k, (∀ y0 y1 y2 y3, LeO (impl_hashed.l0 k y0 y1 y2 y3) (impl_hashed.l0 (k + 1) y0 y1 y2 y3))
 | 0 => fun _ _ _ _ r h => by simp [impl_hashed.l0] at h
 | k + 1 => by
  have ih0 := impl_hashed.mono_l k
  ·intro y0 y1 y2 y3
   unfold impl_hashed.l0
   repeat' first
   | (with_reducible exact ih0 _ _ _ _)
   | (with_reducible exact LeO.refl _)
   | (with_reducible exact LeO.none _)
   | (with_reducible refine LeO.ite ?_ ?_)
   | (with_reducible refine LeO.bind ?_ (fun _ => ?_))
   | exact ih0 _ _ _ _
   | exact LeO.none _
   | refine LeO.ite ?_ ?_
   | refine LeO.bind ?_ (fun _ => ?_)
theorem impl_hashed.mono : ∀ a0 a1 k, LeO (impl_hashed.f k a0 a1) (impl_hashed.f (k + 1) a0 a1) := by
 intro a0 a1 k
 have ih0 := impl_hashed.mono_l k
 unfold impl_hashed.f
 repeat' first
   | (with_reducible exact ih0 _ _ _ _)
   | (with_reducible exact LeO.refl _)
   | (with_reducible exact LeO.none _)
   | (with_reducible refine LeO.ite ?_ ?_)
   | (with_reducible refine LeO.bind ?_ (fun _ => ?_))
   | exact ih0 _ _ _ _
   | exact LeO.none _
   | refine LeO.ite ?_ ?_
   | refine LeO.bind ?_ (fun _ => ?_)
set_option maxHeartbeats 8000000 in
set_option maxRecDepth 100000 in
theorem impl_hashed.calls (k : Nat) (a0 : Int) (a1 : ByteArray) (r : Int) (w : World) (h : impl_hashed.f k a0 a1 = some r) :
  Calls Try.prog 45 #[.int .u32 a0, .string a1] w fun e w' => e = .returned (.int .u32 r) ∧ Drawn0 w w' := by
 have H : (impl_hashed.l0 k a0 a1 (a1.size : Int) 0) = some r := h
 clear h
 have H' := Aside0.mk H
 clear H
 go_enter Try.func45, Try.ntmps45
 go_wp2
 go_loopg [0, 8] k (fun kq v0 v8 w' => ∃ (x0_1 : Int) (x8_1 : Int), v0 = .int .u32 x0_1 ∧ v8 = .int .i64 x8_1 ∧ Aside0 (impl_hashed.l0 kq x0_1 a1 (a1.size : Int) x8_1 = some r) ∧ Aside0 (kq ≤ k) ∧ Drawn0 w w')
 case atStart => exact ⟨(a0), (0), (by first | rfl | (simp; done) | (simp [*]; done)), (by first | rfl | (simp; done) | (simp [*]; done)), H', ⟨Nat.le_refl _⟩, by repeat (first | exact Drawn0.refl _ | apply Drawn0.step)⟩
 case round =>
  clear H'
  try clear p2
  obtain ⟨x0_1, x8_1, rfl, rfl, HA, HK1, ⟨m1, rfl⟩⟩ := hrel
  cases gk with
  | zero => exact absurd HA.out (by simp [impl_hashed.l0])
  | succ k1 =>
   have H := HA.out
   clear HA
   simp only [impl_hashed.l0] at H
   by_cases c3 : x8_1 < (a1.size : Int)
   ·rw [if_pos c3] at H
    have c3b0 : decide (x8_1 < (a1.size : Int)) = true := decide_eq_true c3
    clear c3
    by_cases c4 : 0 ≤ x8_1
    ·rw [if_pos c4] at H
     have c4b0 : decide (0 ≤ x8_1) = true := decide_eq_true c4
     clear c4
     by_cases c5 : x8_1 < (a1.size : Int)
     ·rw [if_pos c5] at H
      have c5b0 : decide (x8_1 < (a1.size : Int)) = true := decide_eq_true c5
      clear c5
      have H' := Aside0.mk H
      clear H
      have p6 : 0 ≤ (x8_1 : Int) := of_decide_eq_true (by first | (with_reducible assumption) | assumption)
      have q6 : x8_1 < (a1.size : Int) := of_decide_eq_true (by first | (with_reducible assumption) | assumption)
      have hx6 := bt_at a1 x8_1
      replace p6 := eq_true p6
      replace q6 := eq_true q6
      go_wp2
      go_roundg k1
      case measure => have := HK1.out; omega
      case rel => exact ⟨(((Go.bits .xor .u32 x0_1 ((bt a1 x8_1) % 4294967296)) * 16777619) % 4294967296), (wrap64 (x8_1 + 1)), (by first | rfl | (simp; done) | (simp [*]; done)), (by first | rfl | (simp; done) | (simp [*]; done)), H', ⟨by have := HK1.out; omega⟩, by repeat (first | exact Drawn0.refl _ | apply Drawn0.step)⟩
     ·rw [if_neg c5] at H
      exact absurd H (by simp)
    ·rw [if_neg c4] at H
     exact absurd H (by simp)
   ·rw [if_neg c3] at H
    have c3b0 : decide (x8_1 < (a1.size : Int)) = false := decide_eq_false c3
    clear c3
    obtain rfl := Option.some.inj H
    go_wp2
    go_ret
    exact ⟨by first | rfl | (simp; done) | (simp [*]; done), by repeat (first | exact Drawn0.refl _ | apply Drawn0.step)⟩

end Go.Proofs.Ytemeajidcggniaa.PFnSummed
