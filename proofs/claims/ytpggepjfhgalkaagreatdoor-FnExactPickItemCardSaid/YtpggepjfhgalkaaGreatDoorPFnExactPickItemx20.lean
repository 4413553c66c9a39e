-- Written by a program of this project (xprint.py) out of the translation; Lean checks it.
import Derived.Test.YtpggepjfhgalkaaGreatDoorPFnExactPickItemx0
import Derived.Test.YtpggepjfhgalkaaGreatDoorPFnExactPickItemx19
namespace Go.Proofs.YtpggepjfhgalkaaGreatDoor.PFnExactPickItem
open Go.RowKit Go.Proofs.YtpggepjfhgalkaaGreatDoorW.PrintWords Go.Proofs.YtpggepjfhgalkaaGreatDoorW.PrintLast Go.Proofs.YtpggepjfhgalkaaGreatDoorW.PrintMore
attribute [local go_sem] max2_int min2_int max_two min_two max_three min_three max_four min_four   -- for this text's walks alone
set_option linter.unusedVariables false
set_option linter.unusedSimpArgs false

/-! ### impl_pick: function 46 -/
def impl_pick.l0 : Nat → List (S71) → ByteArray → List (S105) → Int → List (S71) → Int → Int → Option (Int)
 | 0, _, _, _, _, _, _, _ => none
 | k + 1, x0, x1, x2, x7, x10, x11, x12 => if x12 < x11 then (if 0 ≤ x12 then (if x12 < (x10.length : Int) then (if ((rd_T71 x10 x12).f0).toList = x1.toList then ((impl_Item_matches.f k ((rd_T71 x10 x12).f0) ((rd_T71 x10 x12).f1) ((rd_T71 x10 x12).f2.f0.f0) ((rd_T71 x10 x12).f2.f0.f1) ((rd_T71 x10 x12).f2.f0.f2) ((rd_T71 x10 x12).f2.f0.f3) ((rd_T71 x10 x12).f2.f1) ((rd_T71 x10 x12).f2.f2) x2).bind fun t442 => (if t442 = true then (if x7 < 0 then (impl_pick.l0 k x0 x1 x2 x12 x10 x11 (wrap64 (x12 + 1))) else (if 0 ≤ x7 then (if x7 < (x0.length : Int) then (if ((rd_T71 x10 x12).f2.f2) > ((rd_T71 x0 x7).f2.f2) then (impl_pick.l0 k x0 x1 x2 x12 x10 x11 (wrap64 (x12 + 1))) else (impl_pick.l0 k x0 x1 x2 x7 x10 x11 (wrap64 (x12 + 1)))) else (none)) else (none))) else (impl_pick.l0 k x0 x1 x2 x7 x10 x11 (wrap64 (x12 + 1))))) else (impl_pick.l0 k x0 x1 x2 x7 x10 x11 (wrap64 (x12 + 1)))) else (none)) else (none)) else (some x7)
def impl_pick.f (k : Nat) (l0 : List (S71)) (a1 : ByteArray) (l2 : List (S105)) : Option (Int) := impl_pick.l0 k l0 a1 l2 (-1) l0 (l0.length : Int) 0
def impl_pick.T5 : Bool × List (List Nat × List Nat) := (true, [([], []), ([0], [0]), ([], []), ([1, 2], [1, 2]), ([3], [3]), ([4], [4]), ([4], [4]), ([5, 6, 4, 4], [4, 5, 6]), ([4, 7], [4, 7]), ([8, 7], [8]), ([9], [9]), ([10, 9], [9, 10]), ([11, 9, 9], [9, 11]), ([12], [12]), ([13, 12], [12, 13]), ([14, 12], [12, 14]), ([12], [12]), ([12], [12]), ([16, 17, 12], [12, 16, 17]), ([18, 12], [12, 18]), ([19, 12], [12, 19]), ([20, 12], [12, 20]), ([15, 21, 12], [12, 15, 21]), ([12, 22, 9], [9, 12, 22]), ([9, 23], [9, 23])])
def impl_pick.B5 : List Nat := [0, 1, 0, 7, 15, 31, 31, 127, 255, 511, 1023, 2047, 4095, 8191, 16383, 32767, 8191, 8191, 204799, 466943, 991231, 2039807, 4194303, 8388607, 16777215]
theorem impl_pick.tab5 : rtab .any (opsOf Tryz.f46 5) = impl_pick.T5 := by kernel_rfl
theorem impl_pick.bits5 : waitsOk impl_pick.T5.2 impl_pick.B5 = true := by kernel_rfl
set_option maxHeartbeats 8000000 in
set_option maxRecDepth 100000 in
theorem impl_pick.calls (k : Nat) (A0 : Option Addr) (c0 : Nat) (l0 : List (S71)) (a1 : ByteArray) (A2 : Option Addr) (c2 : Nat) (l2 : List (S105)) (r : Int) (w : World) (hr0 : Kd.C k71 w A0 l0.length l0) (hc0 : l0.length ≤ c0) (hr2 : Kd.C k105 w A2 l2.length l2) (hc2 : l2.length ≤ c2) (h : impl_pick.f k l0 a1 l2 = some r) :
  Calls Tryz.prog 46 #[.slice A0 l0.length c0, .string a1, .slice A2 l2.length c2] w fun e w' => e = .returned (.int .i64 r) ∧ Below w.heap.size w w' := by
 have hu71 := Tryz.underlying71
 have HR0 := Aside0.mk hr0
 have HC0 := Aside0.mk hc0
 clear hr0 hc0
 have HR2 := Aside0.mk hr2
 have HC2 := Aside0.mk hc2
 clear hr2 hc2
 have HB := Aside0.mk (Below.refl w.heap.size w)
 have H := h
 unfold impl_pick.f at H
 clear h
 have H' := Aside0.mk H
 clear H
 go_enter Tryz.func46, Tryz.ntmps46
 go_wp2
 go_loopg [7, 12] k (fun kq v7 v12 w' => ∃ (x7_1 : Int) (x12_1 : Int), v7 = .int .i64 x7_1 ∧ v12 = .int .i64 x12_1 ∧ Aside0 (impl_pick.l0 kq l0 a1 l2 x7_1 l0 (l0.length : Int) x12_1 = some r) ∧ Aside0 (kq ≤ k) ∧ Aside0 (Below w.heap.size w w'))
 case atStart => exact ⟨((-1)), (0), me_, me_, H', ⟨Nat.le_refl _⟩, ⟨xw_ HB⟩⟩
 case round =>
  clear H'
  obtain ⟨x7_1, x12_1, rfl, rfl, HA, HK1, HB⟩ := hrel
  cases gk with
  | zero => exact absurd HA.out (by simp [impl_pick.l0])
  | succ k1 =>
   have H := HA.out
   clear HA
   simp only [impl_pick.l0] at H
   by_cases c4 : x12_1 < (l0.length : Int)
   ·rw [if_pos c4] at H
    have c4b0 := decide_eq_true c4
    clear c4
    replace H := mi_ H
    obtain ⟨c5, H⟩ := H
    have c5b0 := decide_eq_true c5
    clear c5
    replace H := mi_ H
    obtain ⟨c6, H⟩ := H
    have c6b0 := decide_eq_true c6
    clear c6
    by_cases c7 : ((rd_T71 l0 x12_1).f0).toList = a1.toList
    ·rw [if_pos c7] at H
     have c7b0 : (((rd_T71 l0 x12_1).f0).toList == a1.toList) = true := beq_iff_eq.mpr c7
     have c7b1 : (((rd_T71 l0 x12_1).f0).toList != a1.toList) = false := bne_eq_false_iff_eq.mpr c7
     clear c7
     replace H := mb_ H
     obtain ⟨t442, A8, H⟩ := H
     by_cases c9 : t442 = true
     ·subst c9
      rw [if_pos rfl] at H
      by_cases c10 : x7_1 < 0
      ·rw [if_pos c10] at H
       have c10b0 := decide_eq_true c10
       clear c10
       have H' := Aside0.mk H
       clear H
       have p440 : 0 ≤ (x12_1 : Int) := md_
       have q440 : x12_1 < (l0.length : Int) := md_
       obtain ⟨ad440, A440_1, c440_1, A440_4, c440_4, e440, hx440_0, hx440_1, hx440_2, hx440_3, hx440_4, hx440_5, hx440_6, hx440_7, hl440_1, hi440_1, hl440_4, hi440_4⟩ := at_T71 HR0.out x12_1 p440 q440
       cases e440
       (try replace hx440_0 := (HB.out.cell (World.block_lt_of_cell? w _ hx440_0)).trans hx440_0)
       (try replace hx440_1 := (HB.out.cell (World.block_lt_of_cell? w _ hx440_1)).trans hx440_1)
       (try replace hx440_2 := (HB.out.cell (World.block_lt_of_cell? w _ hx440_2)).trans hx440_2)
       (try replace hx440_3 := (HB.out.cell (World.block_lt_of_cell? w _ hx440_3)).trans hx440_3)
       (try replace hx440_4 := (HB.out.cell (World.block_lt_of_cell? w _ hx440_4)).trans hx440_4)
       (try replace hx440_5 := (HB.out.cell (World.block_lt_of_cell? w _ hx440_5)).trans hx440_5)
       (try replace hx440_6 := (HB.out.cell (World.block_lt_of_cell? w _ hx440_6)).trans hx440_6)
       (try replace hx440_7 := (HB.out.cell (World.block_lt_of_cell? w _ hx440_7)).trans hx440_7)
       have HR440_1 := Aside0.mk hi440_1
       have HC440_1 := Aside0.mk hl440_1
       clear hi440_1 hl440_1
       have HR440_4 := Aside0.mk hi440_4
       have HC440_4 := Aside0.mk hl440_4
       clear hi440_4 hl440_4
       replace p440 := eq_true p440
       replace q440 := eq_true q440
       try go_wp2_with (first | ((with_reducible refine gd_ 9 ?_); refine xbe_ (N := 9) (cs := #[.string (⟨#[]⟩ : ByteArray), .slice none 0 0, .int .i64 0, .string (⟨#[]⟩ : ByteArray), .slice none 0 0, .string (⟨#[]⟩ : ByteArray), .int .i64 0, .int .i64 0]) (t := 71) ?_; intro gb441 hg w11 hbox hb; have BK441 := Aside0.mk (hbox); have GE441 := xge_ HB hg; replace HB := xws_ HB hb; clear hb hbox hg; have ⟨_, _, _, _, _, _, _, _, _, _, _, _, _, _, _, _⟩ := c8_ BK441))
       have n0_ : Aside0 (((((((((w11.setCell ⟨gb441, 0, none⟩ (.string ((rd_T71 l0 x12_1).f0))).setCell ⟨gb441, 1, none⟩ (.slice A440_1 ((rd_T71 l0 x12_1).f1).length c440_1)).setCell ⟨gb441, 2, none⟩ (.int .i64 ((rd_T71 l0 x12_1).f2.f0.f0))).setCell ⟨gb441, 3, none⟩ (.string ((rd_T71 l0 x12_1).f2.f0.f1))).setCell ⟨gb441, 4, none⟩ (.slice A440_4 ((rd_T71 l0 x12_1).f2.f0.f2).length c440_4)).setCell ⟨gb441, 5, none⟩ (.string ((rd_T71 l0 x12_1).f2.f0.f3))).setCell ⟨gb441, 6, none⟩ (.int .i64 ((rd_T71 l0 x12_1).f2.f1))).setCell ⟨gb441, 7, none⟩ (.int .i64 ((rd_T71 l0 x12_1).f2.f2))).heap[gb441]? = some (.cells #[.string ((rd_T71 l0 x12_1).f0), .slice A440_1 ((rd_T71 l0 x12_1).f1).length c440_1, .int .i64 ((rd_T71 l0 x12_1).f2.f0.f0), .string ((rd_T71 l0 x12_1).f2.f0.f1), .slice A440_4 ((rd_T71 l0 x12_1).f2.f0.f2).length c440_4, .string ((rd_T71 l0 x12_1).f2.f0.f3), .int .i64 ((rd_T71 l0 x12_1).f2.f1), .int .i64 ((rd_T71 l0 x12_1).f2.f2)] 71 (0, 0))) := ⟨mx_ BK441⟩
       have n1_ : Aside0 (Below w.heap.size w ((((((((w11.setCell ⟨gb441, 0, none⟩ (.string ((rd_T71 l0 x12_1).f0))).setCell ⟨gb441, 1, none⟩ (.slice A440_1 ((rd_T71 l0 x12_1).f1).length c440_1)).setCell ⟨gb441, 2, none⟩ (.int .i64 ((rd_T71 l0 x12_1).f2.f0.f0))).setCell ⟨gb441, 3, none⟩ (.string ((rd_T71 l0 x12_1).f2.f0.f1))).setCell ⟨gb441, 4, none⟩ (.slice A440_4 ((rd_T71 l0 x12_1).f2.f0.f2).length c440_4)).setCell ⟨gb441, 5, none⟩ (.string ((rd_T71 l0 x12_1).f2.f0.f3))).setCell ⟨gb441, 6, none⟩ (.int .i64 ((rd_T71 l0 x12_1).f2.f1))).setCell ⟨gb441, 7, none⟩ (.int .i64 ((rd_T71 l0 x12_1).f2.f2)))) := ⟨xw_ HB⟩
       (try clear BK441)
       (try clear HB)
       generalize ((((((((w11.setCell ⟨gb441, 0, none⟩ (.string ((rd_T71 l0 x12_1).f0))).setCell ⟨gb441, 1, none⟩ (.slice A440_1 ((rd_T71 l0 x12_1).f1).length c440_1)).setCell ⟨gb441, 2, none⟩ (.int .i64 ((rd_T71 l0 x12_1).f2.f0.f0))).setCell ⟨gb441, 3, none⟩ (.string ((rd_T71 l0 x12_1).f2.f0.f1))).setCell ⟨gb441, 4, none⟩ (.slice A440_4 ((rd_T71 l0 x12_1).f2.f0.f2).length c440_4)).setCell ⟨gb441, 5, none⟩ (.string ((rd_T71 l0 x12_1).f2.f0.f3))).setCell ⟨gb441, 6, none⟩ (.int .i64 ((rd_T71 l0 x12_1).f2.f1))).setCell ⟨gb441, 7, none⟩ (.int .i64 ((rd_T71 l0 x12_1).f2.f2))) = w13 at n0_ n1_ ⊢
       have BK441 := n0_
       have HB := n1_
       clear n0_ n1_
       replace BK441 := Aside0.mk (blk_drew BK441.out)
       replace HB := Aside0.mk (below_drew1 HB.out)
       refine ms_ 25 (fun w' => w'.cell? ⟨gb441, 0, none⟩ = some (.string ((rd_T71 l0 x12_1).f0)) ∧ w'.cell? ⟨gb441, 1, none⟩ = some (.slice A440_1 ((rd_T71 l0 x12_1).f1).length c440_1) ∧ w'.cell? ⟨gb441, 2, none⟩ = some (.int .i64 ((rd_T71 l0 x12_1).f2.f0.f0)) ∧ w'.cell? ⟨gb441, 3, none⟩ = some (.string ((rd_T71 l0 x12_1).f2.f0.f1)) ∧ w'.cell? ⟨gb441, 4, none⟩ = some (.slice A440_4 ((rd_T71 l0 x12_1).f2.f0.f2).length c440_4) ∧ w'.cell? ⟨gb441, 5, none⟩ = some (.string ((rd_T71 l0 x12_1).f2.f0.f3)) ∧ w'.cell? ⟨gb441, 6, none⟩ = some (.int .i64 ((rd_T71 l0 x12_1).f2.f1)) ∧ w'.cell? ⟨gb441, 7, none⟩ = some (.int .i64 ((rd_T71 l0 x12_1).f2.f2))) impl_pick.tab5 impl_pick.bits5 ⟨xk_ BK441 0, xk_ BK441 1, xk_ BK441 2, xk_ BK441 3, xk_ BK441 4, xk_ BK441 5, xk_ BK441 6, xk_ BK441 7⟩ (fun hHeld HT_ HW_ => ?_)
       generalize w13.drew = w14 at BK441 HB hHeld ⊢
       refine mp_ 0 17 ?_
       refine mp_ 2 19 ?_
       refine mt_ 1 18 hHeld ?_
       refine mp_ 3 20 ?_
       refine mp_ 4 21 ?_
       refine mp_ 6 23 ?_
       refine mt_ 5 22 hHeld ?_
       refine m1_ 7 24 Tryz.func58 #[.agg #[.string ((rd_T71 l0 x12_1).f0), .slice A440_1 ((rd_T71 l0 x12_1).f1).length c440_1, .int .i64 ((rd_T71 l0 x12_1).f2.f0.f0), .string ((rd_T71 l0 x12_1).f2.f0.f1), .slice A440_4 ((rd_T71 l0 x12_1).f2.f0.f2).length c440_4, .string ((rd_T71 l0 x12_1).f2.f0.f3), .int .i64 ((rd_T71 l0 x12_1).f2.f1), .int .i64 ((rd_T71 l0 x12_1).f2.f2)], .slice A2 l2.length c2] ?_
       with_reducible refine (impl_Item_matches.calls k1 ((rd_T71 l0 x12_1).f0) _ _ ((rd_T71 l0 x12_1).f1) ((rd_T71 l0 x12_1).f2.f0.f0) ((rd_T71 l0 x12_1).f2.f0.f1) _ _ ((rd_T71 l0 x12_1).f2.f0.f2) ((rd_T71 l0 x12_1).f2.f0.f3) ((rd_T71 l0 x12_1).f2.f1) ((rd_T71 l0 x12_1).f2.f2) _ _ l2 true _ ?side1 ?side2 ?side3 ?side4 ?side5 ?side6 A8.out).mono ?_
       (case side1 => exact xc_ ((Kd.C_below HR440_1.out HB.out)))
       (case side2 => exact HC440_1.out)
       (case side3 => exact xc_ ((Kd.C_below HR440_4.out HB.out)))
       (case side4 => exact HC440_4.out)
       (case side5 => exact xc_ ((Kd.C_below HR2.out HB.out)))
       (case side6 => exact HC2.out)
       rintro e w15 ⟨rfl, hb⟩
       refine ⟨_, rfl, ?_⟩
       replace BK441 := xbb_ BK441 hb
       replace HB := xws_ HB hb
       (try clear hb)
       refine ⟨⟨xk_ BK441 0, xk_ BK441 1, xk_ BK441 2, xk_ BK441 3, xk_ BK441 4, xk_ BK441 5, xk_ BK441 6, xk_ BK441 7⟩, fun hHeld => ?_⟩
       refine mn_ 24 ?_
       refine mp_ 8 25 ?_
       refine mp_ 9 26 ?_
       refine mp_ 10 27 ?_
       refine mp_ 11 28 ?_
       refine mp_ 12 29 ?_
       refine mu_ 13 30 ?_
       refine mu_ 14 31 ?_
       refine mu_ 15 32 ?_
       refine mu_ 16 33 ?_
       refine mu_ 17 34 ?_
       refine mu_ 18 35 ?_
       refine mu_ 19 36 ?_
       refine mu_ 20 37 ?_
       refine mu_ 21 38 ?_
       refine mu_ 22 39 ?_
       refine mp_ 23 40 ?_
       refine mp_ 24 41 ?_
       refine done_ (done_of HT_.out (by kernel_rfl)) ?_
       try go_wp2
       go_roundg k1
       case measure => have := HK1.out; omega
       case rel => exact ⟨(x12_1), (wrap64 (x12_1 + 1)), me_, me_, H', ⟨by have := HK1.out; omega⟩, ⟨xw_ HB⟩⟩
      ·rw [if_neg c10] at H
       have c10b0 := decide_eq_false c10
       clear c10
       replace H := mi_ H
       obtain ⟨c16, H⟩ := H
       have c16b0 := decide_eq_true c16
       clear c16
       replace H := mi_ H
       obtain ⟨c17, H⟩ := H
       have c17b0 := decide_eq_true c17
       clear c17
       by_cases c18 : ((rd_T71 l0 x12_1).f2.f2) > ((rd_T71 l0 x7_1).f2.f2)
       ·rw [if_pos c18] at H
        have c18b0 : decide (((rd_T71 l0 x7_1).f2.f2) < ((rd_T71 l0 x12_1).f2.f2)) = true := decide_eq_true c18
        clear c18
        have H' := Aside0.mk H
        clear H
        have p440 : 0 ≤ (x12_1 : Int) := md_
        have q440 : x12_1 < (l0.length : Int) := md_
        obtain ⟨ad440, A440_1, c440_1, A440_4, c440_4, e440, hx440_0, hx440_1, hx440_2, hx440_3, hx440_4, hx440_5, hx440_6, hx440_7, hl440_1, hi440_1, hl440_4, hi440_4⟩ := at_T71 HR0.out x12_1 p440 q440
        cases e440
        (try replace hx440_0 := (HB.out.cell (World.block_lt_of_cell? w _ hx440_0)).trans hx440_0)
        (try replace hx440_1 := (HB.out.cell (World.block_lt_of_cell? w _ hx440_1)).trans hx440_1)
        (try replace hx440_2 := (HB.out.cell (World.block_lt_of_cell? w _ hx440_2)).trans hx440_2)
        (try replace hx440_3 := (HB.out.cell (World.block_lt_of_cell? w _ hx440_3)).trans hx440_3)
        (try replace hx440_4 := (HB.out.cell (World.block_lt_of_cell? w _ hx440_4)).trans hx440_4)
        (try replace hx440_5 := (HB.out.cell (World.block_lt_of_cell? w _ hx440_5)).trans hx440_5)
        (try replace hx440_6 := (HB.out.cell (World.block_lt_of_cell? w _ hx440_6)).trans hx440_6)
        (try replace hx440_7 := (HB.out.cell (World.block_lt_of_cell? w _ hx440_7)).trans hx440_7)
        have HR440_1 := Aside0.mk hi440_1
        have HC440_1 := Aside0.mk hl440_1
        clear hi440_1 hl440_1
        have HR440_4 := Aside0.mk hi440_4
        have HC440_4 := Aside0.mk hl440_4
        clear hi440_4 hl440_4
        replace p440 := eq_true p440
        replace q440 := eq_true q440
        try go_wp2_with (first | ((with_reducible refine gd_ 9 ?_); refine xbe_ (N := 9) (cs := #[.string (⟨#[]⟩ : ByteArray), .slice none 0 0, .int .i64 0, .string (⟨#[]⟩ : ByteArray), .slice none 0 0, .string (⟨#[]⟩ : ByteArray), .int .i64 0, .int .i64 0]) (t := 71) ?_; intro gb441 hg w19 hbox hb; have BK441 := Aside0.mk (hbox); have GE441 := xge_ HB hg; replace HB := xws_ HB hb; clear hb hbox hg; have ⟨_, _, _, _, _, _, _, _, _, _, _, _, _, _, _, _⟩ := c8_ BK441))
        have n0_ : Aside0 (((((((((w19.setCell ⟨gb441, 0, none⟩ (.string ((rd_T71 l0 x12_1).f0))).setCell ⟨gb441, 1, none⟩ (.slice A440_1 ((rd_T71 l0 x12_1).f1).length c440_1)).setCell ⟨gb441, 2, none⟩ (.int .i64 ((rd_T71 l0 x12_1).f2.f0.f0))).setCell ⟨gb441, 3, none⟩ (.string ((rd_T71 l0 x12_1).f2.f0.f1))).setCell ⟨gb441, 4, none⟩ (.slice A440_4 ((rd_T71 l0 x12_1).f2.f0.f2).length c440_4)).setCell ⟨gb441, 5, none⟩ (.string ((rd_T71 l0 x12_1).f2.f0.f3))).setCell ⟨gb441, 6, none⟩ (.int .i64 ((rd_T71 l0 x12_1).f2.f1))).setCell ⟨gb441, 7, none⟩ (.int .i64 ((rd_T71 l0 x12_1).f2.f2))).heap[gb441]? = some (.cells #[.string ((rd_T71 l0 x12_1).f0), .slice A440_1 ((rd_T71 l0 x12_1).f1).length c440_1, .int .i64 ((rd_T71 l0 x12_1).f2.f0.f0), .string ((rd_T71 l0 x12_1).f2.f0.f1), .slice A440_4 ((rd_T71 l0 x12_1).f2.f0.f2).length c440_4, .string ((rd_T71 l0 x12_1).f2.f0.f3), .int .i64 ((rd_T71 l0 x12_1).f2.f1), .int .i64 ((rd_T71 l0 x12_1).f2.f2)] 71 (0, 0))) := ⟨mx_ BK441⟩
        have n1_ : Aside0 (Below w.heap.size w ((((((((w19.setCell ⟨gb441, 0, none⟩ (.string ((rd_T71 l0 x12_1).f0))).setCell ⟨gb441, 1, none⟩ (.slice A440_1 ((rd_T71 l0 x12_1).f1).length c440_1)).setCell ⟨gb441, 2, none⟩ (.int .i64 ((rd_T71 l0 x12_1).f2.f0.f0))).setCell ⟨gb441, 3, none⟩ (.string ((rd_T71 l0 x12_1).f2.f0.f1))).setCell ⟨gb441, 4, none⟩ (.slice A440_4 ((rd_T71 l0 x12_1).f2.f0.f2).length c440_4)).setCell ⟨gb441, 5, none⟩ (.string ((rd_T71 l0 x12_1).f2.f0.f3))).setCell ⟨gb441, 6, none⟩ (.int .i64 ((rd_T71 l0 x12_1).f2.f1))).setCell ⟨gb441, 7, none⟩ (.int .i64 ((rd_T71 l0 x12_1).f2.f2)))) := ⟨xw_ HB⟩
        (try clear BK441)
        (try clear HB)
        generalize ((((((((w19.setCell ⟨gb441, 0, none⟩ (.string ((rd_T71 l0 x12_1).f0))).setCell ⟨gb441, 1, none⟩ (.slice A440_1 ((rd_T71 l0 x12_1).f1).length c440_1)).setCell ⟨gb441, 2, none⟩ (.int .i64 ((rd_T71 l0 x12_1).f2.f0.f0))).setCell ⟨gb441, 3, none⟩ (.string ((rd_T71 l0 x12_1).f2.f0.f1))).setCell ⟨gb441, 4, none⟩ (.slice A440_4 ((rd_T71 l0 x12_1).f2.f0.f2).length c440_4)).setCell ⟨gb441, 5, none⟩ (.string ((rd_T71 l0 x12_1).f2.f0.f3))).setCell ⟨gb441, 6, none⟩ (.int .i64 ((rd_T71 l0 x12_1).f2.f1))).setCell ⟨gb441, 7, none⟩ (.int .i64 ((rd_T71 l0 x12_1).f2.f2))) = w21 at n0_ n1_ ⊢
        have BK441 := n0_
        have HB := n1_
        clear n0_ n1_
        replace BK441 := Aside0.mk (blk_drew BK441.out)
        replace HB := Aside0.mk (below_drew1 HB.out)
        have p443 : 0 ≤ (x7_1 : Int) := md_
        have q443 : x7_1 < (l0.length : Int) := md_
        obtain ⟨ad443, A443_1, c443_1, A443_4, c443_4, e443, hx443_0, hx443_1, hx443_2, hx443_3, hx443_4, hx443_5, hx443_6, hx443_7, hl443_1, hi443_1, hl443_4, hi443_4⟩ := at_T71 HR0.out x7_1 p443 q443
        have hw443_7 := hx443_7
        have hw443_6 := hx443_6
        have hw443_5 := hx443_5
        have hw443_4 := hx443_4
        have hw443_3 := hx443_3
        have hw443_2 := hx443_2
        have hw443_1 := hx443_1
        have hw443_0 := hx443_0
        obtain rfl : ad440 = ad443 := (by injection e443)
        (try replace hx443_0 := (HB.out.cell (World.block_lt_of_cell? w _ hx443_0)).trans hx443_0)
        (try replace hx443_1 := (HB.out.cell (World.block_lt_of_cell? w _ hx443_1)).trans hx443_1)
        (try replace hx443_2 := (HB.out.cell (World.block_lt_of_cell? w _ hx443_2)).trans hx443_2)
        (try replace hx443_3 := (HB.out.cell (World.block_lt_of_cell? w _ hx443_3)).trans hx443_3)
        (try replace hx443_4 := (HB.out.cell (World.block_lt_of_cell? w _ hx443_4)).trans hx443_4)
        (try replace hx443_5 := (HB.out.cell (World.block_lt_of_cell? w _ hx443_5)).trans hx443_5)
        (try replace hx443_6 := (HB.out.cell (World.block_lt_of_cell? w _ hx443_6)).trans hx443_6)
        (try replace hx443_7 := (HB.out.cell (World.block_lt_of_cell? w _ hx443_7)).trans hx443_7)
        have HR443_1 := Aside0.mk hi443_1
        have HC443_1 := Aside0.mk hl443_1
        clear hi443_1 hl443_1
        have HR443_4 := Aside0.mk hi443_4
        have HC443_4 := Aside0.mk hl443_4
        clear hi443_4 hl443_4
        replace p443 := eq_true p443
        replace q443 := eq_true q443
        refine ms_ 25 (fun w' => w'.cell? ⟨gb441, 0, none⟩ = some (.string ((rd_T71 l0 x12_1).f0)) ∧ w'.cell? ⟨gb441, 1, none⟩ = some (.slice A440_1 ((rd_T71 l0 x12_1).f1).length c440_1) ∧ w'.cell? ⟨gb441, 2, none⟩ = some (.int .i64 ((rd_T71 l0 x12_1).f2.f0.f0)) ∧ w'.cell? ⟨gb441, 3, none⟩ = some (.string ((rd_T71 l0 x12_1).f2.f0.f1)) ∧ w'.cell? ⟨gb441, 4, none⟩ = some (.slice A440_4 ((rd_T71 l0 x12_1).f2.f0.f2).length c440_4) ∧ w'.cell? ⟨gb441, 5, none⟩ = some (.string ((rd_T71 l0 x12_1).f2.f0.f3)) ∧ w'.cell? ⟨gb441, 6, none⟩ = some (.int .i64 ((rd_T71 l0 x12_1).f2.f1)) ∧ w'.cell? ⟨gb441, 7, none⟩ = some (.int .i64 ((rd_T71 l0 x12_1).f2.f2)) ∧ w'.cell? (ad440.add ((x7_1).toNat * 8)) = some (.string ((rd_T71 l0 x7_1).f0)) ∧ w'.cell? ⟨(ad440.add ((x7_1).toNat * 8)).block, (ad440.add ((x7_1).toNat * 8)).off + 1, none⟩ = some (.slice A443_1 ((rd_T71 l0 x7_1).f1).length c443_1) ∧ w'.cell? ⟨(ad440.add ((x7_1).toNat * 8)).block, (ad440.add ((x7_1).toNat * 8)).off + 2, none⟩ = some (.int .i64 ((rd_T71 l0 x7_1).f2.f0.f0)) ∧ w'.cell? ⟨(ad440.add ((x7_1).toNat * 8)).block, (ad440.add ((x7_1).toNat * 8)).off + 3, none⟩ = some (.string ((rd_T71 l0 x7_1).f2.f0.f1)) ∧ w'.cell? ⟨(ad440.add ((x7_1).toNat * 8)).block, (ad440.add ((x7_1).toNat * 8)).off + 4, none⟩ = some (.slice A443_4 ((rd_T71 l0 x7_1).f2.f0.f2).length c443_4) ∧ w'.cell? ⟨(ad440.add ((x7_1).toNat * 8)).block, (ad440.add ((x7_1).toNat * 8)).off + 5, none⟩ = some (.string ((rd_T71 l0 x7_1).f2.f0.f3)) ∧ w'.cell? ⟨(ad440.add ((x7_1).toNat * 8)).block, (ad440.add ((x7_1).toNat * 8)).off + 6, none⟩ = some (.int .i64 ((rd_T71 l0 x7_1).f2.f1)) ∧ w'.cell? ⟨(ad440.add ((x7_1).toNat * 8)).block, (ad440.add ((x7_1).toNat * 8)).off + 7, none⟩ = some (.int .i64 ((rd_T71 l0 x7_1).f2.f2))) impl_pick.tab5 impl_pick.bits5 ⟨xk_ BK441 0, xk_ BK441 1, xk_ BK441 2, xk_ BK441 3, xk_ BK441 4, xk_ BK441 5, xk_ BK441 6, xk_ BK441 7, ((HB.out.cell (World.block_lt_of_cell? w _ hw443_0)).trans hw443_0), ((HB.out.cell (World.block_lt_of_cell? w _ hw443_1)).trans hw443_1), ((HB.out.cell (World.block_lt_of_cell? w _ hw443_2)).trans hw443_2), ((HB.out.cell (World.block_lt_of_cell? w _ hw443_3)).trans hw443_3), ((HB.out.cell (World.block_lt_of_cell? w _ hw443_4)).trans hw443_4), ((HB.out.cell (World.block_lt_of_cell? w _ hw443_5)).trans hw443_5), ((HB.out.cell (World.block_lt_of_cell? w _ hw443_6)).trans hw443_6), ((HB.out.cell (World.block_lt_of_cell? w _ hw443_7)).trans hw443_7)⟩ (fun hHeld HT_ HW_ => ?_)
        generalize w21.drew = w22 at BK441 HB HR443_1 HR443_4 hx443_0 hx443_1 hx443_2 hx443_3 hx443_4 hx443_5 hx443_6 hx443_7 hHeld ⊢
        refine mp_ 0 17 ?_
        refine mp_ 2 19 ?_
        refine mt_ 1 18 hHeld ?_
        refine mp_ 3 20 ?_
        refine mp_ 4 21 ?_
        refine mp_ 6 23 ?_
        refine mt_ 5 22 hHeld ?_
        refine m1_ 7 24 Tryz.func58 #[.agg #[.string ((rd_T71 l0 x12_1).f0), .slice A440_1 ((rd_T71 l0 x12_1).f1).length c440_1, .int .i64 ((rd_T71 l0 x12_1).f2.f0.f0), .string ((rd_T71 l0 x12_1).f2.f0.f1), .slice A440_4 ((rd_T71 l0 x12_1).f2.f0.f2).length c440_4, .string ((rd_T71 l0 x12_1).f2.f0.f3), .int .i64 ((rd_T71 l0 x12_1).f2.f1), .int .i64 ((rd_T71 l0 x12_1).f2.f2)], .slice A2 l2.length c2] ?_
        with_reducible refine (impl_Item_matches.calls k1 ((rd_T71 l0 x12_1).f0) _ _ ((rd_T71 l0 x12_1).f1) ((rd_T71 l0 x12_1).f2.f0.f0) ((rd_T71 l0 x12_1).f2.f0.f1) _ _ ((rd_T71 l0 x12_1).f2.f0.f2) ((rd_T71 l0 x12_1).f2.f0.f3) ((rd_T71 l0 x12_1).f2.f1) ((rd_T71 l0 x12_1).f2.f2) _ _ l2 true _ ?side1 ?side2 ?side3 ?side4 ?side5 ?side6 A8.out).mono ?_
        (case side1 => exact xc_ ((Kd.C_below HR440_1.out HB.out)))
        (case side2 => exact HC440_1.out)
        (case side3 => exact xc_ ((Kd.C_below HR440_4.out HB.out)))
        (case side4 => exact HC440_4.out)
        (case side5 => exact xc_ ((Kd.C_below HR2.out HB.out)))
        (case side6 => exact HC2.out)
        rintro e w23 ⟨rfl, hb⟩
        refine ⟨_, rfl, ?_⟩
        replace BK441 := xbb_ BK441 hb
        replace HB := xws_ HB hb
        (try clear hb)
        refine ⟨⟨xk_ BK441 0, xk_ BK441 1, xk_ BK441 2, xk_ BK441 3, xk_ BK441 4, xk_ BK441 5, xk_ BK441 6, xk_ BK441 7, ((HB.out.cell (World.block_lt_of_cell? w _ hw443_0)).trans hw443_0), ((HB.out.cell (World.block_lt_of_cell? w _ hw443_1)).trans hw443_1), ((HB.out.cell (World.block_lt_of_cell? w _ hw443_2)).trans hw443_2), ((HB.out.cell (World.block_lt_of_cell? w _ hw443_3)).trans hw443_3), ((HB.out.cell (World.block_lt_of_cell? w _ hw443_4)).trans hw443_4), ((HB.out.cell (World.block_lt_of_cell? w _ hw443_5)).trans hw443_5), ((HB.out.cell (World.block_lt_of_cell? w _ hw443_6)).trans hw443_6), ((HB.out.cell (World.block_lt_of_cell? w _ hw443_7)).trans hw443_7)⟩, fun hHeld => ?_⟩
        refine mn_ 24 ?_
        refine mp_ 8 25 ?_
        refine mp_ 9 26 ?_
        refine mp_ 10 27 ?_
        refine mp_ 11 28 ?_
        refine mp_ 12 29 ?_
        refine mp_ 13 30 ?_
        refine mp_ 14 31 ?_
        refine mp_ 16 33 ?_
        refine mp_ 17 34 ?_
        refine mp_ 18 35 ?_
        refine mp_ 19 36 ?_
        refine mp_ 20 37 ?_
        refine mt_ 15 32 hHeld ?_
        refine mt_ 21 38 hHeld ?_
        refine mp_ 22 39 ?_
        refine mp_ 23 40 ?_
        refine mp_ 24 41 ?_
        refine done_ (done_of HT_.out (by kernel_rfl)) ?_
        try go_wp2
        go_roundg k1
        case measure => have := HK1.out; omega
        case rel => exact ⟨(x12_1), (wrap64 (x12_1 + 1)), me_, me_, H', ⟨by have := HK1.out; omega⟩, ⟨xw_ HB⟩⟩
       ·rw [if_neg c18] at H
        have c18b0 : decide (((rd_T71 l0 x7_1).f2.f2) < ((rd_T71 l0 x12_1).f2.f2)) = false := decide_eq_false c18
        clear c18
        have H' := Aside0.mk H
        clear H
        have p440 : 0 ≤ (x12_1 : Int) := md_
        have q440 : x12_1 < (l0.length : Int) := md_
        obtain ⟨ad440, A440_1, c440_1, A440_4, c440_4, e440, hx440_0, hx440_1, hx440_2, hx440_3, hx440_4, hx440_5, hx440_6, hx440_7, hl440_1, hi440_1, hl440_4, hi440_4⟩ := at_T71 HR0.out x12_1 p440 q440
        cases e440
        (try replace hx440_0 := (HB.out.cell (World.block_lt_of_cell? w _ hx440_0)).trans hx440_0)
        (try replace hx440_1 := (HB.out.cell (World.block_lt_of_cell? w _ hx440_1)).trans hx440_1)
        (try replace hx440_2 := (HB.out.cell (World.block_lt_of_cell? w _ hx440_2)).trans hx440_2)
        (try replace hx440_3 := (HB.out.cell (World.block_lt_of_cell? w _ hx440_3)).trans hx440_3)
        (try replace hx440_4 := (HB.out.cell (World.block_lt_of_cell? w _ hx440_4)).trans hx440_4)
        (try replace hx440_5 := (HB.out.cell (World.block_lt_of_cell? w _ hx440_5)).trans hx440_5)
        (try replace hx440_6 := (HB.out.cell (World.block_lt_of_cell? w _ hx440_6)).trans hx440_6)
        (try replace hx440_7 := (HB.out.cell (World.block_lt_of_cell? w _ hx440_7)).trans hx440_7)
        have HR440_1 := Aside0.mk hi440_1
        have HC440_1 := Aside0.mk hl440_1
        clear hi440_1 hl440_1
        have HR440_4 := Aside0.mk hi440_4
        have HC440_4 := Aside0.mk hl440_4
        clear hi440_4 hl440_4
        replace p440 := eq_true p440
        replace q440 := eq_true q440
        try go_wp2_with (first | ((with_reducible refine gd_ 9 ?_); refine xbe_ (N := 9) (cs := #[.string (⟨#[]⟩ : ByteArray), .slice none 0 0, .int .i64 0, .string (⟨#[]⟩ : ByteArray), .slice none 0 0, .string (⟨#[]⟩ : ByteArray), .int .i64 0, .int .i64 0]) (t := 71) ?_; intro gb441 hg w24 hbox hb; have BK441 := Aside0.mk (hbox); have GE441 := xge_ HB hg; replace HB := xws_ HB hb; clear hb hbox hg; have ⟨_, _, _, _, _, _, _, _, _, _, _, _, _, _, _, _⟩ := c8_ BK441))
        have n0_ : Aside0 (((((((((w24.setCell ⟨gb441, 0, none⟩ (.string ((rd_T71 l0 x12_1).f0))).setCell ⟨gb441, 1, none⟩ (.slice A440_1 ((rd_T71 l0 x12_1).f1).length c440_1)).setCell ⟨gb441, 2, none⟩ (.int .i64 ((rd_T71 l0 x12_1).f2.f0.f0))).setCell ⟨gb441, 3, none⟩ (.string ((rd_T71 l0 x12_1).f2.f0.f1))).setCell ⟨gb441, 4, none⟩ (.slice A440_4 ((rd_T71 l0 x12_1).f2.f0.f2).length c440_4)).setCell ⟨gb441, 5, none⟩ (.string ((rd_T71 l0 x12_1).f2.f0.f3))).setCell ⟨gb441, 6, none⟩ (.int .i64 ((rd_T71 l0 x12_1).f2.f1))).setCell ⟨gb441, 7, none⟩ (.int .i64 ((rd_T71 l0 x12_1).f2.f2))).heap[gb441]? = some (.cells #[.string ((rd_T71 l0 x12_1).f0), .slice A440_1 ((rd_T71 l0 x12_1).f1).length c440_1, .int .i64 ((rd_T71 l0 x12_1).f2.f0.f0), .string ((rd_T71 l0 x12_1).f2.f0.f1), .slice A440_4 ((rd_T71 l0 x12_1).f2.f0.f2).length c440_4, .string ((rd_T71 l0 x12_1).f2.f0.f3), .int .i64 ((rd_T71 l0 x12_1).f2.f1), .int .i64 ((rd_T71 l0 x12_1).f2.f2)] 71 (0, 0))) := ⟨mx_ BK441⟩
        have n1_ : Aside0 (Below w.heap.size w ((((((((w24.setCell ⟨gb441, 0, none⟩ (.string ((rd_T71 l0 x12_1).f0))).setCell ⟨gb441, 1, none⟩ (.slice A440_1 ((rd_T71 l0 x12_1).f1).length c440_1)).setCell ⟨gb441, 2, none⟩ (.int .i64 ((rd_T71 l0 x12_1).f2.f0.f0))).setCell ⟨gb441, 3, none⟩ (.string ((rd_T71 l0 x12_1).f2.f0.f1))).setCell ⟨gb441, 4, none⟩ (.slice A440_4 ((rd_T71 l0 x12_1).f2.f0.f2).length c440_4)).setCell ⟨gb441, 5, none⟩ (.string ((rd_T71 l0 x12_1).f2.f0.f3))).setCell ⟨gb441, 6, none⟩ (.int .i64 ((rd_T71 l0 x12_1).f2.f1))).setCell ⟨gb441, 7, none⟩ (.int .i64 ((rd_T71 l0 x12_1).f2.f2)))) := ⟨xw_ HB⟩
        (try clear BK441)
        (try clear HB)
        generalize ((((((((w24.setCell ⟨gb441, 0, none⟩ (.string ((rd_T71 l0 x12_1).f0))).setCell ⟨gb441, 1, none⟩ (.slice A440_1 ((rd_T71 l0 x12_1).f1).length c440_1)).setCell ⟨gb441, 2, none⟩ (.int .i64 ((rd_T71 l0 x12_1).f2.f0.f0))).setCell ⟨gb441, 3, none⟩ (.string ((rd_T71 l0 x12_1).f2.f0.f1))).setCell ⟨gb441, 4, none⟩ (.slice A440_4 ((rd_T71 l0 x12_1).f2.f0.f2).length c440_4)).setCell ⟨gb441, 5, none⟩ (.string ((rd_T71 l0 x12_1).f2.f0.f3))).setCell ⟨gb441, 6, none⟩ (.int .i64 ((rd_T71 l0 x12_1).f2.f1))).setCell ⟨gb441, 7, none⟩ (.int .i64 ((rd_T71 l0 x12_1).f2.f2))) = w26 at n0_ n1_ ⊢
        have BK441 := n0_
        have HB := n1_
        clear n0_ n1_
        replace BK441 := Aside0.mk (blk_drew BK441.out)
        replace HB := Aside0.mk (below_drew1 HB.out)
        have p443 : 0 ≤ (x7_1 : Int) := md_
        have q443 : x7_1 < (l0.length : Int) := md_
        obtain ⟨ad443, A443_1, c443_1, A443_4, c443_4, e443, hx443_0, hx443_1, hx443_2, hx443_3, hx443_4, hx443_5, hx443_6, hx443_7, hl443_1, hi443_1, hl443_4, hi443_4⟩ := at_T71 HR0.out x7_1 p443 q443
        have hw443_7 := hx443_7
        have hw443_6 := hx443_6
        have hw443_5 := hx443_5
        have hw443_4 := hx443_4
        have hw443_3 := hx443_3
        have hw443_2 := hx443_2
        have hw443_1 := hx443_1
        have hw443_0 := hx443_0
        obtain rfl : ad440 = ad443 := (by injection e443)
        (try replace hx443_0 := (HB.out.cell (World.block_lt_of_cell? w _ hx443_0)).trans hx443_0)
        (try replace hx443_1 := (HB.out.cell (World.block_lt_of_cell? w _ hx443_1)).trans hx443_1)
        (try replace hx443_2 := (HB.out.cell (World.block_lt_of_cell? w _ hx443_2)).trans hx443_2)
        (try replace hx443_3 := (HB.out.cell (World.block_lt_of_cell? w _ hx443_3)).trans hx443_3)
        (try replace hx443_4 := (HB.out.cell (World.block_lt_of_cell? w _ hx443_4)).trans hx443_4)
        (try replace hx443_5 := (HB.out.cell (World.block_lt_of_cell? w _ hx443_5)).trans hx443_5)
        (try replace hx443_6 := (HB.out.cell (World.block_lt_of_cell? w _ hx443_6)).trans hx443_6)
        (try replace hx443_7 := (HB.out.cell (World.block_lt_of_cell? w _ hx443_7)).trans hx443_7)
        have HR443_1 := Aside0.mk hi443_1
        have HC443_1 := Aside0.mk hl443_1
        clear hi443_1 hl443_1
        have HR443_4 := Aside0.mk hi443_4
        have HC443_4 := Aside0.mk hl443_4
        clear hi443_4 hl443_4
        replace p443 := eq_true p443
        replace q443 := eq_true q443
        refine ms_ 25 (fun w' => w'.cell? ⟨gb441, 0, none⟩ = some (.string ((rd_T71 l0 x12_1).f0)) ∧ w'.cell? ⟨gb441, 1, none⟩ = some (.slice A440_1 ((rd_T71 l0 x12_1).f1).length c440_1) ∧ w'.cell? ⟨gb441, 2, none⟩ = some (.int .i64 ((rd_T71 l0 x12_1).f2.f0.f0)) ∧ w'.cell? ⟨gb441, 3, none⟩ = some (.string ((rd_T71 l0 x12_1).f2.f0.f1)) ∧ w'.cell? ⟨gb441, 4, none⟩ = some (.slice A440_4 ((rd_T71 l0 x12_1).f2.f0.f2).length c440_4) ∧ w'.cell? ⟨gb441, 5, none⟩ = some (.string ((rd_T71 l0 x12_1).f2.f0.f3)) ∧ w'.cell? ⟨gb441, 6, none⟩ = some (.int .i64 ((rd_T71 l0 x12_1).f2.f1)) ∧ w'.cell? ⟨gb441, 7, none⟩ = some (.int .i64 ((rd_T71 l0 x12_1).f2.f2)) ∧ w'.cell? (ad440.add ((x7_1).toNat * 8)) = some (.string ((rd_T71 l0 x7_1).f0)) ∧ w'.cell? ⟨(ad440.add ((x7_1).toNat * 8)).block, (ad440.add ((x7_1).toNat * 8)).off + 1, none⟩ = some (.slice A443_1 ((rd_T71 l0 x7_1).f1).length c443_1) ∧ w'.cell? ⟨(ad440.add ((x7_1).toNat * 8)).block, (ad440.add ((x7_1).toNat * 8)).off + 2, none⟩ = some (.int .i64 ((rd_T71 l0 x7_1).f2.f0.f0)) ∧ w'.cell? ⟨(ad440.add ((x7_1).toNat * 8)).block, (ad440.add ((x7_1).toNat * 8)).off + 3, none⟩ = some (.string ((rd_T71 l0 x7_1).f2.f0.f1)) ∧ w'.cell? ⟨(ad440.add ((x7_1).toNat * 8)).block, (ad440.add ((x7_1).toNat * 8)).off + 4, none⟩ = some (.slice A443_4 ((rd_T71 l0 x7_1).f2.f0.f2).length c443_4) ∧ w'.cell? ⟨(ad440.add ((x7_1).toNat * 8)).block, (ad440.add ((x7_1).toNat * 8)).off + 5, none⟩ = some (.string ((rd_T71 l0 x7_1).f2.f0.f3)) ∧ w'.cell? ⟨(ad440.add ((x7_1).toNat * 8)).block, (ad440.add ((x7_1).toNat * 8)).off + 6, none⟩ = some (.int .i64 ((rd_T71 l0 x7_1).f2.f1)) ∧ w'.cell? ⟨(ad440.add ((x7_1).toNat * 8)).block, (ad440.add ((x7_1).toNat * 8)).off + 7, none⟩ = some (.int .i64 ((rd_T71 l0 x7_1).f2.f2))) impl_pick.tab5 impl_pick.bits5 ⟨xk_ BK441 0, xk_ BK441 1, xk_ BK441 2, xk_ BK441 3, xk_ BK441 4, xk_ BK441 5, xk_ BK441 6, xk_ BK441 7, ((HB.out.cell (World.block_lt_of_cell? w _ hw443_0)).trans hw443_0), ((HB.out.cell (World.block_lt_of_cell? w _ hw443_1)).trans hw443_1), ((HB.out.cell (World.block_lt_of_cell? w _ hw443_2)).trans hw443_2), ((HB.out.cell (World.block_lt_of_cell? w _ hw443_3)).trans hw443_3), ((HB.out.cell (World.block_lt_of_cell? w _ hw443_4)).trans hw443_4), ((HB.out.cell (World.block_lt_of_cell? w _ hw443_5)).trans hw443_5), ((HB.out.cell (World.block_lt_of_cell? w _ hw443_6)).trans hw443_6), ((HB.out.cell (World.block_lt_of_cell? w _ hw443_7)).trans hw443_7)⟩ (fun hHeld HT_ HW_ => ?_)
        generalize w26.drew = w27 at BK441 HB HR443_1 HR443_4 hx443_0 hx443_1 hx443_2 hx443_3 hx443_4 hx443_5 hx443_6 hx443_7 hHeld ⊢
        refine mp_ 0 17 ?_
        refine mp_ 2 19 ?_
        refine mt_ 1 18 hHeld ?_
        refine mp_ 3 20 ?_
        refine mp_ 4 21 ?_
        refine mp_ 6 23 ?_
        refine mt_ 5 22 hHeld ?_
        refine m1_ 7 24 Tryz.func58 #[.agg #[.string ((rd_T71 l0 x12_1).f0), .slice A440_1 ((rd_T71 l0 x12_1).f1).length c440_1, .int .i64 ((rd_T71 l0 x12_1).f2.f0.f0), .string ((rd_T71 l0 x12_1).f2.f0.f1), .slice A440_4 ((rd_T71 l0 x12_1).f2.f0.f2).length c440_4, .string ((rd_T71 l0 x12_1).f2.f0.f3), .int .i64 ((rd_T71 l0 x12_1).f2.f1), .int .i64 ((rd_T71 l0 x12_1).f2.f2)], .slice A2 l2.length c2] ?_
        with_reducible refine (impl_Item_matches.calls k1 ((rd_T71 l0 x12_1).f0) _ _ ((rd_T71 l0 x12_1).f1) ((rd_T71 l0 x12_1).f2.f0.f0) ((rd_T71 l0 x12_1).f2.f0.f1) _ _ ((rd_T71 l0 x12_1).f2.f0.f2) ((rd_T71 l0 x12_1).f2.f0.f3) ((rd_T71 l0 x12_1).f2.f1) ((rd_T71 l0 x12_1).f2.f2) _ _ l2 true _ ?side1 ?side2 ?side3 ?side4 ?side5 ?side6 A8.out).mono ?_
        (case side1 => exact xc_ ((Kd.C_below HR440_1.out HB.out)))
        (case side2 => exact HC440_1.out)
        (case side3 => exact xc_ ((Kd.C_below HR440_4.out HB.out)))
        (case side4 => exact HC440_4.out)
        (case side5 => exact xc_ ((Kd.C_below HR2.out HB.out)))
        (case side6 => exact HC2.out)
        rintro e w28 ⟨rfl, hb⟩
        refine ⟨_, rfl, ?_⟩
        replace BK441 := xbb_ BK441 hb
        replace HB := xws_ HB hb
        (try clear hb)
        refine ⟨⟨xk_ BK441 0, xk_ BK441 1, xk_ BK441 2, xk_ BK441 3, xk_ BK441 4, xk_ BK441 5, xk_ BK441 6, xk_ BK441 7, ((HB.out.cell (World.block_lt_of_cell? w _ hw443_0)).trans hw443_0), ((HB.out.cell (World.block_lt_of_cell? w _ hw443_1)).trans hw443_1), ((HB.out.cell (World.block_lt_of_cell? w _ hw443_2)).trans hw443_2), ((HB.out.cell (World.block_lt_of_cell? w _ hw443_3)).trans hw443_3), ((HB.out.cell (World.block_lt_of_cell? w _ hw443_4)).trans hw443_4), ((HB.out.cell (World.block_lt_of_cell? w _ hw443_5)).trans hw443_5), ((HB.out.cell (World.block_lt_of_cell? w _ hw443_6)).trans hw443_6), ((HB.out.cell (World.block_lt_of_cell? w _ hw443_7)).trans hw443_7)⟩, fun hHeld => ?_⟩
        refine mn_ 24 ?_
        refine mp_ 8 25 ?_
        refine mp_ 9 26 ?_
        refine mp_ 10 27 ?_
        refine mp_ 11 28 ?_
        refine mp_ 12 29 ?_
        refine mp_ 13 30 ?_
        refine mp_ 14 31 ?_
        refine mp_ 16 33 ?_
        refine mp_ 17 34 ?_
        refine mp_ 18 35 ?_
        refine mp_ 19 36 ?_
        refine mp_ 20 37 ?_
        refine mt_ 15 32 hHeld ?_
        refine mt_ 21 38 hHeld ?_
        refine mp_ 22 39 ?_
        refine mp_ 23 40 ?_
        refine mp_ 24 41 ?_
        refine done_ (done_of HT_.out (by kernel_rfl)) ?_
        try go_wp2
        go_roundg k1
        case measure => have := HK1.out; omega
        case rel => exact ⟨(x7_1), (wrap64 (x12_1 + 1)), me_, me_, H', ⟨by have := HK1.out; omega⟩, ⟨xw_ HB⟩⟩
     ·replace c9 := Bool.eq_false_iff.mpr c9
      subst c9
      rw [if_neg (show ¬ (false = true) by decide)] at H
      have H' := Aside0.mk H
      clear H
      have p440 : 0 ≤ (x12_1 : Int) := md_
      have q440 : x12_1 < (l0.length : Int) := md_
      obtain ⟨ad440, A440_1, c440_1, A440_4, c440_4, e440, hx440_0, hx440_1, hx440_2, hx440_3, hx440_4, hx440_5, hx440_6, hx440_7, hl440_1, hi440_1, hl440_4, hi440_4⟩ := at_T71 HR0.out x12_1 p440 q440
      cases e440
      (try replace hx440_0 := (HB.out.cell (World.block_lt_of_cell? w _ hx440_0)).trans hx440_0)
      (try replace hx440_1 := (HB.out.cell (World.block_lt_of_cell? w _ hx440_1)).trans hx440_1)
      (try replace hx440_2 := (HB.out.cell (World.block_lt_of_cell? w _ hx440_2)).trans hx440_2)
      (try replace hx440_3 := (HB.out.cell (World.block_lt_of_cell? w _ hx440_3)).trans hx440_3)
      (try replace hx440_4 := (HB.out.cell (World.block_lt_of_cell? w _ hx440_4)).trans hx440_4)
      (try replace hx440_5 := (HB.out.cell (World.block_lt_of_cell? w _ hx440_5)).trans hx440_5)
      (try replace hx440_6 := (HB.out.cell (World.block_lt_of_cell? w _ hx440_6)).trans hx440_6)
      (try replace hx440_7 := (HB.out.cell (World.block_lt_of_cell? w _ hx440_7)).trans hx440_7)
      have HR440_1 := Aside0.mk hi440_1
      have HC440_1 := Aside0.mk hl440_1
      clear hi440_1 hl440_1
      have HR440_4 := Aside0.mk hi440_4
      have HC440_4 := Aside0.mk hl440_4
      clear hi440_4 hl440_4
      replace p440 := eq_true p440
      replace q440 := eq_true q440
      try go_wp2_with (first | ((with_reducible refine gd_ 9 ?_); refine xbe_ (N := 9) (cs := #[.string (⟨#[]⟩ : ByteArray), .slice none 0 0, .int .i64 0, .string (⟨#[]⟩ : ByteArray), .slice none 0 0, .string (⟨#[]⟩ : ByteArray), .int .i64 0, .int .i64 0]) (t := 71) ?_; intro gb441 hg w29 hbox hb; have BK441 := Aside0.mk (hbox); have GE441 := xge_ HB hg; replace HB := xws_ HB hb; clear hb hbox hg; have ⟨_, _, _, _, _, _, _, _, _, _, _, _, _, _, _, _⟩ := c8_ BK441))
      have n0_ : Aside0 (((((((((w29.setCell ⟨gb441, 0, none⟩ (.string ((rd_T71 l0 x12_1).f0))).setCell ⟨gb441, 1, none⟩ (.slice A440_1 ((rd_T71 l0 x12_1).f1).length c440_1)).setCell ⟨gb441, 2, none⟩ (.int .i64 ((rd_T71 l0 x12_1).f2.f0.f0))).setCell ⟨gb441, 3, none⟩ (.string ((rd_T71 l0 x12_1).f2.f0.f1))).setCell ⟨gb441, 4, none⟩ (.slice A440_4 ((rd_T71 l0 x12_1).f2.f0.f2).length c440_4)).setCell ⟨gb441, 5, none⟩ (.string ((rd_T71 l0 x12_1).f2.f0.f3))).setCell ⟨gb441, 6, none⟩ (.int .i64 ((rd_T71 l0 x12_1).f2.f1))).setCell ⟨gb441, 7, none⟩ (.int .i64 ((rd_T71 l0 x12_1).f2.f2))).heap[gb441]? = some (.cells #[.string ((rd_T71 l0 x12_1).f0), .slice A440_1 ((rd_T71 l0 x12_1).f1).length c440_1, .int .i64 ((rd_T71 l0 x12_1).f2.f0.f0), .string ((rd_T71 l0 x12_1).f2.f0.f1), .slice A440_4 ((rd_T71 l0 x12_1).f2.f0.f2).length c440_4, .string ((rd_T71 l0 x12_1).f2.f0.f3), .int .i64 ((rd_T71 l0 x12_1).f2.f1), .int .i64 ((rd_T71 l0 x12_1).f2.f2)] 71 (0, 0))) := ⟨mx_ BK441⟩
      have n1_ : Aside0 (Below w.heap.size w ((((((((w29.setCell ⟨gb441, 0, none⟩ (.string ((rd_T71 l0 x12_1).f0))).setCell ⟨gb441, 1, none⟩ (.slice A440_1 ((rd_T71 l0 x12_1).f1).length c440_1)).setCell ⟨gb441, 2, none⟩ (.int .i64 ((rd_T71 l0 x12_1).f2.f0.f0))).setCell ⟨gb441, 3, none⟩ (.string ((rd_T71 l0 x12_1).f2.f0.f1))).setCell ⟨gb441, 4, none⟩ (.slice A440_4 ((rd_T71 l0 x12_1).f2.f0.f2).length c440_4)).setCell ⟨gb441, 5, none⟩ (.string ((rd_T71 l0 x12_1).f2.f0.f3))).setCell ⟨gb441, 6, none⟩ (.int .i64 ((rd_T71 l0 x12_1).f2.f1))).setCell ⟨gb441, 7, none⟩ (.int .i64 ((rd_T71 l0 x12_1).f2.f2)))) := ⟨xw_ HB⟩
      (try clear BK441)
      (try clear HB)
      generalize ((((((((w29.setCell ⟨gb441, 0, none⟩ (.string ((rd_T71 l0 x12_1).f0))).setCell ⟨gb441, 1, none⟩ (.slice A440_1 ((rd_T71 l0 x12_1).f1).length c440_1)).setCell ⟨gb441, 2, none⟩ (.int .i64 ((rd_T71 l0 x12_1).f2.f0.f0))).setCell ⟨gb441, 3, none⟩ (.string ((rd_T71 l0 x12_1).f2.f0.f1))).setCell ⟨gb441, 4, none⟩ (.slice A440_4 ((rd_T71 l0 x12_1).f2.f0.f2).length c440_4)).setCell ⟨gb441, 5, none⟩ (.string ((rd_T71 l0 x12_1).f2.f0.f3))).setCell ⟨gb441, 6, none⟩ (.int .i64 ((rd_T71 l0 x12_1).f2.f1))).setCell ⟨gb441, 7, none⟩ (.int .i64 ((rd_T71 l0 x12_1).f2.f2))) = w31 at n0_ n1_ ⊢
      have BK441 := n0_
      have HB := n1_
      clear n0_ n1_
      replace BK441 := Aside0.mk (blk_drew BK441.out)
      replace HB := Aside0.mk (below_drew1 HB.out)
      refine ms_ 25 (fun w' => w'.cell? ⟨gb441, 0, none⟩ = some (.string ((rd_T71 l0 x12_1).f0)) ∧ w'.cell? ⟨gb441, 1, none⟩ = some (.slice A440_1 ((rd_T71 l0 x12_1).f1).length c440_1) ∧ w'.cell? ⟨gb441, 2, none⟩ = some (.int .i64 ((rd_T71 l0 x12_1).f2.f0.f0)) ∧ w'.cell? ⟨gb441, 3, none⟩ = some (.string ((rd_T71 l0 x12_1).f2.f0.f1)) ∧ w'.cell? ⟨gb441, 4, none⟩ = some (.slice A440_4 ((rd_T71 l0 x12_1).f2.f0.f2).length c440_4) ∧ w'.cell? ⟨gb441, 5, none⟩ = some (.string ((rd_T71 l0 x12_1).f2.f0.f3)) ∧ w'.cell? ⟨gb441, 6, none⟩ = some (.int .i64 ((rd_T71 l0 x12_1).f2.f1)) ∧ w'.cell? ⟨gb441, 7, none⟩ = some (.int .i64 ((rd_T71 l0 x12_1).f2.f2))) impl_pick.tab5 impl_pick.bits5 ⟨xk_ BK441 0, xk_ BK441 1, xk_ BK441 2, xk_ BK441 3, xk_ BK441 4, xk_ BK441 5, xk_ BK441 6, xk_ BK441 7⟩ (fun hHeld HT_ HW_ => ?_)
      generalize w31.drew = w32 at BK441 HB hHeld ⊢
      refine mp_ 0 17 ?_
      refine mp_ 2 19 ?_
      refine mt_ 1 18 hHeld ?_
      refine mp_ 3 20 ?_
      refine mp_ 4 21 ?_
      refine mp_ 6 23 ?_
      refine mt_ 5 22 hHeld ?_
      refine m1_ 7 24 Tryz.func58 #[.agg #[.string ((rd_T71 l0 x12_1).f0), .slice A440_1 ((rd_T71 l0 x12_1).f1).length c440_1, .int .i64 ((rd_T71 l0 x12_1).f2.f0.f0), .string ((rd_T71 l0 x12_1).f2.f0.f1), .slice A440_4 ((rd_T71 l0 x12_1).f2.f0.f2).length c440_4, .string ((rd_T71 l0 x12_1).f2.f0.f3), .int .i64 ((rd_T71 l0 x12_1).f2.f1), .int .i64 ((rd_T71 l0 x12_1).f2.f2)], .slice A2 l2.length c2] ?_
      with_reducible refine (impl_Item_matches.calls k1 ((rd_T71 l0 x12_1).f0) _ _ ((rd_T71 l0 x12_1).f1) ((rd_T71 l0 x12_1).f2.f0.f0) ((rd_T71 l0 x12_1).f2.f0.f1) _ _ ((rd_T71 l0 x12_1).f2.f0.f2) ((rd_T71 l0 x12_1).f2.f0.f3) ((rd_T71 l0 x12_1).f2.f1) ((rd_T71 l0 x12_1).f2.f2) _ _ l2 false _ ?side1 ?side2 ?side3 ?side4 ?side5 ?side6 A8.out).mono ?_
      (case side1 => exact xc_ ((Kd.C_below HR440_1.out HB.out)))
      (case side2 => exact HC440_1.out)
      (case side3 => exact xc_ ((Kd.C_below HR440_4.out HB.out)))
      (case side4 => exact HC440_4.out)
      (case side5 => exact xc_ ((Kd.C_below HR2.out HB.out)))
      (case side6 => exact HC2.out)
      rintro e w33 ⟨rfl, hb⟩
      refine ⟨_, rfl, ?_⟩
      replace BK441 := xbb_ BK441 hb
      replace HB := xws_ HB hb
      (try clear hb)
      refine ⟨⟨xk_ BK441 0, xk_ BK441 1, xk_ BK441 2, xk_ BK441 3, xk_ BK441 4, xk_ BK441 5, xk_ BK441 6, xk_ BK441 7⟩, fun hHeld => ?_⟩
      refine mn_ 24 ?_
      refine mp_ 8 25 ?_
      refine mp_ 9 26 ?_
      refine mu_ 10 27 ?_
      refine mu_ 11 28 ?_
      refine mu_ 12 29 ?_
      refine mu_ 13 30 ?_
      refine mu_ 14 31 ?_
      refine mu_ 15 32 ?_
      refine mu_ 16 33 ?_
      refine mu_ 17 34 ?_
      refine mu_ 18 35 ?_
      refine mu_ 19 36 ?_
      refine mu_ 20 37 ?_
      refine mu_ 21 38 ?_
      refine mu_ 22 39 ?_
      refine mu_ 23 40 ?_
      refine mp_ 24 41 ?_
      refine done_ (done_of HT_.out (by kernel_rfl)) ?_
      try go_wp2
      go_roundg k1
      case measure => have := HK1.out; omega
      case rel => exact ⟨(x7_1), (wrap64 (x12_1 + 1)), me_, me_, H', ⟨by have := HK1.out; omega⟩, ⟨xw_ HB⟩⟩
    ·rw [if_neg c7] at H
     have c7b0 : (((rd_T71 l0 x12_1).f0).toList == a1.toList) = false := beq_eq_false_iff_ne.mpr c7
     have c7b1 : (((rd_T71 l0 x12_1).f0).toList != a1.toList) = true := bne_iff_ne.mpr c7
     have H' := Aside0.mk H
     clear H
     have p440 : 0 ≤ (x12_1 : Int) := md_
     have q440 : x12_1 < (l0.length : Int) := md_
     obtain ⟨ad440, A440_1, c440_1, A440_4, c440_4, e440, hx440_0, hx440_1, hx440_2, hx440_3, hx440_4, hx440_5, hx440_6, hx440_7, hl440_1, hi440_1, hl440_4, hi440_4⟩ := at_T71 HR0.out x12_1 p440 q440
     cases e440
     (try replace hx440_0 := (HB.out.cell (World.block_lt_of_cell? w _ hx440_0)).trans hx440_0)
     (try replace hx440_1 := (HB.out.cell (World.block_lt_of_cell? w _ hx440_1)).trans hx440_1)
     (try replace hx440_2 := (HB.out.cell (World.block_lt_of_cell? w _ hx440_2)).trans hx440_2)
     (try replace hx440_3 := (HB.out.cell (World.block_lt_of_cell? w _ hx440_3)).trans hx440_3)
     (try replace hx440_4 := (HB.out.cell (World.block_lt_of_cell? w _ hx440_4)).trans hx440_4)
     (try replace hx440_5 := (HB.out.cell (World.block_lt_of_cell? w _ hx440_5)).trans hx440_5)
     (try replace hx440_6 := (HB.out.cell (World.block_lt_of_cell? w _ hx440_6)).trans hx440_6)
     (try replace hx440_7 := (HB.out.cell (World.block_lt_of_cell? w _ hx440_7)).trans hx440_7)
     have HR440_1 := Aside0.mk hi440_1
     have HC440_1 := Aside0.mk hl440_1
     clear hi440_1 hl440_1
     have HR440_4 := Aside0.mk hi440_4
     have HC440_4 := Aside0.mk hl440_4
     clear hi440_4 hl440_4
     replace p440 := eq_true p440
     replace q440 := eq_true q440
     try go_wp2_with (first | ((with_reducible refine gd_ 9 ?_); refine xbe_ (N := 9) (cs := #[.string (⟨#[]⟩ : ByteArray), .slice none 0 0, .int .i64 0, .string (⟨#[]⟩ : ByteArray), .slice none 0 0, .string (⟨#[]⟩ : ByteArray), .int .i64 0, .int .i64 0]) (t := 71) ?_; intro gb441 hg w34 hbox hb; have BK441 := Aside0.mk (hbox); have GE441 := xge_ HB hg; replace HB := xws_ HB hb; clear hb hbox hg; have ⟨_, _, _, _, _, _, _, _, _, _, _, _, _, _, _, _⟩ := c8_ BK441))
     have n0_ : Aside0 (((((((((w34.setCell ⟨gb441, 0, none⟩ (.string ((rd_T71 l0 x12_1).f0))).setCell ⟨gb441, 1, none⟩ (.slice A440_1 ((rd_T71 l0 x12_1).f1).length c440_1)).setCell ⟨gb441, 2, none⟩ (.int .i64 ((rd_T71 l0 x12_1).f2.f0.f0))).setCell ⟨gb441, 3, none⟩ (.string ((rd_T71 l0 x12_1).f2.f0.f1))).setCell ⟨gb441, 4, none⟩ (.slice A440_4 ((rd_T71 l0 x12_1).f2.f0.f2).length c440_4)).setCell ⟨gb441, 5, none⟩ (.string ((rd_T71 l0 x12_1).f2.f0.f3))).setCell ⟨gb441, 6, none⟩ (.int .i64 ((rd_T71 l0 x12_1).f2.f1))).setCell ⟨gb441, 7, none⟩ (.int .i64 ((rd_T71 l0 x12_1).f2.f2))).heap[gb441]? = some (.cells #[.string ((rd_T71 l0 x12_1).f0), .slice A440_1 ((rd_T71 l0 x12_1).f1).length c440_1, .int .i64 ((rd_T71 l0 x12_1).f2.f0.f0), .string ((rd_T71 l0 x12_1).f2.f0.f1), .slice A440_4 ((rd_T71 l0 x12_1).f2.f0.f2).length c440_4, .string ((rd_T71 l0 x12_1).f2.f0.f3), .int .i64 ((rd_T71 l0 x12_1).f2.f1), .int .i64 ((rd_T71 l0 x12_1).f2.f2)] 71 (0, 0))) := ⟨mx_ BK441⟩
     have n1_ : Aside0 (Below w.heap.size w ((((((((w34.setCell ⟨gb441, 0, none⟩ (.string ((rd_T71 l0 x12_1).f0))).setCell ⟨gb441, 1, none⟩ (.slice A440_1 ((rd_T71 l0 x12_1).f1).length c440_1)).setCell ⟨gb441, 2, none⟩ (.int .i64 ((rd_T71 l0 x12_1).f2.f0.f0))).setCell ⟨gb441, 3, none⟩ (.string ((rd_T71 l0 x12_1).f2.f0.f1))).setCell ⟨gb441, 4, none⟩ (.slice A440_4 ((rd_T71 l0 x12_1).f2.f0.f2).length c440_4)).setCell ⟨gb441, 5, none⟩ (.string ((rd_T71 l0 x12_1).f2.f0.f3))).setCell ⟨gb441, 6, none⟩ (.int .i64 ((rd_T71 l0 x12_1).f2.f1))).setCell ⟨gb441, 7, none⟩ (.int .i64 ((rd_T71 l0 x12_1).f2.f2)))) := ⟨xw_ HB⟩
     (try clear BK441)
     (try clear HB)
     generalize ((((((((w34.setCell ⟨gb441, 0, none⟩ (.string ((rd_T71 l0 x12_1).f0))).setCell ⟨gb441, 1, none⟩ (.slice A440_1 ((rd_T71 l0 x12_1).f1).length c440_1)).setCell ⟨gb441, 2, none⟩ (.int .i64 ((rd_T71 l0 x12_1).f2.f0.f0))).setCell ⟨gb441, 3, none⟩ (.string ((rd_T71 l0 x12_1).f2.f0.f1))).setCell ⟨gb441, 4, none⟩ (.slice A440_4 ((rd_T71 l0 x12_1).f2.f0.f2).length c440_4)).setCell ⟨gb441, 5, none⟩ (.string ((rd_T71 l0 x12_1).f2.f0.f3))).setCell ⟨gb441, 6, none⟩ (.int .i64 ((rd_T71 l0 x12_1).f2.f1))).setCell ⟨gb441, 7, none⟩ (.int .i64 ((rd_T71 l0 x12_1).f2.f2))) = w36 at n0_ n1_ ⊢
     have BK441 := n0_
     have HB := n1_
     clear n0_ n1_
     replace BK441 := Aside0.mk (blk_drew BK441.out)
     replace HB := Aside0.mk (below_drew1 HB.out)
     refine ms_ 25 (fun w' => w'.cell? ⟨gb441, 0, none⟩ = some (.string ((rd_T71 l0 x12_1).f0)) ∧ w'.cell? ⟨gb441, 1, none⟩ = some (.slice A440_1 ((rd_T71 l0 x12_1).f1).length c440_1) ∧ w'.cell? ⟨gb441, 2, none⟩ = some (.int .i64 ((rd_T71 l0 x12_1).f2.f0.f0)) ∧ w'.cell? ⟨gb441, 3, none⟩ = some (.string ((rd_T71 l0 x12_1).f2.f0.f1)) ∧ w'.cell? ⟨gb441, 4, none⟩ = some (.slice A440_4 ((rd_T71 l0 x12_1).f2.f0.f2).length c440_4) ∧ w'.cell? ⟨gb441, 5, none⟩ = some (.string ((rd_T71 l0 x12_1).f2.f0.f3)) ∧ w'.cell? ⟨gb441, 6, none⟩ = some (.int .i64 ((rd_T71 l0 x12_1).f2.f1)) ∧ w'.cell? ⟨gb441, 7, none⟩ = some (.int .i64 ((rd_T71 l0 x12_1).f2.f2))) impl_pick.tab5 impl_pick.bits5 ⟨xk_ BK441 0, xk_ BK441 1, xk_ BK441 2, xk_ BK441 3, xk_ BK441 4, xk_ BK441 5, xk_ BK441 6, xk_ BK441 7⟩ (fun hHeld HT_ HW_ => ?_)
     generalize w36.drew = w37 at BK441 HB hHeld ⊢
     refine mp_ 0 17 ?_
     refine mp_ 2 19 ?_
     refine mt_ 1 18 hHeld ?_
     refine mp_ 3 20 ?_
     refine mp_ 4 21 ?_
     refine mu_ 5 22 ?_
     refine mu_ 6 23 ?_
     refine mu_ 7 24 ?_
     refine mp_ 8 25 ?_
     refine mp_ 9 26 ?_
     refine mu_ 10 27 ?_
     refine mu_ 11 28 ?_
     refine mu_ 12 29 ?_
     refine mu_ 13 30 ?_
     refine mu_ 14 31 ?_
     refine mu_ 15 32 ?_
     refine mu_ 16 33 ?_
     refine mu_ 17 34 ?_
     refine mu_ 18 35 ?_
     refine mu_ 19 36 ?_
     refine mu_ 20 37 ?_
     refine mu_ 21 38 ?_
     refine mu_ 22 39 ?_
     refine mu_ 23 40 ?_
     refine mp_ 24 41 ?_
     refine done_ (done_of HT_.out (by kernel_rfl)) ?_
     try go_wp2
     go_roundg k1
     case measure => have := HK1.out; omega
     case rel => exact ⟨(x7_1), (wrap64 (x12_1 + 1)), me_, me_, H', ⟨by have := HK1.out; omega⟩, ⟨xw_ HB⟩⟩
   ·rw [if_neg c4] at H
    have c4b0 := decide_eq_false c4
    clear c4
    obtain rfl := Option.some.inj H
    go_wp2
    go_ret
    exact ⟨mf_, xw_ HB⟩

end Go.Proofs.YtpggepjfhgalkaaGreatDoor.PFnExactPickItem
