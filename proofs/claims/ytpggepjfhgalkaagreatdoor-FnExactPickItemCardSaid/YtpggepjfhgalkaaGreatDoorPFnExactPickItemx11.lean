-- Written by a program of this project (xprint.py) out of the translation; Lean checks it.
import Derived.Test.YtpggepjfhgalkaaGreatDoorPFnExactPickItemx0
import Derived.Test.YtpggepjfhgalkaaGreatDoorPFnExactPickItemx10
namespace Go.Proofs.YtpggepjfhgalkaaGreatDoor.PFnExactPickItem
open Go.RowKit Go.Proofs.YtpggepjfhgalkaaGreatDoorW.PrintWords Go.Proofs.YtpggepjfhgalkaaGreatDoorW.PrintLast Go.Proofs.YtpggepjfhgalkaaGreatDoorW.PrintMore
attribute [local go_sem] max2_int min2_int max_two min_two max_three min_three max_four min_four   -- for this text's walks alone
set_option linter.unusedVariables false
set_option linter.unusedSimpArgs false

/-! ### spec_l9Pick: function 44 -/
def spec_l9Pick.l0 : Nat → List (S71) → ByteArray → Int → List (S71) → Int → Int → ByteArray → ByteArray → List (S105) → ByteArray → Option (Int × Bool)
 | 0, _, _, _, _, _, _, _, _, _, _ => none
 | k + 1, x0, x1, x8, x11, x12, x13, x286000, x286001, x286002, x286003 => if x13 < x12 then (if 0 ≤ x13 then (if x13 < (x11.length : Int) then (if ((rd_T71 x11 x13).f0).toList = x1.toList then ((spec_l9Matches.f k ((rd_T71 x11 x13).f0) ((rd_T71 x11 x13).f1) ((rd_T71 x11 x13).f2.f0.f0) ((rd_T71 x11 x13).f2.f0.f1) ((rd_T71 x11 x13).f2.f0.f2) ((rd_T71 x11 x13).f2.f0.f3) ((rd_T71 x11 x13).f2.f1) ((rd_T71 x11 x13).f2.f2) x286002).bind fun t288 => (if t288 = true then (if x8 < 0 then (spec_l9Pick.l0 k x0 x1 x13 x11 x12 (wrap64 (x13 + 1)) x286000 x286001 x286002 x286003) else (if 0 ≤ x8 then (if x8 < (x0.length : Int) then (if ((rd_T71 x11 x13).f2.f2) > ((rd_T71 x0 x8).f2.f2) then (spec_l9Pick.l0 k x0 x1 x13 x11 x12 (wrap64 (x13 + 1)) x286000 x286001 x286002 x286003) else (spec_l9Pick.l0 k x0 x1 x8 x11 x12 (wrap64 (x13 + 1)) x286000 x286001 x286002 x286003)) else (none)) else (none))) else (spec_l9Pick.l0 k x0 x1 x8 x11 x12 (wrap64 (x13 + 1)) x286000 x286001 x286002 x286003))) else (spec_l9Pick.l0 k x0 x1 x8 x11 x12 (wrap64 (x13 + 1)) x286000 x286001 x286002 x286003)) else (none)) else (none)) else (if x8 < 0 then (some (0, false)) else (some (x8, true)))
def spec_l9Pick.f (k : Nat) (l0 : List (S71)) (a1 : ByteArray) (a2_0 : ByteArray) (a2_1 : ByteArray) (l2_2 : List (S105)) (a2_3 : ByteArray) : Option (Int × Bool) := spec_l9Pick.l0 k l0 a1 (-1) l0 (l0.length : Int) 0 a2_0 a2_1 l2_2 a2_3
def spec_l9Pick.T5 : Bool × List (List Nat × List Nat) := (true, [([], []), ([0], [0]), ([], []), ([1, 2], [1, 2]), ([3], [3]), ([4], [4]), ([4], [4]), ([6, 4], [4, 6]), ([5, 7, 4, 4], [4, 5, 7]), ([4, 8], [4, 8]), ([9, 8], [9]), ([10], [10]), ([11, 10], [10, 11]), ([12, 10, 10], [10, 12]), ([13], [13]), ([14, 13], [13, 14]), ([15, 13], [13, 15]), ([13], [13]), ([13], [13]), ([17, 18, 13], [13, 17, 18]), ([19, 13], [13, 19]), ([20, 13], [13, 20]), ([21, 13], [13, 21]), ([16, 22, 13], [13, 16, 22]), ([13, 23, 10], [10, 13, 23]), ([10, 24], [10, 24])])
def spec_l9Pick.B5 : List Nat := [0, 1, 0, 7, 15, 31, 31, 95, 255, 511, 1023, 2047, 4095, 8191, 16383, 32767, 65535, 16383, 16383, 409599, 933887, 1982463, 4079615, 8388607, 16777215, 33554431]
theorem spec_l9Pick.tab5 : rtab .any (opsOf Tryz.f44 5) = spec_l9Pick.T5 := by kernel_rfl
theorem spec_l9Pick.bits5 : waitsOk spec_l9Pick.T5.2 spec_l9Pick.B5 = true := by kernel_rfl
set_option maxHeartbeats 8000000 in
set_option maxRecDepth 100000 in
theorem spec_l9Pick.calls (k : Nat) (A0 : Option Addr) (c0 : Nat) (l0 : List (S71)) (a1 : ByteArray) (a2_0 : ByteArray) (a2_1 : ByteArray) (A2_2 : Option Addr) (c2_2 : Nat) (l2_2 : List (S105)) (a2_3 : ByteArray) (r1 : Int) (r2 : Bool) (w : World) (hr0 : Kd.C k71 w A0 l0.length l0) (hc0 : l0.length ≤ c0) (hr2_2 : Kd.C k105 w A2_2 l2_2.length l2_2) (hc2_2 : l2_2.length ≤ c2_2) (h : spec_l9Pick.f k l0 a1 a2_0 a2_1 l2_2 a2_3 = some (r1, r2)) :
  Calls Tryz.prog 44 #[.slice A0 l0.length c0, .string a1, .agg #[.string a2_0, .string a2_1, .slice A2_2 l2_2.length c2_2, .string a2_3]] w fun e w' => e = .returned (.tuple #[.int .i64 r1, .bool r2]) ∧ Below w.heap.size w w' := by
 have hu35 := Tryz.underlying35
 have hu71 := Tryz.underlying71
 have HR0 := Aside0.mk hr0
 have HC0 := Aside0.mk hc0
 clear hr0 hc0
 have HR2_2 := Aside0.mk hr2_2
 have HC2_2 := Aside0.mk hc2_2
 clear hr2_2 hc2_2
 have HB := Aside0.mk (Below.refl w.heap.size w)
 have H := h
 unfold spec_l9Pick.f at H
 clear h
 have H' := Aside0.mk H
 clear H
 go_enter Tryz.func44, Tryz.ntmps44
 go_wp2_with (first | ((with_reducible refine gd_ 5 ?_); refine xbe_ (N := 5) (cs := #[.string a2_0, .string a2_1, .slice A2_2 l2_2.length c2_2, .string a2_3]) (t := 35) ?_; intro gb285 hg w4 hbox hb; have BK285 := Aside0.mk (hbox); have GE285 := xge_ HB hg; replace HB := xws_ HB hb; clear hb hbox hg))
 go_loopg [8, 13] k (fun kq v8 v13 w' => ∃ (x8_1 : Int) (x13_1 : Int), v8 = .int .i64 x8_1 ∧ v13 = .int .i64 x13_1 ∧ Aside0 (spec_l9Pick.l0 kq l0 a1 x8_1 l0 (l0.length : Int) x13_1 a2_0 a2_1 l2_2 a2_3 = some (r1, r2)) ∧ Aside0 (kq ≤ k) ∧ Aside0 (w'.heap[gb285]? = some (.cells #[.string a2_0, .string a2_1, (.slice A2_2 l2_2.length c2_2), .string a2_3] 35 (0, 0))) ∧ Aside0 (Below w.heap.size w w'))
 case atStart => exact ⟨((-1)), (0), me_, me_, H', ⟨Nat.le_refl _⟩, ⟨xb_ BK285⟩, ⟨xw_ HB⟩⟩
 case round =>
  clear H'
  obtain ⟨x8_1, x13_1, rfl, rfl, HA, HK1, BK285, HB⟩ := hrel
  cases gk with
  | zero => exact absurd HA.out (by simp [spec_l9Pick.l0])
  | succ k1 =>
   have H := HA.out
   clear HA
   simp only [spec_l9Pick.l0] at H
   by_cases c5 : x13_1 < (l0.length : Int)
   ·rw [if_pos c5] at H
    have c5b0 := decide_eq_true c5
    clear c5
    replace H := mi_ H
    obtain ⟨c6, H⟩ := H
    have c6b0 := decide_eq_true c6
    clear c6
    replace H := mi_ H
    obtain ⟨c7, H⟩ := H
    have c7b0 := decide_eq_true c7
    clear c7
    by_cases c8 : ((rd_T71 l0 x13_1).f0).toList = a1.toList
    ·rw [if_pos c8] at H
     have c8b0 : (((rd_T71 l0 x13_1).f0).toList == a1.toList) = true := beq_iff_eq.mpr c8
     have c8b1 : (((rd_T71 l0 x13_1).f0).toList != a1.toList) = false := bne_eq_false_iff_eq.mpr c8
     clear c8
     replace H := mb_ H
     obtain ⟨t288, A9, H⟩ := H
     by_cases c10 : t288 = true
     ·subst c10
      rw [if_pos rfl] at H
      by_cases c11 : x8_1 < 0
      ·rw [if_pos c11] at H
       have c11b0 := decide_eq_true c11
       clear c11
       have H' := Aside0.mk H
       clear H
       have p286 : 0 ≤ (x13_1 : Int) := md_
       have q286 : x13_1 < (l0.length : Int) := md_
       obtain ⟨ad286, A286_1, c286_1, A286_4, c286_4, e286, hx286_0, hx286_1, hx286_2, hx286_3, hx286_4, hx286_5, hx286_6, hx286_7, hl286_1, hi286_1, hl286_4, hi286_4⟩ := at_T71 HR0.out x13_1 p286 q286
       cases e286
       (try replace hx286_0 := (HB.out.cell (World.block_lt_of_cell? w _ hx286_0)).trans hx286_0)
       (try replace hx286_1 := (HB.out.cell (World.block_lt_of_cell? w _ hx286_1)).trans hx286_1)
       (try replace hx286_2 := (HB.out.cell (World.block_lt_of_cell? w _ hx286_2)).trans hx286_2)
       (try replace hx286_3 := (HB.out.cell (World.block_lt_of_cell? w _ hx286_3)).trans hx286_3)
       (try replace hx286_4 := (HB.out.cell (World.block_lt_of_cell? w _ hx286_4)).trans hx286_4)
       (try replace hx286_5 := (HB.out.cell (World.block_lt_of_cell? w _ hx286_5)).trans hx286_5)
       (try replace hx286_6 := (HB.out.cell (World.block_lt_of_cell? w _ hx286_6)).trans hx286_6)
       (try replace hx286_7 := (HB.out.cell (World.block_lt_of_cell? w _ hx286_7)).trans hx286_7)
       have HR286_1 := Aside0.mk hi286_1
       have HC286_1 := Aside0.mk hl286_1
       clear hi286_1 hl286_1
       have HR286_4 := Aside0.mk hi286_4
       have HC286_4 := Aside0.mk hl286_4
       clear hi286_4 hl286_4
       replace p286 := eq_true p286
       replace q286 := eq_true q286
       try go_wp2_with (first | ((with_reducible refine gd_ 10 ?_); refine xbe_ (N := 10) (cs := #[.string (⟨#[]⟩ : ByteArray), .slice none 0 0, .int .i64 0, .string (⟨#[]⟩ : ByteArray), .slice none 0 0, .string (⟨#[]⟩ : ByteArray), .int .i64 0, .int .i64 0]) (t := 71) ?_; intro gb287 hg w12 hbox hb; have BK287 := Aside0.mk (hbox); have GE287 := xge_ HB hg; replace HB := xws_ HB hb; have NB285_287 := xlt_ BK285 hg; have NB287_285 := xgt_ BK285 hg; replace BK285 := xbb_ BK285 hb; clear hb hbox hg; have hnb13 := NB287_285.out; have hnc13 := NB285_287.out; have ⟨_, _, _, _, _, _, _, _, _, _, _, _, _, _, _, _⟩ := c8_ BK287))
       have n0_ : Aside0 (((((((((w12.setCell ⟨gb287, 0, none⟩ (.string ((rd_T71 l0 x13_1).f0))).setCell ⟨gb287, 1, none⟩ (.slice A286_1 ((rd_T71 l0 x13_1).f1).length c286_1)).setCell ⟨gb287, 2, none⟩ (.int .i64 ((rd_T71 l0 x13_1).f2.f0.f0))).setCell ⟨gb287, 3, none⟩ (.string ((rd_T71 l0 x13_1).f2.f0.f1))).setCell ⟨gb287, 4, none⟩ (.slice A286_4 ((rd_T71 l0 x13_1).f2.f0.f2).length c286_4)).setCell ⟨gb287, 5, none⟩ (.string ((rd_T71 l0 x13_1).f2.f0.f3))).setCell ⟨gb287, 6, none⟩ (.int .i64 ((rd_T71 l0 x13_1).f2.f1))).setCell ⟨gb287, 7, none⟩ (.int .i64 ((rd_T71 l0 x13_1).f2.f2))).heap[gb285]? = some (.cells #[.string a2_0, .string a2_1, .slice A2_2 l2_2.length c2_2, .string a2_3] 35 (0, 0))) := ⟨mx_ BK285⟩
       have n1_ : Aside0 (((((((((w12.setCell ⟨gb287, 0, none⟩ (.string ((rd_T71 l0 x13_1).f0))).setCell ⟨gb287, 1, none⟩ (.slice A286_1 ((rd_T71 l0 x13_1).f1).length c286_1)).setCell ⟨gb287, 2, none⟩ (.int .i64 ((rd_T71 l0 x13_1).f2.f0.f0))).setCell ⟨gb287, 3, none⟩ (.string ((rd_T71 l0 x13_1).f2.f0.f1))).setCell ⟨gb287, 4, none⟩ (.slice A286_4 ((rd_T71 l0 x13_1).f2.f0.f2).length c286_4)).setCell ⟨gb287, 5, none⟩ (.string ((rd_T71 l0 x13_1).f2.f0.f3))).setCell ⟨gb287, 6, none⟩ (.int .i64 ((rd_T71 l0 x13_1).f2.f1))).setCell ⟨gb287, 7, none⟩ (.int .i64 ((rd_T71 l0 x13_1).f2.f2))).heap[gb287]? = some (.cells #[.string ((rd_T71 l0 x13_1).f0), .slice A286_1 ((rd_T71 l0 x13_1).f1).length c286_1, .int .i64 ((rd_T71 l0 x13_1).f2.f0.f0), .string ((rd_T71 l0 x13_1).f2.f0.f1), .slice A286_4 ((rd_T71 l0 x13_1).f2.f0.f2).length c286_4, .string ((rd_T71 l0 x13_1).f2.f0.f3), .int .i64 ((rd_T71 l0 x13_1).f2.f1), .int .i64 ((rd_T71 l0 x13_1).f2.f2)] 71 (0, 0))) := ⟨mx_ BK287⟩
       have n2_ : Aside0 (Below w.heap.size w ((((((((w12.setCell ⟨gb287, 0, none⟩ (.string ((rd_T71 l0 x13_1).f0))).setCell ⟨gb287, 1, none⟩ (.slice A286_1 ((rd_T71 l0 x13_1).f1).length c286_1)).setCell ⟨gb287, 2, none⟩ (.int .i64 ((rd_T71 l0 x13_1).f2.f0.f0))).setCell ⟨gb287, 3, none⟩ (.string ((rd_T71 l0 x13_1).f2.f0.f1))).setCell ⟨gb287, 4, none⟩ (.slice A286_4 ((rd_T71 l0 x13_1).f2.f0.f2).length c286_4)).setCell ⟨gb287, 5, none⟩ (.string ((rd_T71 l0 x13_1).f2.f0.f3))).setCell ⟨gb287, 6, none⟩ (.int .i64 ((rd_T71 l0 x13_1).f2.f1))).setCell ⟨gb287, 7, none⟩ (.int .i64 ((rd_T71 l0 x13_1).f2.f2)))) := ⟨xw_ HB⟩
       (try clear BK285)
       (try clear BK287)
       (try clear HB)
       generalize ((((((((w12.setCell ⟨gb287, 0, none⟩ (.string ((rd_T71 l0 x13_1).f0))).setCell ⟨gb287, 1, none⟩ (.slice A286_1 ((rd_T71 l0 x13_1).f1).length c286_1)).setCell ⟨gb287, 2, none⟩ (.int .i64 ((rd_T71 l0 x13_1).f2.f0.f0))).setCell ⟨gb287, 3, none⟩ (.string ((rd_T71 l0 x13_1).f2.f0.f1))).setCell ⟨gb287, 4, none⟩ (.slice A286_4 ((rd_T71 l0 x13_1).f2.f0.f2).length c286_4)).setCell ⟨gb287, 5, none⟩ (.string ((rd_T71 l0 x13_1).f2.f0.f3))).setCell ⟨gb287, 6, none⟩ (.int .i64 ((rd_T71 l0 x13_1).f2.f1))).setCell ⟨gb287, 7, none⟩ (.int .i64 ((rd_T71 l0 x13_1).f2.f2))) = w15 at n0_ n1_ n2_ ⊢
       have BK285 := n0_
       have BK287 := n1_
       have HB := n2_
       clear n0_ n1_ n2_
       replace BK285 := Aside0.mk (blk_drew BK285.out)
       replace BK287 := Aside0.mk (blk_drew BK287.out)
       replace HB := Aside0.mk (below_drew1 HB.out)
       refine ms_ 26 (fun w' => w'.cell? ⟨gb287, 0, none⟩ = some (.string ((rd_T71 l0 x13_1).f0)) ∧ w'.cell? ⟨gb287, 1, none⟩ = some (.slice A286_1 ((rd_T71 l0 x13_1).f1).length c286_1) ∧ w'.cell? ⟨gb287, 2, none⟩ = some (.int .i64 ((rd_T71 l0 x13_1).f2.f0.f0)) ∧ w'.cell? ⟨gb287, 3, none⟩ = some (.string ((rd_T71 l0 x13_1).f2.f0.f1)) ∧ w'.cell? ⟨gb287, 4, none⟩ = some (.slice A286_4 ((rd_T71 l0 x13_1).f2.f0.f2).length c286_4) ∧ w'.cell? ⟨gb287, 5, none⟩ = some (.string ((rd_T71 l0 x13_1).f2.f0.f3)) ∧ w'.cell? ⟨gb287, 6, none⟩ = some (.int .i64 ((rd_T71 l0 x13_1).f2.f1)) ∧ w'.cell? ⟨gb287, 7, none⟩ = some (.int .i64 ((rd_T71 l0 x13_1).f2.f2)) ∧ w'.cell? ⟨gb285, 0, none⟩ = some (.string a2_0) ∧ w'.cell? ⟨gb285, 1, none⟩ = some (.string a2_1) ∧ w'.cell? ⟨gb285, 2, none⟩ = some (.slice A2_2 l2_2.length c2_2) ∧ w'.cell? ⟨gb285, 3, none⟩ = some (.string a2_3)) spec_l9Pick.tab5 spec_l9Pick.bits5 ⟨xk_ BK287 0, xk_ BK287 1, xk_ BK287 2, xk_ BK287 3, xk_ BK287 4, xk_ BK287 5, xk_ BK287 6, xk_ BK287 7, xk_ BK285 0, xk_ BK285 1, xk_ BK285 2, xk_ BK285 3⟩ (fun hHeld HT_ HW_ => ?_)
       generalize w15.drew = w16 at BK285 BK287 HB hHeld ⊢
       refine mp_ 0 18 ?_
       refine mp_ 2 20 ?_
       refine mt_ 1 19 hHeld ?_
       refine mp_ 3 21 ?_
       refine mp_ 4 22 ?_
       refine mp_ 6 24 ?_
       refine mt_ 5 23 hHeld ?_
       refine mt_ 7 25 hHeld ?_
       refine m1_ 8 26 Tryz.func55 #[.agg #[.string ((rd_T71 l0 x13_1).f0), .slice A286_1 ((rd_T71 l0 x13_1).f1).length c286_1, .int .i64 ((rd_T71 l0 x13_1).f2.f0.f0), .string ((rd_T71 l0 x13_1).f2.f0.f1), .slice A286_4 ((rd_T71 l0 x13_1).f2.f0.f2).length c286_4, .string ((rd_T71 l0 x13_1).f2.f0.f3), .int .i64 ((rd_T71 l0 x13_1).f2.f1), .int .i64 ((rd_T71 l0 x13_1).f2.f2)], .slice A2_2 l2_2.length c2_2] ?_
       with_reducible refine (spec_l9Matches.calls k1 ((rd_T71 l0 x13_1).f0) _ _ ((rd_T71 l0 x13_1).f1) ((rd_T71 l0 x13_1).f2.f0.f0) ((rd_T71 l0 x13_1).f2.f0.f1) _ _ ((rd_T71 l0 x13_1).f2.f0.f2) ((rd_T71 l0 x13_1).f2.f0.f3) ((rd_T71 l0 x13_1).f2.f1) ((rd_T71 l0 x13_1).f2.f2) _ _ l2_2 true _ ?side1 ?side2 ?side3 ?side4 ?side5 ?side6 A9.out).mono ?_
       (case side1 => exact xc_ ((Kd.C_below HR286_1.out HB.out)))
       (case side2 => exact HC286_1.out)
       (case side3 => exact xc_ ((Kd.C_below HR286_4.out HB.out)))
       (case side4 => exact HC286_4.out)
       (case side5 => exact xc_ ((Kd.C_below HR2_2.out HB.out)))
       (case side6 => exact HC2_2.out)
       rintro e w17 ⟨rfl, hb⟩
       refine ⟨_, rfl, ?_⟩
       replace BK285 := xbb_ BK285 hb
       replace BK287 := xbb_ BK287 hb
       replace HB := xws_ HB hb
       (try clear hb)
       refine ⟨⟨xk_ BK287 0, xk_ BK287 1, xk_ BK287 2, xk_ BK287 3, xk_ BK287 4, xk_ BK287 5, xk_ BK287 6, xk_ BK287 7, xk_ BK285 0, xk_ BK285 1, xk_ BK285 2, xk_ BK285 3⟩, fun hHeld => ?_⟩
       refine mn_ 26 ?_
       refine mp_ 9 27 ?_
       refine mp_ 10 28 ?_
       refine mp_ 11 29 ?_
       refine mp_ 12 30 ?_
       refine mp_ 13 31 ?_
       refine mu_ 14 32 ?_
       refine mu_ 15 33 ?_
       refine mu_ 16 34 ?_
       refine mu_ 17 35 ?_
       refine mu_ 18 36 ?_
       refine mu_ 19 37 ?_
       refine mu_ 20 38 ?_
       refine mu_ 21 39 ?_
       refine mu_ 22 40 ?_
       refine mu_ 23 41 ?_
       refine mp_ 24 42 ?_
       refine mp_ 25 43 ?_
       refine done_ (done_of HT_.out (by kernel_rfl)) ?_
       try go_wp2
       go_roundg k1
       case measure => have := HK1.out; omega
       case rel => exact ⟨(x13_1), (wrap64 (x13_1 + 1)), me_, me_, H', ⟨by have := HK1.out; omega⟩, ⟨xb_ BK285⟩, ⟨xw_ HB⟩⟩
      ·rw [if_neg c11] at H
       have c11b0 := decide_eq_false c11
       clear c11
       replace H := mi_ H
       obtain ⟨c18, H⟩ := H
       have c18b0 := decide_eq_true c18
       clear c18
       replace H := mi_ H
       obtain ⟨c19, H⟩ := H
       have c19b0 := decide_eq_true c19
       clear c19
       by_cases c20 : ((rd_T71 l0 x13_1).f2.f2) > ((rd_T71 l0 x8_1).f2.f2)
       ·rw [if_pos c20] at H
        have c20b0 : decide (((rd_T71 l0 x8_1).f2.f2) < ((rd_T71 l0 x13_1).f2.f2)) = true := decide_eq_true c20
        clear c20
        have H' := Aside0.mk H
        clear H
        have p286 : 0 ≤ (x13_1 : Int) := md_
        have q286 : x13_1 < (l0.length : Int) := md_
        obtain ⟨ad286, A286_1, c286_1, A286_4, c286_4, e286, hx286_0, hx286_1, hx286_2, hx286_3, hx286_4, hx286_5, hx286_6, hx286_7, hl286_1, hi286_1, hl286_4, hi286_4⟩ := at_T71 HR0.out x13_1 p286 q286
        cases e286
        (try replace hx286_0 := (HB.out.cell (World.block_lt_of_cell? w _ hx286_0)).trans hx286_0)
        (try replace hx286_1 := (HB.out.cell (World.block_lt_of_cell? w _ hx286_1)).trans hx286_1)
        (try replace hx286_2 := (HB.out.cell (World.block_lt_of_cell? w _ hx286_2)).trans hx286_2)
        (try replace hx286_3 := (HB.out.cell (World.block_lt_of_cell? w _ hx286_3)).trans hx286_3)
        (try replace hx286_4 := (HB.out.cell (World.block_lt_of_cell? w _ hx286_4)).trans hx286_4)
        (try replace hx286_5 := (HB.out.cell (World.block_lt_of_cell? w _ hx286_5)).trans hx286_5)
        (try replace hx286_6 := (HB.out.cell (World.block_lt_of_cell? w _ hx286_6)).trans hx286_6)
        (try replace hx286_7 := (HB.out.cell (World.block_lt_of_cell? w _ hx286_7)).trans hx286_7)
        have HR286_1 := Aside0.mk hi286_1
        have HC286_1 := Aside0.mk hl286_1
        clear hi286_1 hl286_1
        have HR286_4 := Aside0.mk hi286_4
        have HC286_4 := Aside0.mk hl286_4
        clear hi286_4 hl286_4
        replace p286 := eq_true p286
        replace q286 := eq_true q286
        try go_wp2_with (first | ((with_reducible refine gd_ 10 ?_); refine xbe_ (N := 10) (cs := #[.string (⟨#[]⟩ : ByteArray), .slice none 0 0, .int .i64 0, .string (⟨#[]⟩ : ByteArray), .slice none 0 0, .string (⟨#[]⟩ : ByteArray), .int .i64 0, .int .i64 0]) (t := 71) ?_; intro gb287 hg w21 hbox hb; have BK287 := Aside0.mk (hbox); have GE287 := xge_ HB hg; replace HB := xws_ HB hb; have NB285_287 := xlt_ BK285 hg; have NB287_285 := xgt_ BK285 hg; replace BK285 := xbb_ BK285 hb; clear hb hbox hg; have hnb22 := NB287_285.out; have hnc22 := NB285_287.out; have ⟨_, _, _, _, _, _, _, _, _, _, _, _, _, _, _, _⟩ := c8_ BK287))
        have n0_ : Aside0 (((((((((w21.setCell ⟨gb287, 0, none⟩ (.string ((rd_T71 l0 x13_1).f0))).setCell ⟨gb287, 1, none⟩ (.slice A286_1 ((rd_T71 l0 x13_1).f1).length c286_1)).setCell ⟨gb287, 2, none⟩ (.int .i64 ((rd_T71 l0 x13_1).f2.f0.f0))).setCell ⟨gb287, 3, none⟩ (.string ((rd_T71 l0 x13_1).f2.f0.f1))).setCell ⟨gb287, 4, none⟩ (.slice A286_4 ((rd_T71 l0 x13_1).f2.f0.f2).length c286_4)).setCell ⟨gb287, 5, none⟩ (.string ((rd_T71 l0 x13_1).f2.f0.f3))).setCell ⟨gb287, 6, none⟩ (.int .i64 ((rd_T71 l0 x13_1).f2.f1))).setCell ⟨gb287, 7, none⟩ (.int .i64 ((rd_T71 l0 x13_1).f2.f2))).heap[gb285]? = some (.cells #[.string a2_0, .string a2_1, .slice A2_2 l2_2.length c2_2, .string a2_3] 35 (0, 0))) := ⟨mx_ BK285⟩
        have n1_ : Aside0 (((((((((w21.setCell ⟨gb287, 0, none⟩ (.string ((rd_T71 l0 x13_1).f0))).setCell ⟨gb287, 1, none⟩ (.slice A286_1 ((rd_T71 l0 x13_1).f1).length c286_1)).setCell ⟨gb287, 2, none⟩ (.int .i64 ((rd_T71 l0 x13_1).f2.f0.f0))).setCell ⟨gb287, 3, none⟩ (.string ((rd_T71 l0 x13_1).f2.f0.f1))).setCell ⟨gb287, 4, none⟩ (.slice A286_4 ((rd_T71 l0 x13_1).f2.f0.f2).length c286_4)).setCell ⟨gb287, 5, none⟩ (.string ((rd_T71 l0 x13_1).f2.f0.f3))).setCell ⟨gb287, 6, none⟩ (.int .i64 ((rd_T71 l0 x13_1).f2.f1))).setCell ⟨gb287, 7, none⟩ (.int .i64 ((rd_T71 l0 x13_1).f2.f2))).heap[gb287]? = some (.cells #[.string ((rd_T71 l0 x13_1).f0), .slice A286_1 ((rd_T71 l0 x13_1).f1).length c286_1, .int .i64 ((rd_T71 l0 x13_1).f2.f0.f0), .string ((rd_T71 l0 x13_1).f2.f0.f1), .slice A286_4 ((rd_T71 l0 x13_1).f2.f0.f2).length c286_4, .string ((rd_T71 l0 x13_1).f2.f0.f3), .int .i64 ((rd_T71 l0 x13_1).f2.f1), .int .i64 ((rd_T71 l0 x13_1).f2.f2)] 71 (0, 0))) := ⟨mx_ BK287⟩
        have n2_ : Aside0 (Below w.heap.size w ((((((((w21.setCell ⟨gb287, 0, none⟩ (.string ((rd_T71 l0 x13_1).f0))).setCell ⟨gb287, 1, none⟩ (.slice A286_1 ((rd_T71 l0 x13_1).f1).length c286_1)).setCell ⟨gb287, 2, none⟩ (.int .i64 ((rd_T71 l0 x13_1).f2.f0.f0))).setCell ⟨gb287, 3, none⟩ (.string ((rd_T71 l0 x13_1).f2.f0.f1))).setCell ⟨gb287, 4, none⟩ (.slice A286_4 ((rd_T71 l0 x13_1).f2.f0.f2).length c286_4)).setCell ⟨gb287, 5, none⟩ (.string ((rd_T71 l0 x13_1).f2.f0.f3))).setCell ⟨gb287, 6, none⟩ (.int .i64 ((rd_T71 l0 x13_1).f2.f1))).setCell ⟨gb287, 7, none⟩ (.int .i64 ((rd_T71 l0 x13_1).f2.f2)))) := ⟨xw_ HB⟩
        (try clear BK285)
        (try clear BK287)
        (try clear HB)
        generalize ((((((((w21.setCell ⟨gb287, 0, none⟩ (.string ((rd_T71 l0 x13_1).f0))).setCell ⟨gb287, 1, none⟩ (.slice A286_1 ((rd_T71 l0 x13_1).f1).length c286_1)).setCell ⟨gb287, 2, none⟩ (.int .i64 ((rd_T71 l0 x13_1).f2.f0.f0))).setCell ⟨gb287, 3, none⟩ (.string ((rd_T71 l0 x13_1).f2.f0.f1))).setCell ⟨gb287, 4, none⟩ (.slice A286_4 ((rd_T71 l0 x13_1).f2.f0.f2).length c286_4)).setCell ⟨gb287, 5, none⟩ (.string ((rd_T71 l0 x13_1).f2.f0.f3))).setCell ⟨gb287, 6, none⟩ (.int .i64 ((rd_T71 l0 x13_1).f2.f1))).setCell ⟨gb287, 7, none⟩ (.int .i64 ((rd_T71 l0 x13_1).f2.f2))) = w24 at n0_ n1_ n2_ ⊢
        have BK285 := n0_
        have BK287 := n1_
        have HB := n2_
        clear n0_ n1_ n2_
        replace BK285 := Aside0.mk (blk_drew BK285.out)
        replace BK287 := Aside0.mk (blk_drew BK287.out)
        replace HB := Aside0.mk (below_drew1 HB.out)
        have p289 : 0 ≤ (x8_1 : Int) := md_
        have q289 : x8_1 < (l0.length : Int) := md_
        obtain ⟨ad289, A289_1, c289_1, A289_4, c289_4, e289, hx289_0, hx289_1, hx289_2, hx289_3, hx289_4, hx289_5, hx289_6, hx289_7, hl289_1, hi289_1, hl289_4, hi289_4⟩ := at_T71 HR0.out x8_1 p289 q289
        have hw289_7 := hx289_7
        have hw289_6 := hx289_6
        have hw289_5 := hx289_5
        have hw289_4 := hx289_4
        have hw289_3 := hx289_3
        have hw289_2 := hx289_2
        have hw289_1 := hx289_1
        have hw289_0 := hx289_0
        obtain rfl : ad286 = ad289 := (by injection e289)
        (try replace hx289_0 := (HB.out.cell (World.block_lt_of_cell? w _ hx289_0)).trans hx289_0)
        (try replace hx289_1 := (HB.out.cell (World.block_lt_of_cell? w _ hx289_1)).trans hx289_1)
        (try replace hx289_2 := (HB.out.cell (World.block_lt_of_cell? w _ hx289_2)).trans hx289_2)
        (try replace hx289_3 := (HB.out.cell (World.block_lt_of_cell? w _ hx289_3)).trans hx289_3)
        (try replace hx289_4 := (HB.out.cell (World.block_lt_of_cell? w _ hx289_4)).trans hx289_4)
        (try replace hx289_5 := (HB.out.cell (World.block_lt_of_cell? w _ hx289_5)).trans hx289_5)
        (try replace hx289_6 := (HB.out.cell (World.block_lt_of_cell? w _ hx289_6)).trans hx289_6)
        (try replace hx289_7 := (HB.out.cell (World.block_lt_of_cell? w _ hx289_7)).trans hx289_7)
        have HR289_1 := Aside0.mk hi289_1
        have HC289_1 := Aside0.mk hl289_1
        clear hi289_1 hl289_1
        have HR289_4 := Aside0.mk hi289_4
        have HC289_4 := Aside0.mk hl289_4
        clear hi289_4 hl289_4
        replace p289 := eq_true p289
        replace q289 := eq_true q289
        refine ms_ 26 (fun w' => w'.cell? ⟨gb287, 0, none⟩ = some (.string ((rd_T71 l0 x13_1).f0)) ∧ w'.cell? ⟨gb287, 1, none⟩ = some (.slice A286_1 ((rd_T71 l0 x13_1).f1).length c286_1) ∧ w'.cell? ⟨gb287, 2, none⟩ = some (.int .i64 ((rd_T71 l0 x13_1).f2.f0.f0)) ∧ w'.cell? ⟨gb287, 3, none⟩ = some (.string ((rd_T71 l0 x13_1).f2.f0.f1)) ∧ w'.cell? ⟨gb287, 4, none⟩ = some (.slice A286_4 ((rd_T71 l0 x13_1).f2.f0.f2).length c286_4) ∧ w'.cell? ⟨gb287, 5, none⟩ = some (.string ((rd_T71 l0 x13_1).f2.f0.f3)) ∧ w'.cell? ⟨gb287, 6, none⟩ = some (.int .i64 ((rd_T71 l0 x13_1).f2.f1)) ∧ w'.cell? ⟨gb287, 7, none⟩ = some (.int .i64 ((rd_T71 l0 x13_1).f2.f2)) ∧ w'.cell? ⟨gb285, 0, none⟩ = some (.string a2_0) ∧ w'.cell? ⟨gb285, 1, none⟩ = some (.string a2_1) ∧ w'.cell? ⟨gb285, 2, none⟩ = some (.slice A2_2 l2_2.length c2_2) ∧ w'.cell? ⟨gb285, 3, none⟩ = some (.string a2_3) ∧ w'.cell? (ad286.add ((x8_1).toNat * 8)) = some (.string ((rd_T71 l0 x8_1).f0)) ∧ w'.cell? ⟨(ad286.add ((x8_1).toNat * 8)).block, (ad286.add ((x8_1).toNat * 8)).off + 1, none⟩ = some (.slice A289_1 ((rd_T71 l0 x8_1).f1).length c289_1) ∧ w'.cell? ⟨(ad286.add ((x8_1).toNat * 8)).block, (ad286.add ((x8_1).toNat * 8)).off + 2, none⟩ = some (.int .i64 ((rd_T71 l0 x8_1).f2.f0.f0)) ∧ w'.cell? ⟨(ad286.add ((x8_1).toNat * 8)).block, (ad286.add ((x8_1).toNat * 8)).off + 3, none⟩ = some (.string ((rd_T71 l0 x8_1).f2.f0.f1)) ∧ w'.cell? ⟨(ad286.add ((x8_1).toNat * 8)).block, (ad286.add ((x8_1).toNat * 8)).off + 4, none⟩ = some (.slice A289_4 ((rd_T71 l0 x8_1).f2.f0.f2).length c289_4) ∧ w'.cell? ⟨(ad286.add ((x8_1).toNat * 8)).block, (ad286.add ((x8_1).toNat * 8)).off + 5, none⟩ = some (.string ((rd_T71 l0 x8_1).f2.f0.f3)) ∧ w'.cell? ⟨(ad286.add ((x8_1).toNat * 8)).block, (ad286.add ((x8_1).toNat * 8)).off + 6, none⟩ = some (.int .i64 ((rd_T71 l0 x8_1).f2.f1)) ∧ w'.cell? ⟨(ad286.add ((x8_1).toNat * 8)).block, (ad286.add ((x8_1).toNat * 8)).off + 7, none⟩ = some (.int .i64 ((rd_T71 l0 x8_1).f2.f2))) spec_l9Pick.tab5 spec_l9Pick.bits5 ⟨xk_ BK287 0, xk_ BK287 1, xk_ BK287 2, xk_ BK287 3, xk_ BK287 4, xk_ BK287 5, xk_ BK287 6, xk_ BK287 7, xk_ BK285 0, xk_ BK285 1, xk_ BK285 2, xk_ BK285 3, ((HB.out.cell (World.block_lt_of_cell? w _ hw289_0)).trans hw289_0), ((HB.out.cell (World.block_lt_of_cell? w _ hw289_1)).trans hw289_1), ((HB.out.cell (World.block_lt_of_cell? w _ hw289_2)).trans hw289_2), ((HB.out.cell (World.block_lt_of_cell? w _ hw289_3)).trans hw289_3), ((HB.out.cell (World.block_lt_of_cell? w _ hw289_4)).trans hw289_4), ((HB.out.cell (World.block_lt_of_cell? w _ hw289_5)).trans hw289_5), ((HB.out.cell (World.block_lt_of_cell? w _ hw289_6)).trans hw289_6), ((HB.out.cell (World.block_lt_of_cell? w _ hw289_7)).trans hw289_7)⟩ (fun hHeld HT_ HW_ => ?_)
        generalize w24.drew = w25 at BK285 BK287 HB HR289_1 HR289_4 hx289_0 hx289_1 hx289_2 hx289_3 hx289_4 hx289_5 hx289_6 hx289_7 hHeld ⊢
        refine mp_ 0 18 ?_
        refine mp_ 2 20 ?_
        refine mt_ 1 19 hHeld ?_
        refine mp_ 3 21 ?_
        refine mp_ 4 22 ?_
        refine mp_ 6 24 ?_
        refine mt_ 5 23 hHeld ?_
        refine mt_ 7 25 hHeld ?_
        refine m1_ 8 26 Tryz.func55 #[.agg #[.string ((rd_T71 l0 x13_1).f0), .slice A286_1 ((rd_T71 l0 x13_1).f1).length c286_1, .int .i64 ((rd_T71 l0 x13_1).f2.f0.f0), .string ((rd_T71 l0 x13_1).f2.f0.f1), .slice A286_4 ((rd_T71 l0 x13_1).f2.f0.f2).length c286_4, .string ((rd_T71 l0 x13_1).f2.f0.f3), .int .i64 ((rd_T71 l0 x13_1).f2.f1), .int .i64 ((rd_T71 l0 x13_1).f2.f2)], .slice A2_2 l2_2.length c2_2] ?_
        with_reducible refine (spec_l9Matches.calls k1 ((rd_T71 l0 x13_1).f0) _ _ ((rd_T71 l0 x13_1).f1) ((rd_T71 l0 x13_1).f2.f0.f0) ((rd_T71 l0 x13_1).f2.f0.f1) _ _ ((rd_T71 l0 x13_1).f2.f0.f2) ((rd_T71 l0 x13_1).f2.f0.f3) ((rd_T71 l0 x13_1).f2.f1) ((rd_T71 l0 x13_1).f2.f2) _ _ l2_2 true _ ?side1 ?side2 ?side3 ?side4 ?side5 ?side6 A9.out).mono ?_
        (case side1 => exact xc_ ((Kd.C_below HR286_1.out HB.out)))
        (case side2 => exact HC286_1.out)
        (case side3 => exact xc_ ((Kd.C_below HR286_4.out HB.out)))
        (case side4 => exact HC286_4.out)
        (case side5 => exact xc_ ((Kd.C_below HR2_2.out HB.out)))
        (case side6 => exact HC2_2.out)
        rintro e w26 ⟨rfl, hb⟩
        refine ⟨_, rfl, ?_⟩
        replace BK285 := xbb_ BK285 hb
        replace BK287 := xbb_ BK287 hb
        replace HB := xws_ HB hb
        (try clear hb)
        refine ⟨⟨xk_ BK287 0, xk_ BK287 1, xk_ BK287 2, xk_ BK287 3, xk_ BK287 4, xk_ BK287 5, xk_ BK287 6, xk_ BK287 7, xk_ BK285 0, xk_ BK285 1, xk_ BK285 2, xk_ BK285 3, ((HB.out.cell (World.block_lt_of_cell? w _ hw289_0)).trans hw289_0), ((HB.out.cell (World.block_lt_of_cell? w _ hw289_1)).trans hw289_1), ((HB.out.cell (World.block_lt_of_cell? w _ hw289_2)).trans hw289_2), ((HB.out.cell (World.block_lt_of_cell? w _ hw289_3)).trans hw289_3), ((HB.out.cell (World.block_lt_of_cell? w _ hw289_4)).trans hw289_4), ((HB.out.cell (World.block_lt_of_cell? w _ hw289_5)).trans hw289_5), ((HB.out.cell (World.block_lt_of_cell? w _ hw289_6)).trans hw289_6), ((HB.out.cell (World.block_lt_of_cell? w _ hw289_7)).trans hw289_7)⟩, fun hHeld => ?_⟩
        refine mn_ 26 ?_
        refine mp_ 9 27 ?_
        refine mp_ 10 28 ?_
        refine mp_ 11 29 ?_
        refine mp_ 12 30 ?_
        refine mp_ 13 31 ?_
        refine mp_ 14 32 ?_
        refine mp_ 15 33 ?_
        refine mp_ 17 35 ?_
        refine mp_ 18 36 ?_
        refine mp_ 19 37 ?_
        refine mp_ 20 38 ?_
        refine mp_ 21 39 ?_
        refine mt_ 16 34 hHeld ?_
        refine mt_ 22 40 hHeld ?_
        refine mp_ 23 41 ?_
        refine mp_ 24 42 ?_
        refine mp_ 25 43 ?_
        refine done_ (done_of HT_.out (by kernel_rfl)) ?_
        try go_wp2
        go_roundg k1
        case measure => have := HK1.out; omega
        case rel => exact ⟨(x13_1), (wrap64 (x13_1 + 1)), me_, me_, H', ⟨by have := HK1.out; omega⟩, ⟨xb_ BK285⟩, ⟨xw_ HB⟩⟩
       ·rw [if_neg c20] at H
        have c20b0 : decide (((rd_T71 l0 x8_1).f2.f2) < ((rd_T71 l0 x13_1).f2.f2)) = false := decide_eq_false c20
        clear c20
        have H' := Aside0.mk H
        clear H
        have p286 : 0 ≤ (x13_1 : Int) := md_
        have q286 : x13_1 < (l0.length : Int) := md_
        obtain ⟨ad286, A286_1, c286_1, A286_4, c286_4, e286, hx286_0, hx286_1, hx286_2, hx286_3, hx286_4, hx286_5, hx286_6, hx286_7, hl286_1, hi286_1, hl286_4, hi286_4⟩ := at_T71 HR0.out x13_1 p286 q286
        cases e286
        (try replace hx286_0 := (HB.out.cell (World.block_lt_of_cell? w _ hx286_0)).trans hx286_0)
        (try replace hx286_1 := (HB.out.cell (World.block_lt_of_cell? w _ hx286_1)).trans hx286_1)
        (try replace hx286_2 := (HB.out.cell (World.block_lt_of_cell? w _ hx286_2)).trans hx286_2)
        (try replace hx286_3 := (HB.out.cell (World.block_lt_of_cell? w _ hx286_3)).trans hx286_3)
        (try replace hx286_4 := (HB.out.cell (World.block_lt_of_cell? w _ hx286_4)).trans hx286_4)
        (try replace hx286_5 := (HB.out.cell (World.block_lt_of_cell? w _ hx286_5)).trans hx286_5)
        (try replace hx286_6 := (HB.out.cell (World.block_lt_of_cell? w _ hx286_6)).trans hx286_6)
        (try replace hx286_7 := (HB.out.cell (World.block_lt_of_cell? w _ hx286_7)).trans hx286_7)
        have HR286_1 := Aside0.mk hi286_1
        have HC286_1 := Aside0.mk hl286_1
        clear hi286_1 hl286_1
        have HR286_4 := Aside0.mk hi286_4
        have HC286_4 := Aside0.mk hl286_4
        clear hi286_4 hl286_4
        replace p286 := eq_true p286
        replace q286 := eq_true q286
        try go_wp2_with (first | ((with_reducible refine gd_ 10 ?_); refine xbe_ (N := 10) (cs := #[.string (⟨#[]⟩ : ByteArray), .slice none 0 0, .int .i64 0, .string (⟨#[]⟩ : ByteArray), .slice none 0 0, .string (⟨#[]⟩ : ByteArray), .int .i64 0, .int .i64 0]) (t := 71) ?_; intro gb287 hg w27 hbox hb; have BK287 := Aside0.mk (hbox); have GE287 := xge_ HB hg; replace HB := xws_ HB hb; have NB285_287 := xlt_ BK285 hg; have NB287_285 := xgt_ BK285 hg; replace BK285 := xbb_ BK285 hb; clear hb hbox hg; have hnb28 := NB287_285.out; have hnc28 := NB285_287.out; have ⟨_, _, _, _, _, _, _, _, _, _, _, _, _, _, _, _⟩ := c8_ BK287))
        have n0_ : Aside0 (((((((((w27.setCell ⟨gb287, 0, none⟩ (.string ((rd_T71 l0 x13_1).f0))).setCell ⟨gb287, 1, none⟩ (.slice A286_1 ((rd_T71 l0 x13_1).f1).length c286_1)).setCell ⟨gb287, 2, none⟩ (.int .i64 ((rd_T71 l0 x13_1).f2.f0.f0))).setCell ⟨gb287, 3, none⟩ (.string ((rd_T71 l0 x13_1).f2.f0.f1))).setCell ⟨gb287, 4, none⟩ (.slice A286_4 ((rd_T71 l0 x13_1).f2.f0.f2).length c286_4)).setCell ⟨gb287, 5, none⟩ (.string ((rd_T71 l0 x13_1).f2.f0.f3))).setCell ⟨gb287, 6, none⟩ (.int .i64 ((rd_T71 l0 x13_1).f2.f1))).setCell ⟨gb287, 7, none⟩ (.int .i64 ((rd_T71 l0 x13_1).f2.f2))).heap[gb285]? = some (.cells #[.string a2_0, .string a2_1, .slice A2_2 l2_2.length c2_2, .string a2_3] 35 (0, 0))) := ⟨mx_ BK285⟩
        have n1_ : Aside0 (((((((((w27.setCell ⟨gb287, 0, none⟩ (.string ((rd_T71 l0 x13_1).f0))).setCell ⟨gb287, 1, none⟩ (.slice A286_1 ((rd_T71 l0 x13_1).f1).length c286_1)).setCell ⟨gb287, 2, none⟩ (.int .i64 ((rd_T71 l0 x13_1).f2.f0.f0))).setCell ⟨gb287, 3, none⟩ (.string ((rd_T71 l0 x13_1).f2.f0.f1))).setCell ⟨gb287, 4, none⟩ (.slice A286_4 ((rd_T71 l0 x13_1).f2.f0.f2).length c286_4)).setCell ⟨gb287, 5, none⟩ (.string ((rd_T71 l0 x13_1).f2.f0.f3))).setCell ⟨gb287, 6, none⟩ (.int .i64 ((rd_T71 l0 x13_1).f2.f1))).setCell ⟨gb287, 7, none⟩ (.int .i64 ((rd_T71 l0 x13_1).f2.f2))).heap[gb287]? = some (.cells #[.string ((rd_T71 l0 x13_1).f0), .slice A286_1 ((rd_T71 l0 x13_1).f1).length c286_1, .int .i64 ((rd_T71 l0 x13_1).f2.f0.f0), .string ((rd_T71 l0 x13_1).f2.f0.f1), .slice A286_4 ((rd_T71 l0 x13_1).f2.f0.f2).length c286_4, .string ((rd_T71 l0 x13_1).f2.f0.f3), .int .i64 ((rd_T71 l0 x13_1).f2.f1), .int .i64 ((rd_T71 l0 x13_1).f2.f2)] 71 (0, 0))) := ⟨mx_ BK287⟩
        have n2_ : Aside0 (Below w.heap.size w ((((((((w27.setCell ⟨gb287, 0, none⟩ (.string ((rd_T71 l0 x13_1).f0))).setCell ⟨gb287, 1, none⟩ (.slice A286_1 ((rd_T71 l0 x13_1).f1).length c286_1)).setCell ⟨gb287, 2, none⟩ (.int .i64 ((rd_T71 l0 x13_1).f2.f0.f0))).setCell ⟨gb287, 3, none⟩ (.string ((rd_T71 l0 x13_1).f2.f0.f1))).setCell ⟨gb287, 4, none⟩ (.slice A286_4 ((rd_T71 l0 x13_1).f2.f0.f2).length c286_4)).setCell ⟨gb287, 5, none⟩ (.string ((rd_T71 l0 x13_1).f2.f0.f3))).setCell ⟨gb287, 6, none⟩ (.int .i64 ((rd_T71 l0 x13_1).f2.f1))).setCell ⟨gb287, 7, none⟩ (.int .i64 ((rd_T71 l0 x13_1).f2.f2)))) := ⟨xw_ HB⟩
        (try clear BK285)
        (try clear BK287)
        (try clear HB)
        generalize ((((((((w27.setCell ⟨gb287, 0, none⟩ (.string ((rd_T71 l0 x13_1).f0))).setCell ⟨gb287, 1, none⟩ (.slice A286_1 ((rd_T71 l0 x13_1).f1).length c286_1)).setCell ⟨gb287, 2, none⟩ (.int .i64 ((rd_T71 l0 x13_1).f2.f0.f0))).setCell ⟨gb287, 3, none⟩ (.string ((rd_T71 l0 x13_1).f2.f0.f1))).setCell ⟨gb287, 4, none⟩ (.slice A286_4 ((rd_T71 l0 x13_1).f2.f0.f2).length c286_4)).setCell ⟨gb287, 5, none⟩ (.string ((rd_T71 l0 x13_1).f2.f0.f3))).setCell ⟨gb287, 6, none⟩ (.int .i64 ((rd_T71 l0 x13_1).f2.f1))).setCell ⟨gb287, 7, none⟩ (.int .i64 ((rd_T71 l0 x13_1).f2.f2))) = w30 at n0_ n1_ n2_ ⊢
        have BK285 := n0_
        have BK287 := n1_
        have HB := n2_
        clear n0_ n1_ n2_
        replace BK285 := Aside0.mk (blk_drew BK285.out)
        replace BK287 := Aside0.mk (blk_drew BK287.out)
        replace HB := Aside0.mk (below_drew1 HB.out)
        have p289 : 0 ≤ (x8_1 : Int) := md_
        have q289 : x8_1 < (l0.length : Int) := md_
        obtain ⟨ad289, A289_1, c289_1, A289_4, c289_4, e289, hx289_0, hx289_1, hx289_2, hx289_3, hx289_4, hx289_5, hx289_6, hx289_7, hl289_1, hi289_1, hl289_4, hi289_4⟩ := at_T71 HR0.out x8_1 p289 q289
        have hw289_7 := hx289_7
        have hw289_6 := hx289_6
        have hw289_5 := hx289_5
        have hw289_4 := hx289_4
        have hw289_3 := hx289_3
        have hw289_2 := hx289_2
        have hw289_1 := hx289_1
        have hw289_0 := hx289_0
        obtain rfl : ad286 = ad289 := (by injection e289)
        (try replace hx289_0 := (HB.out.cell (World.block_lt_of_cell? w _ hx289_0)).trans hx289_0)
        (try replace hx289_1 := (HB.out.cell (World.block_lt_of_cell? w _ hx289_1)).trans hx289_1)
        (try replace hx289_2 := (HB.out.cell (World.block_lt_of_cell? w _ hx289_2)).trans hx289_2)
        (try replace hx289_3 := (HB.out.cell (World.block_lt_of_cell? w _ hx289_3)).trans hx289_3)
        (try replace hx289_4 := (HB.out.cell (World.block_lt_of_cell? w _ hx289_4)).trans hx289_4)
        (try replace hx289_5 := (HB.out.cell (World.block_lt_of_cell? w _ hx289_5)).trans hx289_5)
        (try replace hx289_6 := (HB.out.cell (World.block_lt_of_cell? w _ hx289_6)).trans hx289_6)
        (try replace hx289_7 := (HB.out.cell (World.block_lt_of_cell? w _ hx289_7)).trans hx289_7)
        have HR289_1 := Aside0.mk hi289_1
        have HC289_1 := Aside0.mk hl289_1
        clear hi289_1 hl289_1
        have HR289_4 := Aside0.mk hi289_4
        have HC289_4 := Aside0.mk hl289_4
        clear hi289_4 hl289_4
        replace p289 := eq_true p289
        replace q289 := eq_true q289
        refine ms_ 26 (fun w' => w'.cell? ⟨gb287, 0, none⟩ = some (.string ((rd_T71 l0 x13_1).f0)) ∧ w'.cell? ⟨gb287, 1, none⟩ = some (.slice A286_1 ((rd_T71 l0 x13_1).f1).length c286_1) ∧ w'.cell? ⟨gb287, 2, none⟩ = some (.int .i64 ((rd_T71 l0 x13_1).f2.f0.f0)) ∧ w'.cell? ⟨gb287, 3, none⟩ = some (.string ((rd_T71 l0 x13_1).f2.f0.f1)) ∧ w'.cell? ⟨gb287, 4, none⟩ = some (.slice A286_4 ((rd_T71 l0 x13_1).f2.f0.f2).length c286_4) ∧ w'.cell? ⟨gb287, 5, none⟩ = some (.string ((rd_T71 l0 x13_1).f2.f0.f3)) ∧ w'.cell? ⟨gb287, 6, none⟩ = some (.int .i64 ((rd_T71 l0 x13_1).f2.f1)) ∧ w'.cell? ⟨gb287, 7, none⟩ = some (.int .i64 ((rd_T71 l0 x13_1).f2.f2)) ∧ w'.cell? ⟨gb285, 0, none⟩ = some (.string a2_0) ∧ w'.cell? ⟨gb285, 1, none⟩ = some (.string a2_1) ∧ w'.cell? ⟨gb285, 2, none⟩ = some (.slice A2_2 l2_2.length c2_2) ∧ w'.cell? ⟨gb285, 3, none⟩ = some (.string a2_3) ∧ w'.cell? (ad286.add ((x8_1).toNat * 8)) = some (.string ((rd_T71 l0 x8_1).f0)) ∧ w'.cell? ⟨(ad286.add ((x8_1).toNat * 8)).block, (ad286.add ((x8_1).toNat * 8)).off + 1, none⟩ = some (.slice A289_1 ((rd_T71 l0 x8_1).f1).length c289_1) ∧ w'.cell? ⟨(ad286.add ((x8_1).toNat * 8)).block, (ad286.add ((x8_1).toNat * 8)).off + 2, none⟩ = some (.int .i64 ((rd_T71 l0 x8_1).f2.f0.f0)) ∧ w'.cell? ⟨(ad286.add ((x8_1).toNat * 8)).block, (ad286.add ((x8_1).toNat * 8)).off + 3, none⟩ = some (.string ((rd_T71 l0 x8_1).f2.f0.f1)) ∧ w'.cell? ⟨(ad286.add ((x8_1).toNat * 8)).block, (ad286.add ((x8_1).toNat * 8)).off + 4, none⟩ = some (.slice A289_4 ((rd_T71 l0 x8_1).f2.f0.f2).length c289_4) ∧ w'.cell? ⟨(ad286.add ((x8_1).toNat * 8)).block, (ad286.add ((x8_1).toNat * 8)).off + 5, none⟩ = some (.string ((rd_T71 l0 x8_1).f2.f0.f3)) ∧ w'.cell? ⟨(ad286.add ((x8_1).toNat * 8)).block, (ad286.add ((x8_1).toNat * 8)).off + 6, none⟩ = some (.int .i64 ((rd_T71 l0 x8_1).f2.f1)) ∧ w'.cell? ⟨(ad286.add ((x8_1).toNat * 8)).block, (ad286.add ((x8_1).toNat * 8)).off + 7, none⟩ = some (.int .i64 ((rd_T71 l0 x8_1).f2.f2))) spec_l9Pick.tab5 spec_l9Pick.bits5 ⟨xk_ BK287 0, xk_ BK287 1, xk_ BK287 2, xk_ BK287 3, xk_ BK287 4, xk_ BK287 5, xk_ BK287 6, xk_ BK287 7, xk_ BK285 0, xk_ BK285 1, xk_ BK285 2, xk_ BK285 3, ((HB.out.cell (World.block_lt_of_cell? w _ hw289_0)).trans hw289_0), ((HB.out.cell (World.block_lt_of_cell? w _ hw289_1)).trans hw289_1), ((HB.out.cell (World.block_lt_of_cell? w _ hw289_2)).trans hw289_2), ((HB.out.cell (World.block_lt_of_cell? w _ hw289_3)).trans hw289_3), ((HB.out.cell (World.block_lt_of_cell? w _ hw289_4)).trans hw289_4), ((HB.out.cell (World.block_lt_of_cell? w _ hw289_5)).trans hw289_5), ((HB.out.cell (World.block_lt_of_cell? w _ hw289_6)).trans hw289_6), ((HB.out.cell (World.block_lt_of_cell? w _ hw289_7)).trans hw289_7)⟩ (fun hHeld HT_ HW_ => ?_)
        generalize w30.drew = w31 at BK285 BK287 HB HR289_1 HR289_4 hx289_0 hx289_1 hx289_2 hx289_3 hx289_4 hx289_5 hx289_6 hx289_7 hHeld ⊢
        refine mp_ 0 18 ?_
        refine mp_ 2 20 ?_
        refine mt_ 1 19 hHeld ?_
        refine mp_ 3 21 ?_
        refine mp_ 4 22 ?_
        refine mp_ 6 24 ?_
        refine mt_ 5 23 hHeld ?_
        refine mt_ 7 25 hHeld ?_
        refine m1_ 8 26 Tryz.func55 #[.agg #[.string ((rd_T71 l0 x13_1).f0), .slice A286_1 ((rd_T71 l0 x13_1).f1).length c286_1, .int .i64 ((rd_T71 l0 x13_1).f2.f0.f0), .string ((rd_T71 l0 x13_1).f2.f0.f1), .slice A286_4 ((rd_T71 l0 x13_1).f2.f0.f2).length c286_4, .string ((rd_T71 l0 x13_1).f2.f0.f3), .int .i64 ((rd_T71 l0 x13_1).f2.f1), .int .i64 ((rd_T71 l0 x13_1).f2.f2)], .slice A2_2 l2_2.length c2_2] ?_
        with_reducible refine (spec_l9Matches.calls k1 ((rd_T71 l0 x13_1).f0) _ _ ((rd_T71 l0 x13_1).f1) ((rd_T71 l0 x13_1).f2.f0.f0) ((rd_T71 l0 x13_1).f2.f0.f1) _ _ ((rd_T71 l0 x13_1).f2.f0.f2) ((rd_T71 l0 x13_1).f2.f0.f3) ((rd_T71 l0 x13_1).f2.f1) ((rd_T71 l0 x13_1).f2.f2) _ _ l2_2 true _ ?side1 ?side2 ?side3 ?side4 ?side5 ?side6 A9.out).mono ?_
        (case side1 => exact xc_ ((Kd.C_below HR286_1.out HB.out)))
        (case side2 => exact HC286_1.out)
        (case side3 => exact xc_ ((Kd.C_below HR286_4.out HB.out)))
        (case side4 => exact HC286_4.out)
        (case side5 => exact xc_ ((Kd.C_below HR2_2.out HB.out)))
        (case side6 => exact HC2_2.out)
        rintro e w32 ⟨rfl, hb⟩
        refine ⟨_, rfl, ?_⟩
        replace BK285 := xbb_ BK285 hb
        replace BK287 := xbb_ BK287 hb
        replace HB := xws_ HB hb
        (try clear hb)
        refine ⟨⟨xk_ BK287 0, xk_ BK287 1, xk_ BK287 2, xk_ BK287 3, xk_ BK287 4, xk_ BK287 5, xk_ BK287 6, xk_ BK287 7, xk_ BK285 0, xk_ BK285 1, xk_ BK285 2, xk_ BK285 3, ((HB.out.cell (World.block_lt_of_cell? w _ hw289_0)).trans hw289_0), ((HB.out.cell (World.block_lt_of_cell? w _ hw289_1)).trans hw289_1), ((HB.out.cell (World.block_lt_of_cell? w _ hw289_2)).trans hw289_2), ((HB.out.cell (World.block_lt_of_cell? w _ hw289_3)).trans hw289_3), ((HB.out.cell (World.block_lt_of_cell? w _ hw289_4)).trans hw289_4), ((HB.out.cell (World.block_lt_of_cell? w _ hw289_5)).trans hw289_5), ((HB.out.cell (World.block_lt_of_cell? w _ hw289_6)).trans hw289_6), ((HB.out.cell (World.block_lt_of_cell? w _ hw289_7)).trans hw289_7)⟩, fun hHeld => ?_⟩
        refine mn_ 26 ?_
        refine mp_ 9 27 ?_
        refine mp_ 10 28 ?_
        refine mp_ 11 29 ?_
        refine mp_ 12 30 ?_
        refine mp_ 13 31 ?_
        refine mp_ 14 32 ?_
        refine mp_ 15 33 ?_
        refine mp_ 17 35 ?_
        refine mp_ 18 36 ?_
        refine mp_ 19 37 ?_
        refine mp_ 20 38 ?_
        refine mp_ 21 39 ?_
        refine mt_ 16 34 hHeld ?_
        refine mt_ 22 40 hHeld ?_
        refine mp_ 23 41 ?_
        refine mp_ 24 42 ?_
        refine mp_ 25 43 ?_
        refine done_ (done_of HT_.out (by kernel_rfl)) ?_
        try go_wp2
        go_roundg k1
        case measure => have := HK1.out; omega
        case rel => exact ⟨(x8_1), (wrap64 (x13_1 + 1)), me_, me_, H', ⟨by have := HK1.out; omega⟩, ⟨xb_ BK285⟩, ⟨xw_ HB⟩⟩
     ·replace c10 := Bool.eq_false_iff.mpr c10
      subst c10
      rw [if_neg (show ¬ (false = true) by decide)] at H
      have H' := Aside0.mk H
      clear H
      have p286 : 0 ≤ (x13_1 : Int) := md_
      have q286 : x13_1 < (l0.length : Int) := md_
      obtain ⟨ad286, A286_1, c286_1, A286_4, c286_4, e286, hx286_0, hx286_1, hx286_2, hx286_3, hx286_4, hx286_5, hx286_6, hx286_7, hl286_1, hi286_1, hl286_4, hi286_4⟩ := at_T71 HR0.out x13_1 p286 q286
      cases e286
      (try replace hx286_0 := (HB.out.cell (World.block_lt_of_cell? w _ hx286_0)).trans hx286_0)
      (try replace hx286_1 := (HB.out.cell (World.block_lt_of_cell? w _ hx286_1)).trans hx286_1)
      (try replace hx286_2 := (HB.out.cell (World.block_lt_of_cell? w _ hx286_2)).trans hx286_2)
      (try replace hx286_3 := (HB.out.cell (World.block_lt_of_cell? w _ hx286_3)).trans hx286_3)
      (try replace hx286_4 := (HB.out.cell (World.block_lt_of_cell? w _ hx286_4)).trans hx286_4)
      (try replace hx286_5 := (HB.out.cell (World.block_lt_of_cell? w _ hx286_5)).trans hx286_5)
      (try replace hx286_6 := (HB.out.cell (World.block_lt_of_cell? w _ hx286_6)).trans hx286_6)
      (try replace hx286_7 := (HB.out.cell (World.block_lt_of_cell? w _ hx286_7)).trans hx286_7)
      have HR286_1 := Aside0.mk hi286_1
      have HC286_1 := Aside0.mk hl286_1
      clear hi286_1 hl286_1
      have HR286_4 := Aside0.mk hi286_4
      have HC286_4 := Aside0.mk hl286_4
      clear hi286_4 hl286_4
      replace p286 := eq_true p286
      replace q286 := eq_true q286
      try go_wp2_with (first | ((with_reducible refine gd_ 10 ?_); refine xbe_ (N := 10) (cs := #[.string (⟨#[]⟩ : ByteArray), .slice none 0 0, .int .i64 0, .string (⟨#[]⟩ : ByteArray), .slice none 0 0, .string (⟨#[]⟩ : ByteArray), .int .i64 0, .int .i64 0]) (t := 71) ?_; intro gb287 hg w33 hbox hb; have BK287 := Aside0.mk (hbox); have GE287 := xge_ HB hg; replace HB := xws_ HB hb; have NB285_287 := xlt_ BK285 hg; have NB287_285 := xgt_ BK285 hg; replace BK285 := xbb_ BK285 hb; clear hb hbox hg; have hnb34 := NB287_285.out; have hnc34 := NB285_287.out; have ⟨_, _, _, _, _, _, _, _, _, _, _, _, _, _, _, _⟩ := c8_ BK287))
      have n0_ : Aside0 (((((((((w33.setCell ⟨gb287, 0, none⟩ (.string ((rd_T71 l0 x13_1).f0))).setCell ⟨gb287, 1, none⟩ (.slice A286_1 ((rd_T71 l0 x13_1).f1).length c286_1)).setCell ⟨gb287, 2, none⟩ (.int .i64 ((rd_T71 l0 x13_1).f2.f0.f0))).setCell ⟨gb287, 3, none⟩ (.string ((rd_T71 l0 x13_1).f2.f0.f1))).setCell ⟨gb287, 4, none⟩ (.slice A286_4 ((rd_T71 l0 x13_1).f2.f0.f2).length c286_4)).setCell ⟨gb287, 5, none⟩ (.string ((rd_T71 l0 x13_1).f2.f0.f3))).setCell ⟨gb287, 6, none⟩ (.int .i64 ((rd_T71 l0 x13_1).f2.f1))).setCell ⟨gb287, 7, none⟩ (.int .i64 ((rd_T71 l0 x13_1).f2.f2))).heap[gb285]? = some (.cells #[.string a2_0, .string a2_1, .slice A2_2 l2_2.length c2_2, .string a2_3] 35 (0, 0))) := ⟨mx_ BK285⟩
      have n1_ : Aside0 (((((((((w33.setCell ⟨gb287, 0, none⟩ (.string ((rd_T71 l0 x13_1).f0))).setCell ⟨gb287, 1, none⟩ (.slice A286_1 ((rd_T71 l0 x13_1).f1).length c286_1)).setCell ⟨gb287, 2, none⟩ (.int .i64 ((rd_T71 l0 x13_1).f2.f0.f0))).setCell ⟨gb287, 3, none⟩ (.string ((rd_T71 l0 x13_1).f2.f0.f1))).setCell ⟨gb287, 4, none⟩ (.slice A286_4 ((rd_T71 l0 x13_1).f2.f0.f2).length c286_4)).setCell ⟨gb287, 5, none⟩ (.string ((rd_T71 l0 x13_1).f2.f0.f3))).setCell ⟨gb287, 6, none⟩ (.int .i64 ((rd_T71 l0 x13_1).f2.f1))).setCell ⟨gb287, 7, none⟩ (.int .i64 ((rd_T71 l0 x13_1).f2.f2))).heap[gb287]? = some (.cells #[.string ((rd_T71 l0 x13_1).f0), .slice A286_1 ((rd_T71 l0 x13_1).f1).length c286_1, .int .i64 ((rd_T71 l0 x13_1).f2.f0.f0), .string ((rd_T71 l0 x13_1).f2.f0.f1), .slice A286_4 ((rd_T71 l0 x13_1).f2.f0.f2).length c286_4, .string ((rd_T71 l0 x13_1).f2.f0.f3), .int .i64 ((rd_T71 l0 x13_1).f2.f1), .int .i64 ((rd_T71 l0 x13_1).f2.f2)] 71 (0, 0))) := ⟨mx_ BK287⟩
      have n2_ : Aside0 (Below w.heap.size w ((((((((w33.setCell ⟨gb287, 0, none⟩ (.string ((rd_T71 l0 x13_1).f0))).setCell ⟨gb287, 1, none⟩ (.slice A286_1 ((rd_T71 l0 x13_1).f1).length c286_1)).setCell ⟨gb287, 2, none⟩ (.int .i64 ((rd_T71 l0 x13_1).f2.f0.f0))).setCell ⟨gb287, 3, none⟩ (.string ((rd_T71 l0 x13_1).f2.f0.f1))).setCell ⟨gb287, 4, none⟩ (.slice A286_4 ((rd_T71 l0 x13_1).f2.f0.f2).length c286_4)).setCell ⟨gb287, 5, none⟩ (.string ((rd_T71 l0 x13_1).f2.f0.f3))).setCell ⟨gb287, 6, none⟩ (.int .i64 ((rd_T71 l0 x13_1).f2.f1))).setCell ⟨gb287, 7, none⟩ (.int .i64 ((rd_T71 l0 x13_1).f2.f2)))) := ⟨xw_ HB⟩
      (try clear BK285)
      (try clear BK287)
      (try clear HB)
      generalize ((((((((w33.setCell ⟨gb287, 0, none⟩ (.string ((rd_T71 l0 x13_1).f0))).setCell ⟨gb287, 1, none⟩ (.slice A286_1 ((rd_T71 l0 x13_1).f1).length c286_1)).setCell ⟨gb287, 2, none⟩ (.int .i64 ((rd_T71 l0 x13_1).f2.f0.f0))).setCell ⟨gb287, 3, none⟩ (.string ((rd_T71 l0 x13_1).f2.f0.f1))).setCell ⟨gb287, 4, none⟩ (.slice A286_4 ((rd_T71 l0 x13_1).f2.f0.f2).length c286_4)).setCell ⟨gb287, 5, none⟩ (.string ((rd_T71 l0 x13_1).f2.f0.f3))).setCell ⟨gb287, 6, none⟩ (.int .i64 ((rd_T71 l0 x13_1).f2.f1))).setCell ⟨gb287, 7, none⟩ (.int .i64 ((rd_T71 l0 x13_1).f2.f2))) = w36 at n0_ n1_ n2_ ⊢
      have BK285 := n0_
      have BK287 := n1_
      have HB := n2_
      clear n0_ n1_ n2_
      replace BK285 := Aside0.mk (blk_drew BK285.out)
      replace BK287 := Aside0.mk (blk_drew BK287.out)
      replace HB := Aside0.mk (below_drew1 HB.out)
      refine ms_ 26 (fun w' => w'.cell? ⟨gb287, 0, none⟩ = some (.string ((rd_T71 l0 x13_1).f0)) ∧ w'.cell? ⟨gb287, 1, none⟩ = some (.slice A286_1 ((rd_T71 l0 x13_1).f1).length c286_1) ∧ w'.cell? ⟨gb287, 2, none⟩ = some (.int .i64 ((rd_T71 l0 x13_1).f2.f0.f0)) ∧ w'.cell? ⟨gb287, 3, none⟩ = some (.string ((rd_T71 l0 x13_1).f2.f0.f1)) ∧ w'.cell? ⟨gb287, 4, none⟩ = some (.slice A286_4 ((rd_T71 l0 x13_1).f2.f0.f2).length c286_4) ∧ w'.cell? ⟨gb287, 5, none⟩ = some (.string ((rd_T71 l0 x13_1).f2.f0.f3)) ∧ w'.cell? ⟨gb287, 6, none⟩ = some (.int .i64 ((rd_T71 l0 x13_1).f2.f1)) ∧ w'.cell? ⟨gb287, 7, none⟩ = some (.int .i64 ((rd_T71 l0 x13_1).f2.f2)) ∧ w'.cell? ⟨gb285, 0, none⟩ = some (.string a2_0) ∧ w'.cell? ⟨gb285, 1, none⟩ = some (.string a2_1) ∧ w'.cell? ⟨gb285, 2, none⟩ = some (.slice A2_2 l2_2.length c2_2) ∧ w'.cell? ⟨gb285, 3, none⟩ = some (.string a2_3)) spec_l9Pick.tab5 spec_l9Pick.bits5 ⟨xk_ BK287 0, xk_ BK287 1, xk_ BK287 2, xk_ BK287 3, xk_ BK287 4, xk_ BK287 5, xk_ BK287 6, xk_ BK287 7, xk_ BK285 0, xk_ BK285 1, xk_ BK285 2, xk_ BK285 3⟩ (fun hHeld HT_ HW_ => ?_)
      generalize w36.drew = w37 at BK285 BK287 HB hHeld ⊢
      refine mp_ 0 18 ?_
      refine mp_ 2 20 ?_
      refine mt_ 1 19 hHeld ?_
      refine mp_ 3 21 ?_
      refine mp_ 4 22 ?_
      refine mp_ 6 24 ?_
      refine mt_ 5 23 hHeld ?_
      refine mt_ 7 25 hHeld ?_
      refine m1_ 8 26 Tryz.func55 #[.agg #[.string ((rd_T71 l0 x13_1).f0), .slice A286_1 ((rd_T71 l0 x13_1).f1).length c286_1, .int .i64 ((rd_T71 l0 x13_1).f2.f0.f0), .string ((rd_T71 l0 x13_1).f2.f0.f1), .slice A286_4 ((rd_T71 l0 x13_1).f2.f0.f2).length c286_4, .string ((rd_T71 l0 x13_1).f2.f0.f3), .int .i64 ((rd_T71 l0 x13_1).f2.f1), .int .i64 ((rd_T71 l0 x13_1).f2.f2)], .slice A2_2 l2_2.length c2_2] ?_
      with_reducible refine (spec_l9Matches.calls k1 ((rd_T71 l0 x13_1).f0) _ _ ((rd_T71 l0 x13_1).f1) ((rd_T71 l0 x13_1).f2.f0.f0) ((rd_T71 l0 x13_1).f2.f0.f1) _ _ ((rd_T71 l0 x13_1).f2.f0.f2) ((rd_T71 l0 x13_1).f2.f0.f3) ((rd_T71 l0 x13_1).f2.f1) ((rd_T71 l0 x13_1).f2.f2) _ _ l2_2 false _ ?side1 ?side2 ?side3 ?side4 ?side5 ?side6 A9.out).mono ?_
      (case side1 => exact xc_ ((Kd.C_below HR286_1.out HB.out)))
      (case side2 => exact HC286_1.out)
      (case side3 => exact xc_ ((Kd.C_below HR286_4.out HB.out)))
      (case side4 => exact HC286_4.out)
      (case side5 => exact xc_ ((Kd.C_below HR2_2.out HB.out)))
      (case side6 => exact HC2_2.out)
      rintro e w38 ⟨rfl, hb⟩
      refine ⟨_, rfl, ?_⟩
      replace BK285 := xbb_ BK285 hb
      replace BK287 := xbb_ BK287 hb
      replace HB := xws_ HB hb
      (try clear hb)
      refine ⟨⟨xk_ BK287 0, xk_ BK287 1, xk_ BK287 2, xk_ BK287 3, xk_ BK287 4, xk_ BK287 5, xk_ BK287 6, xk_ BK287 7, xk_ BK285 0, xk_ BK285 1, xk_ BK285 2, xk_ BK285 3⟩, fun hHeld => ?_⟩
      refine mn_ 26 ?_
      refine mp_ 9 27 ?_
      refine mp_ 10 28 ?_
      refine mu_ 11 29 ?_
      refine mu_ 12 30 ?_
      refine mu_ 13 31 ?_
      refine mu_ 14 32 ?_
      refine mu_ 15 33 ?_
      refine mu_ 16 34 ?_
      refine mu_ 17 35 ?_
      refine mu_ 18 36 ?_
      refine mu_ 19 37 ?_
      refine mu_ 20 38 ?_
      refine mu_ 21 39 ?_
      refine mu_ 22 40 ?_
      refine mu_ 23 41 ?_
      refine mu_ 24 42 ?_
      refine mp_ 25 43 ?_
      refine done_ (done_of HT_.out (by kernel_rfl)) ?_
      try go_wp2
      go_roundg k1
      case measure => have := HK1.out; omega
      case rel => exact ⟨(x8_1), (wrap64 (x13_1 + 1)), me_, me_, H', ⟨by have := HK1.out; omega⟩, ⟨xb_ BK285⟩, ⟨xw_ HB⟩⟩
    ·rw [if_neg c8] at H
     have c8b0 : (((rd_T71 l0 x13_1).f0).toList == a1.toList) = false := beq_eq_false_iff_ne.mpr c8
     have c8b1 : (((rd_T71 l0 x13_1).f0).toList != a1.toList) = true := bne_iff_ne.mpr c8
     have H' := Aside0.mk H
     clear H
     have p286 : 0 ≤ (x13_1 : Int) := md_
     have q286 : x13_1 < (l0.length : Int) := md_
     obtain ⟨ad286, A286_1, c286_1, A286_4, c286_4, e286, hx286_0, hx286_1, hx286_2, hx286_3, hx286_4, hx286_5, hx286_6, hx286_7, hl286_1, hi286_1, hl286_4, hi286_4⟩ := at_T71 HR0.out x13_1 p286 q286
     cases e286
     (try replace hx286_0 := (HB.out.cell (World.block_lt_of_cell? w _ hx286_0)).trans hx286_0)
     (try replace hx286_1 := (HB.out.cell (World.block_lt_of_cell? w _ hx286_1)).trans hx286_1)
     (try replace hx286_2 := (HB.out.cell (World.block_lt_of_cell? w _ hx286_2)).trans hx286_2)
     (try replace hx286_3 := (HB.out.cell (World.block_lt_of_cell? w _ hx286_3)).trans hx286_3)
     (try replace hx286_4 := (HB.out.cell (World.block_lt_of_cell? w _ hx286_4)).trans hx286_4)
     (try replace hx286_5 := (HB.out.cell (World.block_lt_of_cell? w _ hx286_5)).trans hx286_5)
     (try replace hx286_6 := (HB.out.cell (World.block_lt_of_cell? w _ hx286_6)).trans hx286_6)
     (try replace hx286_7 := (HB.out.cell (World.block_lt_of_cell? w _ hx286_7)).trans hx286_7)
     have HR286_1 := Aside0.mk hi286_1
     have HC286_1 := Aside0.mk hl286_1
     clear hi286_1 hl286_1
     have HR286_4 := Aside0.mk hi286_4
     have HC286_4 := Aside0.mk hl286_4
     clear hi286_4 hl286_4
     replace p286 := eq_true p286
     replace q286 := eq_true q286
     try go_wp2_with (first | ((with_reducible refine gd_ 10 ?_); refine xbe_ (N := 10) (cs := #[.string (⟨#[]⟩ : ByteArray), .slice none 0 0, .int .i64 0, .string (⟨#[]⟩ : ByteArray), .slice none 0 0, .string (⟨#[]⟩ : ByteArray), .int .i64 0, .int .i64 0]) (t := 71) ?_; intro gb287 hg w39 hbox hb; have BK287 := Aside0.mk (hbox); have GE287 := xge_ HB hg; replace HB := xws_ HB hb; have NB285_287 := xlt_ BK285 hg; have NB287_285 := xgt_ BK285 hg; replace BK285 := xbb_ BK285 hb; clear hb hbox hg; have hnb40 := NB287_285.out; have hnc40 := NB285_287.out; have ⟨_, _, _, _, _, _, _, _, _, _, _, _, _, _, _, _⟩ := c8_ BK287))
     have n0_ : Aside0 (((((((((w39.setCell ⟨gb287, 0, none⟩ (.string ((rd_T71 l0 x13_1).f0))).setCell ⟨gb287, 1, none⟩ (.slice A286_1 ((rd_T71 l0 x13_1).f1).length c286_1)).setCell ⟨gb287, 2, none⟩ (.int .i64 ((rd_T71 l0 x13_1).f2.f0.f0))).setCell ⟨gb287, 3, none⟩ (.string ((rd_T71 l0 x13_1).f2.f0.f1))).setCell ⟨gb287, 4, none⟩ (.slice A286_4 ((rd_T71 l0 x13_1).f2.f0.f2).length c286_4)).setCell ⟨gb287, 5, none⟩ (.string ((rd_T71 l0 x13_1).f2.f0.f3))).setCell ⟨gb287, 6, none⟩ (.int .i64 ((rd_T71 l0 x13_1).f2.f1))).setCell ⟨gb287, 7, none⟩ (.int .i64 ((rd_T71 l0 x13_1).f2.f2))).heap[gb285]? = some (.cells #[.string a2_0, .string a2_1, .slice A2_2 l2_2.length c2_2, .string a2_3] 35 (0, 0))) := ⟨mx_ BK285⟩
     have n1_ : Aside0 (((((((((w39.setCell ⟨gb287, 0, none⟩ (.string ((rd_T71 l0 x13_1).f0))).setCell ⟨gb287, 1, none⟩ (.slice A286_1 ((rd_T71 l0 x13_1).f1).length c286_1)).setCell ⟨gb287, 2, none⟩ (.int .i64 ((rd_T71 l0 x13_1).f2.f0.f0))).setCell ⟨gb287, 3, none⟩ (.string ((rd_T71 l0 x13_1).f2.f0.f1))).setCell ⟨gb287, 4, none⟩ (.slice A286_4 ((rd_T71 l0 x13_1).f2.f0.f2).length c286_4)).setCell ⟨gb287, 5, none⟩ (.string ((rd_T71 l0 x13_1).f2.f0.f3))).setCell ⟨gb287, 6, none⟩ (.int .i64 ((rd_T71 l0 x13_1).f2.f1))).setCell ⟨gb287, 7, none⟩ (.int .i64 ((rd_T71 l0 x13_1).f2.f2))).heap[gb287]? = some (.cells #[.string ((rd_T71 l0 x13_1).f0), .slice A286_1 ((rd_T71 l0 x13_1).f1).length c286_1, .int .i64 ((rd_T71 l0 x13_1).f2.f0.f0), .string ((rd_T71 l0 x13_1).f2.f0.f1), .slice A286_4 ((rd_T71 l0 x13_1).f2.f0.f2).length c286_4, .string ((rd_T71 l0 x13_1).f2.f0.f3), .int .i64 ((rd_T71 l0 x13_1).f2.f1), .int .i64 ((rd_T71 l0 x13_1).f2.f2)] 71 (0, 0))) := ⟨mx_ BK287⟩
     have n2_ : Aside0 (Below w.heap.size w ((((((((w39.setCell ⟨gb287, 0, none⟩ (.string ((rd_T71 l0 x13_1).f0))).setCell ⟨gb287, 1, none⟩ (.slice A286_1 ((rd_T71 l0 x13_1).f1).length c286_1)).setCell ⟨gb287, 2, none⟩ (.int .i64 ((rd_T71 l0 x13_1).f2.f0.f0))).setCell ⟨gb287, 3, none⟩ (.string ((rd_T71 l0 x13_1).f2.f0.f1))).setCell ⟨gb287, 4, none⟩ (.slice A286_4 ((rd_T71 l0 x13_1).f2.f0.f2).length c286_4)).setCell ⟨gb287, 5, none⟩ (.string ((rd_T71 l0 x13_1).f2.f0.f3))).setCell ⟨gb287, 6, none⟩ (.int .i64 ((rd_T71 l0 x13_1).f2.f1))).setCell ⟨gb287, 7, none⟩ (.int .i64 ((rd_T71 l0 x13_1).f2.f2)))) := ⟨xw_ HB⟩
     (try clear BK285)
     (try clear BK287)
     (try clear HB)
     generalize ((((((((w39.setCell ⟨gb287, 0, none⟩ (.string ((rd_T71 l0 x13_1).f0))).setCell ⟨gb287, 1, none⟩ (.slice A286_1 ((rd_T71 l0 x13_1).f1).length c286_1)).setCell ⟨gb287, 2, none⟩ (.int .i64 ((rd_T71 l0 x13_1).f2.f0.f0))).setCell ⟨gb287, 3, none⟩ (.string ((rd_T71 l0 x13_1).f2.f0.f1))).setCell ⟨gb287, 4, none⟩ (.slice A286_4 ((rd_T71 l0 x13_1).f2.f0.f2).length c286_4)).setCell ⟨gb287, 5, none⟩ (.string ((rd_T71 l0 x13_1).f2.f0.f3))).setCell ⟨gb287, 6, none⟩ (.int .i64 ((rd_T71 l0 x13_1).f2.f1))).setCell ⟨gb287, 7, none⟩ (.int .i64 ((rd_T71 l0 x13_1).f2.f2))) = w42 at n0_ n1_ n2_ ⊢
     have BK285 := n0_
     have BK287 := n1_
     have HB := n2_
     clear n0_ n1_ n2_
     replace BK285 := Aside0.mk (blk_drew BK285.out)
     replace BK287 := Aside0.mk (blk_drew BK287.out)
     replace HB := Aside0.mk (below_drew1 HB.out)
     refine ms_ 26 (fun w' => w'.cell? ⟨gb287, 0, none⟩ = some (.string ((rd_T71 l0 x13_1).f0)) ∧ w'.cell? ⟨gb287, 1, none⟩ = some (.slice A286_1 ((rd_T71 l0 x13_1).f1).length c286_1) ∧ w'.cell? ⟨gb287, 2, none⟩ = some (.int .i64 ((rd_T71 l0 x13_1).f2.f0.f0)) ∧ w'.cell? ⟨gb287, 3, none⟩ = some (.string ((rd_T71 l0 x13_1).f2.f0.f1)) ∧ w'.cell? ⟨gb287, 4, none⟩ = some (.slice A286_4 ((rd_T71 l0 x13_1).f2.f0.f2).length c286_4) ∧ w'.cell? ⟨gb287, 5, none⟩ = some (.string ((rd_T71 l0 x13_1).f2.f0.f3)) ∧ w'.cell? ⟨gb287, 6, none⟩ = some (.int .i64 ((rd_T71 l0 x13_1).f2.f1)) ∧ w'.cell? ⟨gb287, 7, none⟩ = some (.int .i64 ((rd_T71 l0 x13_1).f2.f2))) spec_l9Pick.tab5 spec_l9Pick.bits5 ⟨xk_ BK287 0, xk_ BK287 1, xk_ BK287 2, xk_ BK287 3, xk_ BK287 4, xk_ BK287 5, xk_ BK287 6, xk_ BK287 7⟩ (fun hHeld HT_ HW_ => ?_)
     generalize w42.drew = w43 at BK285 BK287 HB hHeld ⊢
     refine mp_ 0 18 ?_
     refine mp_ 2 20 ?_
     refine mt_ 1 19 hHeld ?_
     refine mp_ 3 21 ?_
     refine mp_ 4 22 ?_
     refine mu_ 5 23 ?_
     refine mu_ 6 24 ?_
     refine mu_ 7 25 ?_
     refine mu_ 8 26 ?_
     refine mp_ 9 27 ?_
     refine mp_ 10 28 ?_
     refine mu_ 11 29 ?_
     refine mu_ 12 30 ?_
     refine mu_ 13 31 ?_
     refine mu_ 14 32 ?_
     refine mu_ 15 33 ?_
     refine mu_ 16 34 ?_
     refine mu_ 17 35 ?_
     refine mu_ 18 36 ?_
     refine mu_ 19 37 ?_
     refine mu_ 20 38 ?_
     refine mu_ 21 39 ?_
     refine mu_ 22 40 ?_
     refine mu_ 23 41 ?_
     refine mu_ 24 42 ?_
     refine mp_ 25 43 ?_
     refine done_ (done_of HT_.out (by kernel_rfl)) ?_
     try go_wp2
     go_roundg k1
     case measure => have := HK1.out; omega
     case rel => exact ⟨(x8_1), (wrap64 (x13_1 + 1)), me_, me_, H', ⟨by have := HK1.out; omega⟩, ⟨xb_ BK285⟩, ⟨xw_ HB⟩⟩
   ·rw [if_neg c5] at H
    have c5b0 := decide_eq_false c5
    clear c5
    by_cases c44 : x8_1 < 0
    ·rw [if_pos c44] at H
     have c44b0 := decide_eq_true c44
     clear c44
     simp only [Option.some.injEq, Prod.mk.injEq] at H
     obtain ⟨rfl, rfl⟩ := H
     go_wp2
     go_ret2
     exact ⟨mf_, xw_ HB⟩
    ·rw [if_neg c44] at H
     have c44b0 := decide_eq_false c44
     clear c44
     simp only [Option.some.injEq, Prod.mk.injEq] at H
     obtain ⟨rfl, rfl⟩ := H
     go_wp2
     go_ret2
     exact ⟨mf_, xw_ HB⟩

end Go.Proofs.YtpggepjfhgalkaaGreatDoor.PFnExactPickItem
