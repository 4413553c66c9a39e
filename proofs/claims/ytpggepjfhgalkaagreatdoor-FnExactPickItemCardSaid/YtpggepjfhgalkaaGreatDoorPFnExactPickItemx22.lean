-- Written by a program of this project (xprint.py) out of the translation; Lean checks it.
import Derived.Test.YtpggepjfhgalkaaGreatDoorPFnExactPickItemx0
import Derived.Test.YtpggepjfhgalkaaGreatDoorPFnExactPickItemx21
namespace Go.Proofs.YtpggepjfhgalkaaGreatDoor.PFnExactPickItem
open Go.RowKit Go.Proofs.YtpggepjfhgalkaaGreatDoorW.PrintWords Go.Proofs.YtpggepjfhgalkaaGreatDoorW.PrintLast Go.Proofs.YtpggepjfhgalkaaGreatDoorW.PrintMore
attribute [local go_sem] max2_int min2_int max_two min_two max_three min_three max_four min_four   -- for this text's walks alone
set_option linter.unusedVariables false
set_option linter.unusedSimpArgs false

/-! ### laws_eqItemS: function 18 -/
def laws_eqItemS.l0 : Nat → List (S71) → List (S71) → Int → Option (Bool)
 | 0, _, _, _ => none
 | k + 1, x0, x1, x5 => if x5 < (x0.length : Int) then (if 0 ≤ x5 then (if x5 < (x1.length : Int) then ((laws_eqItem.f k ((rd_T71 x0 x5).f0) ((rd_T71 x0 x5).f1) ((rd_T71 x0 x5).f2.f0.f0) ((rd_T71 x0 x5).f2.f0.f1) ((rd_T71 x0 x5).f2.f0.f2) ((rd_T71 x0 x5).f2.f0.f3) ((rd_T71 x0 x5).f2.f1) ((rd_T71 x0 x5).f2.f2) ((rd_T71 x1 x5).f0) ((rd_T71 x1 x5).f1) ((rd_T71 x1 x5).f2.f0.f0) ((rd_T71 x1 x5).f2.f0.f1) ((rd_T71 x1 x5).f2.f0.f2) ((rd_T71 x1 x5).f2.f0.f3) ((rd_T71 x1 x5).f2.f1) ((rd_T71 x1 x5).f2.f2)).bind fun t460 => (if t460 = true then (laws_eqItemS.l0 k x0 x1 (wrap64 (x5 + 1))) else (some false))) else (none)) else (none)) else (some true)
def laws_eqItemS.f (k : Nat) (l0 : List (S71)) (l1 : List (S71)) : Option (Bool) := if (l0.length : Int) = (l1.length : Int) then (laws_eqItemS.l0 k l0 l1 0) else (some false)
def laws_eqItemS.T6 : Bool × List (List Nat × List Nat) := (true, [([], []), ([], []), ([0, 1], [0, 1]), ([2], [2]), ([], []), ([], []), ([4, 5], [4, 5]), ([6], [6]), ([3, 7], [3, 7]), ([8], [8])])
def laws_eqItemS.B6 : List Nat := [0, 0, 3, 7, 0, 0, 48, 112, 255, 511]
theorem laws_eqItemS.tab6 : rtab .any (opsOf Tryz.f18 6) = laws_eqItemS.T6 := by kernel_rfl
theorem laws_eqItemS.bits6 : waitsOk laws_eqItemS.T6.2 laws_eqItemS.B6 = true := by kernel_rfl
set_option maxHeartbeats 8000000 in
set_option maxRecDepth 100000 in
theorem laws_eqItemS.calls (k : Nat) (A0 : Option Addr) (c0 : Nat) (l0 : List (S71)) (A1 : Option Addr) (c1 : Nat) (l1 : List (S71)) (r : Bool) (w : World) (hr0 : Kd.C k71 w A0 l0.length l0) (hc0 : l0.length ≤ c0) (hr1 : Kd.C k71 w A1 l1.length l1) (hc1 : l1.length ≤ c1) (h : laws_eqItemS.f k l0 l1 = some r) :
  Calls Tryz.prog 18 #[.slice A0 l0.length c0, .slice A1 l1.length c1] w fun e w' => e = .returned (.bool r) ∧ Below w.heap.size w w' := by
 have hu71 := Tryz.underlying71
 have HR0 := Aside0.mk hr0
 have HC0 := Aside0.mk hc0
 clear hr0 hc0
 have HR1 := Aside0.mk hr1
 have HC1 := Aside0.mk hc1
 clear hr1 hc1
 have HB := Aside0.mk (Below.refl w.heap.size w)
 have H := h
 unfold laws_eqItemS.f at H
 clear h
 by_cases c3 : (l0.length : Int) = (l1.length : Int)
 ·rw [if_pos c3] at H
  have c3b0 : ((l0.length : Int) == (l1.length : Int)) = true := beq_iff_eq.mpr c3
  have c3b1 : ((l0.length : Int) != (l1.length : Int)) = false := bne_eq_false_iff_eq.mpr c3
  have c3b2 : (l0.length == l1.length) = true := by first | simpa using c3 | (simp at c3 ⊢; omega)
  clear c3
  have H' := Aside0.mk H
  clear H
  go_enter Tryz.func18, Tryz.ntmps18
  go_wp2
  go_loopg [5] k (fun kq v5 w' => ∃ (x5_1 : Int), v5 = .int .i64 x5_1 ∧ Aside0 (laws_eqItemS.l0 kq l0 l1 x5_1 = some r) ∧ Aside0 (kq ≤ k) ∧ Aside0 (Below w.heap.size w w'))
  case atStart => exact ⟨(0), me_, H', ⟨Nat.le_refl _⟩, ⟨xw_ HB⟩⟩
  case round =>
   clear H'
   try clear c3
   try clear c3b0
   try clear c3b1
   try clear c3b2
   obtain ⟨x5_1, rfl, HA, HK1, HB⟩ := hrel
   cases gk with
   | zero => exact absurd HA.out (by simp [laws_eqItemS.l0])
   | succ k1 =>
    have H := HA.out
    clear HA
    simp only [laws_eqItemS.l0] at H
    by_cases c4 : x5_1 < (l0.length : Int)
    ·rw [if_pos c4] at H
     have c4b0 := decide_eq_true c4
     clear c4
     replace H := mi_ H
     obtain ⟨c5, H⟩ := H
     have c5b0 := decide_eq_true c5
     clear c5
     replace H := mi_ H
     obtain ⟨c6, H⟩ := H
     have c6b0 := decide_eq_true c6
     clear c6
     replace H := mb_ H
     obtain ⟨t460, A7, H⟩ := H
     by_cases c8 : t460 = true
     ·subst c8
      rw [if_pos rfl] at H
      have H' := Aside0.mk H
      clear H
      try go_wp2
      replace HB := Aside0.mk (below_drew1 HB.out)
      have p458 : 0 ≤ (x5_1 : Int) := md_
      have q458 : x5_1 < (l0.length : Int) := md_
      obtain ⟨ad458, A458_1, c458_1, A458_4, c458_4, e458, hx458_0, hx458_1, hx458_2, hx458_3, hx458_4, hx458_5, hx458_6, hx458_7, hl458_1, hi458_1, hl458_4, hi458_4⟩ := at_T71 HR0.out x5_1 p458 q458
      have hw458_7 := hx458_7
      have hw458_6 := hx458_6
      have hw458_5 := hx458_5
      have hw458_4 := hx458_4
      have hw458_3 := hx458_3
      have hw458_2 := hx458_2
      have hw458_1 := hx458_1
      have hw458_0 := hx458_0
      cases e458
      (try replace hx458_0 := (HB.out.cell (World.block_lt_of_cell? w _ hx458_0)).trans hx458_0)
      (try replace hx458_1 := (HB.out.cell (World.block_lt_of_cell? w _ hx458_1)).trans hx458_1)
      (try replace hx458_2 := (HB.out.cell (World.block_lt_of_cell? w _ hx458_2)).trans hx458_2)
      (try replace hx458_3 := (HB.out.cell (World.block_lt_of_cell? w _ hx458_3)).trans hx458_3)
      (try replace hx458_4 := (HB.out.cell (World.block_lt_of_cell? w _ hx458_4)).trans hx458_4)
      (try replace hx458_5 := (HB.out.cell (World.block_lt_of_cell? w _ hx458_5)).trans hx458_5)
      (try replace hx458_6 := (HB.out.cell (World.block_lt_of_cell? w _ hx458_6)).trans hx458_6)
      (try replace hx458_7 := (HB.out.cell (World.block_lt_of_cell? w _ hx458_7)).trans hx458_7)
      have HR458_1 := Aside0.mk hi458_1
      have HC458_1 := Aside0.mk hl458_1
      clear hi458_1 hl458_1
      have HR458_4 := Aside0.mk hi458_4
      have HC458_4 := Aside0.mk hl458_4
      clear hi458_4 hl458_4
      replace p458 := eq_true p458
      replace q458 := eq_true q458
      have p459 : 0 ≤ (x5_1 : Int) := md_
      have q459 : x5_1 < (l1.length : Int) := md_
      obtain ⟨ad459, A459_1, c459_1, A459_4, c459_4, e459, hx459_0, hx459_1, hx459_2, hx459_3, hx459_4, hx459_5, hx459_6, hx459_7, hl459_1, hi459_1, hl459_4, hi459_4⟩ := at_T71 HR1.out x5_1 p459 q459
      have hw459_7 := hx459_7
      have hw459_6 := hx459_6
      have hw459_5 := hx459_5
      have hw459_4 := hx459_4
      have hw459_3 := hx459_3
      have hw459_2 := hx459_2
      have hw459_1 := hx459_1
      have hw459_0 := hx459_0
      cases e459
      (try replace hx459_0 := (HB.out.cell (World.block_lt_of_cell? w _ hx459_0)).trans hx459_0)
      (try replace hx459_1 := (HB.out.cell (World.block_lt_of_cell? w _ hx459_1)).trans hx459_1)
      (try replace hx459_2 := (HB.out.cell (World.block_lt_of_cell? w _ hx459_2)).trans hx459_2)
      (try replace hx459_3 := (HB.out.cell (World.block_lt_of_cell? w _ hx459_3)).trans hx459_3)
      (try replace hx459_4 := (HB.out.cell (World.block_lt_of_cell? w _ hx459_4)).trans hx459_4)
      (try replace hx459_5 := (HB.out.cell (World.block_lt_of_cell? w _ hx459_5)).trans hx459_5)
      (try replace hx459_6 := (HB.out.cell (World.block_lt_of_cell? w _ hx459_6)).trans hx459_6)
      (try replace hx459_7 := (HB.out.cell (World.block_lt_of_cell? w _ hx459_7)).trans hx459_7)
      have HR459_1 := Aside0.mk hi459_1
      have HC459_1 := Aside0.mk hl459_1
      clear hi459_1 hl459_1
      have HR459_4 := Aside0.mk hi459_4
      have HC459_4 := Aside0.mk hl459_4
      clear hi459_4 hl459_4
      replace p459 := eq_true p459
      replace q459 := eq_true q459
      refine ms_ 10 (fun w' => w'.cell? (ad458.add ((x5_1).toNat * 8)) = some (.string ((rd_T71 l0 x5_1).f0)) ∧ w'.cell? ⟨(ad458.add ((x5_1).toNat * 8)).block, (ad458.add ((x5_1).toNat * 8)).off + 1, none⟩ = some (.slice A458_1 ((rd_T71 l0 x5_1).f1).length c458_1) ∧ w'.cell? ⟨(ad458.add ((x5_1).toNat * 8)).block, (ad458.add ((x5_1).toNat * 8)).off + 2, none⟩ = some (.int .i64 ((rd_T71 l0 x5_1).f2.f0.f0)) ∧ w'.cell? ⟨(ad458.add ((x5_1).toNat * 8)).block, (ad458.add ((x5_1).toNat * 8)).off + 3, none⟩ = some (.string ((rd_T71 l0 x5_1).f2.f0.f1)) ∧ w'.cell? ⟨(ad458.add ((x5_1).toNat * 8)).block, (ad458.add ((x5_1).toNat * 8)).off + 4, none⟩ = some (.slice A458_4 ((rd_T71 l0 x5_1).f2.f0.f2).length c458_4) ∧ w'.cell? ⟨(ad458.add ((x5_1).toNat * 8)).block, (ad458.add ((x5_1).toNat * 8)).off + 5, none⟩ = some (.string ((rd_T71 l0 x5_1).f2.f0.f3)) ∧ w'.cell? ⟨(ad458.add ((x5_1).toNat * 8)).block, (ad458.add ((x5_1).toNat * 8)).off + 6, none⟩ = some (.int .i64 ((rd_T71 l0 x5_1).f2.f1)) ∧ w'.cell? ⟨(ad458.add ((x5_1).toNat * 8)).block, (ad458.add ((x5_1).toNat * 8)).off + 7, none⟩ = some (.int .i64 ((rd_T71 l0 x5_1).f2.f2)) ∧ w'.cell? (ad459.add ((x5_1).toNat * 8)) = some (.string ((rd_T71 l1 x5_1).f0)) ∧ w'.cell? ⟨(ad459.add ((x5_1).toNat * 8)).block, (ad459.add ((x5_1).toNat * 8)).off + 1, none⟩ = some (.slice A459_1 ((rd_T71 l1 x5_1).f1).length c459_1) ∧ w'.cell? ⟨(ad459.add ((x5_1).toNat * 8)).block, (ad459.add ((x5_1).toNat * 8)).off + 2, none⟩ = some (.int .i64 ((rd_T71 l1 x5_1).f2.f0.f0)) ∧ w'.cell? ⟨(ad459.add ((x5_1).toNat * 8)).block, (ad459.add ((x5_1).toNat * 8)).off + 3, none⟩ = some (.string ((rd_T71 l1 x5_1).f2.f0.f1)) ∧ w'.cell? ⟨(ad459.add ((x5_1).toNat * 8)).block, (ad459.add ((x5_1).toNat * 8)).off + 4, none⟩ = some (.slice A459_4 ((rd_T71 l1 x5_1).f2.f0.f2).length c459_4) ∧ w'.cell? ⟨(ad459.add ((x5_1).toNat * 8)).block, (ad459.add ((x5_1).toNat * 8)).off + 5, none⟩ = some (.string ((rd_T71 l1 x5_1).f2.f0.f3)) ∧ w'.cell? ⟨(ad459.add ((x5_1).toNat * 8)).block, (ad459.add ((x5_1).toNat * 8)).off + 6, none⟩ = some (.int .i64 ((rd_T71 l1 x5_1).f2.f1)) ∧ w'.cell? ⟨(ad459.add ((x5_1).toNat * 8)).block, (ad459.add ((x5_1).toNat * 8)).off + 7, none⟩ = some (.int .i64 ((rd_T71 l1 x5_1).f2.f2))) laws_eqItemS.tab6 laws_eqItemS.bits6 ⟨((HB.out.cell (World.block_lt_of_cell? w _ hw458_0)).trans hw458_0), ((HB.out.cell (World.block_lt_of_cell? w _ hw458_1)).trans hw458_1), ((HB.out.cell (World.block_lt_of_cell? w _ hw458_2)).trans hw458_2), ((HB.out.cell (World.block_lt_of_cell? w _ hw458_3)).trans hw458_3), ((HB.out.cell (World.block_lt_of_cell? w _ hw458_4)).trans hw458_4), ((HB.out.cell (World.block_lt_of_cell? w _ hw458_5)).trans hw458_5), ((HB.out.cell (World.block_lt_of_cell? w _ hw458_6)).trans hw458_6), ((HB.out.cell (World.block_lt_of_cell? w _ hw458_7)).trans hw458_7), ((HB.out.cell (World.block_lt_of_cell? w _ hw459_0)).trans hw459_0), ((HB.out.cell (World.block_lt_of_cell? w _ hw459_1)).trans hw459_1), ((HB.out.cell (World.block_lt_of_cell? w _ hw459_2)).trans hw459_2), ((HB.out.cell (World.block_lt_of_cell? w _ hw459_3)).trans hw459_3), ((HB.out.cell (World.block_lt_of_cell? w _ hw459_4)).trans hw459_4), ((HB.out.cell (World.block_lt_of_cell? w _ hw459_5)).trans hw459_5), ((HB.out.cell (World.block_lt_of_cell? w _ hw459_6)).trans hw459_6), ((HB.out.cell (World.block_lt_of_cell? w _ hw459_7)).trans hw459_7)⟩ (fun hHeld HT_ HW_ => ?_)
      generalize wr.drew = w9 at HB HR458_1 HR458_4 HR459_1 HR459_4 hx458_0 hx458_1 hx458_2 hx458_3 hx458_4 hx458_5 hx458_6 hx458_7 hx459_0 hx459_1 hx459_2 hx459_3 hx459_4 hx459_5 hx459_6 hx459_7 hHeld ⊢
      refine mp_ 0 17 ?_
      refine mp_ 1 18 ?_
      refine mp_ 2 19 ?_
      refine mp_ 4 21 ?_
      refine mp_ 5 22 ?_
      refine mp_ 6 23 ?_
      refine mt_ 3 20 hHeld ?_
      refine mt_ 7 24 hHeld ?_
      refine m1_ 8 25 Tryz.func32 #[.agg #[.string ((rd_T71 l0 x5_1).f0), .slice A458_1 ((rd_T71 l0 x5_1).f1).length c458_1, .int .i64 ((rd_T71 l0 x5_1).f2.f0.f0), .string ((rd_T71 l0 x5_1).f2.f0.f1), .slice A458_4 ((rd_T71 l0 x5_1).f2.f0.f2).length c458_4, .string ((rd_T71 l0 x5_1).f2.f0.f3), .int .i64 ((rd_T71 l0 x5_1).f2.f1), .int .i64 ((rd_T71 l0 x5_1).f2.f2)], .agg #[.string ((rd_T71 l1 x5_1).f0), .slice A459_1 ((rd_T71 l1 x5_1).f1).length c459_1, .int .i64 ((rd_T71 l1 x5_1).f2.f0.f0), .string ((rd_T71 l1 x5_1).f2.f0.f1), .slice A459_4 ((rd_T71 l1 x5_1).f2.f0.f2).length c459_4, .string ((rd_T71 l1 x5_1).f2.f0.f3), .int .i64 ((rd_T71 l1 x5_1).f2.f1), .int .i64 ((rd_T71 l1 x5_1).f2.f2)]] ?_
      with_reducible refine (laws_eqItem.calls k1 ((rd_T71 l0 x5_1).f0) _ _ ((rd_T71 l0 x5_1).f1) ((rd_T71 l0 x5_1).f2.f0.f0) ((rd_T71 l0 x5_1).f2.f0.f1) _ _ ((rd_T71 l0 x5_1).f2.f0.f2) ((rd_T71 l0 x5_1).f2.f0.f3) ((rd_T71 l0 x5_1).f2.f1) ((rd_T71 l0 x5_1).f2.f2) ((rd_T71 l1 x5_1).f0) _ _ ((rd_T71 l1 x5_1).f1) ((rd_T71 l1 x5_1).f2.f0.f0) ((rd_T71 l1 x5_1).f2.f0.f1) _ _ ((rd_T71 l1 x5_1).f2.f0.f2) ((rd_T71 l1 x5_1).f2.f0.f3) ((rd_T71 l1 x5_1).f2.f1) ((rd_T71 l1 x5_1).f2.f2) true _ ?side1 ?side2 ?side3 ?side4 ?side5 ?side6 ?side7 ?side8 A7.out).mono ?_
      (case side1 => exact xc_ ((Kd.C_below HR458_1.out HB.out)))
      (case side2 => exact HC458_1.out)
      (case side3 => exact xc_ ((Kd.C_below HR458_4.out HB.out)))
      (case side4 => exact HC458_4.out)
      (case side5 => exact xc_ ((Kd.C_below HR459_1.out HB.out)))
      (case side6 => exact HC459_1.out)
      (case side7 => exact xc_ ((Kd.C_below HR459_4.out HB.out)))
      (case side8 => exact HC459_4.out)
      rintro e w10 ⟨rfl, hb⟩
      refine ⟨_, rfl, ?_⟩
      replace HB := xws_ HB hb
      (try clear hb)
      refine ⟨⟨((HB.out.cell (World.block_lt_of_cell? w _ hw458_0)).trans hw458_0), ((HB.out.cell (World.block_lt_of_cell? w _ hw458_1)).trans hw458_1), ((HB.out.cell (World.block_lt_of_cell? w _ hw458_2)).trans hw458_2), ((HB.out.cell (World.block_lt_of_cell? w _ hw458_3)).trans hw458_3), ((HB.out.cell (World.block_lt_of_cell? w _ hw458_4)).trans hw458_4), ((HB.out.cell (World.block_lt_of_cell? w _ hw458_5)).trans hw458_5), ((HB.out.cell (World.block_lt_of_cell? w _ hw458_6)).trans hw458_6), ((HB.out.cell (World.block_lt_of_cell? w _ hw458_7)).trans hw458_7), ((HB.out.cell (World.block_lt_of_cell? w _ hw459_0)).trans hw459_0), ((HB.out.cell (World.block_lt_of_cell? w _ hw459_1)).trans hw459_1), ((HB.out.cell (World.block_lt_of_cell? w _ hw459_2)).trans hw459_2), ((HB.out.cell (World.block_lt_of_cell? w _ hw459_3)).trans hw459_3), ((HB.out.cell (World.block_lt_of_cell? w _ hw459_4)).trans hw459_4), ((HB.out.cell (World.block_lt_of_cell? w _ hw459_5)).trans hw459_5), ((HB.out.cell (World.block_lt_of_cell? w _ hw459_6)).trans hw459_6), ((HB.out.cell (World.block_lt_of_cell? w _ hw459_7)).trans hw459_7)⟩, fun hHeld => ?_⟩
      refine mn_ 25 ?_
      refine mp_ 9 26 ?_
      refine done_ (done_of HT_.out (by kernel_rfl)) ?_
      try go_wp2
      go_roundg k1
      case measure => have := HK1.out; omega
      case rel => exact ⟨(wrap64 (x5_1 + 1)), me_, H', ⟨by have := HK1.out; omega⟩, ⟨xw_ HB⟩⟩
     ·replace c8 := Bool.eq_false_iff.mpr c8
      subst c8
      rw [if_neg (show ¬ (false = true) by decide)] at H
      obtain rfl := Option.some.inj H
      try go_wp2
      replace HB := Aside0.mk (below_drew1 HB.out)
      have p458 : 0 ≤ (x5_1 : Int) := md_
      have q458 : x5_1 < (l0.length : Int) := md_
      obtain ⟨ad458, A458_1, c458_1, A458_4, c458_4, e458, hx458_0, hx458_1, hx458_2, hx458_3, hx458_4, hx458_5, hx458_6, hx458_7, hl458_1, hi458_1, hl458_4, hi458_4⟩ := at_T71 HR0.out x5_1 p458 q458
      have hw458_7 := hx458_7
      have hw458_6 := hx458_6
      have hw458_5 := hx458_5
      have hw458_4 := hx458_4
      have hw458_3 := hx458_3
      have hw458_2 := hx458_2
      have hw458_1 := hx458_1
      have hw458_0 := hx458_0
      cases e458
      (try replace hx458_0 := (HB.out.cell (World.block_lt_of_cell? w _ hx458_0)).trans hx458_0)
      (try replace hx458_1 := (HB.out.cell (World.block_lt_of_cell? w _ hx458_1)).trans hx458_1)
      (try replace hx458_2 := (HB.out.cell (World.block_lt_of_cell? w _ hx458_2)).trans hx458_2)
      (try replace hx458_3 := (HB.out.cell (World.block_lt_of_cell? w _ hx458_3)).trans hx458_3)
      (try replace hx458_4 := (HB.out.cell (World.block_lt_of_cell? w _ hx458_4)).trans hx458_4)
      (try replace hx458_5 := (HB.out.cell (World.block_lt_of_cell? w _ hx458_5)).trans hx458_5)
      (try replace hx458_6 := (HB.out.cell (World.block_lt_of_cell? w _ hx458_6)).trans hx458_6)
      (try replace hx458_7 := (HB.out.cell (World.block_lt_of_cell? w _ hx458_7)).trans hx458_7)
      have HR458_1 := Aside0.mk hi458_1
      have HC458_1 := Aside0.mk hl458_1
      clear hi458_1 hl458_1
      have HR458_4 := Aside0.mk hi458_4
      have HC458_4 := Aside0.mk hl458_4
      clear hi458_4 hl458_4
      replace p458 := eq_true p458
      replace q458 := eq_true q458
      have p459 : 0 ≤ (x5_1 : Int) := md_
      have q459 : x5_1 < (l1.length : Int) := md_
      obtain ⟨ad459, A459_1, c459_1, A459_4, c459_4, e459, hx459_0, hx459_1, hx459_2, hx459_3, hx459_4, hx459_5, hx459_6, hx459_7, hl459_1, hi459_1, hl459_4, hi459_4⟩ := at_T71 HR1.out x5_1 p459 q459
      have hw459_7 := hx459_7
      have hw459_6 := hx459_6
      have hw459_5 := hx459_5
      have hw459_4 := hx459_4
      have hw459_3 := hx459_3
      have hw459_2 := hx459_2
      have hw459_1 := hx459_1
      have hw459_0 := hx459_0
      cases e459
      (try replace hx459_0 := (HB.out.cell (World.block_lt_of_cell? w _ hx459_0)).trans hx459_0)
      (try replace hx459_1 := (HB.out.cell (World.block_lt_of_cell? w _ hx459_1)).trans hx459_1)
      (try replace hx459_2 := (HB.out.cell (World.block_lt_of_cell? w _ hx459_2)).trans hx459_2)
      (try replace hx459_3 := (HB.out.cell (World.block_lt_of_cell? w _ hx459_3)).trans hx459_3)
      (try replace hx459_4 := (HB.out.cell (World.block_lt_of_cell? w _ hx459_4)).trans hx459_4)
      (try replace hx459_5 := (HB.out.cell (World.block_lt_of_cell? w _ hx459_5)).trans hx459_5)
      (try replace hx459_6 := (HB.out.cell (World.block_lt_of_cell? w _ hx459_6)).trans hx459_6)
      (try replace hx459_7 := (HB.out.cell (World.block_lt_of_cell? w _ hx459_7)).trans hx459_7)
      have HR459_1 := Aside0.mk hi459_1
      have HC459_1 := Aside0.mk hl459_1
      clear hi459_1 hl459_1
      have HR459_4 := Aside0.mk hi459_4
      have HC459_4 := Aside0.mk hl459_4
      clear hi459_4 hl459_4
      replace p459 := eq_true p459
      replace q459 := eq_true q459
      refine ms_ 10 (fun w' => w'.cell? (ad458.add ((x5_1).toNat * 8)) = some (.string ((rd_T71 l0 x5_1).f0)) ∧ w'.cell? ⟨(ad458.add ((x5_1).toNat * 8)).block, (ad458.add ((x5_1).toNat * 8)).off + 1, none⟩ = some (.slice A458_1 ((rd_T71 l0 x5_1).f1).length c458_1) ∧ w'.cell? ⟨(ad458.add ((x5_1).toNat * 8)).block, (ad458.add ((x5_1).toNat * 8)).off + 2, none⟩ = some (.int .i64 ((rd_T71 l0 x5_1).f2.f0.f0)) ∧ w'.cell? ⟨(ad458.add ((x5_1).toNat * 8)).block, (ad458.add ((x5_1).toNat * 8)).off + 3, none⟩ = some (.string ((rd_T71 l0 x5_1).f2.f0.f1)) ∧ w'.cell? ⟨(ad458.add ((x5_1).toNat * 8)).block, (ad458.add ((x5_1).toNat * 8)).off + 4, none⟩ = some (.slice A458_4 ((rd_T71 l0 x5_1).f2.f0.f2).length c458_4) ∧ w'.cell? ⟨(ad458.add ((x5_1).toNat * 8)).block, (ad458.add ((x5_1).toNat * 8)).off + 5, none⟩ = some (.string ((rd_T71 l0 x5_1).f2.f0.f3)) ∧ w'.cell? ⟨(ad458.add ((x5_1).toNat * 8)).block, (ad458.add ((x5_1).toNat * 8)).off + 6, none⟩ = some (.int .i64 ((rd_T71 l0 x5_1).f2.f1)) ∧ w'.cell? ⟨(ad458.add ((x5_1).toNat * 8)).block, (ad458.add ((x5_1).toNat * 8)).off + 7, none⟩ = some (.int .i64 ((rd_T71 l0 x5_1).f2.f2)) ∧ w'.cell? (ad459.add ((x5_1).toNat * 8)) = some (.string ((rd_T71 l1 x5_1).f0)) ∧ w'.cell? ⟨(ad459.add ((x5_1).toNat * 8)).block, (ad459.add ((x5_1).toNat * 8)).off + 1, none⟩ = some (.slice A459_1 ((rd_T71 l1 x5_1).f1).length c459_1) ∧ w'.cell? ⟨(ad459.add ((x5_1).toNat * 8)).block, (ad459.add ((x5_1).toNat * 8)).off + 2, none⟩ = some (.int .i64 ((rd_T71 l1 x5_1).f2.f0.f0)) ∧ w'.cell? ⟨(ad459.add ((x5_1).toNat * 8)).block, (ad459.add ((x5_1).toNat * 8)).off + 3, none⟩ = some (.string ((rd_T71 l1 x5_1).f2.f0.f1)) ∧ w'.cell? ⟨(ad459.add ((x5_1).toNat * 8)).block, (ad459.add ((x5_1).toNat * 8)).off + 4, none⟩ = some (.slice A459_4 ((rd_T71 l1 x5_1).f2.f0.f2).length c459_4) ∧ w'.cell? ⟨(ad459.add ((x5_1).toNat * 8)).block, (ad459.add ((x5_1).toNat * 8)).off + 5, none⟩ = some (.string ((rd_T71 l1 x5_1).f2.f0.f3)) ∧ w'.cell? ⟨(ad459.add ((x5_1).toNat * 8)).block, (ad459.add ((x5_1).toNat * 8)).off + 6, none⟩ = some (.int .i64 ((rd_T71 l1 x5_1).f2.f1)) ∧ w'.cell? ⟨(ad459.add ((x5_1).toNat * 8)).block, (ad459.add ((x5_1).toNat * 8)).off + 7, none⟩ = some (.int .i64 ((rd_T71 l1 x5_1).f2.f2))) laws_eqItemS.tab6 laws_eqItemS.bits6 ⟨((HB.out.cell (World.block_lt_of_cell? w _ hw458_0)).trans hw458_0), ((HB.out.cell (World.block_lt_of_cell? w _ hw458_1)).trans hw458_1), ((HB.out.cell (World.block_lt_of_cell? w _ hw458_2)).trans hw458_2), ((HB.out.cell (World.block_lt_of_cell? w _ hw458_3)).trans hw458_3), ((HB.out.cell (World.block_lt_of_cell? w _ hw458_4)).trans hw458_4), ((HB.out.cell (World.block_lt_of_cell? w _ hw458_5)).trans hw458_5), ((HB.out.cell (World.block_lt_of_cell? w _ hw458_6)).trans hw458_6), ((HB.out.cell (World.block_lt_of_cell? w _ hw458_7)).trans hw458_7), ((HB.out.cell (World.block_lt_of_cell? w _ hw459_0)).trans hw459_0), ((HB.out.cell (World.block_lt_of_cell? w _ hw459_1)).trans hw459_1), ((HB.out.cell (World.block_lt_of_cell? w _ hw459_2)).trans hw459_2), ((HB.out.cell (World.block_lt_of_cell? w _ hw459_3)).trans hw459_3), ((HB.out.cell (World.block_lt_of_cell? w _ hw459_4)).trans hw459_4), ((HB.out.cell (World.block_lt_of_cell? w _ hw459_5)).trans hw459_5), ((HB.out.cell (World.block_lt_of_cell? w _ hw459_6)).trans hw459_6), ((HB.out.cell (World.block_lt_of_cell? w _ hw459_7)).trans hw459_7)⟩ (fun hHeld HT_ HW_ => ?_)
      generalize wr.drew = w11 at HB HR458_1 HR458_4 HR459_1 HR459_4 hx458_0 hx458_1 hx458_2 hx458_3 hx458_4 hx458_5 hx458_6 hx458_7 hx459_0 hx459_1 hx459_2 hx459_3 hx459_4 hx459_5 hx459_6 hx459_7 hHeld ⊢
      refine mp_ 0 17 ?_
      refine mp_ 1 18 ?_
      refine mp_ 2 19 ?_
      refine mp_ 4 21 ?_
      refine mp_ 5 22 ?_
      refine mp_ 6 23 ?_
      refine mt_ 3 20 hHeld ?_
      refine mt_ 7 24 hHeld ?_
      refine m1_ 8 25 Tryz.func32 #[.agg #[.string ((rd_T71 l0 x5_1).f0), .slice A458_1 ((rd_T71 l0 x5_1).f1).length c458_1, .int .i64 ((rd_T71 l0 x5_1).f2.f0.f0), .string ((rd_T71 l0 x5_1).f2.f0.f1), .slice A458_4 ((rd_T71 l0 x5_1).f2.f0.f2).length c458_4, .string ((rd_T71 l0 x5_1).f2.f0.f3), .int .i64 ((rd_T71 l0 x5_1).f2.f1), .int .i64 ((rd_T71 l0 x5_1).f2.f2)], .agg #[.string ((rd_T71 l1 x5_1).f0), .slice A459_1 ((rd_T71 l1 x5_1).f1).length c459_1, .int .i64 ((rd_T71 l1 x5_1).f2.f0.f0), .string ((rd_T71 l1 x5_1).f2.f0.f1), .slice A459_4 ((rd_T71 l1 x5_1).f2.f0.f2).length c459_4, .string ((rd_T71 l1 x5_1).f2.f0.f3), .int .i64 ((rd_T71 l1 x5_1).f2.f1), .int .i64 ((rd_T71 l1 x5_1).f2.f2)]] ?_
      with_reducible refine (laws_eqItem.calls k1 ((rd_T71 l0 x5_1).f0) _ _ ((rd_T71 l0 x5_1).f1) ((rd_T71 l0 x5_1).f2.f0.f0) ((rd_T71 l0 x5_1).f2.f0.f1) _ _ ((rd_T71 l0 x5_1).f2.f0.f2) ((rd_T71 l0 x5_1).f2.f0.f3) ((rd_T71 l0 x5_1).f2.f1) ((rd_T71 l0 x5_1).f2.f2) ((rd_T71 l1 x5_1).f0) _ _ ((rd_T71 l1 x5_1).f1) ((rd_T71 l1 x5_1).f2.f0.f0) ((rd_T71 l1 x5_1).f2.f0.f1) _ _ ((rd_T71 l1 x5_1).f2.f0.f2) ((rd_T71 l1 x5_1).f2.f0.f3) ((rd_T71 l1 x5_1).f2.f1) ((rd_T71 l1 x5_1).f2.f2) false _ ?side1 ?side2 ?side3 ?side4 ?side5 ?side6 ?side7 ?side8 A7.out).mono ?_
      (case side1 => exact xc_ ((Kd.C_below HR458_1.out HB.out)))
      (case side2 => exact HC458_1.out)
      (case side3 => exact xc_ ((Kd.C_below HR458_4.out HB.out)))
      (case side4 => exact HC458_4.out)
      (case side5 => exact xc_ ((Kd.C_below HR459_1.out HB.out)))
      (case side6 => exact HC459_1.out)
      (case side7 => exact xc_ ((Kd.C_below HR459_4.out HB.out)))
      (case side8 => exact HC459_4.out)
      rintro e w12 ⟨rfl, hb⟩
      refine ⟨_, rfl, ?_⟩
      replace HB := xws_ HB hb
      (try clear hb)
      refine ⟨⟨((HB.out.cell (World.block_lt_of_cell? w _ hw458_0)).trans hw458_0), ((HB.out.cell (World.block_lt_of_cell? w _ hw458_1)).trans hw458_1), ((HB.out.cell (World.block_lt_of_cell? w _ hw458_2)).trans hw458_2), ((HB.out.cell (World.block_lt_of_cell? w _ hw458_3)).trans hw458_3), ((HB.out.cell (World.block_lt_of_cell? w _ hw458_4)).trans hw458_4), ((HB.out.cell (World.block_lt_of_cell? w _ hw458_5)).trans hw458_5), ((HB.out.cell (World.block_lt_of_cell? w _ hw458_6)).trans hw458_6), ((HB.out.cell (World.block_lt_of_cell? w _ hw458_7)).trans hw458_7), ((HB.out.cell (World.block_lt_of_cell? w _ hw459_0)).trans hw459_0), ((HB.out.cell (World.block_lt_of_cell? w _ hw459_1)).trans hw459_1), ((HB.out.cell (World.block_lt_of_cell? w _ hw459_2)).trans hw459_2), ((HB.out.cell (World.block_lt_of_cell? w _ hw459_3)).trans hw459_3), ((HB.out.cell (World.block_lt_of_cell? w _ hw459_4)).trans hw459_4), ((HB.out.cell (World.block_lt_of_cell? w _ hw459_5)).trans hw459_5), ((HB.out.cell (World.block_lt_of_cell? w _ hw459_6)).trans hw459_6), ((HB.out.cell (World.block_lt_of_cell? w _ hw459_7)).trans hw459_7)⟩, fun hHeld => ?_⟩
      refine mn_ 25 ?_
      refine mp_ 9 26 ?_
      refine done_ (done_of HT_.out (by kernel_rfl)) ?_
      try go_wp2
      go_ret
      exact ⟨mf_, xw_ HB⟩
    ·rw [if_neg c4] at H
     have c4b0 := decide_eq_false c4
     clear c4
     obtain rfl := Option.some.inj H
     go_wp2
     go_ret
     exact ⟨mf_, xw_ HB⟩
 ·rw [if_neg c3] at H
  have c3b0 : ((l0.length : Int) == (l1.length : Int)) = false := beq_eq_false_iff_ne.mpr c3
  have c3b1 : ((l0.length : Int) != (l1.length : Int)) = true := bne_iff_ne.mpr c3
  have c3b2 : (l0.length == l1.length) = false := by first | simpa using c3 | (simp at c3 ⊢; omega)
  obtain rfl := Option.some.inj H
  go_enter Tryz.func18, Tryz.ntmps18
  go_wp2
  go_ret
  exact ⟨mf_, xw_ HB⟩

end Go.Proofs.YtpggepjfhgalkaaGreatDoor.PFnExactPickItem
