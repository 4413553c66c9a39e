-- Written by a program of this project (xprint.py) out of the translation; Lean checks it.
import Derived.Test.YtjkpomphkfecmaaPFnSpansx0
import Derived.Test.YtjkpomphkfecmaaPFnSpansx2
import Derived.Test.YtjkpomphkfecmaaPFnSpansx7
namespace Go.Proofs.Ytjkpomphkfecmaa.PFnSpans
open Go.RowKit Go.Proofs.YtjkpomphkfecmaaW.PrintWords Go.Proofs.YtjkpomphkfecmaaW.PrintLast Go.Proofs.YtjkpomphkfecmaaW.PrintMore
attribute [local go_sem] max2_int min2_int max_two min_two max_three min_three max_four min_four   -- for this text's walks alone
set_option linter.unusedVariables false
set_option linter.unusedSimpArgs false

/-! ### spec_CutSpans: function 11 -/
mutual
def spec_CutSpans.j0 : Nat → ByteArray → List (S32) → Bool → Option (List ByteArray × Bool)
  | 0, _, _, _ => none
  | k + 1, x0, x1, x18 => if x18 = true then (some (([] : List ByteArray), false)) else (spec_CutSpans.l0 k x0 ([] : List ByteArray) x1 (x1.length : Int) 0)
def spec_CutSpans.l0 : Nat → ByteArray → List ByteArray → List (S32) → Int → Int → Option (List ByteArray × Bool)
  | 0, _, _, _, _, _ => none
  | k + 1, x0, x6, x19, x20, x21 => if x21 < x20 then (if 0 ≤ x21 then (if x21 < (x19.length : Int) then (if 0 ≤ ((rd_T32 x19 x21).f0) then (if ((rd_T32 x19 x21).f0) ≤ ((rd_T32 x19 x21).f1) then (if ((rd_T32 x19 x21).f1) ≤ (x0.size : Int) then (if x6.length < 8796093022208 then (spec_CutSpans.l0 k x0 (x6 ++ [x0.extract (((rd_T32 x19 x21).f0) : Int).toNat (((rd_T32 x19 x21).f1) : Int).toNat]) x19 x20 (wrap64 (x21 + 1))) else (none)) else (none)) else (none)) else (none)) else (none)) else (none)) else (some (x6, true))
end
def spec_CutSpans.f (k : Nat) (a0 : ByteArray) (l1 : List (S32)) : Option (List ByteArray × Bool) := if (a0.size : Int) > 300 then (spec_CutSpans.j0 k a0 l1 true) else ((spec_l6Within.f k l1 (a0.size : Int)).bind fun t259 => (spec_CutSpans.j0 k a0 l1 (!t259)))
theorem spec_CutSpans.mono_l : ∀ k, (∀ y0 y1 y2, LeO (spec_CutSpans.j0 k y0 y1 y2) (spec_CutSpans.j0 (k + 1) y0 y1 y2)) ∧ (∀ y0 y1 y2 y3 y4, LeO (spec_CutSpans.l0 k y0 y1 y2 y3 y4) (spec_CutSpans.l0 (k + 1) y0 y1 y2 y3 y4))
  | 0 => ⟨fun _ _ _ r h => by simp [spec_CutSpans.j0] at h, fun _ _ _ _ _ r h => by simp [spec_CutSpans.l0] at h⟩
  | k + 1 => by
    obtain ⟨ih0, ih1⟩ := spec_CutSpans.mono_l k
    refine ⟨?_, ?_⟩
    · intro y0 y1 y2
      unfold spec_CutSpans.j0
      repeat' first
      | (with_reducible exact ih0 _ _ _)
      | (with_reducible exact ih1 _ _ _ _ _)
      | (with_reducible exact spec_l6Within.mono _ _ _)
      | (with_reducible exact LeO.refl _)
      | (with_reducible exact LeO.none _)
      | (with_reducible refine LeO.ite ?_ ?_)
      | (with_reducible refine LeO.bind ?_ (fun _ => ?_))
      | exact ih0 _ _ _
      | exact ih1 _ _ _ _ _
      | exact spec_l6Within.mono _ _ _
      | exact LeO.none _
      | refine LeO.ite ?_ ?_
      | refine LeO.bind ?_ (fun _ => ?_)
    · intro y0 y1 y2 y3 y4
      unfold spec_CutSpans.l0
      repeat' first
      | (with_reducible exact ih0 _ _ _)
      | (with_reducible exact ih1 _ _ _ _ _)
      | (with_reducible exact spec_l6Within.mono _ _ _)
      | (with_reducible exact LeO.refl _)
      | (with_reducible exact LeO.none _)
      | (with_reducible refine LeO.ite ?_ ?_)
      | (with_reducible refine LeO.bind ?_ (fun _ => ?_))
      | exact ih0 _ _ _
      | exact ih1 _ _ _ _ _
      | exact spec_l6Within.mono _ _ _
      | exact LeO.none _
      | refine LeO.ite ?_ ?_
      | refine LeO.bind ?_ (fun _ => ?_)
theorem spec_CutSpans.mono : ∀ a0 a1 k, LeO (spec_CutSpans.f k a0 a1) (spec_CutSpans.f (k + 1) a0 a1) := by
  intro a0 a1 k
  obtain ⟨ih0, ih1⟩ := spec_CutSpans.mono_l k
  unfold spec_CutSpans.f
  repeat' first
      | (with_reducible exact ih0 _ _ _)
      | (with_reducible exact ih1 _ _ _ _ _)
      | (with_reducible exact spec_l6Within.mono _ _ _)
      | (with_reducible exact LeO.refl _)
      | (with_reducible exact LeO.none _)
      | (with_reducible refine LeO.ite ?_ ?_)
      | (with_reducible refine LeO.bind ?_ (fun _ => ?_))
      | exact ih0 _ _ _
      | exact ih1 _ _ _ _ _
      | exact spec_l6Within.mono _ _ _
      | exact LeO.none _
      | refine LeO.ite ?_ ?_
      | refine LeO.bind ?_ (fun _ => ?_)
set_option maxHeartbeats 8000000 in
set_option maxRecDepth 100000 in
theorem spec_CutSpans.calls (k : Nat) (a0 : ByteArray) (A1 : Option Addr) (c1 : Nat) (l1 : List (S32)) (r1 : List ByteArray) (r2 : Bool) (w : World) (hr1 : Kd.C k32 w A1 l1.length l1) (hc1 : l1.length ≤ c1) (h : spec_CutSpans.f k a0 l1 = some (r1, r2)) :
    Calls Try.prog 11 #[.string a0, .slice A1 l1.length c1] w fun e w' => ∃ v0_ : Value, e = .returned (.tuple #[v0_, .bool r2]) ∧ Kd.R Kd.string 9 w' w.heap.size (fun _ => True) v0_ r1 ∧ Below w.heap.size w w' := by
  have hu32 := Try.underlying32
  have HR1 := Aside0.mk hr1
  have HC1 := Aside0.mk hc1
  clear hr1 hc1
  have HB := Aside0.mk (Below.refl w.heap.size w)
  have H : (if (a0.size : Int) > 300 then (spec_CutSpans.j0 k a0 l1 true) else ((spec_l6Within.f k l1 (a0.size : Int)).bind fun t259 => (spec_CutSpans.j0 k a0 l1 (!t259)))) = some (r1, r2) := h
  clear h
  have HC3 := Aside0.mk H
  clear H
  go_enter Try.func11, Try.ntmps11
  go_upto_region 1 with (fail)
  go_cut [18] (fun v18 wc => ∃ (kq : Nat) (x18_2 : Bool), v18 = .bool x18_2 ∧ Aside0 (spec_CutSpans.j0 kq a0 l1 x18_2 = some (r1, r2)) ∧ Aside0 (kq ≤ k) ∧ Aside0 (Below w.heap.size w wc))
  case first =>
    have H := HC3.out
    clear HC3
    by_cases c4 : (a0.size : Int) > 300
    · rw [if_pos c4] at H
      have c4b0 : decide (300 < (a0.size : Int)) = true := decide_eq_true c4
      have c4b1 : decide (300 < a0.size) = true := decide_eq_true (by omega)
      clear c4
      (first | rw [c4b0] | (simp only [i64_w, i32_w]; rw [c4b0]) | skip)
      have H' := Aside0.mk H
      clear H
      go_wp2
      go_meet
      case rel => exact ⟨_, (true), (by first | rfl | (simp; done) | (simp [*]; done)), H', ⟨by first | omega | exact Nat.le_refl _⟩, ⟨by repeat (first | (with_reducible first | exact HB.out | apply below_alloc | apply pw_below_drewN | apply below_drew1) | exact HB.out)⟩⟩
    · rw [if_neg c4] at H
      have c4b0 : decide (300 < (a0.size : Int)) = false := decide_eq_false c4
      have c4b1 : decide (300 < a0.size) = false := decide_eq_false (by omega)
      clear c4
      (first | rw [c4b0] | (simp only [i64_w, i32_w]; rw [c4b0]) | skip)
      replace H := Option.bind_eq_some_iff.mp H
      obtain ⟨t259, A50, H⟩ := H
      replace H : (spec_CutSpans.j0 k a0 l1 (!t259)) = some (r1, r2) := H
      have A5 := Aside0.mk A50
      clear A50
      have H' := Aside0.mk H
      clear H
      go_wp2_with (first | (go_at_call 24; (with_reducible refine (spec_l6Within.calls k _ _ l1 (a0.size : Int) t259 _ ?side1 ?side2 A5.out).mono ?_); (case side1 => repeat (first | exact (Kd.C_below HR1.out HB.out) | (with_reducible refine Kd.C_alloc ?_ _) | (with_reducible refine Kd.C_drewN ?_ _) | (with_reducible refine Kd.C_drew ?_))); (case side2 => exact HC1.out); rintro e w6 ⟨rfl, hb⟩; have n0_ := Aside0.mk (below_step (by repeat (first | (with_reducible first | exact HB.out | apply below_alloc | apply pw_below_drewN | apply below_drew1) | exact HB.out)) hb); clear HB; have HB := n0_; clear n0_; (try clear hb); (try clear hb2); (try clear hk); (try clear hi)))
      go_meet
      case rel => exact ⟨_, (!t259), (by first | rfl | (simp; done) | (simp [*]; done)), H', ⟨by first | omega | exact Nat.le_refl _⟩, ⟨by repeat (first | (with_reducible first | exact HB.out | apply below_alloc | apply pw_below_drewN | apply below_drew1) | exact HB.out)⟩⟩
  case rest =>
    clear HC3
    try clear c1
    try clear p2
    try clear c4
    try clear c4b0
    try clear c4b1
    obtain ⟨kq, x18_2, rfl, HA, HJ2, HB⟩ := hcut
    cases kq with
    | zero => exact absurd HA.out (by simp [spec_CutSpans.j0])
    | succ kj2 =>
      have H := HA.out
      clear HA
      simp only [spec_CutSpans.j0] at H
      by_cases c7 : x18_2 = true
      · subst c7
        have H1 : (some (([] : List ByteArray), false)) = some (r1, r2) := by rw [if_pos rfl] at H; exact H
        clear H
        have H := H1
        clear H1
        simp only [Option.some.injEq, Prod.mk.injEq] at H
        obtain ⟨rfl, rfl⟩ := H
        go_wp2
        go_ret2
        exact ⟨_, by first | rfl | (simp [errW_none, errW_some] <;> rfl) | (simp [*, errW_none, errW_some] <;> rfl), by first | exact Kd.R_nil _ _ _ _ _ | exact Kd.N_nil _ _ _ _ _ | exact Kd.V_nil _ _ _ _ _ | exact Kd.Q_nil _ _ _ _ _ | exact Kd.S_nil _ _ _ _ _, by repeat (first | (with_reducible first | exact HB.out | apply below_alloc | apply pw_below_drewN | apply below_drew1) | exact HB.out)⟩
      · replace c7 := Bool.eq_false_iff.mpr c7
        subst c7
        have H1 : (spec_CutSpans.l0 kj2 a0 ([] : List ByteArray) l1 (l1.length : Int) 0) = some (r1, r2) := by rw [if_neg (show ¬ (false = true) by decide)] at H; exact H
        clear H
        have H := H1
        clear H1
        have H' := Aside0.mk H
        clear H
        go_wp2
        go_loopg [6, 21] kj2 (fun kq v6 v21 w' => ∃ (x6_2 : List ByteArray) (x21_2 : Int), v21 = .int .i64 x21_2 ∧ Aside0 (spec_CutSpans.l0 kq a0 x6_2 l1 (l1.length : Int) x21_2 = some (r1, r2)) ∧ Aside0 (kq ≤ kj2) ∧ Aside0 (Kd.R Kd.string 9 w' w.heap.size (fun _ => True) v6 x6_2) ∧ Aside0 (Below w.heap.size w w'))
        case atStart => exact ⟨(([] : List ByteArray)), (0), (by first | rfl | (simp; done) | (simp [*]; done)), H', ⟨Nat.le_refl _⟩, ⟨by first | exact Kd.R_nil _ _ _ _ _ | exact Kd.N_nil _ _ _ _ _ | exact Kd.V_nil _ _ _ _ _ | exact Kd.Q_nil _ _ _ _ _ | exact Kd.S_nil _ _ _ _ _⟩, ⟨by repeat (first | (with_reducible first | exact HB.out | apply below_alloc | apply pw_below_drewN | apply below_drew1) | exact HB.out)⟩⟩
        case round =>
          clear H'
          try clear c1
          try clear p2
          try clear c4
          try clear c4b0
          try clear c4b1
          try clear c7
          try clear p2
          obtain ⟨x6_2, x21_2, rfl, HA, HK2, HO_6, HB⟩ := hrel
          cases gk with
          | zero => exact absurd HA.out (by simp [spec_CutSpans.l0])
          | succ k2 =>
            have H := HA.out
            clear HA
            simp only [spec_CutSpans.l0] at H
            by_cases c8 : x21_2 < (l1.length : Int)
            · rw [if_pos c8] at H
              have c8b0 : decide (x21_2 < (l1.length : Int)) = true := decide_eq_true c8
              clear c8
              by_cases c9 : 0 ≤ x21_2
              · rw [if_pos c9] at H
                have c9b0 : decide (0 ≤ x21_2) = true := decide_eq_true c9
                clear c9
                by_cases c10 : x21_2 < (l1.length : Int)
                · rw [if_pos c10] at H
                  have c10b0 : decide (x21_2 < (l1.length : Int)) = true := decide_eq_true c10
                  clear c10
                  by_cases c11 : 0 ≤ ((rd_T32 l1 x21_2).f0)
                  · rw [if_pos c11] at H
                    have c11b0 := eq_true c11
                    have c11b1 : decide (0 ≤ ((rd_T32 l1 x21_2).f0)) = true := decide_eq_true c11
                    clear c11
                    by_cases c12 : ((rd_T32 l1 x21_2).f0) ≤ ((rd_T32 l1 x21_2).f1)
                    · rw [if_pos c12] at H
                      have c12b0 := eq_true c12
                      have c12b1 : decide (((rd_T32 l1 x21_2).f0) ≤ ((rd_T32 l1 x21_2).f1)) = true := decide_eq_true c12
                      clear c12
                      by_cases c13 : ((rd_T32 l1 x21_2).f1) ≤ (a0.size : Int)
                      · rw [if_pos c13] at H
                        have c13b0 := eq_true c13
                        have c13b1 : decide (((rd_T32 l1 x21_2).f1) ≤ (a0.size : Int)) = true := decide_eq_true c13
                        clear c13
                        by_cases c14 : x6_2.length < 8796093022208
                        · rw [if_pos c14] at H
                          have LMc14 := Aside0.mk c14
                          clear c14
                          obtain ⟨y262, hy262⟩ : ∃ y_ : List ByteArray, y_ = (x6_2 ++ [a0.extract (((rd_T32 l1 x21_2).f0) : Int).toNat (((rd_T32 l1 x21_2).f1) : Int).toNat]) := ⟨_, rfl⟩
                          replace H : (spec_CutSpans.l0 k2 a0 y262 l1 (l1.length : Int) (wrap64 (x21_2 + 1))) = some (r1, r2) := by first | (rw [hy262]; with_reducible exact H) | (have H2_ := (Option.bind_some _ _).symm.trans H; rw [hy262]; with_reducible exact H2_) | (have H2_ := (Option.bind_some _ _).symm.trans H; with_reducible exact H2_) | with_reducible exact H | (rw [hy262]; exact H) | exact H
                          have Ny262 := Aside0.mk hy262
                          clear hy262
                          have H' := Aside0.mk H
                          clear H
                          have p260 : 0 ≤ (x21_2 : Int) := of_decide_eq_true (by first | (with_reducible assumption) | assumption)
                          have q260 : x21_2 < (l1.length : Int) := of_decide_eq_true (by first | (with_reducible assumption) | assumption)
                          obtain ⟨ad260, e260, hx260_0, hx260_1⟩ := at_T32 HR1.out x21_2 p260 q260
                          cases e260
                          (try replace hx260_0 := (HB.out.cell (World.block_lt_of_cell? w _ hx260_0)).trans hx260_0)
                          (try replace hx260_1 := (HB.out.cell (World.block_lt_of_cell? w _ hx260_1)).trans hx260_1)
                          replace p260 := eq_true p260
                          replace q260 := eq_true q260
                          go_wp2_with (first | ((with_reducible refine gate_dst (N := 8) rfl ?_); (try (refine gate_guard (by rfl) ?_; dsimp only)); refine box_event ?hg (N := 8) ?hd (cs := #[.int .i64 0, .int .i64 0]) (t := 32) ?hr ?_; (case hd => rfl); (case hg => rfl); (case hr => first | (go_simp; done) | (go_simp; rfl)); intro gb261 hg w15 hbox hb; have n0_ := Aside0.mk (Kd.R_below (by (with_reducible repeat (first | apply Kd.R_alloc | apply Kd.R_drewN | apply Kd.R_drew)); exact HO_6.out) hb); have n1_ := Aside0.mk (below_step (by repeat (first | (with_reducible first | exact HB.out | apply below_alloc | apply pw_below_drewN | apply below_drew1) | exact HB.out)) hb); have n2_ := Aside0.mk (hbox); have n3_ := Aside0.mk ((by rw [hg]; exact (below_size (by repeat (first | (with_reducible first | exact HB.out | apply below_alloc | apply pw_below_drewN | apply below_drew1) | exact HB.out))) : w.heap.size ≤ gb261)); have n4_ := Aside0.mk ((by rw [hg]; exact (below_size (by repeat (first | (with_reducible first | exact HB.out | apply below_alloc | apply pw_below_drewN | apply below_drew1) | exact HB.out))) : w.heap.size ≤ gb261)); clear HO_6; clear HB; have HO_6 := n0_; have HB := n1_; have BK261 := n2_; have GW261 := n3_; have GE261 := n4_; clear n0_ n1_ n2_ n3_ n4_; clear hb hbox hg; have hcz16_0 : w15.cell? ⟨gb261, 0, none⟩ = some (.int .i64 0) := (blk_cell BK261.out 0).trans rfl; have hcz16_1 : w15.cell? ⟨gb261, 1, none⟩ = some (.int .i64 0) := (blk_cell BK261.out 1).trans rfl; have hfz16_0 := blk_frozen BK261.out 0; have hfz16_1 := blk_frozen BK261.out 1) | ((with_reducible refine gate_builtin (b := .append) (xs := #[.tmp 25, .tmp 32]) rfl ?_); (try (refine gate_guard (by rfl) ?_; dsimp only)); at_builtin; refine Kd.R_append Kd.string (w0 := w) w.heap.size rfl (.tmp 25) (.tmp 32) 35 9 (.string ⟨#[]⟩) 16 rfl Try.underlying35 info9 rfl (by decide) (by omega) u6 x6_2 (a0.extract (((rd_T32 l1 x21_2).f0) : Int).toNat (((rd_T32 l1 x21_2).f1) : Int).toNat) [.string (a0.extract (((rd_T32 l1 x21_2).f0) : Int).toNat (((rd_T32 l1 x21_2).f1) : Int).toNat)] (fun _ => True) (fun _ => False) rfl (by first | (go_simp; done) | (go_simp; rfl)) ?aP (fun _ hk => hk.elim) ?aF ?aO ?aB ?aS ?aL ?_; (case aP => exact rfl); (case aB => exact (by repeat (first | (with_reducible first | exact HB.out | apply below_alloc | apply pw_below_drewN | apply below_drew1 | refine below_set ?_ GE261.out) | exact HB.out))); (case aF => exact (fun _ _ => trivial)); (case aO => exact (by (with_reducible repeat (first | apply Kd.R_alloc | apply Kd.R_drewN | apply Kd.R_drew)); exact Kd.R_mono (Kd.R_far (p := ⟨gb261, 1, none⟩) (Kd.R_far (p := ⟨gb261, 0, none⟩) (Kd.R_types HO_6.out BK261.out (by decide)) (fun _ hk => hk.2) (.int .i64 ((rd_T32 l1 x21_2).f0))) (fun _ hk => hk.2) (.int .i64 ((rd_T32 l1 x21_2).f1))) (fun _ hk => trivial))); (case aS => exact (below_size (by repeat (first | (with_reducible first | exact HB.out | apply below_alloc | apply pw_below_drewN | apply below_drew1 | refine below_set ?_ GE261.out) | exact HB.out)))); (case aL => have := LMc14.out; omega); intro v263 w17 ho hb hg hat; rw [← Ny262.out] at ho; have n0_ := Aside0.mk (blk_grown (g := gb261) (o := .cells #[.int .i64 ((rd_T32 l1 x21_2).f0), .int .i64 ((rd_T32 l1 x21_2).f1)] 32 (0, 0)) (by (with_reducible repeat (first | refine blk_drewN ?_ _ | refine blk_drew ?_ | refine blk_alloc ?_ _)); refine blk_put (cs := #[.int .i64 ((rd_T32 l1 x21_2).f0), .int .i64 0]) ?_ 1 _ rfl; (with_reducible repeat (first | refine blk_drewN ?_ _ | refine blk_drew ?_ | refine blk_alloc ?_ _)); refine blk_put (cs := #[.int .i64 0, .int .i64 0]) ?_ 0 _ rfl; (with_reducible repeat (first | refine blk_drewN ?_ _ | refine blk_drew ?_ | refine blk_alloc ?_ _)); exact BK261.out) hg (Kd.R_ne HO_6.out BK261.out (by decide))); have n1_ := Aside0.mk (hb); have n2_ := Aside0.mk (ho); clear BK261; clear HB; clear HO_6; have BK261 := n0_; have HB := n1_; have HO264 := n2_; clear n0_ n1_ n2_; clear ho hb hg hat))
                          go_roundg k2
                          case measure => have := HJ2.out; have := HK2.out; omega
                          case rel => exact ⟨(y262), (wrap64 (x21_2 + 1)), (by first | rfl | (simp; done) | (simp [*]; done)), H', ⟨by have := HJ2.out; have := HK2.out; omega⟩, ⟨by (with_reducible repeat (first | apply Kd.R_alloc | apply Kd.R_drewN | apply Kd.R_drew)); exact HO264.out⟩, ⟨by repeat (first | (with_reducible first | exact HB.out | apply below_alloc | apply pw_below_drewN | apply below_drew1 | refine below_set ?_ GE261.out) | exact HB.out)⟩⟩
                        · rw [if_neg c14] at H
                          exact absurd H (by simp)
                      · rw [if_neg c13] at H
                        exact absurd H (by simp)
                    · rw [if_neg c12] at H
                      exact absurd H (by simp)
                  · rw [if_neg c11] at H
                    exact absurd H (by simp)
                · rw [if_neg c10] at H
                  exact absurd H (by simp)
              · rw [if_neg c9] at H
                exact absurd H (by simp)
            · rw [if_neg c8] at H
              have c8b0 : decide (x21_2 < (l1.length : Int)) = false := decide_eq_false c8
              clear c8
              simp only [Option.some.injEq, Prod.mk.injEq] at H
              obtain ⟨rfl, rfl⟩ := H
              go_wp2
              go_ret2
              exact ⟨_, by first | rfl | (simp [errW_none, errW_some] <;> rfl) | (simp [*, errW_none, errW_some] <;> rfl), by (with_reducible repeat (first | apply Kd.R_alloc | apply Kd.R_drewN | apply Kd.R_drew)); exact HO_6.out, by repeat (first | (with_reducible first | exact HB.out | apply below_alloc | apply pw_below_drewN | apply below_drew1) | exact HB.out)⟩

/-! ### laws_sameTexts: function 12 -/
def laws_sameTexts.l0 : Nat → List ByteArray → List ByteArray → Int → Int → Option (Bool)
  | 0, _, _, _, _ => none
  | k + 1, x0, x1, x12, x13 => if x13 < x12 then (if 0 ≤ x13 then (if x13 < (x0.length : Int) then (if x13 < (x1.length : Int) then (if (rdOf ByteArray.empty x0 x13).toList = (rdOf ByteArray.empty x1 x13).toList then (laws_sameTexts.l0 k x0 x1 x12 (wrap64 (x13 + 1))) else (some false)) else (none)) else (none)) else (none)) else (some true)
def laws_sameTexts.f (k : Nat) (l0 : List ByteArray) (l1 : List ByteArray) : Option (Bool) := if (l0.length : Int) = (l1.length : Int) then (laws_sameTexts.l0 k l0 l1 (l0.length : Int) 0) else (some false)
theorem laws_sameTexts.mono_l : ∀ k, (∀ y0 y1 y2 y3, LeO (laws_sameTexts.l0 k y0 y1 y2 y3) (laws_sameTexts.l0 (k + 1) y0 y1 y2 y3))
  | 0 => fun _ _ _ _ r h => by simp [laws_sameTexts.l0] at h
  | k + 1 => by
    have ih0 := laws_sameTexts.mono_l k
    · intro y0 y1 y2 y3
      unfold laws_sameTexts.l0
      repeat' first
      | (with_reducible exact ih0 _ _ _ _)
      | (with_reducible exact LeO.refl _)
      | (with_reducible exact LeO.none _)
      | (with_reducible refine LeO.ite ?_ ?_)
      | (with_reducible refine LeO.bind ?_ (fun _ => ?_))
      | exact ih0 _ _ _ _
      | exact LeO.none _
      | refine LeO.ite ?_ ?_
      | refine LeO.bind ?_ (fun _ => ?_)
theorem laws_sameTexts.mono : ∀ a0 a1 k, LeO (laws_sameTexts.f k a0 a1) (laws_sameTexts.f (k + 1) a0 a1) := by
  intro a0 a1 k
  have ih0 := laws_sameTexts.mono_l k
  unfold laws_sameTexts.f
  repeat' first
      | (with_reducible exact ih0 _ _ _ _)
      | (with_reducible exact LeO.refl _)
      | (with_reducible exact LeO.none _)
      | (with_reducible refine LeO.ite ?_ ?_)
      | (with_reducible refine LeO.bind ?_ (fun _ => ?_))
      | exact ih0 _ _ _ _
      | exact LeO.none _
      | refine LeO.ite ?_ ?_
      | refine LeO.bind ?_ (fun _ => ?_)
set_option maxHeartbeats 8000000 in
set_option maxRecDepth 100000 in
theorem laws_sameTexts.calls (k : Nat) (A0 : Option Addr) (c0 : Nat) (l0 : List ByteArray) (A1 : Option Addr) (c1 : Nat) (l1 : List ByteArray) (r : Bool) (w : World) (hr0 : Kd.C Kd.string w A0 l0.length l0) (hc0 : l0.length ≤ c0) (hr1 : Kd.C Kd.string w A1 l1.length l1) (hc1 : l1.length ≤ c1) (h : laws_sameTexts.f k l0 l1 = some r) :
    Calls Try.prog 12 #[.slice A0 l0.length c0, .slice A1 l1.length c1] w fun e w' => e = .returned (.bool r) ∧ Drawn0 w w' := by
  have HR0 := Aside0.mk hr0
  have HC0 := Aside0.mk hc0
  clear hr0 hc0
  have HR1 := Aside0.mk hr1
  have HC1 := Aside0.mk hc1
  clear hr1 hc1
  have H : (if (l0.length : Int) = (l1.length : Int) then (laws_sameTexts.l0 k l0 l1 (l0.length : Int) 0) else (some false)) = some r := h
  clear h
  by_cases c3 : (l0.length : Int) = (l1.length : Int)
  · rw [if_pos c3] at H
    have c3b0 : ((l0.length : Int) == (l1.length : Int)) = true := beq_iff_eq.mpr c3
    have c3b1 : ((l0.length : Int) != (l1.length : Int)) = false := bne_eq_false_iff_eq.mpr c3
    have c3b2 : (l0.length == l1.length) = true := by first | simpa using c3 | (simp at c3 ⊢; omega)
    clear c3
    have H' := Aside0.mk H
    clear H
    go_enter Try.func12, Try.ntmps12
    go_wp2
    repeat (go_quiet (fail); try go_wp2)
    go_loopg [13] k (fun kq v13 w' => ∃ (x13_1 : Int), v13 = .int .i64 x13_1 ∧ Aside0 (laws_sameTexts.l0 kq l0 l1 (l0.length : Int) x13_1 = some r) ∧ Aside0 (kq ≤ k) ∧ Drawn0 w w')
    case atStart => exact ⟨(0), (by first | rfl | (simp; done) | (simp [*]; done)), H', ⟨Nat.le_refl _⟩, by repeat (first | exact Drawn0.refl _ | apply Drawn0.step)⟩
    case round =>
      clear H'
      try clear c1
      try clear p2
      try clear c3
      try clear c3b0
      try clear c3b1
      try clear c3b2
      obtain ⟨x13_1, rfl, HA, HK1, ⟨m1, rfl⟩⟩ := hrel
      cases gk with
      | zero => exact absurd HA.out (by simp [laws_sameTexts.l0])
      | succ k1 =>
        have H := HA.out
        clear HA
        simp only [laws_sameTexts.l0] at H
        by_cases c4 : x13_1 < (l0.length : Int)
        · rw [if_pos c4] at H
          have c4b0 : decide (x13_1 < (l0.length : Int)) = true := decide_eq_true c4
          clear c4
          by_cases c5 : 0 ≤ x13_1
          · rw [if_pos c5] at H
            have c5b0 : decide (0 ≤ x13_1) = true := decide_eq_true c5
            clear c5
            by_cases c6 : x13_1 < (l0.length : Int)
            · rw [if_pos c6] at H
              have c6b0 : decide (x13_1 < (l0.length : Int)) = true := decide_eq_true c6
              clear c6
              by_cases c7 : x13_1 < (l1.length : Int)
              · rw [if_pos c7] at H
                have c7b0 : decide (x13_1 < (l1.length : Int)) = true := decide_eq_true c7
                clear c7
                by_cases c8 : (rdOf ByteArray.empty l0 x13_1).toList = (rdOf ByteArray.empty l1 x13_1).toList
                · rw [if_pos c8] at H
                  have c8b0 : ((rdOf ByteArray.empty l0 x13_1).toList == (rdOf ByteArray.empty l1 x13_1).toList) = true := beq_iff_eq.mpr c8
                  have c8b1 : ((rdOf ByteArray.empty l0 x13_1).toList != (rdOf ByteArray.empty l1 x13_1).toList) = false := bne_eq_false_iff_eq.mpr c8
                  clear c8
                  have H' := Aside0.mk H
                  clear H
                  have p265 : 0 ≤ (x13_1 : Int) := of_decide_eq_true (by first | (with_reducible assumption) | assumption)
                  have q265 : x13_1 < (l0.length : Int) := of_decide_eq_true (by first | (with_reducible assumption) | assumption)
                  obtain ⟨ad265, e265, hx265_0⟩ := Kd.at_string HR0.out x13_1 p265 q265
                  cases e265
                  replace p265 := eq_true p265
                  replace q265 := eq_true q265
                  have p266 : 0 ≤ (x13_1 : Int) := of_decide_eq_true (by first | (with_reducible assumption) | assumption)
                  have q266 : x13_1 < (l1.length : Int) := of_decide_eq_true (by first | (with_reducible assumption) | assumption)
                  obtain ⟨ad266, e266, hx266_0⟩ := Kd.at_string HR1.out x13_1 p266 q266
                  cases e266
                  replace p266 := eq_true p266
                  replace q266 := eq_true q266
                  go_wp2
                  repeat (go_quiet (fail); try go_wp2)
                  go_roundg k1
                  case measure => have := HK1.out; omega
                  case rel => exact ⟨(wrap64 (x13_1 + 1)), (by first | rfl | (simp; done) | (simp [*]; done)), H', ⟨by have := HK1.out; omega⟩, by repeat (first | exact Drawn0.refl _ | apply Drawn0.step)⟩
                · rw [if_neg c8] at H
                  have c8b0 : ((rdOf ByteArray.empty l0 x13_1).toList == (rdOf ByteArray.empty l1 x13_1).toList) = false := beq_eq_false_iff_ne.mpr c8
                  have c8b1 : ((rdOf ByteArray.empty l0 x13_1).toList != (rdOf ByteArray.empty l1 x13_1).toList) = true := bne_iff_ne.mpr c8
                  obtain rfl := Option.some.inj H
                  have p265 : 0 ≤ (x13_1 : Int) := of_decide_eq_true (by first | (with_reducible assumption) | assumption)
                  have q265 : x13_1 < (l0.length : Int) := of_decide_eq_true (by first | (with_reducible assumption) | assumption)
                  obtain ⟨ad265, e265, hx265_0⟩ := Kd.at_string HR0.out x13_1 p265 q265
                  cases e265
                  replace p265 := eq_true p265
                  replace q265 := eq_true q265
                  have p266 : 0 ≤ (x13_1 : Int) := of_decide_eq_true (by first | (with_reducible assumption) | assumption)
                  have q266 : x13_1 < (l1.length : Int) := of_decide_eq_true (by first | (with_reducible assumption) | assumption)
                  obtain ⟨ad266, e266, hx266_0⟩ := Kd.at_string HR1.out x13_1 p266 q266
                  cases e266
                  replace p266 := eq_true p266
                  replace q266 := eq_true q266
                  go_wp2
                  repeat (go_quiet (fail); try go_wp2)
                  go_ret
                  exact ⟨by first | rfl | (simp; done) | (simp [*]; done), by repeat (first | exact Drawn0.refl _ | apply Drawn0.step)⟩
              · rw [if_neg c7] at H
                exact absurd H (by simp)
            · rw [if_neg c6] at H
              exact absurd H (by simp)
          · rw [if_neg c5] at H
            exact absurd H (by simp)
        · rw [if_neg c4] at H
          have c4b0 : decide (x13_1 < (l0.length : Int)) = false := decide_eq_false c4
          clear c4
          obtain rfl := Option.some.inj H
          go_wp2
          repeat (go_quiet (fail); try go_wp2)
          go_ret
          exact ⟨by first | rfl | (simp; done) | (simp [*]; done), by repeat (first | exact Drawn0.refl _ | apply Drawn0.step)⟩
  · rw [if_neg c3] at H
    have c3b0 : ((l0.length : Int) == (l1.length : Int)) = false := beq_eq_false_iff_ne.mpr c3
    have c3b1 : ((l0.length : Int) != (l1.length : Int)) = true := bne_iff_ne.mpr c3
    have c3b2 : (l0.length == l1.length) = false := by first | simpa using c3 | (simp at c3 ⊢; omega)
    obtain rfl := Option.some.inj H
    go_enter Try.func12, Try.ntmps12
    go_wp2
    repeat (go_quiet (fail); try go_wp2)
    go_ret
    exact ⟨by first | rfl | (simp; done) | (simp [*]; done), by repeat (first | exact Drawn0.refl _ | apply Drawn0.step)⟩

/-! ### strings_Repeat: function 25 -/
def strings_Repeat.f (a0 : ByteArray) (a1 : Int) : Option (ByteArray) := if 0 ≤ a1 ∧ a1 ≤ 100000 ∧ a0.size ≤ 100 then some ⟨(Lib.repeatL a0.data.toList a1.toNat).toArray⟩ else none
theorem strings_Repeat.calls (a0 : ByteArray) (a1 : Int) (r : ByteArray) (w : World) (h : strings_Repeat.f a0 a1 = some r) :
    Calls Try.prog 25 #[.string a0, .int .i64 a1] w fun e w' => e = .returned (.string r) ∧ Below w.heap.size w w' := by
  unfold strings_Repeat.f at h
  by_cases c : 0 ≤ a1 ∧ a1 ≤ 100000 ∧ a0.size ≤ 100
  · rw [if_pos c] at h
    obtain rfl := Option.some.inj h
    obtain ⟨c1, c2, c3⟩ := c
    obtain ⟨u, rfl⟩ : ∃ u : Nat, a1 = (u : Int) := ⟨a1.toNat, by omega⟩
    exact Try.strings_Repeat a0 u w (by omega) (Nat.le_trans (Nat.mul_le_mul c3 (show u ≤ 100000 by omega)) (by decide))
  · rw [if_neg c] at h; cases h

/-! ### impl_PasteSpans: function 13 -/
/-! ### PasteSpans: a row of bytes into which parts are copied -/
def BRow (w : World) (g : Nat) (bs : List UInt8) : Prop := ∀ j, j < bs.length → w.cell? ⟨g, j, none⟩ = some (.int .u8 ((bs.getD j 0).toNat : Nat)) ∧ w.frozen? ⟨g, j, none⟩ = false
def putAt (bs : List UInt8) (o : Nat) (p : List UInt8) : List UInt8 := bs.take o ++ p ++ bs.drop (o + p.length)
theorem putAt_len (bs : List UInt8) (o : Nat) (p : List UInt8) (h : o + p.length ≤ bs.length) : (putAt bs o p).length = bs.length := by
  unfold putAt
  rw [List.length_append, List.length_append, List.length_take, List.length_drop]; omega
theorem putAt_get (bs : List UInt8) (o : Nat) (p : List UInt8) (h : o + p.length ≤ bs.length) (j : Nat) : (putAt bs o p).getD j 0 = (if o ≤ j ∧ j < o + p.length then p.getD (j - o) 0 else bs.getD j 0) := by
  have hl : (bs.take o).length = o := by rw [List.length_take]; omega
  unfold putAt
  simp only [List.getD_eq_getElem?_getD]
  by_cases c1 : j < o
  · rw [if_neg (by omega), List.append_assoc, List.getElem?_append_left (by omega), List.getElem?_take_of_lt c1]
  · by_cases c2 : j < o + p.length
    · rw [if_pos ⟨by omega, c2⟩, List.append_assoc, List.getElem?_append_right (by omega), hl, List.getElem?_append_left (by omega)]
    · rw [if_neg (by omega), List.getElem?_append_right (by rw [List.length_append, hl]; omega), List.length_append, hl, List.getElem?_drop]
      congr 2; omega
def impl_PasteSpans.z (bs : List UInt8) : List S32 → List ByteArray → Option (ByteArray × Bool)
  | [], _ => some (⟨bs.toArray⟩, true)
  | _ :: _, [] => none
  | s :: l, p :: ps => if (p.size : Int) = wrap64 (s.f1 - s.f0) then (if 0 ≤ s.f0 ∧ s.f0 ≤ (bs.length : Int) then (if s.f0.toNat + p.size ≤ bs.length then impl_PasteSpans.z (putAt bs s.f0.toNat p.data.toList) l ps else none) else none) else some ((⟨#[]⟩ : ByteArray), false)
def impl_PasteSpans.f (a0 : Int) (l1 : List S32) (l2 : List ByteArray) : Option (ByteArray × Bool) :=
  (impl_within.f a0 0 300).bind fun b => if b = true then (impl_areIn.f l1 a0).bind fun c => if c = true then (if l2.length = l1.length then (strings_Repeat.f (⟨#[46]⟩ : ByteArray) a0).bind fun y => impl_PasteSpans.z y.data.toList l1 l2 else some ((⟨#[]⟩ : ByteArray), false)) else some ((⟨#[]⟩ : ByteArray), false) else some ((⟨#[]⟩ : ByteArray), false)
theorem brow_start (w : World) (s : ByteArray) : BRow (Lib.bytesWorld w 5 s) w.heap.size s.data.toList := fun j hj => by
  have hj2 : j < s.size := by rw [Array.length_toList] at hj; exact hj
  refine ⟨by rw [Lib.bytesWorld_cell w 5 s j hj2], ?_⟩
  simp [World.frozen?, Lib.bytesWorld_at_new, Lib.bytesCells]
  intro h
  have : s.data.size = s.size := rfl
  omega
theorem brow_back (w : World) (g c : Nat) (bs : List UInt8) (h : BRow w g bs) : (convert 22 9 (.slice (some ⟨g, 0, none⟩) bs.length c)).run Try.prog w = .ok (.string ⟨bs.toArray⟩) w :=
  run_convert_bytes_back (P := Try.prog) w 22 9 5 ⟨g, 0, none⟩ c bs Try.underlying22 Try.underlying5 Try.underlying9 (fun j hj => by
    have h1 := (h j hj).1
    have ha : (⟨g, 0, none⟩ : Addr).add j = ⟨g, j, none⟩ := by simp [Addr.add]; omega
    rw [ha, h1, List.getD_eq_getElem?_getD, List.getElem?_eq_getElem hj]; rfl)
theorem brow_put {w : World} {g o : Nat} {bs : List UInt8} (p : ByteArray) (h : BRow w g bs) (hl : o + p.size ≤ bs.length) : BRow (w.setCells g o (p.data.toList.map fun x => Value.int .u8 (x.toNat : Int))) g (putAt bs o p.data.toList) := fun j hj => by
  have hpl : p.data.toList.length = p.size := by rw [Array.length_toList]; rfl
  rw [putAt_len bs o _ (by rw [hpl]; exact hl)] at hj
  have hsome : ∀ i, i < (p.data.toList.map fun x => Value.int .u8 (x.toNat : Int)).length → (w.cell? ⟨g, o + i, none⟩).isSome = true := fun i hi => by
    rw [List.length_map, hpl] at hi
    rw [(h (o + i) (by omega)).1]; rfl
  refine ⟨?_, ?_⟩
  · rw [putAt_get bs o _ (by rw [hpl]; exact hl)]
    by_cases c : o ≤ j ∧ j < o + p.data.toList.length
    · rw [if_pos c]
      have := World.cell?_setCells_in g (p.data.toList.map fun x => Value.int .u8 (x.toNat : Int)) o w hsome (j - o) (by rw [List.length_map]; omega)
      have e : o + (j - o) = j := by omega
      rw [e] at this
      rw [this, List.getElem_map, List.getD_eq_getElem?_getD, List.getElem?_eq_getElem (by omega)]; rfl
    · rw [if_neg c, World.cell?_setCells_out g _ o w ⟨g, j, none⟩ (fun _ _ => by
        rw [List.length_map]
        show j < o ∨ o + p.data.toList.length ≤ j
        omega)]
      exact (h j hj).1
  · rw [World.frozen?_setCells]; exact (h j hj).2
theorem pwrap1 (k : Nat) (h : k + 1 ≤ 9223372036854775807) : wrap64 ((k : Int) + 1) = ((k + 1 : Nat) : Int) := by unfold wrap64; omega
theorem wpList_copy_str {P : Program} {w : World} {ops : Array Oper} {rest : List Oper} {o : Oper} {a : Act} {Q : Exit → Act → World → Prop} (hgd : o.guard = none) (d s : Operand) (dT sT : TypeId)
    (ho : o.op = .call { callee := .builtin .copy, args := #[d, s], argTypes := #[dT, sT] }) (elem : TypeId) (hu : P.underlying dT = some (.slice elem)) (hz : ∀ w, (Go.sizeOf elem).run P w = .ok 1 w)
    (b off dLen dCap : Nat) (hd : a.eval d = .slice (some ⟨b, off, none⟩) dLen dCap) (t : ByteArray) (hx : a.eval s = .string t) (hle : t.size ≤ dLen)
    (hc : ∀ j, j < t.size → (w.cell? ⟨b, off + j, none⟩).isSome = true) (hf : ∀ j, j < t.size → w.frozen? ⟨b, off + j, none⟩ = false)
    (h : wpList P ops Q rest (a.put o.dst (goInt t.size)) (w.setCells b off (t.data.toList.map fun x => Value.int .u8 (x.toNat : Int)))) : wpList P ops Q (o :: rest) a w := by
  refine wpList_plain hgd fun K hK => ?_
  have hrun := Go.run_copy_string (P := P) w dT sT o.type elem b off dLen dCap t hu hz hle hc hf
  unfold Oper.wp
  simp [execOp, ho, resolve, invoke, builtin, hd, hx, hrun, Result.andThen]
  exact hK _ _ h
set_option maxHeartbeats 16000000 in
set_option maxRecDepth 100000 in
theorem impl_PasteSpans.calls (a0 : Int) (A1 : Option Addr) (c1 : Nat) (l1 : List (S32)) (A2 : Option Addr) (c2 : Nat) (l2 : List ByteArray) (r1 : ByteArray) (r2 : Bool) (w : World) (hr1 : Kd.C k32 w A1 l1.length l1) (hc1 : l1.length ≤ c1) (hr2 : Kd.C Kd.string w A2 l2.length l2) (hc2 : l2.length ≤ c2) (h : impl_PasteSpans.f a0 l1 l2 = some (r1, r2)) :
    Calls Try.prog 13 #[.int .i64 a0, .slice A1 l1.length c1, .slice A2 l2.length c2] w fun e w' => e = .returned (.tuple #[.string r1, .bool r2]) ∧ Below w.heap.size w w' := by
  have HR1 := Aside0.mk hr1
  have HR2 := Aside0.mk hr2
  have hu32 := Try.underlying32
  have HMX : Aside0 (l1.length ≤ 9223372036854775807) := ⟨hr1.2.1⟩
  unfold impl_PasteSpans.f at h
  obtain ⟨b, hb, h⟩ := Option.bind_eq_some_iff.mp h
  have HW := Aside0.mk (fun W : World => impl_within.calls a0 0 300 b W hb)
  cases b with
  | false =>
    rw [if_neg (by decide)] at h
    obtain ⟨rfl, rfl⟩ := Prod.mk.inj (Option.some.inj h)
    clear h hr1 hr2 hc1 hc2 hb HR1 HR2
    go_enter Try.func13, Try.ntmps13
    go_wp2_with (go_at_call 17; refine (HW.out _).mono ?_; rintro e w1 ⟨rfl, hd⟩; have HB1 : Aside0 (Below w.heap.size w w1) := ⟨hd.below⟩; clear hd)
    go_ret2
    exact ⟨rfl, HB1.out⟩
  | true =>
    rw [if_pos rfl] at h
    obtain ⟨c, hcc, h⟩ := Option.bind_eq_some_iff.mp h
    have HN := Aside0.mk (fun (W : World) (hW : Below w.heap.size w W) => impl_areIn.calls A1 c1 l1 a0 c W (Kd.C_below hr1 hW) hc1 hcc)
    cases c with
    | false =>
      rw [if_neg (by decide)] at h
      obtain ⟨rfl, rfl⟩ := Prod.mk.inj (Option.some.inj h)
      clear h hr1 hr2 hc1 hc2 hb HR1 HR2 hcc
      go_enter Try.func13, Try.ntmps13
      go_wp2_with (first
        | (go_at_call 17; refine (HW.out _).mono ?_; rintro e w1 ⟨rfl, hd⟩; have HB1 : Aside0 (Below w.heap.size w w1) := ⟨hd.below⟩; clear hd)
        | (go_at_call 23; refine (HN.out _ HB1.out).mono ?_; rintro e w2 ⟨rfl, hb2⟩; have HB2 : Aside0 (Below w.heap.size w w2) := ⟨HB1.out.trans (hb2.mono HB1.out.size)⟩; clear hb2))
      go_ret2
      exact ⟨rfl, HB2.out⟩
    | true =>
      rw [if_pos rfl] at h
      by_cases hl : l2.length = l1.length
      · rw [if_pos hl] at h
        obtain ⟨y, hy, h⟩ := Option.bind_eq_some_iff.mp h
        have HY := Aside0.mk (fun W : World => strings_Repeat.calls (⟨#[46]⟩ : ByteArray) a0 y W hy)
        have HZ := Aside0.mk h
        have HL := Aside0.mk hl
        have hlz : ((l2.length : Int) = (l1.length : Int)) = True := eq_true (by omega)
        have hlb : (((l2.length : Int)) == ((l1.length : Int))) = true := by rw [hl]; exact beq_self_eq_true _
        clear h hr1 hr2 hc1 hc2 hb hcc hy hl
        go_enter Try.func13, Try.ntmps13
        go_wp2_with (first
          | (go_at_call 17; refine (HW.out _).mono ?_; rintro e w1 ⟨rfl, hd⟩; have HB1 : Aside0 (Below w.heap.size w w1) := ⟨hd.below⟩; clear hd)
          | (go_at_call 23; refine (HN.out _ HB1.out).mono ?_; rintro e w2 ⟨rfl, hb2⟩; have HB2 : Aside0 (Below w.heap.size w w2) := ⟨HB1.out.trans (hb2.mono HB1.out.size)⟩; clear hb2)
          | (go_at_call 25; refine (HY.out _).mono ?_; rintro e w3 ⟨rfl, hb3⟩; have HB3 : Aside0 (Below w.heap.size w w3) := ⟨HB2.out.trans (hb3.mono HB2.out.size)⟩; clear hb3; have hcv := Lib.run_convert_string_bytes (P := Try.prog) w3 9 22 5 y Try.underlying9 Try.underlying22 Try.underlying5; have hst := brow_start w3 y; have hbe := Lib.bytesWorld_below w3 5 y; obtain ⟨W0, hW0⟩ : ∃ W0, W0 = Lib.bytesWorld w3 5 y := ⟨_, rfl⟩; rw [← hW0] at hcv hst hbe; have HST := Aside0.mk hst; have HB4 : Aside0 (Below w.heap.size w W0) := ⟨HB3.out.trans (hbe.mono HB3.out.size)⟩; clear hst hbe hW0))
        obtain ⟨G, hG⟩ : ∃ G, G = w3.heap.size := ⟨_, rfl⟩
        obtain ⟨CP, hCP⟩ : ∃ CP, CP = grownCap w3 y.size 0 5 := ⟨_, rfl⟩
        rw [← hG] at HST
        rw [← hG, ← hCP]
        have hwG : w.heap.size ≤ G := by rw [hG]; exact HB3.out.size
        have HWG := Aside0.mk hwG
        have HCAP : Aside0 (y.size ≤ CP) := ⟨by rw [hCP]; exact grownCap_ge w3 y.size 0 5⟩
        clear hG hCP hcv HB3 HB2 HB1 hwG
        go_loopg [9, 10, 32] l1.length (fun gg _ _ s32 wr => ∃ (kk : Nat) (bs : List UInt8), kk ≤ l1.length ∧ l1.length - kk ≤ gg ∧ s32 = .int .i64 kk ∧ Aside0 (Below w.heap.size w wr) ∧ Aside0 (BRow wr G bs) ∧ Aside0 (bs.length = y.size) ∧ Aside0 (impl_PasteSpans.z bs (l1.drop kk) (l2.drop kk) = some (r1, r2)))
        case atStart => exact ⟨0, y.data.toList, Nat.zero_le _, by omega, rfl, HB4, HST, ⟨by rw [Array.length_toList]; rfl⟩, HZ⟩
        case round =>
          obtain ⟨kk, bs, hkk, hg, rfl, BW, RW, LB, AZ⟩ := hrel
          clear HZ HST HB4
          by_cases hlt : kk < l1.length
          · have hltz : (kk : Int) < (l1.length : Int) := by omega
            have HK1 := Aside0.mk (show kk + 1 ≤ l1.length by omega)
            have hlt2 : kk < l2.length := by have := HL.out; omega
            have H := AZ.out
            clear AZ
            rw [List.drop_eq_getElem_cons hlt, List.drop_eq_getElem_cons hlt2] at H
            obtain ⟨ad1, he1, hx0, hx1⟩ := at_T32 (Kd.C_below HR1.out BW.out) (kk : Int) (by omega) hltz
            have hr1 : rd_T32 l1 (kk : Int) = l1[kk] := by unfold rd_T32; simp [List.getD_eq_getElem?_getD, hlt]
            obtain ⟨ad2, he2, hy0⟩ := Kd.at_string (Kd.C_below HR2.out BW.out) (kk : Int) (by omega) (by omega)
            have hr2 : rdOf ByteArray.empty l2 (kk : Int) = l2[kk] := by unfold rdOf; simp [List.getD_eq_getElem?_getD, hlt2]
            cases he1
            cases he2
            rw [hr1, Int.toNat_natCast] at hx0 hx1
            rw [hr2, Int.toNat_natCast] at hy0
            have hltz2 : (kk : Int) < (l2.length : Int) := by omega
            generalize l1[kk] = x at *
            generalize l2[kk] = p at *
            have H1 : (if (p.size : Int) = wrap64 (x.f1 - x.f0) then (if 0 ≤ x.f0 ∧ x.f0 ≤ (bs.length : Int) then (if x.f0.toNat + p.size ≤ bs.length then impl_PasteSpans.z (putAt bs x.f0.toNat p.data.toList) (l1.drop (kk + 1)) (l2.drop (kk + 1)) else none) else none) else some ((⟨#[]⟩ : ByteArray), false)) = some (r1, r2) := H
            clear H hr1 hr2
            obtain ⟨B, hB⟩ : ∃ B, B = wr.heap.size := ⟨_, rfl⟩
            obtain ⟨V1, hV1⟩ : ∃ V1, V1 = wr.alloc (.cells #[.int .i64 x.f0, .int .i64 x.f1] 32) := ⟨_, rfl⟩
            have hb0 : V1.cell? ⟨B, 0, none⟩ = some (.int .i64 x.f0) := by rw [hV1, hB]; exact World.cell?_alloc_at _ _ _ 0 rfl
            have hb1 : V1.cell? ⟨B, 1, none⟩ = some (.int .i64 x.f1) := by rw [hV1, hB]; exact World.cell?_alloc_at _ _ _ 1 rfl
            have hBV : Aside0 (Below w.heap.size w V1) := ⟨by rw [hV1]; exact BW.out.alloc BW.out.size _⟩
            have hkeep : Below wr.heap.size wr V1 := by rw [hV1]; exact (Below.refl _ wr).alloc (Nat.le_refl _) _
            have hy1 : V1.cell? (ad2.add kk) = some (.string p) := (hkeep.cell (p := ad2.add kk) (World.block_lt_of_cell? wr _ hy0)).trans hy0
            have hRV : Aside0 (BRow V1 G bs) := ⟨fun j hj => by
              obtain ⟨q1, q2⟩ := RW.out j hj
              have hG : G < wr.heap.size := World.block_lt_of_cell? wr _ q1
              exact ⟨(hkeep.cell (p := ⟨G, j, none⟩) hG).trans q1, by rw [hV1]; simp only [World.frozen?] at q2 ⊢; rw [show (wr.alloc (.cells #[.int .i64 x.f0, .int .i64 x.f1] 32)).heap[G]? = wr.heap[G]? from hV1 ▸ hkeep.block G hG]; exact q2⟩⟩
            clear hkeep
            by_cases hq : (p.size : Int) = wrap64 (x.f1 - x.f0)
            · rw [if_pos hq] at H1
              by_cases hb : 0 ≤ x.f0 ∧ x.f0 ≤ (bs.length : Int)
              · rw [if_pos hb] at H1
                by_cases hf : x.f0.toNat + p.size ≤ bs.length
                · rw [if_pos hf] at H1
                  have AZ := Aside0.mk H1
                  clear H1
                  go_wp2
                  rw [← hV1, ← hB]
                  clear hV1 hB hx0 hx1 hy0
                  have hqb : ((p.size : Int) == wrap64 (x.f1 - x.f0)) = true := beq_iff_eq.mpr hq
                  repeat (go_quiet (fail); try go_wp2)
                  have hlo : 0 ≤ x.f0 := hb.1
                  have hhi : x.f0 ≤ (y.size : Int) := by have := LB.out; omega
                  refine wp_region_still_tail 8 (by kernel_rfl) (by kernel_rfl) ?_
                  simp only [List.take_succ_cons, List.take_zero, List.drop_succ_cons, List.drop_zero]
                  change wpStill _ _ ((V1.drewN nq).drew) (fun a' => wpList _ _ _ _ a' ((V1.drewN nq).drew)) _ _
                  have gb0 : ((V1.drewN nq).drew).cell? ⟨B, 0, none⟩ = some (.int .i64 x.f0) := hb0
                  have gb1 : ((V1.drewN nq).drew).cell? ⟨B, 1, none⟩ = some (.int .i64 x.f1) := hb1
                  have gy1 : ((V1.drewN nq).drew).cell? (ad2.add kk) = some (.string p) := hy1
                  have gRV : Aside0 (BRow ((V1.drewN nq).drew) G bs) := ⟨hRV.out⟩
                  have gBV : Aside0 (Below w.heap.size w ((V1.drewN nq).drew)) := ⟨below_drew1 (pw_below_drewN hBV.out nq)⟩
                  clear hb0 hb1 hy1 hRV hBV
                  generalize (V1.drewN nq).drew = W9 at gb0 gb1 gy1 gRV gBV ⊢
                  have HF := Aside0.mk hf
                  have HQ := Aside0.mk hq
                  clear hf hq
                  repeat still_step
                  refine wpStill_nil ?_
                  obtain ⟨OF, hOF⟩ : ∃ OF : Nat, OF = (if CP = x.f0.toNat then 0 else x.f0.toNat) := ⟨_, rfl⟩
                  have hbl := LB.out
                  have hff := HF.out
                  have hcc := HCAP.out
                  have hp0 : CP = x.f0.toNat → p.size = 0 := fun hh => by omega
                  have hrow : ∀ j, j < p.size → (W9.cell? ⟨G, OF + j, none⟩).isSome = true ∧ W9.frozen? ⟨G, OF + j, none⟩ = false := fun j hj => by
                    have hne : ¬ CP = x.f0.toNat := fun hh => by have := hp0 hh; omega
                    obtain ⟨q1, q2⟩ := gRV.out (OF + j) (by rw [hOF, if_neg hne]; omega)
                    exact ⟨by rw [q1]; rfl, q2⟩
                  have hset : Aside0 (BRow (W9.setCells G OF (p.data.toList.map fun x => Value.int .u8 (x.toNat : Int))) G (putAt bs x.f0.toNat p.data.toList)) := ⟨by
                    by_cases hcp : CP = x.f0.toNat
                    · have hpe : p.data.toList = [] := List.eq_nil_of_length_eq_zero (by rw [Array.length_toList]; exact hp0 hcp)
                      rw [hpe]
                      show BRow W9 G (putAt bs x.f0.toNat [])
                      have : putAt bs x.f0.toNat [] = bs := by unfold putAt; simp
                      rw [this]; exact gRV.out
                    · rw [hOF, if_neg hcp]
                      exact brow_put p gRV.out hff⟩
                  have hbw : Aside0 (Below w.heap.size w (W9.setCells G OF (p.data.toList.map fun x => Value.int .u8 (x.toNat : Int)))) := ⟨by
                    obtain ⟨a1, a2, a3, a4⟩ := setCells_same G (p.data.toList.map fun x => Value.int .u8 (x.toNat : Int)) OF W9
                    have hB := gBV.out
                    have hwg := HWG.out
                    exact ⟨a1.trans hB.os, a2.trans hB.tape, a3.trans hB.output, by rw [a4]; exact hB.size, fun k hk => (setCells_far _ OF k (by omega)).trans (hB.block k hk)⟩⟩
                  refine wpList_copy_str rfl (.tmp 51) (.tmp 55) 22 9 rfl 5 Try.underlying22 Try.sizeOf5 G OF (y.size - x.f0.toNat) (CP - x.f0.toNat) ?hd p rfl ?hle ?hc ?hf ?hk
                  case hd =>
                    rw [hOF]
                    by_cases hcp : CP = x.f0.toNat
                    · rw [if_pos hcp]; go_simp
                    · rw [if_neg hcp]; go_simp
                  case hle => omega
                  case hc => exact fun j hj => (hrow j hj).1
                  case hf => exact fun j hj => (hrow j hj).2
                  case hk =>
                    clear hrow hp0 hcc hff hbl
                    generalize W9.setCells G OF (p.data.toList.map fun x => Value.int .u8 (x.toNat : Int)) = WN at hset hbw ⊢
                    clear gRV gBV gb0 gb1 gy1 hOF
                    by_cases hcp : CP = x.f0.toNat
                    · have hcT := eq_true hcp
                      clear hcp
                      go_wp2
                      go_roundg (l1.length - (kk + 1))
                      case measure => (try have := HK1.out); omega
                      case rel => exact ⟨kk + 1, putAt bs x.f0.toNat p.data.toList, HK1.out, by have := HK1.out; omega, (by have h1 := HK1.out; have h2 := HMX.out; have hw : wrap64 ((kk : Int) + 1) = ((kk + 1 : Nat) : Int) := pwrap1 kk (by omega); rw [hw]), hbw, hset, ⟨by rw [putAt_len _ _ _ (by rw [Array.length_toList]; exact HF.out)]; exact LB.out⟩, AZ⟩
                    · have hcF := eq_false hcp
                      clear hcp
                      go_wp2
                      go_roundg (l1.length - (kk + 1))
                      case measure => (try have := HK1.out); omega
                      case rel => exact ⟨kk + 1, putAt bs x.f0.toNat p.data.toList, HK1.out, by have := HK1.out; omega, (by have h1 := HK1.out; have h2 := HMX.out; have hw : wrap64 ((kk : Int) + 1) = ((kk + 1 : Nat) : Int) := pwrap1 kk (by omega); rw [hw]), hbw, hset, ⟨by rw [putAt_len _ _ _ (by rw [Array.length_toList]; exact HF.out)]; exact LB.out⟩, AZ⟩
                · rw [if_neg hf] at H1; cases H1
              · rw [if_neg hb] at H1; cases H1
            · rw [if_neg hq] at H1
              obtain ⟨rfl, rfl⟩ := Prod.mk.inj (Option.some.inj H1)
              clear H1
              go_wp2
              rw [← hV1, ← hB]
              clear hV1 hB hx0 hx1 hy0
              have hqb : ((p.size : Int) == wrap64 (x.f1 - x.f0)) = false := beq_eq_false_iff_ne.mpr hq
              repeat (go_quiet (fail); try go_wp2)
              go_ret2
              exact ⟨rfl, by repeat (first | exact hBV.out | apply below_drew1 | apply pw_below_drewN | apply below_alloc)⟩
          · have hltz : ¬ (kk : Int) < (l1.length : Int) := by omega
            have H := AZ.out
            rw [List.drop_of_length_le (show l1.length ≤ kk by omega)] at H
            obtain ⟨rfl, rfl⟩ := Prod.mk.inj (Option.some.inj (show some ((⟨bs.toArray⟩ : ByteArray), true) = some (r1, r2) from H))
            have hbk := brow_back wr G CP bs RW.out
            rw [LB.out] at hbk
            clear H AZ
            go_wp2
            go_ret2
            exact ⟨rfl, BW.out⟩
      · rw [if_neg hl] at h
        obtain ⟨rfl, rfl⟩ := Prod.mk.inj (Option.some.inj h)
        have hlz : ((l2.length : Int) = (l1.length : Int)) = False := eq_false (by omega)
        have hlb : (((l2.length : Int)) == ((l1.length : Int))) = false := beq_eq_false_iff_ne.mpr (by omega)
        clear h hr1 hr2 hc1 hc2 hb HR1 HR2 hcc hl
        go_enter Try.func13, Try.ntmps13
        go_wp2_with (first
          | (go_at_call 17; refine (HW.out _).mono ?_; rintro e w1 ⟨rfl, hd⟩; have HB1 : Aside0 (Below w.heap.size w w1) := ⟨hd.below⟩; clear hd)
          | (go_at_call 23; refine (HN.out _ HB1.out).mono ?_; rintro e w2 ⟨rfl, hb2⟩; have HB2 : Aside0 (Below w.heap.size w w2) := ⟨HB1.out.trans (hb2.mono HB1.out.size)⟩; clear hb2))
        go_ret2
        exact ⟨rfl, HB2.out⟩

/-! ### The law's last part: how many bytes are as they were, where none else but dots may be -/
def tailL : List UInt8 → List UInt8 → Int → Option Int
  | [], _, n => some n
  | _ :: _, [], _ => none
  | b :: l, c :: m, n => if b = c then tailL l m (wrap64 (n + 1)) else if b = 46 then tailL l m n else some (-1)
def asciiL (l : List UInt8) : Bool := l.all fun b => decide (b.toNat < 128)
def xTail.f (a0 a1 : ByteArray) (a2 : Int) : Option Bool := if asciiL a1.data.toList = true ∧ a0.size = a1.size ∧ a1.size ≤ 1000 then (tailL a1.data.toList a0.data.toList 0).bind fun n => some (if n < 0 then false else decide (n ≥ a2)) else none
theorem xTail_open {a b : ByteArray} {c : Int} {r : Bool} (h : xTail.f a b c = some r) : asciiL b.data.toList = true ∧ a.size = b.size ∧ b.size ≤ 1000 ∧ ∃ n, tailL b.data.toList a.data.toList 0 = some n ∧ r = (if n < 0 then false else decide (n ≥ c)) := by
  unfold xTail.f at h
  split at h
  · rename_i hc
    refine ⟨hc.1, hc.2.1, hc.2.2, ?_⟩
    cases ht : tailL b.data.toList a.data.toList 0 with
    | none => rw [ht] at h; exact absurd h (by simp)
    | some n => rw [ht] at h; exact ⟨n, rfl, (Option.some.inj h).symm⟩
  · exact absurd h (by simp)
def tailAt (a b : ByteArray) (pos : Nat) (acc : Int) : Option Int := tailL (b.data.toList.drop pos) (a.data.toList.drop pos) acc
theorem ba_drop (b : ByteArray) (pos : Nat) (h : pos < b.size) : b.data.toList.drop pos = (b[pos]'h) :: b.data.toList.drop (pos + 1) := by
  have h' : pos < b.data.toList.length := by simpa using h
  rw [List.drop_eq_getElem_cons h']
  rfl
theorem tail_step (a b : ByteArray) (pos : Nat) (acc : Int) (h : pos < b.size) (h2 : pos < a.size) : tailAt a b pos acc = if (b[pos]'h) = (a[pos]'h2) then tailAt a b (pos + 1) (wrap64 (acc + 1)) else if (b[pos]'h) = 46 then tailAt a b (pos + 1) acc else some (-1) := by
  show tailL (b.data.toList.drop pos) (a.data.toList.drop pos) acc = _
  rw [ba_drop b pos h, ba_drop a pos h2]
  rfl
theorem tail_end (a b : ByteArray) (pos : Nat) (acc : Int) (h : ¬ pos < b.size) : tailAt a b pos acc = some acc := by
  show tailL (b.data.toList.drop pos) (a.data.toList.drop pos) acc = _
  rw [List.drop_eq_nil_of_le (by simpa using (by omega : b.size ≤ pos))]
  rfl
theorem ascii_at {b : ByteArray} (h : asciiL b.data.toList = true) (pos : Nat) (hp : pos < b.size) : (b[pos]'hp).toNat < 128 :=
  of_decide_eq_true (List.all_eq_true.mp h (b[pos]'hp) (by show b.data[pos] ∈ _; exact List.getElem_mem (by simpa using hp)))
theorem tail_ne (a b : UInt8) (h : ¬ a = b) : ((a.toNat : Int) == (b.toNat : Int)) = false := by
  apply beq_eq_false_iff_ne.mpr
  intro e
  exact h (UInt8.toNat_inj.mp (Int.ofNat.inj e))
theorem tail_run (P : Program) (w : World) (s : ByteArray) (pos d : Nat) (ty : TypeId) (h : pos < s.size) (ha : (s[pos]'h).toNat < 128) :
    (Instr.next (.pointer (some ⟨w.heap.size, 0, none⟩)) true ty).run P ((w.drewN d).iter s pos) =
      .ok (.tuple #[.bool true, .int .i64 pos, .int .i32 (s[pos]'h).toNat]) ((w.drewN d).iter s (pos + 1)) := run_next_ascii (w.drewN d) s pos ty h ha
theorem tail_stop (P : Program) (w : World) (s : ByteArray) (pos d : Nat) (ty : TypeId) (h : ¬ pos < s.size) :
    (Instr.next (.pointer (some ⟨w.heap.size, 0, none⟩)) true ty).run P ((w.drewN d).iter s pos) = .ok (.tuple #[.bool false]) ((w.drewN d).iter s pos) := run_next_end (w.drewN d) s pos ty h
theorem iter_drewN (w : World) (s : ByteArray) (pos d m : Nat) : ((w.drewN d).iter s pos).drewN m = (w.drewN (d + m)).iter s pos := by
  simp only [← World.drewN_drewN]; rfl
theorem below_iter {w W : World} (h : Below w.heap.size w W) (d : Nat) (s : ByteArray) (pos : Nat) : Below w.heap.size w ((W.drewN d).iter s pos) :=
  Below.alloc (pw_below_drewN h d) h.size _
theorem tail_meas (w : World) (s : ByteArray) (pos d m : Nat) (h : pos < s.size) : s.size - (((w.drewN d).iter s (pos + 1)).drewN m).iterPos w.heap.size < s.size - ((w.drewN d).iter s pos).iterPos w.heap.size := by
  have h1 : (((w.drewN d).iter s (pos + 1)).drewN m).iterPos w.heap.size = pos + 1 := by rw [iter_drewN]; exact World.iterPos_iter (w.drewN (d + m)) s (pos + 1)
  have h2 : ((w.drewN d).iter s pos).iterPos w.heap.size = pos := World.iterPos_iter (w.drewN d) s pos
  rw [h1, h2]; omega
theorem tail_acc (acc : Int) (pos n m : Nat) (h : 0 ≤ acc ∧ acc ≤ pos ∧ pos ≤ n) (h2 : n ≤ 1000) : wrap64 (acc + 1) = acc + 1 := by unfold wrap64; omega
theorem tail_val (n c : Int) (r : Bool) (h : r = if n < 0 then false else decide (n ≥ c)) (h0 : 0 ≤ n) : r = decide (c ≤ n) := by
  rw [h, if_neg (by omega)]
theorem tail_bad (n c : Int) (r : Bool) (h : r = if n < 0 then false else decide (n ≥ c)) (h0 : -1 = n) : r = false := by
  rw [h, if_pos (by omega)]

end Go.Proofs.Ytjkpomphkfecmaa.PFnSpans
