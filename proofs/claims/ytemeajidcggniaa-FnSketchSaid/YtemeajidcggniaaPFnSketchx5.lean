-- Written by a program of this project (xprint.py) out of the translation; Lean checks it.
import Derived.Test.YtemeajidcggniaaPFnSketchx0
import Derived.Test.YtemeajidcggniaaPFnSketchx3
import Derived.Test.YtemeajidcggniaaPFnSketchx4
namespace Go.Proofs.Ytemeajidcggniaa.PFnSketch
open Go.RowKit Go.Proofs.YtemeajidcggniaaW.PrintWords Go.Proofs.YtemeajidcggniaaW.PrintLast Go.Proofs.YtemeajidcggniaaW.PrintMore
attribute [local go_sem] max2_int min2_int max_two min_two max_three min_three max_four min_four   -- for this text's walks alone
set_option linter.unusedVariables false
set_option linter.unusedSimpArgs false

/-! ### spec_DrawCountIn: function 5 -/
def spec_DrawCountIn.f (k : Nat) (l0 : List Int) : Option (List Int × Int × ByteArray × Int) := (spec_l1Cur_sketch.f k l0 0 0).bind fun bt208 => ((spec_l1Cur_sketchKey.f l0 bt208.2.2.1 bt208.2.2.2).bind fun bt214 => ((spec_l1Cur_among.f l0 bt214.2.1 bt214.2.2 (([0, 1, 2, 1000, 1001, (-1)] : List Int))).bind fun bt220 => (some (bt208.1, bt208.2.1, bt214.1, bt220.1))))
theorem spec_DrawCountIn.mono : ∀ a0 k, LeO (spec_DrawCountIn.f k a0) (spec_DrawCountIn.f (k + 1) a0) := by
  intro a0 k
  unfold spec_DrawCountIn.f
  repeat' first
      | (with_reducible exact spec_l1Cur_sketch.mono _ _ _ _)
      | (with_reducible exact LeO.refl _)
      | (with_reducible exact LeO.none _)
      | (with_reducible refine LeO.ite ?_ ?_)
      | (with_reducible refine LeO.bind ?_ (fun _ => ?_))
      | exact spec_l1Cur_sketch.mono _ _ _ _
      | exact LeO.none _
      | refine LeO.ite ?_ ?_
      | refine LeO.bind ?_ (fun _ => ?_)
set_option maxHeartbeats 8000000 in
set_option maxRecDepth 100000 in
theorem spec_DrawCountIn.calls (k : Nat) (A0 : Option Addr) (c0 : Nat) (l0 : List Int) (r1 : List Int) (r2 : Int) (r3 : ByteArray) (r4 : Int) (w : World) (hr0 : Kd.C (Kd.int .u8) w A0 l0.length l0) (hc0 : l0.length ≤ c0) (h : spec_DrawCountIn.f k l0 = some (r1, r2, r3, r4)) :
    Calls Try.prog 5 #[.slice A0 l0.length c0] w fun e w' => ∃ v0_ : Value, e = .returned (.tuple #[.agg #[v0_, .int .i64 r2], .string r3, .int .i64 r4]) ∧ Kd.Q (Kd.int .i64) 3 w' w.heap.size (fun _ => True) v0_ r1 ∧ Below w.heap.size w w' := by
  have hu25 := Try.underlying25
  have hu52 := Try.underlying52
  have HR0 := Aside0.mk hr0
  have HC0 := Aside0.mk hc0
  clear hr0 hc0
  have HB := Aside0.mk (Below.refl w.heap.size w)
  have H : ((spec_l1Cur_sketch.f k l0 0 0).bind fun bt208 => ((spec_l1Cur_sketchKey.f l0 bt208.2.2.1 bt208.2.2.2).bind fun bt214 => ((spec_l1Cur_among.f l0 bt214.2.1 bt214.2.2 (([0, 1, 2, 1000, 1001, (-1)] : List Int))).bind fun bt220 => (some (bt208.1, bt208.2.1, bt214.1, bt220.1))))) = some (r1, r2, r3, r4) := h
  clear h
  replace H := Option.bind_eq_some_iff.mp H
  obtain ⟨⟨t208, t211, t212, t213⟩, A20, H⟩ := H
  replace H : ((spec_l1Cur_sketchKey.f l0 t212 t213).bind fun bt214 => ((spec_l1Cur_among.f l0 bt214.2.1 bt214.2.2 (([0, 1, 2, 1000, 1001, (-1)] : List Int))).bind fun bt220 => (some (t208, t211, bt214.1, bt220.1)))) = some (r1, r2, r3, r4) := H
  have A2 := Aside0.mk A20
  clear A20
  replace H := Option.bind_eq_some_iff.mp H
  obtain ⟨⟨t214, t215, t216⟩, A30, H⟩ := H
  replace H : ((spec_l1Cur_among.f l0 t215 t216 (([0, 1, 2, 1000, 1001, (-1)] : List Int))).bind fun bt220 => (some (t208, t211, t214, bt220.1))) = some (r1, r2, r3, r4) := H
  have A3 := Aside0.mk A30
  clear A30
  obtain ⟨y217, hy217⟩ : ∃ y_ : List Int, y_ = (([0, 1, 2, 1000, 1001, (-1)] : List Int)) := ⟨_, rfl⟩
  replace H : ((spec_l1Cur_among.f l0 t215 t216 y217).bind fun bt220 => (some (t208, t211, t214, bt220.1))) = some (r1, r2, r3, r4) := by first | (rw [hy217]; with_reducible exact H) | (have H2_ := (Option.bind_some _ _).symm.trans H; rw [hy217]; with_reducible exact H2_) | (have H2_ := (Option.bind_some _ _).symm.trans H; with_reducible exact H2_) | with_reducible exact H | (rw [hy217]; exact H) | exact H
  have Ny217 := Aside0.mk hy217
  clear hy217
  replace H := Option.bind_eq_some_iff.mp H
  obtain ⟨⟨t220, t221, t222⟩, A40, H⟩ := H
  replace H : (some (t208, t211, t214, t220)) = some (r1, r2, r3, r4) := H
  have A4 := Aside0.mk A40
  clear A40
  simp only [Option.some.injEq, Prod.mk.injEq] at H
  obtain ⟨rfl, rfl, rfl, rfl⟩ := H
  go_enter Try.func5, Try.ntmps5
  go_wp2_with (first | ((with_reducible refine gate_dst (N := 2) rfl ?_); refine box_event ?hg (N := 2) ?hd (cs := #[.slice none 0 0, .int .i64 0]) (t := 25) ?hr ?_; (case hd => rfl); (case hg => rfl); (case hr => first | (go_simp; done) | (go_simp; rfl)); intro gb206 hg w5 hbox hb; have n0_ := Aside0.mk (below_step (by repeat (first | (with_reducible first | exact HB.out | apply below_alloc | apply pw_below_drewN | apply below_drew1) | exact HB.out)) hb); have n1_ := Aside0.mk (hbox); have n2_ := Aside0.mk ((by rw [hg]; exact (below_size (by repeat (first | (with_reducible first | exact HB.out | apply below_alloc | apply pw_below_drewN | apply below_drew1) | exact HB.out))) : w.heap.size ≤ gb206)); have n3_ := Aside0.mk ((by rw [hg]; exact (below_size (by repeat (first | (with_reducible first | exact HB.out | apply below_alloc | apply pw_below_drewN | apply below_drew1) | exact HB.out))) : w.heap.size ≤ gb206)); clear HB; have HB := n0_; have BK206 := n1_; have GW206 := n2_; have GE206 := n3_; clear n0_ n1_ n2_ n3_; clear hb hbox hg) | ((with_reducible refine gate_dst (N := 8) rfl ?_); refine box_event ?hg (N := 8) ?hd (cs := #[.slice A0 l0.length c0, .int .i64 0, .int .u64 0]) (t := 52) ?hr ?_; (case hd => rfl); (case hg => rfl); (case hr => first | (go_simp; done) | (go_simp; rfl)); intro gb207 hg w6 hbox hb; have n0_ := Aside0.mk (blk_below (g := gb206) (o := .cells #[.slice none 0 0, .int .i64 0] 25 (0, 0)) (by (with_reducible repeat (first | refine blk_drewN ?_ _ | refine blk_drew ?_ | refine blk_alloc ?_ _)); exact BK206.out) hb); have n1_ := Aside0.mk (below_step (by repeat (first | (with_reducible first | exact HB.out | apply below_alloc | apply pw_below_drewN | apply below_drew1 | refine below_set ?_ GE206.out) | exact HB.out)) hb); have n2_ := Aside0.mk (hbox); have n3_ := Aside0.mk ((by rw [hg]; exact (below_size (by repeat (first | (with_reducible first | exact HB.out | apply below_alloc | apply pw_below_drewN | apply below_drew1 | refine below_set ?_ GE206.out) | exact HB.out))) : w.heap.size ≤ gb207)); have n4_ := Aside0.mk ((by rw [hg]; exact (below_size (by repeat (first | (with_reducible first | exact HB.out | apply below_alloc | apply pw_below_drewN | apply below_drew1 | refine below_set ?_ GE206.out) | exact HB.out))) : w.heap.size ≤ gb207)); have n5_ := Aside0.mk ((by rw [hg]; exact Nat.ne_of_lt (blk_lt (g := gb206) (o := .cells #[.slice none 0 0, .int .i64 0] 25 (0, 0)) (by (with_reducible repeat (first | refine blk_drewN ?_ _ | refine blk_drew ?_ | refine blk_alloc ?_ _)); exact BK206.out)) : gb206 ≠ gb207)); have n6_ := Aside0.mk ((by rw [hg]; exact Nat.ne_of_gt (blk_lt (g := gb206) (o := .cells #[.slice none 0 0, .int .i64 0] 25 (0, 0)) (by (with_reducible repeat (first | refine blk_drewN ?_ _ | refine blk_drew ?_ | refine blk_alloc ?_ _)); exact BK206.out)) : gb207 ≠ gb206)); clear BK206; clear HB; have BK206 := n0_; have HB := n1_; have BK207 := n2_; have GW207 := n3_; have GE207 := n4_; have NB206_207 := n5_; have NB207_206 := n6_; clear n0_ n1_ n2_ n3_ n4_ n5_ n6_; clear hb hbox hg) | ((with_reducible refine gate_callee (f := 25) rfl ?_); refine goesL_ (some 10) rfl rfl Try.func25 (by kernel_rfl) rfl #[.pointer (some ⟨gb207, 0, none⟩)] rfl (by (try simp only [List.map_toArray, List.map_cons, List.map_nil]); first | done | rfl | (simp only [List.length_drop, List.length_take]; rfl)) ?_; (with_reducible refine (spec_l1Cur_sketch.calls k gb207 l0 0 0 t208 t211 t212 t213 w _ ?side1 ?side2 A2.out).mono ?_); (case side1 => exact (show IsS52 w _ gb207 l0 0 0 from ⟨_, _, (by (with_reducible repeat (first | refine blk_drewN ?_ _ | refine blk_drew ?_ | refine blk_alloc ?_ _)); exact BK207.out), GE207.out, HR0.out⟩)); (case side2 => repeat (first | (with_reducible first | exact HB.out | apply below_alloc | apply pw_below_drewN | apply below_drew1 | refine below_set ?_ (IsS52.ge HI207.out) | refine below_set ?_ GE206.out) | exact HB.out)); rintro e w7 ⟨v209, rfl, ho0, hi, hb, hk⟩; refine ⟨_, rfl, ?_⟩; have n0_ := Aside0.mk (KeepBut.blk hk (g' := gb206) (o := .cells #[.slice none 0 0, .int .i64 0] 25 (0, 0)) (by (with_reducible repeat (first | refine blk_drewN ?_ _ | refine blk_drew ?_ | refine blk_alloc ?_ _)); exact BK206.out) NB206_207.out (by simp)); have n1_ := Aside0.mk (Kd.Q_lower ho0 (below_size (by repeat (first | (with_reducible first | exact HB.out | apply below_alloc | apply pw_below_drewN | apply below_drew1 | refine below_set ?_ (IsS52.ge HI207.out) | refine below_set ?_ GE206.out) | exact HB.out)))); have n2_ := Aside0.mk (hb); have n3_ := Aside0.mk (hi); clear BK206; clear HB; have BK206 := n0_; have HO210 := n1_; have HB := n2_; have HI207 := n3_; clear n0_ n1_ n2_ n3_; (try clear hb); (try clear hb2); (try clear hk); (try clear hi); (try clear ho0)) | ((with_reducible refine gate_callee (f := 26) rfl ?_); refine goesL_ (some 12) rfl rfl Try.func26 (by kernel_rfl) rfl #[.pointer (some ⟨gb207, 0, none⟩)] rfl (by (try simp only [List.map_toArray, List.map_cons, List.map_nil]); first | done | rfl | (simp only [List.length_drop, List.length_take]; rfl)) ?_; (with_reducible refine (spec_l1Cur_sketchKey.calls gb207 l0 t212 t213 t214 t215 t216 w _ ?side1 ?side2 A3.out).mono ?_); (case side1 => repeat (first | (with_reducible first | exact HI207.out | apply IsS52.alloc | apply IsS52.drewN | apply IsS52.drew | apply IsS52.set_1 | apply IsS52.set_2 | refine IsS52.far ?_ NB207_206.out _) | exact HI207.out)); (case side2 => repeat (first | (with_reducible first | exact HB.out | apply below_alloc | apply pw_below_drewN | apply below_drew1 | refine below_set ?_ (IsS52.ge HI207.out) | refine below_set ?_ GE206.out) | exact HB.out)); rintro e w8 ⟨rfl, hi, hb, hk⟩; refine ⟨_, rfl, ?_⟩; have n0_ := Aside0.mk (KeepBut.blk hk (g' := gb206) (o := .cells #[.slice none 0 0, .int .i64 0] 25 (0, 0)) (by (with_reducible repeat (first | refine blk_drewN ?_ _ | refine blk_drew ?_ | refine blk_alloc ?_ _)); exact BK206.out) NB206_207.out (by simp)); have n1_ := Aside0.mk (Kd.Q_mono (Kd.Q_keep (IsS52.apartQ (show IsS52 w _ gb207 l0 t212 t213 from by repeat (first | (with_reducible first | exact HI207.out | apply IsS52.alloc | apply IsS52.drewN | apply IsS52.drew | apply IsS52.set_1 | apply IsS52.set_2 | refine IsS52.far ?_ NB207_206.out _) | exact HI207.out)) (by (with_reducible repeat (first | apply Kd.Q_alloc | apply Kd.Q_drewN | apply Kd.Q_drew)); exact HO210.out) (by decide)) hk (fun _ h => h.2)) (fun _ h => h.1)); have n2_ := Aside0.mk (hb); have n3_ := Aside0.mk (hi); clear BK206; clear HO210; clear HB; clear HI207; have BK206 := n0_; have HO210 := n1_; have HB := n2_; have HI207 := n3_; clear n0_ n1_ n2_ n3_; (try clear hb); (try clear hb2); (try clear hk); (try clear hi)) | ((with_reducible refine gate_dst (N := 14) rfl ?_); refine Kd.R_lit (Kd.int .i64) _ 3 ?hg (N := 14) ?hd (xs := ([0, 1, 2, 1000, 1001, (-1)] : List Int)) (inner := [.int .i64 0, .int .i64 1, .int .i64 2, .int .i64 1000, .int .i64 1001, .int .i64 (-1)]) (ok := fun _ => True) (okp := fun _ => True) ?hr ?hp (fun _ hk => hk) trivial (Below.refl _ _) (Nat.le_refl _) (by simp) ?_; (case hd => rfl); (case hg => rfl); (case hr => first | (go_simp; done) | (go_simp; rfl)); (case hp => exact (Reps.one (show Kd.M (Kd.int .i64) _ _ _ 0 [.int .i64 0] from rfl) (Reps.one (show Kd.M (Kd.int .i64) _ _ _ 1 [.int .i64 1] from rfl) (Reps.one (show Kd.M (Kd.int .i64) _ _ _ 2 [.int .i64 2] from rfl) (Reps.one (show Kd.M (Kd.int .i64) _ _ _ 1000 [.int .i64 1000] from rfl) (Reps.one (show Kd.M (Kd.int .i64) _ _ _ 1001 [.int .i64 1001] from rfl) (Reps.one (show Kd.M (Kd.int .i64) _ _ _ (-1) [.int .i64 (-1)] from rfl) (Reps.none _ _)))))))); intro v218 w9 ho10 hb hg_ hnew_; clear hg_ hnew_; (first | rw [← Ny217.out] at ho10 | (simp only [Int.reduceToNat] at ho10; rw [← Ny217.out] at ho10)); have n0_ := Aside0.mk (Kd.Q_elder' (by (with_reducible repeat (first | apply Kd.Q_alloc | apply Kd.Q_drewN | apply Kd.Q_drew)); exact HO210.out) (Kd.R_base ho10) hb); have n1_ := Aside0.mk (Kd.R_lower (Kd.R_new' ho10 (Kd.Q_lt (by (with_reducible repeat (first | apply Kd.Q_alloc | apply Kd.Q_drewN | apply Kd.Q_drew)); exact HO210.out))) (below_size (by repeat (first | (with_reducible first | exact HB.out | apply below_alloc | apply pw_below_drewN | apply below_drew1 | refine below_set ?_ (IsS52.ge HI207.out) | refine below_set ?_ GE206.out) | exact HB.out)))); have n2_ := Aside0.mk (blk_below (g := gb206) (o := .cells #[.slice none 0 0, .int .i64 0] 25 (0, 0)) (by (with_reducible repeat (first | refine blk_drewN ?_ _ | refine blk_drew ?_ | refine blk_alloc ?_ _)); exact BK206.out) hb); have n3_ := Aside0.mk (IsS52.below (by repeat (first | (with_reducible first | exact HI207.out | apply IsS52.alloc | apply IsS52.drewN | apply IsS52.drew | apply IsS52.set_1 | apply IsS52.set_2 | refine IsS52.far ?_ NB207_206.out _) | exact HI207.out)) hb); have n4_ := Aside0.mk (below_step (by repeat (first | (with_reducible first | exact HB.out | apply below_alloc | apply pw_below_drewN | apply below_drew1 | refine below_set ?_ (IsS52.ge HI207.out) | refine below_set ?_ GE206.out) | exact HB.out)) hb); clear HO210; clear BK206; clear HI207; clear HB; have HO210 := n0_; have HO219 := n1_; have BK206 := n2_; have HI207 := n3_; have HB := n4_; clear n0_ n1_ n2_ n3_ n4_; clear hb ho10; obtain ⟨Ao11, co11, eo11⟩ := Kd.R_slice HO219.out; subst eo11) | ((with_reducible refine gate_callee (f := 27) rfl ?_); refine goesL_ (some 15) rfl rfl Try.func27 (by kernel_rfl) rfl #[.pointer (some ⟨gb207, 0, none⟩), .slice Ao11 y217.length co11] rfl (by (try simp only [List.map_toArray, List.map_cons, List.map_nil]); first | done | rfl | (simp only [List.length_drop, List.length_take]; rfl)) ?_; (with_reducible refine (spec_l1Cur_among.calls gb207 l0 t215 t216 _ _ y217 t220 t221 t222 w _ ?side1 ?side2 ?side3 ?side4 ?side5 A4.out).mono ?_); (case side1 => repeat (first | (with_reducible first | exact HI207.out | apply IsS52.alloc | apply IsS52.drewN | apply IsS52.drew | apply IsS52.set_1 | apply IsS52.set_2 | refine IsS52.far ?_ NB207_206.out _) | exact HI207.out)); (case side2 => repeat (first | (with_reducible first | exact HB.out | apply below_alloc | apply pw_below_drewN | apply below_drew1 | refine below_set ?_ (IsS52.ge HI207.out) | refine below_set ?_ GE206.out) | exact HB.out)); (case side3 => repeat (first | exact (Kd.R_reads' HO219.out).2.2 | (with_reducible refine Kd.C_alloc ?_ _) | (with_reducible refine Kd.C_drewN ?_ _) | (with_reducible refine Kd.C_drew ?_))); (case side4 => exact (Kd.R_reads' HO219.out).2.1); (case side5 => exact far_slice (IsS52.own_ne HI207.out HO219.out (by decide))); rintro e w12 ⟨rfl, hi, hb, hk⟩; refine ⟨_, rfl, ?_⟩; have n0_ := Aside0.mk (KeepBut.blk hk (g' := gb206) (o := .cells #[.slice none 0 0, .int .i64 0] 25 (0, 0)) (by (with_reducible repeat (first | refine blk_drewN ?_ _ | refine blk_drew ?_ | refine blk_alloc ?_ _)); exact BK206.out) NB206_207.out (by simp)); have n1_ := Aside0.mk (Kd.Q_mono (Kd.Q_keep (IsS52.apartQ (show IsS52 w _ gb207 l0 t215 t216 from by repeat (first | (with_reducible first | exact HI207.out | apply IsS52.alloc | apply IsS52.drewN | apply IsS52.drew | apply IsS52.set_1 | apply IsS52.set_2 | refine IsS52.far ?_ NB207_206.out _) | exact HI207.out)) (by (with_reducible repeat (first | apply Kd.Q_alloc | apply Kd.Q_drewN | apply Kd.Q_drew)); exact HO210.out) (by decide)) hk (fun _ h => h.2)) (fun _ h => h.1)); have n2_ := Aside0.mk (Kd.R_mono (Kd.R_keep (IsS52.apart (show IsS52 w _ gb207 l0 t215 t216 from by repeat (first | (with_reducible first | exact HI207.out | apply IsS52.alloc | apply IsS52.drewN | apply IsS52.drew | apply IsS52.set_1 | apply IsS52.set_2 | refine IsS52.far ?_ NB207_206.out _) | exact HI207.out)) (by (with_reducible repeat (first | apply Kd.R_alloc | apply Kd.R_drewN | apply Kd.R_drew)); exact HO219.out) (by decide)) hk (fun _ h => h.2)) (fun _ h => h.1)); have n3_ := Aside0.mk (hb); have n4_ := Aside0.mk (hi); clear BK206; clear HO210; clear HO219; clear HB; clear HI207; have BK206 := n0_; have HO210 := n1_; have HO219 := n2_; have HB := n3_; have HI207 := n4_; clear n0_ n1_ n2_ n3_ n4_; (try clear hb); (try clear hb2); (try clear hk); (try clear hi); obtain ⟨Ao13, co13, eo13, _⟩ := Kd.Q_slice HO210.out; subst eo13; have hnb14 := NB206_207.out; have hnc14 := NB207_206.out; have hcz15_0 : w12.cell? ⟨gb206, 0, none⟩ = some (.slice none 0 0) := (blk_cell BK206.out 0).trans rfl; have hcz15_1 : w12.cell? ⟨gb206, 1, none⟩ = some (.int .i64 0) := (blk_cell BK206.out 1).trans rfl; have hfz15_0 := blk_frozen BK206.out 0; have hfz15_1 := blk_frozen BK206.out 1))
  refine bodyPost_ret (results_ctt rfl _ _ gb206 25 #[.slice Ao13 t208.length co13, .int .i64 t211] (0, 0) _ rfl (by (with_reducible repeat (first | refine blk_drewN ?_ _ | refine blk_drew ?_ | refine blk_alloc ?_ _)); refine blk_put (cs := #[.slice Ao13 t208.length co13, .int .i64 0]) ?_ 1 _ rfl; (with_reducible repeat (first | refine blk_drewN ?_ _ | refine blk_drew ?_ | refine blk_alloc ?_ _)); refine blk_put (cs := #[.slice none 0 0, .int .i64 0]) ?_ 0 _ rfl; (with_reducible repeat (first | refine blk_drewN ?_ _ | refine blk_drew ?_ | refine blk_alloc ?_ _)); exact BK206.out) Try.underlying25 rfl (by kernel_rfl)) rfl ?_
  exact ⟨_, by first | rfl | (simp [errW_none, errW_some] <;> rfl) | (simp [*, errW_none, errW_some] <;> rfl), by (with_reducible repeat (first | apply Kd.Q_alloc | apply Kd.Q_drewN | apply Kd.Q_drew)); exact Kd.Q_mono (Kd.Q_far (p := ⟨gb206, 1, none⟩) (Kd.Q_far (p := ⟨gb206, 0, none⟩) (Kd.Q_types HO210.out BK206.out (by decide)) (fun _ hk => hk.2) (.slice Ao13 t208.length co13)) (fun _ hk => hk.2) (.int .i64 t211)) (fun _ hk => trivial), by repeat (first | (with_reducible first | exact HB.out | apply below_alloc | apply pw_below_drewN | apply below_drew1 | refine below_set ?_ (IsS52.ge HI207.out) | refine below_set ?_ GE206.out) | exact HB.out)⟩

/-! ### impl_within: function 29 -/
def impl_within.f (a0 : Int) (a1 : Int) (a2 : Int) : Option (Bool) := if a1 ≤ a0 then (some (decide (a0 ≤ a2))) else (some false)
set_option maxHeartbeats 8000000 in
set_option maxRecDepth 100000 in
theorem impl_within.calls (a0 : Int) (a1 : Int) (a2 : Int) (r : Bool) (w : World) (h : impl_within.f a0 a1 a2 = some r) :
  Calls Try.prog 29 #[.int .i64 a0, .int .i64 a1, .int .i64 a2] w fun e w' => e = .returned (.bool r) ∧ Drawn0 w w' := by
 have H : (if a1 ≤ a0 then (some (decide (a0 ≤ a2))) else (some false)) = some r := h
 clear h
 by_cases c4 : a1 ≤ a0
 ·rw [if_pos c4] at H
  have c4b0 : decide (a1 ≤ a0) = true := decide_eq_true c4
  clear c4
  obtain rfl := Option.some.inj H
  go_enter Try.func29, Try.ntmps29
  go_wp2
  go_ret
  exact ⟨by first | rfl | (simp; done) | (simp [*]; done), by repeat (first | exact Drawn0.refl _ | apply Drawn0.step)⟩
 ·rw [if_neg c4] at H
  have c4b0 : decide (a1 ≤ a0) = false := decide_eq_false c4
  clear c4
  obtain rfl := Option.some.inj H
  go_enter Try.func29, Try.ntmps29
  go_wp2
  go_ret
  exact ⟨by first | rfl | (simp; done) | (simp [*]; done), by repeat (first | exact Drawn0.refl _ | apply Drawn0.step)⟩

/-! ### impl_isCount: function 35 -/
def impl_isCount.f (a0 : Int) : Option (Bool) := (impl_within.f a0 0 1000000).bind fun t223 => (some t223)
set_option maxHeartbeats 8000000 in
set_option maxRecDepth 100000 in
theorem impl_isCount.calls (a0 : Int) (r : Bool) (w : World) (h : impl_isCount.f a0 = some r) :
  Calls Try.prog 35 #[.int .i64 a0] w fun e w' => e = .returned (.bool r) ∧ Drawn0 w w' := by
 have H : ((impl_within.f a0 0 1000000).bind fun t223 => (some t223)) = some r := h
 clear h
 replace H := Option.bind_eq_some_iff.mp H
 obtain ⟨t223, A20, H⟩ := H
 replace H : (some t223) = some r := H
 have A2 := Aside0.mk A20
 clear A20
 obtain rfl := Option.some.inj H
 go_enter Try.func35, Try.ntmps35
 go_wp2_with (first | ((with_reducible refine gate_callee (f := 29) rfl ?_); refine xgl_ (some 4) Try.func29 #[.int .i64 a0, .int .i64 0, .int .i64 1000000] ?_; (with_reducible refine (impl_within.calls a0 0 1000000 t223 _ A2.out).mono ?_); rintro e w' ⟨rfl, ⟨nd, rfl⟩⟩; refine ⟨_, rfl, ?_⟩))
 go_ret
 exact ⟨by first | rfl | (simp; done) | (simp [*]; done), by repeat (first | exact Drawn0.refl _ | apply Drawn0.step)⟩

/-! ### impl_sumOf: function 38 -/
def impl_sumOf.l0 : Nat → Int → List Int → Int → Int → Option (Int)
 | 0, _, _, _, _ => none
 | k + 1, x3, x6, x7, x8 => if x8 < x7 then (if 0 ≤ x8 then (if x8 < (x6.length : Int) then (impl_sumOf.l0 k (wrap64 (x3 + (rd x6 x8))) x6 x7 (wrap64 (x8 + 1))) else (none)) else (none)) else (some x3)
def impl_sumOf.f (k : Nat) (l0 : List Int) : Option (Int) := impl_sumOf.l0 k 0 l0 (l0.length : Int) 0
theorem impl_sumOf.mono_l : ∀ k, (∀ y0 y1 y2 y3, LeO (impl_sumOf.l0 k y0 y1 y2 y3) (impl_sumOf.l0 (k + 1) y0 y1 y2 y3))
 | 0 => fun _ _ _ _ r h => by simp [impl_sumOf.l0] at h
 | k + 1 => by
  have ih0 := impl_sumOf.mono_l k
  ·intro y0 y1 y2 y3
   unfold impl_sumOf.l0
   repeat' first
   | (with_reducible exact ih0 _ _ _ _)
   | (with_reducible exact LeO.refl _)
   | (with_reducible exact LeO.none _)
   | (with_reducible refine LeO.ite ?_ ?_)
   | (with_reducible refine LeO.bind ?_ (fun _ => ?_))
   | exact ih0 _ _ _ _
   | exact LeO.none _
   | refine LeO.ite ?_ ?_
   | refine LeO.bind ?_ (fun _ => ?_)
theorem impl_sumOf.mono : ∀ a0 k, LeO (impl_sumOf.f k a0) (impl_sumOf.f (k + 1) a0) := by
 intro a0 k
 have ih0 := impl_sumOf.mono_l k
 unfold impl_sumOf.f
 repeat' first
   | (with_reducible exact ih0 _ _ _ _)
   | (with_reducible exact LeO.refl _)
   | (with_reducible exact LeO.none _)
   | (with_reducible refine LeO.ite ?_ ?_)
   | (with_reducible refine LeO.bind ?_ (fun _ => ?_))
   | exact ih0 _ _ _ _
   | exact LeO.none _
   | refine LeO.ite ?_ ?_
   | refine LeO.bind ?_ (fun _ => ?_)
set_option maxHeartbeats 8000000 in
set_option maxRecDepth 100000 in
theorem impl_sumOf.calls (k : Nat) (A0 : Option Addr) (c0 : Nat) (l0 : List Int) (r : Int) (w : World) (hr0 : Kd.C (Kd.int .i64) w A0 l0.length l0) (hc0 : l0.length ≤ c0) (h : impl_sumOf.f k l0 = some r) :
  Calls Try.prog 38 #[.slice A0 l0.length c0] w fun e w' => e = .returned (.int .i64 r) ∧ Drawn0 w w' := by
 have HR0 := Aside0.mk hr0
 have HC0 := Aside0.mk hc0
 clear hr0 hc0
 have H : (impl_sumOf.l0 k 0 l0 (l0.length : Int) 0) = some r := h
 clear h
 have H' := Aside0.mk H
 clear H
 go_enter Try.func38, Try.ntmps38
 go_wp2
 go_loopg [3, 8] k (fun kq v3 v8 w' => ∃ (x3_1 : Int) (x8_1 : Int), v3 = .int .i64 x3_1 ∧ v8 = .int .i64 x8_1 ∧ Aside0 (impl_sumOf.l0 kq x3_1 l0 (l0.length : Int) x8_1 = some r) ∧ Aside0 (kq ≤ k) ∧ Drawn0 w w')
 case atStart => exact ⟨(0), (0), (by first | rfl | (simp; done) | (simp [*]; done)), (by first | rfl | (simp; done) | (simp [*]; done)), H', ⟨Nat.le_refl _⟩, by repeat (first | exact Drawn0.refl _ | apply Drawn0.step)⟩
 case round =>
  clear H'
  obtain ⟨x3_1, x8_1, rfl, rfl, HA, HK1, ⟨m1, rfl⟩⟩ := hrel
  cases gk with
  | zero => exact absurd HA.out (by simp [impl_sumOf.l0])
  | succ k1 =>
   have H := HA.out
   clear HA
   simp only [impl_sumOf.l0] at H
   by_cases c2 : x8_1 < (l0.length : Int)
   ·rw [if_pos c2] at H
    have c2b0 : decide (x8_1 < (l0.length : Int)) = true := decide_eq_true c2
    clear c2
    by_cases c3 : 0 ≤ x8_1
    ·rw [if_pos c3] at H
     have c3b0 : decide (0 ≤ x8_1) = true := decide_eq_true c3
     clear c3
     by_cases c4 : x8_1 < (l0.length : Int)
     ·rw [if_pos c4] at H
      have c4b0 : decide (x8_1 < (l0.length : Int)) = true := decide_eq_true c4
      clear c4
      have H' := Aside0.mk H
      clear H
      have p224 : 0 ≤ (x8_1 : Int) := of_decide_eq_true (by first | (with_reducible assumption) | assumption)
      have q224 : x8_1 < (l0.length : Int) := of_decide_eq_true (by first | (with_reducible assumption) | assumption)
      obtain ⟨ad224, e224, hx224_0⟩ := Kd.at_int HR0.out x8_1 p224 q224
      cases e224
      replace p224 := eq_true p224
      replace q224 := eq_true q224
      go_wp2
      go_roundg k1
      case measure => have := HK1.out; omega
      case rel => exact ⟨(wrap64 (x3_1 + (rd l0 x8_1))), (wrap64 (x8_1 + 1)), (by first | rfl | (simp; done) | (simp [*]; done)), (by first | rfl | (simp; done) | (simp [*]; done)), H', ⟨by have := HK1.out; omega⟩, by repeat (first | exact Drawn0.refl _ | apply Drawn0.step)⟩
     ·rw [if_neg c4] at H
      exact absurd H (by simp)
    ·rw [if_neg c3] at H
     exact absurd H (by simp)
   ·rw [if_neg c2] at H
    have c2b0 : decide (x8_1 < (l0.length : Int)) = false := decide_eq_false c2
    clear c2
    obtain rfl := Option.some.inj H
    go_wp2
    go_ret
    exact ⟨by first | rfl | (simp; done) | (simp [*]; done), by repeat (first | exact Drawn0.refl _ | apply Drawn0.step)⟩

/-- the first place, counted from n, at which p holds; -1 if there is none -/
def idxO {α : Type} (p : α → Option Bool) : List α → Int → Option Int
  | [], _ => some (-1)
  | x :: xs, n => (p x).bind fun b => if b = true then some n else idxO p xs (n + 1)
theorem idxO_at {α : Type} (p : α → Option Bool) (l : List α) (n : Nat) (h : n < l.length) : idxO p (l.drop n) (n : Int) = (p l[n]).bind fun b => if b = true then some (n : Int) else idxO p (l.drop (n + 1)) ((n + 1 : Nat) : Int) := by
  rw [List.drop_eq_getElem_cons h]; rfl
theorem idxO_mono {α : Type} (p q : α → Option Bool) (h : ∀ x, LeO (p x) (q x)) (l : List α) : ∀ n, LeO (idxO p l n) (idxO q l n) := by
  induction l with
  | nil => intro n; exact LeO.refl _
  | cons x xs ih => intro n; unfold idxO; exact LeO.bind (h x) (fun b => LeO.ite (LeO.refl _) (ih _))
set_option maxHeartbeats 4000000 in
/-- slices.IndexFunc: the first place at which the predicate holds -/
theorem xIndexFunc_i64 (p : Int → Option Bool) (g : Nat) (lb : Array Value) (eg : ∀ args w, (callFunc g args).run Try.prog w = .ok (.enter g args) w) (A0 : Option Addr) (c0 : Nat) (l0 : List Int) (i : Int) (w : World)
    (hr0 : Kd.C (Kd.int .i64) w A0 l0.length l0) (hc0 : l0.length ≤ c0) (hbig : l0.length < 9223372036854775807)
    (hp : ∀ (W : World) (x : Int) (b : Bool), Below w.heap.size w W → p x = some b → Calls Try.prog g (#[.int .i64 x] ++ lb) W fun e w' => e = .returned (.bool b) ∧ Below w.heap.size w w')
    (h : idxO p l0 0 = some i) :
    Calls Try.prog 50 #[.slice A0 l0.length c0, .func (.func g) #[] lb] w fun e w' => e = .returned (.int .i64 i) ∧ Below w.heap.size w w' := by
  have HR0 := Aside0.mk hr0
  have HC0 := Aside0.mk hc0
  have HP := Aside0.mk hp
  have HI := Aside0.mk h
  clear hr0 hc0 hp h
  go_enter Try.func50, Try.ntmps50
  go_wp2
  go_loopg [5, 8] l0.length (fun gg _ s8 wr => ∃ kk : Nat, kk ≤ l0.length ∧ l0.length - kk ≤ gg ∧ s8 = .int .i64 kk ∧ Aside0 (Below w.heap.size w wr) ∧ Aside0 (idxO p (l0.drop kk) (kk : Int) = some i))
  case atStart => exact ⟨0, Nat.zero_le _, by omega, rfl, ⟨Below.refl _ w⟩, HI⟩
  case round =>
    obtain ⟨kk, hkk, hg, rfl, BW, A⟩ := hrel
    clear HI
    by_cases hlt : kk < l0.length
    · have hltz : (kk : Int) < (l0.length : Int) := by omega
      have H := A.out
      clear A
      rw [idxO_at p l0 kk hlt] at H
      obtain ⟨b, hb, H⟩ := Option.bind_eq_some_iff.mp H
      have hcall := HP.out wr l0[kk] b BW.out hb
      have hrd : rd l0 (kk : Int) = l0[kk] := by unfold rd; simp [List.getD_eq_getElem?_getD, hlt]
      obtain ⟨ad, he, hy0⟩ := Kd.at_int (Kd.C_below HR0.out BW.out) (kk : Int) (by omega) hltz
      cases he
      have hx0 : wr.cell? (ad.add kk) = some (.int .i64 (l0[kk])) := by rw [← hrd]; exact hy0
      clear hy0
      generalize l0[kk] = x at *
      cases b with
      | true =>
        obtain rfl : (kk : Int) = i := Option.some.inj H
        clear H hb
        go_wp2_with (go_at_fn g; refine hcall.mono ?_; rintro e w' ⟨rfl, hb'⟩)
        go_ret
        exact ⟨rfl, hb'⟩
      | false =>
        have H' := Aside0.mk H
        clear H hb
        go_wp2_with (go_at_fn g; refine hcall.mono ?_; rintro e w' ⟨rfl, hb'⟩)
        go_roundg (l0.length - (kk + 1))
        case measure => omega
        case rel => exact ⟨kk + 1, by omega, by omega, by go_num, ⟨hb'⟩, ⟨by have z := H'.out; rw [if_neg (by decide)] at z; exact z⟩⟩
    · have hltz : ¬ (kk : Int) < (l0.length : Int) := by omega
      have H := A.out
      rw [List.drop_of_length_le (by omega)] at H
      obtain rfl : (-1 : Int) = i := Option.some.inj H
      clear H A
      go_wp2
      go_ret
      exact ⟨rfl, BW.out⟩
set_option maxHeartbeats 4000000 in
theorem xContainsFunc_i64 (p : Int → Option Bool) (g : Nat) (lb : Array Value) (eg : ∀ args w, (callFunc g args).run Try.prog w = .ok (.enter g args) w) (A0 : Option Addr) (c0 : Nat) (l0 : List Int) (i : Int) (w : World)
    (hr0 : Kd.C (Kd.int .i64) w A0 l0.length l0) (hc0 : l0.length ≤ c0) (hbig : l0.length < 9223372036854775807)
    (hp : ∀ (W : World) (x : Int) (b : Bool), Below w.heap.size w W → p x = some b → Calls Try.prog g (#[.int .i64 x] ++ lb) W fun e w' => e = .returned (.bool b) ∧ Below w.heap.size w w')
    (h : idxO p l0 0 = some i) :
    Calls Try.prog 46 #[.slice A0 l0.length c0, .func (.func g) #[] lb] w fun e w' => e = .returned (.bool (decide (i ≥ 0))) ∧ Below w.heap.size w w' := by
  have hcall := xIndexFunc_i64 p g lb eg A0 c0 l0 i w hr0 hc0 hbig hp h
  clear hr0 hc0 hbig hp h
  go_enter Try.func46, Try.ntmps46
  go_wp2_with (go_at_call 50; refine hcall.mono ?_; rintro e w' ⟨rfl, hb'⟩)
  go_ret
  exact ⟨rfl, hb'⟩
/-! ### xAll_i64_impl_isCount: function 36, with function 35 -/
def xAll_i64_impl_isCount.z (x : Int) : Option Bool := (impl_isCount.f x).bind fun b => some (!b)
def xAll_i64_impl_isCount.f (l0 : List Int) : Option (Bool) := if l0.length < 9223372036854775807 then ((idxO (xAll_i64_impl_isCount.z) l0 0).bind fun i => some (!decide (i ≥ 0))) else none
set_option maxHeartbeats 8000000 in
set_option maxRecDepth 100000 in
theorem xAll_i64_impl_isCount.calls (A0 : Option Addr) (c0 : Nat) (l0 : List Int) (r : Bool) (w : World) (hr0 : Kd.C (Kd.int .i64) w A0 l0.length l0) (hc0 : l0.length ≤ c0) (h : xAll_i64_impl_isCount.f l0 = some r) :
    Calls Try.prog 36 #[.slice A0 l0.length c0, .func (.func 35) #[] #[]] w fun e w' => e = .returned (.bool r) ∧ Below w.heap.size w w' := by
  have hbig : l0.length < 9223372036854775807 := by
    by_cases c : l0.length < 9223372036854775807
    · exact c
    · unfold xAll_i64_impl_isCount.f at h; rw [if_neg c] at h; cases h
  have h1 : ((idxO (xAll_i64_impl_isCount.z) l0 0).bind fun i => some (!decide (i ≥ 0))) = some r := by unfold xAll_i64_impl_isCount.f at h; rw [if_pos hbig] at h; exact h
  clear h
  obtain ⟨i, hi1, hi2⟩ := Option.bind_eq_some_iff.mp h1
  clear h1
  obtain rfl := Option.some.inj hi2
  clear hi2
  have eg : ∀ args w, (callFunc 47 args).run Try.prog w = .ok (.enter 47 args) w := enters_of Try.func47 (by kernel_rfl) rfl
  have hb1 : Below w.heap.size w (w.alloc (.cells #[.func (.func 35) #[] #[]] 59)) := (Below.refl _ w).alloc (Nat.le_refl _) _
  have hcall := xContainsFunc_i64 (xAll_i64_impl_isCount.z) 47 #[.pointer (some ⟨w.heap.size, 0, none⟩)] eg A0 c0 l0 i (w.alloc (.cells #[.func (.func 35) #[] #[]] 59)) (Kd.C_below hr0 hb1) hc0 hbig
    (by
      intro W x b hb hz
      have hcell : W.cell? ⟨w.heap.size, 0, none⟩ = some (.func (.func 35) #[] #[]) := (hb.cell (p := ⟨w.heap.size, 0, none⟩) (by simp)).trans (by simp)
      obtain ⟨b2, hq, hb2⟩ := Option.bind_eq_some_iff.mp hz
      obtain rfl : (!b2) = b := Option.some.inj hb2
      have hq' := Aside0.mk hq
      have hb' := Aside0.mk hb
      clear hb hz hb2 hq
      show Calls Try.prog 47 #[.int .i64 x, .pointer (some ⟨w.heap.size, 0, none⟩)] W _
      go_enter Try.func47, Try.ntmps47
      go_wp2_with (go_at_call 35; refine (impl_isCount.calls x b2 _ hq'.out).mono ?_; rintro e w' ⟨rfl, ⟨nd, rfl⟩⟩)
      go_ret
      exact ⟨rfl, by repeat (first | (with_reducible first | exact hb'.out | apply below_alloc | apply pw_below_drewN | apply below_drew1) | exact hb'.out)⟩)
    hi1
  have hb1' := Aside0.mk hb1
  clear hr0 hc0 hbig hi1 hb1 eg
  go_enter Try.func36, Try.ntmps36
  go_wp2_with (go_at_call 46; refine hcall.mono ?_; rintro e w' ⟨rfl, hb'⟩)
  go_ret
  exact ⟨rfl, below_then hb1'.out (by simp) hb'⟩
section
attribute [local go_sem] Oper.semAt_some
open Go.Shelf
/-- the four pieces of 32 that slices.Chunk hands out of a row of 128 -/
def xpiece (ad : Addr) (x : Fin 4) : Array Value := #[.slice (some (ad.add (32 * x.val))) 32 32]
def xfour : List (Fin 4) := [0, 1, 2, 3]
theorem xfour_take (k : Nat) (h : k < 4) : xfour.take k ++ [⟨k, h⟩] = xfour.take (k + 1) := by
  rcases (show k = 0 ∨ k = 1 ∨ k = 2 ∨ k = 3 by omega) with rfl | rfl | rfl | rfl <;> rfl
set_option maxRecDepth 100000 in
set_option maxHeartbeats 8000000 in
theorem xChunk1_in (F : Fence) (n : Nat) (h7 : F.fn 48) (hro : F.round = none) (hn : 1 ≤ n) (l Bs Bn n₀ cap : Nat) (hcap : 128 ≤ cap) (ad : Addr) (hb1 : Bs < n₀) (hb2 : Bn < n₀) (J Jx : List (Fin 4) → World → Prop) (hJd : ∀ pre W, J pre W → J pre W.drew)
    (hY : ∀ pre x W, J pre W → pre.length < 4 → YieldAt F (n - 1) Try.prog l (xpiece ad x) W fun e W' =>
      (e = .returned (.bool true) ∧ J (pre ++ [x]) W' ∧ Below n₀ W W') ∨ (e = .returned (.bool false) ∧ Jx (pre ++ [x]) W'))
    (W : World) (hBs : W.cell? ⟨Bs, 0, none⟩ = some (.slice (some ad) 128 cap)) (hBn : W.cell? ⟨Bn, 0, none⟩ = some (.int .i64 32)) (h0 : J [] W) :
    CallsIn F n Try.prog 48 #[.func (.yield l) #[] #[], .pointer (some ⟨Bs, 0, none⟩), .pointer (some ⟨Bn, 0, none⟩)] W fun e W' => (∃ v, e = .returned v) ∧
      ((∃ ys, ys = xfour ∧ J ys W') ∨ (∃ pre, pre <+: xfour ∧ Jx pre W')) := by
  refine callsIn_of_wp Try.func48 rfl h7 ?_ hro
  simp only [Try.ntmps48, List.size_toArray, List.length_cons, List.length_nil, Nat.reduceAdd, Nat.reduceSub, Array.replicate_succ, Array.replicate_zero, List.push_toArray, List.append_toArray, List.nil_append, List.cons_append]
  gi_wp2
  gi_loopw [4] (fun i wr => ∃ k : Nat, k ≤ 4 ∧ i = .int .i64 ((32 * k : Nat) : Int) ∧ J (xfour.take k) wr ∧ Below n₀ W wr)
    (fun i _ => 128 - (RowKit.intOf i).toNat)
  case atStart => exact ⟨0, by omega, rfl, h0, Below.refl _ _⟩
  case round =>
    obtain ⟨k, hk, rfl, hJs, hnx⟩ := hrel
    have hs := (hnx.cell (p := ⟨Bs, 0, none⟩) hb1).trans hBs
    have hn2 := (hnx.cell (p := ⟨Bn, 0, none⟩) hb2).trans hBn
    by_cases h4 : k = 4
    · subst h4
      gi_wp2
      go_end0
      exact ⟨⟨_, rfl⟩, .inl ⟨_, rfl, hJs⟩⟩
    · have hk4 : k < 4 := by omega
      obtain ⟨fn, tmps, assign, body, hy, hR⟩ := hY _ ⟨k, hk4⟩ wr.drew (hJd _ _ hJs) (by rw [List.length_take]; exact Nat.lt_of_le_of_lt (Nat.min_le_left _ _) hk4)
      unfold xpiece at hy
      have c1 : ((32 * k : Nat) : Int) < 128 := by omega
      have c2 : ¬ ((128 - 32 * k : Nat) : Int) < 32 := by omega
      have hd1 : wr.drew.cell? ⟨Bs, 0, none⟩ = some (.slice (some ad) 128 cap) := hs
      have hd2 : wr.drew.cell? ⟨Bn, 0, none⟩ = some (.int .i64 32) := hn2
      have hw1 : wrap64 (32 * (k : Int) + 32) = 32 * (k : Int) + 32 := by unfold wrap64; omega
      gi_wp2
      gi_region
      all_goals (try simp only [if_neg c2])
      all_goals gi_wp2
      all_goals refine hR.mono ?_
      all_goals rintro e W3 (⟨rfl, hJ3, hk3⟩ | ⟨rfl, hJx3⟩)
      all_goals first
        | (have hs3 := (hk3.cell (p := ⟨Bs, 0, none⟩) hb1).trans hd1
           have hn3 := (hk3.cell (p := ⟨Bn, 0, none⟩) hb2).trans hd2
           gi_wp2
           go_roundw
           case rel => exact ⟨k + 1, by omega, by rw [show (32 * (k : Int) + 32) = ((32 * (k + 1) : Nat) : Int) by omega], by rw [← xfour_take k hk4]; exact hJ3, hnx.trans (((Below.refl n₀ wr).drew).trans hk3)⟩
           case measure => simp [RowKit.intOf]; omega)
        | (gi_wp2
           refine bodyPost_ret (results_none rfl _ _ _) rfl ?_
           exact ⟨⟨_, rfl⟩, .inr ⟨_, by rw [xfour_take k hk4]; exact List.take_prefix _ _, hJx3⟩⟩)
set_option maxHeartbeats 1000000 in
theorem xChunk_in (F : Fence) (n : Nat) (h5 : F.fn 37) (hro : F.round = none) (a : Option Addr) (len cap : Nat) (w : World) :
    CallsIn F n Try.prog 37 #[.slice a len cap, .int .i64 32] w fun e w' => e = .returned (.func (.func 48) #[] #[.pointer (some ⟨w.heap.size, 0, none⟩), .pointer (some ⟨w.heap.size + 1, 0, none⟩)]) ∧ w' = (w.alloc (.cells #[.slice a len cap] 23)).alloc (.cells #[.int .i64 32] 3) := by
  refine callsIn_of_wp Try.func37 rfl h5 ?_ hro
  simp only [Try.ntmps37, List.size_toArray, List.length_cons, List.length_nil, Nat.reduceAdd, Nat.reduceSub, Array.replicate_succ, Array.replicate_zero, List.push_toArray, List.append_toArray, List.nil_append, List.cons_append]
  gi_wp2
  go_ret
  exact ⟨rfl, rfl⟩
theorem xChunk_stops (F : Fence) (n : Nat) (h7 : F.fn 48) (hro : F.round = none) (hn : 1 ≤ n) (Bs Bn n₀ cap : Nat) (hcap : 128 ≤ cap) (ad : Addr) (w : World) (hb1 : Bs < n₀) (hb2 : Bn < n₀) (hn₀ : n₀ ≤ w.heap.size)
    (hs : w.cell? ⟨Bs, 0, none⟩ = some (.slice (some ad) 128 cap)) (hc : w.cell? ⟨Bn, 0, none⟩ = some (.int .i64 32)) :
    SeqStopsK F n Try.prog 48 #[.pointer (some ⟨Bs, 0, none⟩), .pointer (some ⟨Bn, 0, none⟩)] (xpiece ad) (Below n₀) (fun ys => ys = xfour) (fun pre => pre <+: xfour) 4 w := fun l J Jx W hW hJ _ hY h0 =>
  xChunk1_in F n h7 hro hn l Bs Bn n₀ cap hcap ad hb1 hb2 J Jx (fun pre W1 h => hJ pre W1 W1.drew none h ⟨rfl, rfl, rfl, Nat.le_refl _, fun _ _ _ => rfl⟩ (fun _ e => by cases e)) hY W ((hW.cell (p := ⟨Bs, 0, none⟩) (Nat.lt_of_lt_of_le hb1 hn₀)).trans hs) ((hW.cell (p := ⟨Bn, 0, none⟩) (Nat.lt_of_lt_of_le hb2 hn₀)).trans hc) h0
end
/-! ### impl_GoodSketch: function 9 -/
/-! GoodSketch -/
def xsumL (l : List Int) : Int := l.foldl (fun s v => wrap64 (s + v)) 0
theorem xsum_loop (l : List Int) (hb : l.length < 1000) : ∀ (d k n : Nat) (s : Int), n + d = l.length → d < k → impl_sumOf.l0 k s l (l.length : Int) (n : Int) = some ((l.drop n).foldl (fun s v => wrap64 (s + v)) s) := by
  intro d
  induction d with
  | zero =>
    intro k n s hn hk
    obtain ⟨k, rfl⟩ : ∃ m, k = m + 1 := ⟨k - 1, by omega⟩
    simp only [impl_sumOf.l0]
    rw [if_neg (by omega), List.drop_of_length_le (by omega)]; rfl
  | succ d ih =>
    intro k n s hn hk
    obtain ⟨k, rfl⟩ : ∃ m, k = m + 1 := ⟨k - 1, by omega⟩
    have h1 : n < l.length := by omega
    have hr : rd l (n : Int) = l[n] := by unfold rd; simp [List.getD_eq_getElem?_getD, h1]
    simp only [impl_sumOf.l0]
    rw [if_pos (by omega), if_pos (by omega), if_pos (by omega), hr, show wrap64 ((n : Int) + 1) = ((n + 1 : Nat) : Int) by unfold wrap64; omega, ih k (n + 1) _ (by omega) (by omega), List.drop_eq_getElem_cons h1, List.foldl_cons]
theorem xsum_f (l : List Int) (hb : l.length < 1000) : impl_sumOf.f 1001 l = some (xsumL l) := by
  unfold impl_sumOf.f
  exact xsum_loop l hb l.length 1001 0 0 (by omega) (by omega)
def xpart (l : List Int) (x : Nat) : List Int := (l.drop (32 * x)).take 32
def xgoodsums (l : List Int) (t : Int) (p : List Nat) : Bool := p.all fun x => xsumL (xpart l x) == t
def impl_GoodSketch.f (l0 : List Int) (a1 : Int) : Option Bool :=
  if l0.length = 128 then ((impl_isCount.f a1).bind fun b => if b = true then ((xAll_i64_impl_isCount.f l0).bind fun b2 => if b2 = true then some (xgoodsums l0 a1 (List.range 4)) else some false) else some false) else some false
theorem xpart_row (w : World) (ad : Addr) (l : List Int) (x : Nat) (hx : x < 4) (hl : l.length = 128) (h : Kd.C (Kd.int .i64) w (some ad) l.length l) : Kd.C (Kd.int .i64) w (some (ad.add (32 * x))) (xpart l x).length (xpart l x) := by
  have hpl : (xpart l x).length = 32 := by unfold xpart; rw [List.length_take, List.length_drop]; omega
  refine ⟨rfl, by omega, fun _ => ?_⟩
  obtain ⟨ad', e, hc⟩ := h.2.2 (by omega)
  injection e with e
  subst e
  refine ⟨ad.add (32 * x), rfl, fun j p hj => ?_⟩
  have hj2 : l[32 * x + j]? = some p := by
    unfold xpart at hj
    rw [List.getElem?_take] at hj
    split at hj
    · rw [List.getElem?_drop] at hj; exact hj
    · cases hj
  obtain ⟨c, h1, h2, h3⟩ := hc _ _ hj2
  refine ⟨c, h1, h2, fun i u hu => ?_⟩
  have h4 := h3 i u hu
  rw [add_add]
  have hs : (Kd.int .i64).sz = 1 := rfl
  rw [hs] at h4 ⊢
  rw [show 32 * x + (j * 1 + i) = (32 * x + j) * 1 + i by omega]
  exact h4
theorem xcells_own {β : Type} (B : Nat) (o : β → Obj) (hc : ∀ s, (o s).isCells = true) : Own (fun s W => W.heap[B]? = some (o s)) := fun s _ _ _ hs hg hrow => (grownBy_keeps_cells hg hrow hs (hc s)).trans hs
section
attribute [local go_sem] Oper.semAt_some
open Go.Shelf
set_option maxRecDepth 100000 in
set_option maxHeartbeats 8000000 in
theorem xGoodSketch_sums (ad : Addr) (c0 : Nat) (l : List Int) (t : Int) (w : World) (hl : l.length = 128) (HR : Aside0 (Kd.C (Kd.int .i64) w (some ad) l.length l)) (HC : Aside0 (128 ≤ c0)) (HB1 : Aside0 (impl_isCount.f t = some true)) (HB2 : Aside0 (xAll_i64_impl_isCount.f l = some true)) :
    Calls Try.prog 9 #[.agg #[.slice (some ad) 128 c0, .int .i64 t]] w fun e w' => e = .returned (.bool (xgoodsums l t [0, 1, 2, 3])) ∧ Below w.heap.size w w' := by
  have hall : ∀ (b : Bool) (W : World), Kd.C (Kd.int .i64) W (some ad) 128 l → xAll_i64_impl_isCount.f l = some b → Calls Try.prog 36 #[.slice (some ad) 128 c0, .func (.func 35) #[] #[]] W fun e w' => e = .returned (.bool b) ∧ Below W.heap.size W w' := fun b W hr hb => by
    have hr2 : Kd.C (Kd.int .i64) W (some ad) l.length l := by rw [hl]; exact hr
    have hx := xAll_i64_impl_isCount.calls (some ad) c0 l b W hr2 (by rw [hl]; exact HC.out) hb
    rw [hl] at hx
    exact hx
  have HALL := Aside0.mk hall
  have HR1 : Aside0 (Kd.C (Kd.int .i64) w (some ad) 128 l) := ⟨by rw [← hl]; exact HR.out⟩
  have hbx : Boxed ((w.alloc (.cells #[.slice (some ad) 128 c0, .int .i64 t] 25)).alloc (.cells #[.bool false] 4)) (w.heap.size + 1) 4 (.bool false) := by
    have h0 := Boxed.new (w.alloc (.cells #[.slice (some ad) 128 c0, .int .i64 t] 25)) 4 (.bool false)
    rw [World.size_alloc] at h0
    exact h0
  have HBR := Aside0.mk hbx
  have HSK : Aside0 (((w.alloc (.cells #[.slice (some ad) 128 c0, .int .i64 t] 25)).alloc (.cells #[.bool false] 4)).heap[w.heap.size]? = some (.cells #[.slice (some ad) 128 c0, .int .i64 t] 25)) := ⟨(heap_alloc_old _ _ (by simp)).trans (heap_alloc_new _ _)⟩
  have HW0 := Aside0.mk (((Below.refl _ w).alloc (Nat.le_refl _) (.cells #[.slice (some ad) 128 c0, .int .i64 t] 25)).alloc (by simp) (.cells #[.bool false] 4))
  clear hall hbx
  refine (callsIn_wide (n := 10)).1 ?_
  have h1 : 1 ≤ 10 := by omega
  refine callsIn_of_wp_marks Try.func9 rfl trivial ?_ rfl
  simp only [Try.ntmps9, List.size_toArray, List.length_cons, List.length_nil, Nat.reduceAdd, Nat.reduceSub, Array.replicate_succ, Array.replicate_zero, List.push_toArray, List.append_toArray, List.nil_append, List.cons_append]
  gi_wp2_with (first
    | (refine ⟨trivial, ?_⟩; gi_at_call 35; refine (callsIn_wide.2 (impl_isCount.calls t true _ HB1.out)).mono ?_; rintro e w' ⟨rfl, ⟨nd, rfl⟩⟩)
    | (refine ⟨trivial, ?_⟩; gi_at_call 36; go_loud (refine (callsIn_wide.2 (HALL.out true _ (Kd.C_drewN (Kd.C_alloc (Kd.C_alloc HR1.out _) _) nd) HB2.out)).mono ?_; rintro e w3 ⟨rfl, hb3⟩; have HB3 := Aside0.mk hb3; have hbx3 : Boxed w3 (w.heap.size + 1) 4 (.bool false) := (hb3.block (w.heap.size + 1) (by simp)).trans HBR.out; have hsk3 : w3.heap[w.heap.size]? = some (.cells #[.slice (some ad) 128 c0, .int .i64 t] 25) := (hb3.block w.heap.size (by simp; omega)).trans HSK.out; have hc0 : w3.cell? ⟨w.heap.size, 0, none⟩ = some (.slice (some ad) 128 c0) := (by unfold World.cell?; rw [hsk3]; rfl); have hc3 := hbx3.cell; have hf3 := hbx3.frozen; have HX3 := Aside0.mk hbx3; have HS3 := Aside0.mk hsk3; clear hb3 hbx3 hsk3))
    | (refine ⟨trivial, ?_⟩; gi_at_call 37; refine (xChunk_in Fence.wide _ trivial rfl _ _ _ _).mono ?_; rintro e w4 ⟨rfl, rfl⟩))
  have bS := Boxed.new w3 23 (.slice (some ad) 128 c0)
  have bN := Boxed.new (w3.alloc (.cells #[.slice (some ad) 128 c0] 23)) 3 (.int .i64 32)
  rw [World.size_alloc] at bN
  have hsz3 : w.heap.size + 2 ≤ w3.heap.size := by have := HB3.out.size; simp at this; omega
  have hB0 : Below w.heap.size w ((w3.alloc (.cells #[.slice (some ad) 128 c0] 23)).alloc (.cells #[.int .i64 32] 3)) := ((((pw_below_drewN HW0.out nd).trans (HB3.out.mono (by simp; omega))).alloc (by omega) _).alloc (by simp; omega) _)
  refine wpIn_rangeFunc_ownG rfl h1 (gf := 48) (lb := #[.pointer (some ⟨w3.heap.size, 0, none⟩), .pointer (some ⟨w3.heap.size + 1, 0, none⟩)]) rfl trivial (enters_of Try.func48 (by kernel_rfl) rfl)
    (xChunk_stops Fence.wide 9 trivial rfl (by omega) w3.heap.size (w3.heap.size + 1) (w3.heap.size + 2) c0 HC.out ad _ (by omega) (by omega) (by simp) (bS.alloc _).cell bN.cell) belowK_t (belowK_b (by simp)) (Below.refl _ _) (fun _ => rfl)
    (fun pre W => ((Boxed W (w.heap.size + 1) 4 (.bool false) ∧ W.heap[w.heap.size]? = some (.cells #[.slice (some ad) 128 c0, .int .i64 t] 25)) ∧ xgoodsums l t (pre.map Fin.val) = true) ∧ Below w.heap.size w W)
    (fun c pre W => (Boxed W (w.heap.size + 1) 4 (.bool false) ∧ (c = .ret ∧ xgoodsums l t (pre.map Fin.val) = false)) ∧ Below w.heap.size w W)
    (OwnFrom.and (OwnFrom.and (OwnFrom.and (Own.from (boxed_own _ _ _) _) (Own.from (xcells_own _ _ (fun _ => rfl)) _)) (ownFrom_pure _ _)) (ownFrom_below (Nat.le_refl _) (by simp; omega)))
    (fun c => OwnFrom.and (OwnFrom.and (Own.from (boxed_own _ _ _) _) (ownFrom_pure _ _)) (ownFrom_below (Nat.le_refl _) (by simp; omega)))
    ⟨⟨⟨(HX3.out.alloc _).alloc _, (heap_alloc_old _ _ (by simp; omega)).trans ((heap_alloc_old _ _ (by omega)).trans HS3.out)⟩, rfl⟩, hB0⟩
    (fun x => { tmps := #[.agg #[.slice (some ad) 128 c0, .int .i64 t], .pointer (some ⟨w.heap.size, 0, none⟩), .pointer (some ⟨w.heap.size + 1, 0, none⟩), .slice (some (ad.add (32 * x.val))) 32 32, .pointer (some ⟨w.heap.size, 0, none⟩), .slice (some ad) 128 c0, .int .i64 128, .bool false, .bool false, .pointer (some ⟨w.heap.size, 1, none⟩), .int .i64 t, .bool true, .bool false, .bool false, .bool false, .pointer (some ⟨w.heap.size, 0, none⟩), .slice (some ad) 128 c0, .bool true, .bool false, .bool false, .pointer (some ⟨w.heap.size, 0, none⟩), .slice (some ad) 128 c0, .func (.func 48) #[] #[.pointer (some ⟨w3.heap.size, 0, none⟩), .pointer (some ⟨w3.heap.size + 1, 0, none⟩)], .slice (some (ad.add (32 * x.val))) 32 32, undef, undef, undef, undef, undef], defers := [] }) ?assign ?body ?done ?stop
  case assign =>
    intro l x W K hK
    unfold xpiece
    gi_wp2
    exact hK
  case body =>
    rintro l' pre x W ⟨⟨⟨hbx, hsk⟩, hg⟩, hB⟩ hlt
    have hpl : (xpart l x.val).length = 32 := by unfold xpart; rw [List.length_take, List.length_drop]; omega
    have hS : Calls Try.prog 38 #[.slice (some (ad.add (32 * x.val))) 32 32] W.drew fun e w' => e = .returned (.int .i64 (xsumL (xpart l x.val))) ∧ Drawn0 W.drew w' := by
      have hx := impl_sumOf.calls 1001 (some (ad.add (32 * x.val))) 32 (xpart l x.val) _ W.drew (xpart_row W.drew ad l x.val x.isLt hl (Kd.C_below HR.out hB.drew)) (by omega) (xsum_f _ (by omega))
      rw [hpl] at hx
      exact hx
    have ct : W.cell? ⟨w.heap.size, 1, none⟩ = some (.int .i64 t) := by unfold World.cell?; rw [hsk]; rfl
    have hc1 := hbx.cell
    have hf1 := hbx.frozen
    by_cases he : xsumL (xpart l x.val) = t
    · have hgs : xgoodsums l t ((pre ++ [x]).map Fin.val) = true := by
        unfold xgoodsums at hg ⊢
        rw [List.map_append, List.all_append, hg, List.map_cons, List.map_nil, List.all_cons, List.all_nil, he]
        simp
      gi_wp2_with (refine ⟨trivial, ?_⟩; gi_at_call 38; go_loud (refine (CallsIn.inRound l' (callsIn_wide.2 hS)).mono ?_; rintro e w' ⟨rfl, ⟨nd, rfl⟩⟩))
      gi_region_with (refine ⟨trivial, ?_⟩; gi_at_call 38; refine (CallsIn.inRound l' (callsIn_wide.2 hS)).mono ?_; rintro e w' ⟨rfl, ⟨nd, rfl⟩⟩)
      all_goals gi_wp2
      all_goals exact ⟨⟨Nat.le_refl _, fun k o _ h _ => h⟩, pw_below_drewN (Below.refl _ W) _, ⟨⟨hbx, hsk⟩, hgs⟩, pw_below_drewN hB _⟩
    · have hgs : xgoodsums l t ((pre ++ [x]).map Fin.val) = false := by
        unfold xgoodsums
        rw [List.map_append, List.all_append, List.map_cons, List.map_nil, List.all_cons, beq_eq_false_iff_ne.2 he, Bool.false_and, Bool.and_false]
      gi_wp2_with (refine ⟨trivial, ?_⟩; gi_at_call 38; refine (CallsIn.inRound l' (callsIn_wide.2 hS)).mono ?_; rintro e w' ⟨rfl, ⟨nd, rfl⟩⟩)
      gi_region_with (refine ⟨trivial, ?_⟩; gi_at_call 38; refine (CallsIn.inRound l' (callsIn_wide.2 hS)).mono ?_; rintro e w' ⟨rfl, ⟨nd, rfl⟩⟩)
      all_goals gi_wp2
      all_goals exact ⟨KeepsFrom.trans (Y := W.drewN _) ⟨Nat.le_refl _, fun k o _ h _ => h⟩ ((KeepsOthers.setCell _ _ _).from _), ⟨(show Boxed (W.drewN (1 + nd)) (w.heap.size + 1) 4 (.bool false) from hbx).set (.bool false), rfl, hgs⟩, (pw_below_drewN hB _).setCell (p := ⟨w.heap.size + 1, 0, none⟩) (Nat.le_succ _) _⟩
  case done =>
    rintro D ys W hD rfl ⟨⟨⟨hbx, hsk⟩, hg⟩, hB⟩ hK
    have cR := hbx.cell
    have fR := hbx.frozen
    have hgs : xgoodsums l t [0, 1, 2, 3] = true := hg
    gi_wp2
    have hK' := (KeepsOthers.setCell W ⟨w.heap.size + 1, 0, none⟩ (.bool true)).same D _ hK rfl
    refine ⟨by simp, .inl ⟨_, _, rfl, run_takeDeferred hK', ?_⟩⟩
    have hc5 := cell_kept (hbx.set (.bool true)).cell (grownBy_putObj' _ D (.deferred none)) (fun r e => by cases e; exact ⟨_, hK', rfl⟩)
    refine ⟨.bool true, ?_, by rw [hgs], (hB.setCell (p := ⟨w.heap.size + 1, 0, none⟩) (Nat.le_succ _) _).trans (belowK_b (w := w) (Nat.le_refl _) _ D _ _ (by simp at hD; omega) hK' rfl rfl)⟩
    simp [results, Try.f9, go_sem, hc5]
  case stop =>
    rintro D c pre W hD ⟨s, hs⟩ ⟨⟨hbx, rfl, hg⟩, hB⟩ hK
    have hgs : xgoodsums l t [0, 1, 2, 3] = false := by
      have e : [0, 1, 2, 3] = pre.map Fin.val ++ s.map Fin.val := by rw [← List.map_append, hs]; rfl
      rw [e]
      unfold xgoodsums at hg ⊢
      rw [List.all_append, hg, Bool.false_and]
    gi_wp2
    refine ⟨by simp, .inl ⟨_, _, rfl, run_takeDeferred hK, ?_⟩⟩
    have hc5 := cell_kept hbx.cell (grownBy_putObj' _ D (.deferred none)) (fun r e => by cases e; exact ⟨_, hK, rfl⟩)
    refine ⟨.bool false, ?_, by rw [hgs], hB.trans (belowK_b (w := w) (Nat.le_refl _) W D _ _ (by simp at hD; omega) hK rfl rfl)⟩
    simp [results, Try.f9, go_sem, hc5]
end
set_option maxRecDepth 100000 in
set_option maxHeartbeats 8000000 in
theorem impl_GoodSketch.calls (A0_0 : Option Addr) (c0_0 : Nat) (l0_0 : List Int) (a0_1 : Int) (r : Bool) (w : World) (hr0_0 : Kd.C (Kd.int .i64) w A0_0 l0_0.length l0_0) (hc0_0 : l0_0.length ≤ c0_0) (h : impl_GoodSketch.f l0_0 a0_1 = some r) :
    Calls Try.prog 9 #[.agg #[.slice A0_0 l0_0.length c0_0, .int .i64 a0_1]] w fun e w' => e = .returned (.bool r) ∧ Below w.heap.size w w' := by
  have hu24 := Try.underlying25
  have HR0 := Aside0.mk hr0_0
  have HC0 := Aside0.mk hc0_0
  clear hr0_0 hc0_0
  unfold impl_GoodSketch.f at h
  have hbx : Boxed ((w.alloc (.cells #[.slice A0_0 l0_0.length c0_0, .int .i64 a0_1] 25)).alloc (.cells #[.bool false] 4)) (w.heap.size + 1) 4 (.bool false) := by
    have h0 := Boxed.new (w.alloc (.cells #[.slice A0_0 l0_0.length c0_0, .int .i64 a0_1] 25)) 4 (.bool false)
    rw [World.size_alloc] at h0
    exact h0
  have HBR := Aside0.mk hbx
  have HW0 := Aside0.mk (((Below.refl _ w).alloc (Nat.le_refl _) (.cells #[.slice A0_0 l0_0.length c0_0, .int .i64 a0_1] 25)).alloc (by simp) (.cells #[.bool false] 4))
  clear hbx
  by_cases h128 : l0_0.length = 128
  · rw [if_pos h128] at h
    obtain ⟨b1, hb1, h⟩ := Option.bind_eq_some_iff.mp h
    have hall : ∀ (b : Bool) (W : World), Kd.C (Kd.int .i64) W A0_0 128 l0_0 → xAll_i64_impl_isCount.f l0_0 = some b → Calls Try.prog 36 #[.slice A0_0 128 c0_0, .func (.func 35) #[] #[]] W fun e w' => e = .returned (.bool b) ∧ Below W.heap.size W w' := fun b W hr hb => by
      have hr2 : Kd.C (Kd.int .i64) W A0_0 l0_0.length l0_0 := by rw [h128]; exact hr
      have hx := xAll_i64_impl_isCount.calls A0_0 c0_0 l0_0 b W hr2 HC0.out hb
      rw [h128] at hx
      exact hx
    have HALL := Aside0.mk hall
    have H128 := Aside0.mk h128
    have HR1 : Aside0 (Kd.C (Kd.int .i64) w A0_0 128 l0_0) := ⟨by rw [← h128]; exact HR0.out⟩
    have HC1 : Aside0 (128 ≤ c0_0) := ⟨by rw [← h128]; exact HC0.out⟩
    have HR2 := HR0
    rw [h128] at HBR HW0 ⊢
    clear hall h128 HR0 HC0
    cases b1 with
    | false =>
      rw [if_neg (by decide)] at h
      obtain rfl := Option.some.inj h
      have HB1 := Aside0.mk hb1
      clear h hb1
      go_enter Try.func9, Try.ntmps9
      go_wp2_with (go_at_call 35; refine (impl_isCount.calls a0_1 false _ HB1.out).mono ?_; rintro e w' ⟨rfl, ⟨nd, rfl⟩⟩)
      have hc0 : (((w.alloc (.cells #[.slice A0_0 128 c0_0, .int .i64 a0_1] 25)).alloc (.cells #[.bool false] 4)).drewN nd).cell? ⟨w.heap.size + 1, 0, none⟩ = some (.bool false) := HBR.out.cell
      have hc := World.cell?_setCell_same' _ ⟨w.heap.size + 1, 0, none⟩ (.bool false) (by rw [hc0]; rfl)
      refine bodyPost_ret (v := .bool false) (by simp [results, Try.f9, go_sem, hc]) rfl ⟨rfl, (pw_below_drewN HW0.out nd).setCell (p := ⟨w.heap.size + 1, 0, none⟩) (Nat.le_succ _) _⟩
    | true =>
      rw [if_pos rfl] at h
      obtain ⟨b2, hb2, h⟩ := Option.bind_eq_some_iff.mp h
      have HB1 := Aside0.mk hb1
      have HB2 := Aside0.mk hb2
      clear hb1 hb2
      cases b2 with
      | false =>
        rw [if_neg (by decide)] at h
        obtain rfl := Option.some.inj h
        clear h
        go_enter Try.func9, Try.ntmps9
        go_wp2_with (first
          | (go_at_call 35; refine (impl_isCount.calls a0_1 true _ HB1.out).mono ?_; rintro e w' ⟨rfl, ⟨nd, rfl⟩⟩)
          | (go_at_call 36; go_loud (refine (HALL.out false _ (Kd.C_drewN (Kd.C_alloc (Kd.C_alloc HR1.out _) _) nd) HB2.out).mono ?_; rintro e w3 ⟨rfl, hb3⟩; have HB3 := Aside0.mk hb3; have hbx3 : Boxed w3 (w.heap.size + 1) 4 (.bool false) := (hb3.block (w.heap.size + 1) (by simp)).trans HBR.out; have hc3 := hbx3.cell; have hf3 := hbx3.frozen; have HX3 := Aside0.mk hbx3; clear hb3 hbx3)))
        have hc := (HX3.out.set (.bool false)).cell
        refine bodyPost_ret (v := .bool false) (by simp [results, Try.f9, go_sem, hc]) rfl ⟨rfl, ((pw_below_drewN HW0.out nd).trans (HB3.out.mono (by simp; omega))).setCell (p := ⟨w.heap.size + 1, 0, none⟩) (Nat.le_succ _) _⟩
      | true =>
        rw [if_pos rfl] at h
        obtain rfl := Option.some.inj h
        obtain ⟨ad, he, _⟩ := HR1.out.2.2 (by omega)
        subst he
        exact xGoodSketch_sums ad c0_0 l0_0 a0_1 w H128.out HR2 HC1 HB1 HB2
  · rw [if_neg h128] at h
    obtain rfl := Option.some.inj h
    have hz : ¬ ((l0_0.length : Nat) : Int) = 128 := by omega
    clear h
    go_enter Try.func9, Try.ntmps9
    go_wp2
    have hc := (HBR.out.set (.bool false)).cell
    first
    | refine bodyPost_ret (v := .bool false) (by simp [results, Try.f9, go_sem, hc]) rfl ⟨rfl, HW0.out.setCell (p := ⟨w.heap.size + 1, 0, none⟩) (Nat.le_succ _) _⟩
    | refine bodyPost_ret (v := .bool false) (by simp [results, Try.f9, go_sem, hc]) rfl ⟨rfl, HW0.out⟩

/-! ### impl_isKey: function 28 -/
def impl_isKey.f (a0 : ByteArray) : Option (Bool) := (impl_within.f (a0.size : Int) 1 20).bind fun t225 => (some t225)
set_option maxHeartbeats 8000000 in
set_option maxRecDepth 100000 in
theorem impl_isKey.calls (a0 : ByteArray) (r : Bool) (w : World) (h : impl_isKey.f a0 = some r) :
  Calls Try.prog 28 #[.string a0] w fun e w' => e = .returned (.bool r) ∧ Drawn0 w w' := by
 have H : ((impl_within.f (a0.size : Int) 1 20).bind fun t225 => (some t225)) = some r := h
 clear h
 replace H := Option.bind_eq_some_iff.mp H
 obtain ⟨t225, A20, H⟩ := H
 replace H : (some t225) = some r := H
 have A2 := Aside0.mk A20
 clear A20
 obtain rfl := Option.some.inj H
 go_enter Try.func28, Try.ntmps28
 go_wp2_with (first | ((with_reducible refine gate_callee (f := 29) rfl ?_); refine xgl_ (some 5) Try.func29 #[.int .i64 (a0.size : Int), .int .i64 1, .int .i64 20] ?_; (with_reducible refine (impl_within.calls (a0.size : Int) 1 20 t225 _ A2.out).mono ?_); rintro e w' ⟨rfl, ⟨nd, rfl⟩⟩; refine ⟨_, rfl, ?_⟩))
 go_ret
 exact ⟨by first | rfl | (simp; done) | (simp [*]; done), by repeat (first | exact Drawn0.refl _ | apply Drawn0.step)⟩

theorem xinfo3 : (Try.prog.info? 3).map (fun i => (i.zero, i.size, i.bytes)) = some (some (.int .i64 0), 1, 8) := by kernel_rfl
set_option maxHeartbeats 4000000 in
theorem xClone_i64.calls (A0 : Option Addr) (c0 : Nat) (l0 : List Int) (w : World) (hr0 : Kd.C (Kd.int .i64) w A0 l0.length l0) (hc0 : l0.length ≤ c0) (hbig : l0.length < 17592186044416) :
    Calls Try.prog 30 #[.slice A0 l0.length c0] w fun e w' => ∃ v0_ : Value, e = .returned (v0_) ∧ Kd.R (Kd.int .i64) 3 w' w.heap.size (fun _ => True) v0_ l0 ∧ Below w.heap.size w w' := by
  have HR0 := Aside0.mk hr0
  have HC0 := Aside0.mk hc0
  have HG := Aside0.mk hbig
  have HB := Aside0.mk (Below.refl w.heap.size w)
  clear hc0 hbig
  have q22 : ∀ (w : World) (a : Option Addr) (n c n' c' : Nat), (binOp .eql 23 (.slice a n c) (.slice none n' c')).run Try.prog w = .ok (.bool a.isNone) w := fun w a n c n' c' => Lib.run_eql_slice_nil w _ _ a n c n' c' Try.underlying23
  cases A0 with
  | none =>
    have hl : l0 = [] := by
      cases l0 with
      | nil => rfl
      | cons x xs => obtain ⟨ad, c, he, _⟩ := Kd.C_get hr0 (0 : Int) 0 (by omega) (by simp); cases he
    clear hr0
    subst hl
    go_enter Try.func30, Try.ntmps30
    go_wp2
    go_ret
    exact ⟨_, rfl, Kd.R_nil _ _ _ _ _, HB.out⟩
  | some ad =>
    clear hr0
    go_enter Try.func30, Try.ntmps30
    go_wp2_with (first
      | ((with_reducible refine gate_dst (N := 5) rfl ?_); refine Kd.R_lit (Kd.int .i64) w.heap.size 3 ?hg (N := 5) ?hd (xs := ([] : List Int)) (inner := []) (ok := fun _ => True) (okp := fun _ => True) ?hr ?hp (fun _ hk => hk) trivial (Below.refl _ _) (Nat.le_refl _) (by simp) ?_; (case hd => rfl); (case hg => rfl); (case hr => first | (go_simp; done) | (go_simp; rfl)); (case hp => exact (Reps.none _ _)); intro v1 w1 ho1 hb1 hg_ hnew_; clear hg_ hnew_; have HO1 := Aside0.mk ho1; have HB1 := Aside0.mk hb1; clear ho1 hb1)
      | ((with_reducible refine gate_builtin (b := .append) (xs := #[.tmp 5, .tmp 6]) rfl ?_); at_builtin; refine Kd.R_append_rows (Kd.int .i64) (w0 := w) w.heap.size rfl (.tmp 5) (.tmp 6) 23 3 (.int .i64 0) 8 rfl Try.underlying23 xinfo3 rfl (by decide) (by omega) v1 [] l0 _ _ _ (fun _ => True) (fun _ => False) rfl rfl ?aO ?aR (fun _ _ h => h) (fun _ h => h.elim) ?aF ?aB ?aS ?aL ?_; (case aR => exact Kd.C_below HR0.out HB1.out); (case aB => exact HB1.out); (case aF => exact fun _ _ => trivial); (case aO => exact HO1.out); (case aS => exact HB1.out.size); (case aL => have := HG.out; simp; omega); intro v2 w2 ho hb hg hat; have HO2 := Aside0.mk ho; have HB2 := Aside0.mk hb; clear ho hb hg hat))
    go_ret
    exact ⟨_, rfl, HO2.out, HB2.out⟩
/-! ### slices_Clone_int_int: function 30 -/
def slices_Clone_int_int.f (l0 : List Int) : Option (List Int) := if l0.length < 17592186044416 then some l0 else none
theorem slices_Clone_int_int.calls (A0 : Option Addr) (c0 : Nat) (l0 : List Int) (r : List Int) (w : World) (hr0 : Kd.C (Kd.int .i64) w A0 l0.length l0) (hc0 : l0.length ≤ c0) (h : slices_Clone_int_int.f l0 = some r) :
    Calls Try.prog 30 #[.slice A0 l0.length c0] w fun e w' => ∃ v0_ : Value, e = .returned (v0_) ∧ Kd.R (Kd.int .i64) 3 w' w.heap.size (fun _ => True) v0_ r ∧ Below w.heap.size w w' := by
  unfold slices_Clone_int_int.f at h
  by_cases c : l0.length < 17592186044416
  · rw [if_pos c] at h
    obtain rfl := Option.some.inj h
    exact xClone_i64.calls A0 c0 l0 w hr0 hc0 c
  · rw [if_neg c] at h; cases h

/-! ### impl_hashed: function 45 -/
def impl_hashed.l0 : Nat → Int → ByteArray → Int → Int → Option (Int)
 | 0, _, _, _, _ => none
 | k + 1, x0, x1, x7, x8 => if x8 < x7 then (if 0 ≤ x8 then (if x8 < (x1.size : Int) then (impl_hashed.l0 k (((Go.bits .xor .u32 x0 ((bt x1 x8) % 4294967296)) * 16777619) % 4294967296) x1 x7 (wrap64 (x8 + 1))) else (none)) else (none)) else (some x0)
def impl_hashed.f (k : Nat) (a0 : Int) (a1 : ByteArray) : Option (Int) := impl_hashed.l0 k a0 a1 (a1.size : Int) 0
theorem impl_hashed.mono_l : ∀ k, (∀ y0 y1 y2 y3, LeO (impl_hashed.l0 k y0 y1 y2 y3) (impl_hashed.l0 (k + 1) y0 y1 y2 y3))
 | 0 => fun _ _ _ _ r h => by simp [impl_hashed.l0] at h
 | k + 1 => by
  have ih0 := impl_hashed.mono_l k
  ·intro y0 y1 y2 y3
   unfold impl_hashed.l0
   repeat' first
   | (with_reducible exact ih0 _ _ _ _)
   | (with_reducible exact LeO.refl _)
   | (with_reducible exact LeO.none _)
   | (with_reducible refine LeO.ite ?_ ?_)
   | (with_reducible refine LeO.bind ?_ (fun _ => ?_))
   | exact ih0 _ _ _ _
   | exact LeO.none _
   | refine LeO.ite ?_ ?_
   | refine LeO.bind ?_ (fun _ => ?_)
theorem impl_hashed.mono : ∀ a0 a1 k, LeO (impl_hashed.f k a0 a1) (impl_hashed.f (k + 1) a0 a1) := by
 intro a0 a1 k
 have ih0 := impl_hashed.mono_l k
 unfold impl_hashed.f
 repeat' first
   | (with_reducible exact ih0 _ _ _ _)
   | (with_reducible exact LeO.refl _)
   | (with_reducible exact LeO.none _)
   | (with_reducible refine LeO.ite ?_ ?_)
   | (with_reducible refine LeO.bind ?_ (fun _ => ?_))
   | exact ih0 _ _ _ _
   | exact LeO.none _
   | refine LeO.ite ?_ ?_
   | refine LeO.bind ?_ (fun _ => ?_)
set_option maxHeartbeats 8000000 in
set_option maxRecDepth 100000 in
theorem impl_hashed.calls (k : Nat) (a0 : Int) (a1 : ByteArray) (r : Int) (w : World) (h : impl_hashed.f k a0 a1 = some r) :
  Calls Try.prog 45 #[.int .u32 a0, .string a1] w fun e w' => e = .returned (.int .u32 r) ∧ Drawn0 w w' := by
 have H : (impl_hashed.l0 k a0 a1 (a1.size : Int) 0) = some r := h
 clear h
 have H' := Aside0.mk H
 clear H
 go_enter Try.func45, Try.ntmps45
 go_wp2
 go_loopg [0, 8] k (fun kq v0 v8 w' => ∃ (x0_1 : Int) (x8_1 : Int), v0 = .int .u32 x0_1 ∧ v8 = .int .i64 x8_1 ∧ Aside0 (impl_hashed.l0 kq x0_1 a1 (a1.size : Int) x8_1 = some r) ∧ Aside0 (kq ≤ k) ∧ Drawn0 w w')
 case atStart => exact ⟨(a0), (0), (by first | rfl | (simp; done) | (simp [*]; done)), (by first | rfl | (simp; done) | (simp [*]; done)), H', ⟨Nat.le_refl _⟩, by repeat (first | exact Drawn0.refl _ | apply Drawn0.step)⟩
 case round =>
  clear H'
  try clear p2
  obtain ⟨x0_1, x8_1, rfl, rfl, HA, HK1, ⟨m1, rfl⟩⟩ := hrel
  cases gk with
  | zero => exact absurd HA.out (by simp [impl_hashed.l0])
  | succ k1 =>
   have H := HA.out
   clear HA
   simp only [impl_hashed.l0] at H
   by_cases c3 : x8_1 < (a1.size : Int)
   ·rw [if_pos c3] at H
    have c3b0 : decide (x8_1 < (a1.size : Int)) = true := decide_eq_true c3
    clear c3
    by_cases c4 : 0 ≤ x8_1
    ·rw [if_pos c4] at H
     have c4b0 : decide (0 ≤ x8_1) = true := decide_eq_true c4
     clear c4
     by_cases c5 : x8_1 < (a1.size : Int)
     ·rw [if_pos c5] at H
      have c5b0 : decide (x8_1 < (a1.size : Int)) = true := decide_eq_true c5
      clear c5
      have H' := Aside0.mk H
      clear H
      have p6 : 0 ≤ (x8_1 : Int) := of_decide_eq_true (by first | (with_reducible assumption) | assumption)
      have q6 : x8_1 < (a1.size : Int) := of_decide_eq_true (by first | (with_reducible assumption) | assumption)
      have hx6 := bt_at a1 x8_1
      replace p6 := eq_true p6
      replace q6 := eq_true q6
      go_wp2
      go_roundg k1
      case measure => have := HK1.out; omega
      case rel => exact ⟨(((Go.bits .xor .u32 x0_1 ((bt a1 x8_1) % 4294967296)) * 16777619) % 4294967296), (wrap64 (x8_1 + 1)), (by first | rfl | (simp; done) | (simp [*]; done)), (by first | rfl | (simp; done) | (simp [*]; done)), H', ⟨by have := HK1.out; omega⟩, by repeat (first | exact Drawn0.refl _ | apply Drawn0.step)⟩
     ·rw [if_neg c5] at H
      exact absurd H (by simp)
    ·rw [if_neg c4] at H
     exact absurd H (by simp)
   ·rw [if_neg c3] at H
    have c3b0 : decide (x8_1 < (a1.size : Int)) = false := decide_eq_false c3
    clear c3
    obtain rfl := Option.some.inj H
    go_wp2
    go_ret
    exact ⟨by first | rfl | (simp; done) | (simp [*]; done), by repeat (first | exact Drawn0.refl _ | apply Drawn0.step)⟩

/-! ### impl_cellsOf: function 31 -/
def impl_cellsOf.l0 : Nat → ByteArray → List Int → Int → Option (List Int)
 | 0, _, _, _ => none
 | k + 1, x0, x3, x6 => if x6 < 4 then ((impl_hashed.f k ((2166136261 + ((wrap64 (16777619 * x6)) % 4294967296)) % 4294967296) x0).bind fun t226 => (if x3.length < 17592186044416 then (impl_cellsOf.l0 k x0 (x3 ++ [wrap64 ((wrap64 (32 * x6)) + (wrap64 (t226 / 134217728)))]) (wrap64 (x6 + 1))) else (none))) else (some x3)
def impl_cellsOf.f (k : Nat) (a0 : ByteArray) : Option (List Int) := impl_cellsOf.l0 k a0 ([] : List Int) 0
theorem impl_cellsOf.mono_l : ∀ k, (∀ y0 y1 y2, LeO (impl_cellsOf.l0 k y0 y1 y2) (impl_cellsOf.l0 (k + 1) y0 y1 y2))
 | 0 => fun _ _ _ r h => by simp [impl_cellsOf.l0] at h
 | k + 1 => by
  have ih0 := impl_cellsOf.mono_l k
  ·intro y0 y1 y2
   unfold impl_cellsOf.l0
   repeat' first
   | (with_reducible exact ih0 _ _ _)
   | (with_reducible exact impl_hashed.mono _ _ _)
   | (with_reducible exact LeO.refl _)
   | (with_reducible exact LeO.none _)
   | (with_reducible refine LeO.ite ?_ ?_)
   | (with_reducible refine LeO.bind ?_ (fun _ => ?_))
   | exact ih0 _ _ _
   | exact impl_hashed.mono _ _ _
   | exact LeO.none _
   | refine LeO.ite ?_ ?_
   | refine LeO.bind ?_ (fun _ => ?_)
theorem impl_cellsOf.mono : ∀ a0 k, LeO (impl_cellsOf.f k a0) (impl_cellsOf.f (k + 1) a0) := by
 intro a0 k
 have ih0 := impl_cellsOf.mono_l k
 unfold impl_cellsOf.f
 repeat' first
   | (with_reducible exact ih0 _ _ _)
   | (with_reducible exact impl_hashed.mono _ _ _)
   | (with_reducible exact LeO.refl _)
   | (with_reducible exact LeO.none _)
   | (with_reducible refine LeO.ite ?_ ?_)
   | (with_reducible refine LeO.bind ?_ (fun _ => ?_))
   | exact ih0 _ _ _
   | exact impl_hashed.mono _ _ _
   | exact LeO.none _
   | refine LeO.ite ?_ ?_
   | refine LeO.bind ?_ (fun _ => ?_)
set_option maxHeartbeats 8000000 in
set_option maxRecDepth 100000 in
theorem impl_cellsOf.calls (k : Nat) (a0 : ByteArray) (r : List Int) (w : World) (h : impl_cellsOf.f k a0 = some r) :
  Calls Try.prog 31 #[.string a0] w fun e w' => ∃ v0_ : Value, e = .returned (v0_) ∧ Kd.R (Kd.int .i64) 3 w' w.heap.size (fun _ => True) v0_ r ∧ Below w.heap.size w w' := by
 have HB := Aside0.mk (Below.refl w.heap.size w)
 have H : (impl_cellsOf.l0 k a0 ([] : List Int) 0) = some r := h
 clear h
 have H' := Aside0.mk H
 clear H
 go_enter Try.func31, Try.ntmps31
 go_wp2
 go_loopg [3, 6] k (fun kq v3 v6 w' => ∃ (x3_1 : List Int) (x6_1 : Int), v6 = .int .i64 x6_1 ∧ Aside0 (impl_cellsOf.l0 kq a0 x3_1 x6_1 = some r) ∧ Aside0 (kq ≤ k) ∧ Aside0 (Kd.R (Kd.int .i64) 3 w' w.heap.size (fun _ => True) v3 x3_1) ∧ Aside0 (Below w.heap.size w w'))
 case atStart => exact ⟨(([] : List Int)), (0), (by first | rfl | (simp; done) | (simp [*]; done)), H', ⟨Nat.le_refl _⟩, ⟨by first | exact Kd.R_nil _ _ _ _ _ | exact Kd.N_nil _ _ _ _ _ | exact Kd.V_nil _ _ _ _ _ | exact Kd.Q_nil _ _ _ _ _ | exact Kd.S_nil _ _ _ _ _⟩, ⟨xw_ HB⟩⟩
 case round =>
  clear H'
  obtain ⟨x3_1, x6_1, rfl, HA, HK1, HO_3, HB⟩ := hrel
  cases gk with
  | zero => exact absurd HA.out (by simp [impl_cellsOf.l0])
  | succ k1 =>
   have H := HA.out
   clear HA
   simp only [impl_cellsOf.l0] at H
   by_cases c2 : x6_1 < 4
   ·rw [if_pos c2] at H
    have c2b0 : decide (x6_1 < 4) = true := decide_eq_true c2
    clear c2
    replace H := Option.bind_eq_some_iff.mp H
    obtain ⟨t226, A30, H⟩ := H
    replace H : (if x3_1.length < 17592186044416 then (impl_cellsOf.l0 k1 a0 (x3_1 ++ [wrap64 ((wrap64 (32 * x6_1)) + (wrap64 (t226 / 134217728)))]) (wrap64 (x6_1 + 1))) else (none)) = some r := H
    have A3 := Aside0.mk A30
    clear A30
    by_cases c4 : x3_1.length < 17592186044416
    ·rw [if_pos c4] at H
     have LMc4 := Aside0.mk c4
     clear c4
     obtain ⟨y227, hy227⟩ : ∃ y_ : List Int, y_ = (x3_1 ++ [wrap64 ((wrap64 (32 * x6_1)) + (wrap64 (t226 / 134217728)))]) := ⟨_, rfl⟩
     replace H : (impl_cellsOf.l0 k1 a0 y227 (wrap64 (x6_1 + 1))) = some r := by first | (rw [hy227]; with_reducible exact H) | (have H2_ := (Option.bind_some _ _).symm.trans H; rw [hy227]; with_reducible exact H2_) | (have H2_ := (Option.bind_some _ _).symm.trans H; with_reducible exact H2_) | with_reducible exact H | (rw [hy227]; exact H) | exact H
     have Ny227 := Aside0.mk hy227
     clear hy227
     have H' := Aside0.mk H
     clear H
     go_wp2_with (first | ((with_reducible refine gate_callee (f := 45) rfl ?_); refine xgl_ (some 14) Try.func45 #[.int .u32 ((2166136261 + ((wrap64 (16777619 * x6_1)) % 4294967296)) % 4294967296), .string a0] ?_; (with_reducible refine (impl_hashed.calls k1 ((2166136261 + ((wrap64 (16777619 * x6_1)) % 4294967296)) % 4294967296) a0 t226 _ A3.out).mono ?_); rintro e w' ⟨rfl, ⟨nd, rfl⟩⟩; refine ⟨_, rfl, ?_⟩) | ((with_reducible refine gate_builtin (b := .append) (xs := #[.tmp 15, .tmp 22]) rfl ?_); at_builtin; refine Kd.R_append (Kd.int .i64) (w0 := w) w.heap.size rfl (.tmp 15) (.tmp 22) 23 3 (.int .i64 0) 8 rfl Try.underlying23 info3 rfl (by decide) (by omega) u3 x3_1 (wrap64 ((wrap64 (32 * x6_1)) + (wrap64 (t226 / 134217728)))) [.int .i64 (wrap64 ((wrap64 (32 * x6_1)) + (wrap64 (t226 / 134217728))))] (fun _ => True) (fun _ => False) rfl rfl ?aP (fun _ hk => hk.elim) ?aF ?aO ?aB ?aS ?aL ?_; (case aP => exact rfl); (case aB => exact (xw_ HB)); (case aF => exact (fun _ _ => trivial)); (case aO => exact (xr_ HO_3)); (case aS => exact (below_size (xw_ HB))); (case aL => have := LMc4.out; omega); intro v228 w5 ho hb hg hat; rw [← Ny227.out] at ho; replace HB := Aside0.mk (hb); have HO229 := Aside0.mk (ho); clear HO_3; clear ho hb hg hat))
     go_roundg k1
     case measure => have := HK1.out; omega
     case rel => exact ⟨(y227), (wrap64 (x6_1 + 1)), (by first | rfl | (simp; done) | (simp [*]; done)), H', ⟨by have := HK1.out; omega⟩, ⟨xr_ HO229⟩, ⟨xw_ HB⟩⟩
    ·rw [if_neg c4] at H
     exact absurd H (by simp)
   ·rw [if_neg c2] at H
    have c2b0 : decide (x6_1 < 4) = false := decide_eq_false c2
    clear c2
    obtain rfl := Option.some.inj H
    go_wp2
    go_ret
    exact ⟨_, by first | rfl | (simp [errW_none, errW_some] <;> rfl) | (simp [*, errW_none, errW_some] <;> rfl), by (with_reducible repeat (first | apply Kd.R_alloc | apply Kd.R_drewN | apply Kd.R_drew)); exact HO_3.out, xw_ HB⟩

end Go.Proofs.Ytemeajidcggniaa.PFnSketch
