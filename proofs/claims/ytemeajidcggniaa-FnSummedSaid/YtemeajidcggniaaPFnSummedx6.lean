-- Written by a program of this project (xprint.py) out of the translation; Lean checks it.
import Derived.Test.YtemeajidcggniaaPFnSummedx0
import Derived.Test.YtemeajidcggniaaPFnSummedx1
import Derived.Test.YtemeajidcggniaaPFnSummedx4
import Derived.Test.YtemeajidcggniaaPFnSummedx5
namespace Go.Proofs.Ytemeajidcggniaa.PFnSummed
open Go.RowKit Go.Proofs.YtemeajidcggniaaW.PrintWords Go.Proofs.YtemeajidcggniaaW.PrintLast Go.Proofs.YtemeajidcggniaaW.PrintMore
attribute [local go_sem] max2_int min2_int max_two min_two max_three min_three max_four min_four   -- for this text's walks alone
set_option linter.unusedVariables false
set_option linter.unusedSimpArgs false

/-! ### spec_DrawJoinSketches: function 15 -/
def spec_DrawJoinSketches.f (k : Nat) (l0 : List Int) : Option (List Int × Int × List Int × Int) := (spec_l1Cur_sketch.f k l0 0 0).bind fun bt231 => ((spec_l1Cur_sketch.f k l0 bt231.2.2.1 bt231.2.2.2).bind fun bt237 => (some (bt231.1, bt231.2.1, bt237.1, bt237.2.1)))
theorem spec_DrawJoinSketches.mono : ∀ a0 k, LeO (spec_DrawJoinSketches.f k a0) (spec_DrawJoinSketches.f (k + 1) a0) := by
  intro a0 k
  unfold spec_DrawJoinSketches.f
  repeat' first
      | (with_reducible exact spec_l1Cur_sketch.mono _ _ _ _)
      | (with_reducible exact LeO.refl _)
      | (with_reducible exact LeO.none _)
      | (with_reducible refine LeO.ite ?_ ?_)
      | (with_reducible refine LeO.bind ?_ (fun _ => ?_))
      | exact spec_l1Cur_sketch.mono _ _ _ _
      | exact LeO.none _
      | refine LeO.ite ?_ ?_
      | refine LeO.bind ?_ (fun _ => ?_)
set_option maxHeartbeats 8000000 in
set_option maxRecDepth 100000 in
theorem spec_DrawJoinSketches.calls (k : Nat) (A0 : Option Addr) (c0 : Nat) (l0 : List Int) (r1 : List Int) (r2 : Int) (r3 : List Int) (r4 : Int) (w : World) (hr0 : Kd.C (Kd.int .u8) w A0 l0.length l0) (hc0 : l0.length ≤ c0) (h : spec_DrawJoinSketches.f k l0 = some (r1, r2, r3, r4)) :
    Calls Try.prog 15 #[.slice A0 l0.length c0] w fun e w' => ∃ v0_ v2_ : Value, e = .returned (.tuple #[.agg #[v0_, .int .i64 r2], .agg #[v2_, .int .i64 r4]]) ∧ Kd.Q (Kd.int .i64) 3 w' w.heap.size (fun k_ => some k_ ≠ (v2_ : Value).ownBlock) v0_ r1 ∧ Kd.Q (Kd.int .i64) 3 w' w.heap.size (fun k_ => some k_ ≠ (v0_ : Value).ownBlock) v2_ r3 ∧ Below w.heap.size w w' := by
  have hu25 := Try.underlying25
  have hu52 := Try.underlying52
  have HR0 := Aside0.mk hr0
  have HC0 := Aside0.mk hc0
  clear hr0 hc0
  have HB := Aside0.mk (Below.refl w.heap.size w)
  have H : ((spec_l1Cur_sketch.f k l0 0 0).bind fun bt231 => ((spec_l1Cur_sketch.f k l0 bt231.2.2.1 bt231.2.2.2).bind fun bt237 => (some (bt231.1, bt231.2.1, bt237.1, bt237.2.1)))) = some (r1, r2, r3, r4) := h
  clear h
  replace H := Option.bind_eq_some_iff.mp H
  obtain ⟨⟨t231, t234, t235, t236⟩, A20, H⟩ := H
  replace H : ((spec_l1Cur_sketch.f k l0 t235 t236).bind fun bt237 => (some (t231, t234, bt237.1, bt237.2.1))) = some (r1, r2, r3, r4) := H
  have A2 := Aside0.mk A20
  clear A20
  replace H := Option.bind_eq_some_iff.mp H
  obtain ⟨⟨t237, t240, t241, t242⟩, A30, H⟩ := H
  replace H : (some (t231, t234, t237, t240)) = some (r1, r2, r3, r4) := H
  have A3 := Aside0.mk A30
  clear A30
  simp only [Option.some.injEq, Prod.mk.injEq] at H
  obtain ⟨rfl, rfl, rfl, rfl⟩ := H
  go_enter Try.func15, Try.ntmps15
  go_wp2_with (first | ((with_reducible refine gate_dst (N := 2) rfl ?_); refine box_event ?hg (N := 2) ?hd (cs := #[.slice none 0 0, .int .i64 0]) (t := 25) ?hr ?_; (case hd => rfl); (case hg => rfl); (case hr => first | (go_simp; done) | (go_simp; rfl)); intro gb228 hg w4 hbox hb; have n0_ := Aside0.mk (below_step (by repeat (first | (with_reducible first | exact HB.out | apply below_alloc | apply pw_below_drewN | apply below_drew1) | exact HB.out)) hb); have n1_ := Aside0.mk (hbox); have n2_ := Aside0.mk ((by rw [hg]; exact (below_size (by repeat (first | (with_reducible first | exact HB.out | apply below_alloc | apply pw_below_drewN | apply below_drew1) | exact HB.out))) : w.heap.size ≤ gb228)); have n3_ := Aside0.mk ((by rw [hg]; exact (below_size (by repeat (first | (with_reducible first | exact HB.out | apply below_alloc | apply pw_below_drewN | apply below_drew1) | exact HB.out))) : w.heap.size ≤ gb228)); clear HB; have HB := n0_; have BK228 := n1_; have GW228 := n2_; have GE228 := n3_; clear n0_ n1_ n2_ n3_; clear hb hbox hg) | ((with_reducible refine gate_dst (N := 3) rfl ?_); refine box_event ?hg (N := 3) ?hd (cs := #[.slice none 0 0, .int .i64 0]) (t := 25) ?hr ?_; (case hd => rfl); (case hg => rfl); (case hr => first | (go_simp; done) | (go_simp; rfl)); intro gb229 hg w5 hbox hb; have n0_ := Aside0.mk (blk_below (g := gb228) (o := .cells #[.slice none 0 0, .int .i64 0] 25 (0, 0)) (by (with_reducible repeat (first | refine blk_drewN ?_ _ | refine blk_drew ?_ | refine blk_alloc ?_ _)); exact BK228.out) hb); have n1_ := Aside0.mk (below_step (by repeat (first | (with_reducible first | exact HB.out | apply below_alloc | apply pw_below_drewN | apply below_drew1 | refine below_set ?_ GE228.out) | exact HB.out)) hb); have n2_ := Aside0.mk (hbox); have n3_ := Aside0.mk ((by rw [hg]; exact (below_size (by repeat (first | (with_reducible first | exact HB.out | apply below_alloc | apply pw_below_drewN | apply below_drew1 | refine below_set ?_ GE228.out) | exact HB.out))) : w.heap.size ≤ gb229)); have n4_ := Aside0.mk ((by rw [hg]; exact (below_size (by repeat (first | (with_reducible first | exact HB.out | apply below_alloc | apply pw_below_drewN | apply below_drew1 | refine below_set ?_ GE228.out) | exact HB.out))) : w.heap.size ≤ gb229)); have n5_ := Aside0.mk ((by rw [hg]; exact Nat.ne_of_lt (blk_lt (g := gb228) (o := .cells #[.slice none 0 0, .int .i64 0] 25 (0, 0)) (by (with_reducible repeat (first | refine blk_drewN ?_ _ | refine blk_drew ?_ | refine blk_alloc ?_ _)); exact BK228.out)) : gb228 ≠ gb229)); have n6_ := Aside0.mk ((by rw [hg]; exact Nat.ne_of_gt (blk_lt (g := gb228) (o := .cells #[.slice none 0 0, .int .i64 0] 25 (0, 0)) (by (with_reducible repeat (first | refine blk_drewN ?_ _ | refine blk_drew ?_ | refine blk_alloc ?_ _)); exact BK228.out)) : gb229 ≠ gb228)); clear BK228; clear HB; have BK228 := n0_; have HB := n1_; have BK229 := n2_; have GW229 := n3_; have GE229 := n4_; have NB228_229 := n5_; have NB229_228 := n6_; clear n0_ n1_ n2_ n3_ n4_ n5_ n6_; clear hb hbox hg) | ((with_reducible refine gate_dst (N := 7) rfl ?_); refine box_event ?hg (N := 7) ?hd (cs := #[.slice A0 l0.length c0, .int .i64 0, .int .u64 0]) (t := 52) ?hr ?_; (case hd => rfl); (case hg => rfl); (case hr => first | (go_simp; done) | (go_simp; rfl)); intro gb230 hg w6 hbox hb; have n0_ := Aside0.mk (blk_below (g := gb228) (o := .cells #[.slice none 0 0, .int .i64 0] 25 (0, 0)) (by (with_reducible repeat (first | refine blk_drewN ?_ _ | refine blk_drew ?_ | refine blk_alloc ?_ _)); exact BK228.out) hb); have n1_ := Aside0.mk (blk_below (g := gb229) (o := .cells #[.slice none 0 0, .int .i64 0] 25 (0, 0)) (by (with_reducible repeat (first | refine blk_drewN ?_ _ | refine blk_drew ?_ | refine blk_alloc ?_ _)); exact BK229.out) hb); have n2_ := Aside0.mk (below_step (by repeat (first | (with_reducible first | exact HB.out | apply below_alloc | apply pw_below_drewN | apply below_drew1 | refine below_set ?_ GE228.out | refine below_set ?_ GE229.out) | exact HB.out)) hb); have n3_ := Aside0.mk (hbox); have n4_ := Aside0.mk ((by rw [hg]; exact (below_size (by repeat (first | (with_reducible first | exact HB.out | apply below_alloc | apply pw_below_drewN | apply below_drew1 | refine below_set ?_ GE228.out | refine below_set ?_ GE229.out) | exact HB.out))) : w.heap.size ≤ gb230)); have n5_ := Aside0.mk ((by rw [hg]; exact (below_size (by repeat (first | (with_reducible first | exact HB.out | apply below_alloc | apply pw_below_drewN | apply below_drew1 | refine below_set ?_ GE228.out | refine below_set ?_ GE229.out) | exact HB.out))) : w.heap.size ≤ gb230)); have n6_ := Aside0.mk ((by rw [hg]; exact Nat.ne_of_lt (blk_lt (g := gb228) (o := .cells #[.slice none 0 0, .int .i64 0] 25 (0, 0)) (by (with_reducible repeat (first | refine blk_drewN ?_ _ | refine blk_drew ?_ | refine blk_alloc ?_ _)); exact BK228.out)) : gb228 ≠ gb230)); have n7_ := Aside0.mk ((by rw [hg]; exact Nat.ne_of_gt (blk_lt (g := gb228) (o := .cells #[.slice none 0 0, .int .i64 0] 25 (0, 0)) (by (with_reducible repeat (first | refine blk_drewN ?_ _ | refine blk_drew ?_ | refine blk_alloc ?_ _)); exact BK228.out)) : gb230 ≠ gb228)); have n8_ := Aside0.mk ((by rw [hg]; exact Nat.ne_of_lt (blk_lt (g := gb229) (o := .cells #[.slice none 0 0, .int .i64 0] 25 (0, 0)) (by (with_reducible repeat (first | refine blk_drewN ?_ _ | refine blk_drew ?_ | refine blk_alloc ?_ _)); exact BK229.out)) : gb229 ≠ gb230)); have n9_ := Aside0.mk ((by rw [hg]; exact Nat.ne_of_gt (blk_lt (g := gb229) (o := .cells #[.slice none 0 0, .int .i64 0] 25 (0, 0)) (by (with_reducible repeat (first | refine blk_drewN ?_ _ | refine blk_drew ?_ | refine blk_alloc ?_ _)); exact BK229.out)) : gb230 ≠ gb229)); clear BK228; clear BK229; clear HB; have BK228 := n0_; have BK229 := n1_; have HB := n2_; have BK230 := n3_; have GW230 := n4_; have GE230 := n5_; have NB228_230 := n6_; have NB230_228 := n7_; have NB229_230 := n8_; have NB230_229 := n9_; clear n0_ n1_ n2_ n3_ n4_ n5_ n6_ n7_ n8_ n9_; clear hb hbox hg) | ((with_reducible refine gate_callee (f := 25) rfl ?_); refine goesL_ (some 9) rfl rfl Try.func25 (by kernel_rfl) rfl #[.pointer (some ⟨gb230, 0, none⟩)] rfl (by (try simp only [List.map_toArray, List.map_cons, List.map_nil]); first | done | rfl | (simp only [List.length_drop, List.length_take]; rfl)) ?_; (with_reducible refine (spec_l1Cur_sketch.calls k gb230 l0 0 0 t231 t234 t235 t236 w _ ?side1 ?side2 A2.out).mono ?_); (case side1 => exact (show IsS52 w _ gb230 l0 0 0 from ⟨_, _, (by (with_reducible repeat (first | refine blk_drewN ?_ _ | refine blk_drew ?_ | refine blk_alloc ?_ _)); exact BK230.out), GE230.out, HR0.out⟩)); (case side2 => repeat (first | (with_reducible first | exact HB.out | apply below_alloc | apply pw_below_drewN | apply below_drew1 | refine below_set ?_ (IsS52.ge HI230.out) | refine below_set ?_ GE228.out | refine below_set ?_ GE229.out) | exact HB.out)); rintro e w7 ⟨v232, rfl, ho0, hi, hb, hk⟩; refine ⟨_, rfl, ?_⟩; have n0_ := Aside0.mk (KeepBut.blk hk (g' := gb228) (o := .cells #[.slice none 0 0, .int .i64 0] 25 (0, 0)) (by (with_reducible repeat (first | refine blk_drewN ?_ _ | refine blk_drew ?_ | refine blk_alloc ?_ _)); exact BK228.out) NB228_230.out (by simp)); have n1_ := Aside0.mk (KeepBut.blk hk (g' := gb229) (o := .cells #[.slice none 0 0, .int .i64 0] 25 (0, 0)) (by (with_reducible repeat (first | refine blk_drewN ?_ _ | refine blk_drew ?_ | refine blk_alloc ?_ _)); exact BK229.out) NB229_230.out (by simp)); have n2_ := Aside0.mk (Kd.Q_lower ho0 (below_size (by repeat (first | (with_reducible first | exact HB.out | apply below_alloc | apply pw_below_drewN | apply below_drew1 | refine below_set ?_ (IsS52.ge HI230.out) | refine below_set ?_ GE228.out | refine below_set ?_ GE229.out) | exact HB.out)))); have n3_ := Aside0.mk (hb); have n4_ := Aside0.mk (hi); clear BK228; clear BK229; clear HB; have BK228 := n0_; have BK229 := n1_; have HO233 := n2_; have HB := n3_; have HI230 := n4_; clear n0_ n1_ n2_ n3_ n4_; (try clear hb); (try clear hb2); (try clear hk); (try clear hi); (try clear ho0)) | ((with_reducible refine gate_callee (f := 25) rfl ?_); refine goesL_ (some 11) rfl rfl Try.func25 (by kernel_rfl) rfl #[.pointer (some ⟨gb230, 0, none⟩)] rfl (by (try simp only [List.map_toArray, List.map_cons, List.map_nil]); first | done | rfl | (simp only [List.length_drop, List.length_take]; rfl)) ?_; (with_reducible refine (spec_l1Cur_sketch.calls k gb230 l0 t235 t236 t237 t240 t241 t242 w _ ?side1 ?side2 A3.out).mono ?_); (case side1 => repeat (first | (with_reducible first | exact HI230.out | apply IsS52.alloc | apply IsS52.drewN | apply IsS52.drew | apply IsS52.set_1 | apply IsS52.set_2 | refine IsS52.far ?_ NB230_228.out _ | refine IsS52.far ?_ NB230_229.out _) | exact HI230.out)); (case side2 => repeat (first | (with_reducible first | exact HB.out | apply below_alloc | apply pw_below_drewN | apply below_drew1 | refine below_set ?_ (IsS52.ge HI230.out) | refine below_set ?_ GE228.out | refine below_set ?_ GE229.out) | exact HB.out)); rintro e w8 ⟨v238, rfl, ho0, hi, hb, hk⟩; refine ⟨_, rfl, ?_⟩; have n0_ := Aside0.mk (KeepBut.blk hk (g' := gb228) (o := .cells #[.slice none 0 0, .int .i64 0] 25 (0, 0)) (by (with_reducible repeat (first | refine blk_drewN ?_ _ | refine blk_drew ?_ | refine blk_alloc ?_ _)); exact BK228.out) NB228_230.out (by simp)); have n1_ := Aside0.mk (KeepBut.blk hk (g' := gb229) (o := .cells #[.slice none 0 0, .int .i64 0] 25 (0, 0)) (by (with_reducible repeat (first | refine blk_drewN ?_ _ | refine blk_drew ?_ | refine blk_alloc ?_ _)); exact BK229.out) NB229_230.out (by simp)); have n2_ := Aside0.mk (Kd.Q_mono (Kd.Q_told (Kd.Q_oldK (IsS52.apartQ (show IsS52 w _ gb230 l0 t235 t236 from by repeat (first | (with_reducible first | exact HI230.out | apply IsS52.alloc | apply IsS52.drewN | apply IsS52.drew | apply IsS52.set_1 | apply IsS52.set_2 | refine IsS52.far ?_ NB230_228.out _ | refine IsS52.far ?_ NB230_229.out _) | exact HI230.out)) (by (with_reducible repeat (first | apply Kd.Q_alloc | apply Kd.Q_drewN | apply Kd.Q_drew)); exact HO233.out) (by decide)) hk) (Kd.Q_base ho0)) (fun _ h_ => h_.1)); have n3_ := Aside0.mk (Kd.Q_lower (Kd.Q_new' ho0 (Kd.Q_lt (by (with_reducible repeat (first | apply Kd.Q_alloc | apply Kd.Q_drewN | apply Kd.Q_drew)); exact HO233.out))) (below_size (by repeat (first | (with_reducible first | exact HB.out | apply below_alloc | apply pw_below_drewN | apply below_drew1 | refine below_set ?_ (IsS52.ge HI230.out) | refine below_set ?_ GE228.out | refine below_set ?_ GE229.out) | exact HB.out)))); have n4_ := Aside0.mk (hb); have n5_ := Aside0.mk (hi); clear BK228; clear BK229; clear HO233; clear HB; clear HI230; have BK228 := n0_; have BK229 := n1_; have HO233 := n2_; have HO239 := n3_; have HB := n4_; have HI230 := n5_; clear n0_ n1_ n2_ n3_ n4_ n5_; (try clear hb); (try clear hb2); (try clear hk); (try clear hi); (try clear ho0); obtain ⟨Ao9, co9, eo9, _⟩ := Kd.Q_slice HO233.out; subst eo9; have hnb10 := NB228_229.out; have hnc10 := NB229_228.out; have hnb11 := NB228_230.out; have hnc11 := NB230_228.out; have hcz12_0 : w8.cell? ⟨gb228, 0, none⟩ = some (.slice none 0 0) := (blk_cell BK228.out 0).trans rfl; have hcz12_1 : w8.cell? ⟨gb228, 1, none⟩ = some (.int .i64 0) := (blk_cell BK228.out 1).trans rfl; have hfz12_0 := blk_frozen BK228.out 0; have hfz12_1 := blk_frozen BK228.out 1; obtain ⟨Ao13, co13, eo13, _⟩ := Kd.Q_slice HO239.out; subst eo13; have hnb14 := NB229_230.out; have hnc14 := NB230_229.out; have hcz15_0 : w8.cell? ⟨gb229, 0, none⟩ = some (.slice none 0 0) := (blk_cell BK229.out 0).trans rfl; have hcz15_1 : w8.cell? ⟨gb229, 1, none⟩ = some (.int .i64 0) := (blk_cell BK229.out 1).trans rfl; have hfz15_0 := blk_frozen BK229.out 0; have hfz15_1 := blk_frozen BK229.out 1))
  refine bodyPost_ret (results_cc rfl _ _ gb228 gb229 25 25 #[.slice Ao9 t231.length co9, .int .i64 t234] #[.slice Ao13 t237.length co13, .int .i64 t240] (0, 0) (0, 0) _ _ rfl (by (with_reducible repeat (first | refine blk_drewN ?_ _ | refine blk_drew ?_ | refine blk_alloc ?_ _)); refine blk_far ?_ NB228_229.out _; (with_reducible repeat (first | refine blk_drewN ?_ _ | refine blk_drew ?_ | refine blk_alloc ?_ _)); refine blk_far ?_ NB228_229.out _; (with_reducible repeat (first | refine blk_drewN ?_ _ | refine blk_drew ?_ | refine blk_alloc ?_ _)); refine blk_put (cs := #[.slice Ao9 t231.length co9, .int .i64 0]) ?_ 1 _ rfl; (with_reducible repeat (first | refine blk_drewN ?_ _ | refine blk_drew ?_ | refine blk_alloc ?_ _)); refine blk_put (cs := #[.slice none 0 0, .int .i64 0]) ?_ 0 _ rfl; (with_reducible repeat (first | refine blk_drewN ?_ _ | refine blk_drew ?_ | refine blk_alloc ?_ _)); exact BK228.out) Try.underlying25 rfl (by kernel_rfl) rfl (by (with_reducible repeat (first | refine blk_drewN ?_ _ | refine blk_drew ?_ | refine blk_alloc ?_ _)); refine blk_put (cs := #[.slice Ao13 t237.length co13, .int .i64 0]) ?_ 1 _ rfl; (with_reducible repeat (first | refine blk_drewN ?_ _ | refine blk_drew ?_ | refine blk_alloc ?_ _)); refine blk_put (cs := #[.slice none 0 0, .int .i64 0]) ?_ 0 _ rfl; (with_reducible repeat (first | refine blk_drewN ?_ _ | refine blk_drew ?_ | refine blk_alloc ?_ _)); refine blk_far ?_ NB229_228.out _; (with_reducible repeat (first | refine blk_drewN ?_ _ | refine blk_drew ?_ | refine blk_alloc ?_ _)); refine blk_far ?_ NB229_228.out _; (with_reducible repeat (first | refine blk_drewN ?_ _ | refine blk_drew ?_ | refine blk_alloc ?_ _)); exact BK229.out) Try.underlying25 rfl (by kernel_rfl)) rfl ?_
  exact ⟨_, _, by first | rfl | (simp [errW_none, errW_some] <;> rfl) | (simp [*, errW_none, errW_some] <;> rfl), by (with_reducible repeat (first | apply Kd.Q_alloc | apply Kd.Q_drewN | apply Kd.Q_drew)); exact Kd.Q_mono (Kd.Q_far (p := ⟨gb229, 1, none⟩) (Kd.Q_far (p := ⟨gb229, 0, none⟩) (Kd.Q_far (p := ⟨gb228, 1, none⟩) (Kd.Q_far (p := ⟨gb228, 0, none⟩) (Kd.Q_types (Kd.Q_types HO233.out BK228.out (by decide)) BK229.out (by decide)) (fun _ hk => hk.1.2) (.slice Ao9 t231.length co9)) (fun _ hk => hk.1.2) (.int .i64 t234)) (fun _ hk => hk.2) (.slice Ao13 t237.length co13)) (fun _ hk => hk.2) (.int .i64 t240)) (fun _ hk => hk.1.1.2), by (with_reducible repeat (first | apply Kd.Q_alloc | apply Kd.Q_drewN | apply Kd.Q_drew)); exact Kd.Q_mono (Kd.Q_far (p := ⟨gb229, 1, none⟩) (Kd.Q_far (p := ⟨gb229, 0, none⟩) (Kd.Q_far (p := ⟨gb228, 1, none⟩) (Kd.Q_far (p := ⟨gb228, 0, none⟩) (Kd.Q_types (Kd.Q_types HO239.out BK228.out (by decide)) BK229.out (by decide)) (fun _ hk => hk.1.2) (.slice Ao9 t231.length co9)) (fun _ hk => hk.1.2) (.int .i64 t234)) (fun _ hk => hk.2) (.slice Ao13 t237.length co13)) (fun _ hk => hk.2) (.int .i64 t240)) (fun _ hk => hk.1.1.2), by repeat (first | (with_reducible first | exact HB.out | apply below_alloc | apply pw_below_drewN | apply below_drew1 | refine below_set ?_ (IsS52.ge HI230.out) | refine below_set ?_ GE228.out | refine below_set ?_ GE229.out) | exact HB.out)⟩

theorem xinfo3 : (Try.prog.info? 3).map (fun i => (i.zero, i.size, i.bytes)) = some (some (.int .i64 0), 1, 8) := by kernel_rfl
set_option maxHeartbeats 4000000 in
theorem xClone_i64.calls (A0 : Option Addr) (c0 : Nat) (l0 : List Int) (w : World) (hr0 : Kd.C (Kd.int .i64) w A0 l0.length l0) (hc0 : l0.length ≤ c0) (hbig : l0.length < 17592186044416) :
    Calls Try.prog 30 #[.slice A0 l0.length c0] w fun e w' => ∃ v0_ : Value, e = .returned (v0_) ∧ Kd.R (Kd.int .i64) 3 w' w.heap.size (fun _ => True) v0_ l0 ∧ Below w.heap.size w w' := by
  have HR0 := Aside0.mk hr0
  have HC0 := Aside0.mk hc0
  have HG := Aside0.mk hbig
  have HB := Aside0.mk (Below.refl w.heap.size w)
  clear hc0 hbig
  have q22 : ∀ (w : World) (a : Option Addr) (n c n' c' : Nat), (binOp .eql 23 (.slice a n c) (.slice none n' c')).run Try.prog w = .ok (.bool a.isNone) w := fun w a n c n' c' => Lib.run_eql_slice_nil w _ _ a n c n' c' Try.underlying23
  cases A0 with
  | none =>
    have hl : l0 = [] := by
      cases l0 with
      | nil => rfl
      | cons x xs => obtain ⟨ad, c, he, _⟩ := Kd.C_get hr0 (0 : Int) 0 (by omega) (by simp); cases he
    clear hr0
    subst hl
    go_enter Try.func30, Try.ntmps30
    go_wp2
    go_ret
    exact ⟨_, rfl, Kd.R_nil _ _ _ _ _, HB.out⟩
  | some ad =>
    clear hr0
    go_enter Try.func30, Try.ntmps30
    go_wp2_with (first
      | ((with_reducible refine gate_dst (N := 5) rfl ?_); refine Kd.R_lit (Kd.int .i64) w.heap.size 3 ?hg (N := 5) ?hd (xs := ([] : List Int)) (inner := []) (ok := fun _ => True) (okp := fun _ => True) ?hr ?hp (fun _ hk => hk) trivial (Below.refl _ _) (Nat.le_refl _) (by simp) ?_; (case hd => rfl); (case hg => rfl); (case hr => first | (go_simp; done) | (go_simp; rfl)); (case hp => exact (Reps.none _ _)); intro v1 w1 ho1 hb1 hg_ hnew_; clear hg_ hnew_; have HO1 := Aside0.mk ho1; have HB1 := Aside0.mk hb1; clear ho1 hb1)
      | ((with_reducible refine gate_builtin (b := .append) (xs := #[.tmp 5, .tmp 6]) rfl ?_); at_builtin; refine Kd.R_append_rows (Kd.int .i64) (w0 := w) w.heap.size rfl (.tmp 5) (.tmp 6) 23 3 (.int .i64 0) 8 rfl Try.underlying23 xinfo3 rfl (by decide) (by omega) v1 [] l0 _ _ _ (fun _ => True) (fun _ => False) rfl rfl ?aO ?aR (fun _ _ h => h) (fun _ h => h.elim) ?aF ?aB ?aS ?aL ?_; (case aR => exact Kd.C_below HR0.out HB1.out); (case aB => exact HB1.out); (case aF => exact fun _ _ => trivial); (case aO => exact HO1.out); (case aS => exact HB1.out.size); (case aL => have := HG.out; simp; omega); intro v2 w2 ho hb hg hat; have HO2 := Aside0.mk ho; have HB2 := Aside0.mk hb; clear ho hb hg hat))
    go_ret
    exact ⟨_, rfl, HO2.out, HB2.out⟩
/-! ### slices_Clone_int_int: function 30 -/
def slices_Clone_int_int.f (l0 : List Int) : Option (List Int) := if l0.length < 17592186044416 then some l0 else none
theorem slices_Clone_int_int.calls (A0 : Option Addr) (c0 : Nat) (l0 : List Int) (r : List Int) (w : World) (hr0 : Kd.C (Kd.int .i64) w A0 l0.length l0) (hc0 : l0.length ≤ c0) (h : slices_Clone_int_int.f l0 = some r) :
    Calls Try.prog 30 #[.slice A0 l0.length c0] w fun e w' => ∃ v0_ : Value, e = .returned (v0_) ∧ Kd.R (Kd.int .i64) 3 w' w.heap.size (fun _ => True) v0_ r ∧ Below w.heap.size w w' := by
  unfold slices_Clone_int_int.f at h
  by_cases c : l0.length < 17592186044416
  · rw [if_pos c] at h
    obtain rfl := Option.some.inj h
    exact xClone_i64.calls A0 c0 l0 w hr0 hc0 c
  · rw [if_neg c] at h; cases h

/-! ### impl_JoinSketches: function 16 -/
mutual
def impl_JoinSketches.j0 : Nat → Bool → List Int → Int → List Int → Int → Option (List Int × Int × Bool)
 | 0, _, _, _, _, _ => none
 | k + 1, x16, x244000, x244001, x245000, x245001 => if x16 = true then (some (([] : List Int), 0, false)) else ((slices_Clone_int_int.f x244000).bind fun t248 => (impl_JoinSketches.l0 k x245000 (x245000.length : Int) 0 t248 (wrap64 (x244001 + x245001))))
def impl_JoinSketches.l0 : Nat → List Int → Int → Int → List Int → Int → Option (List Int × Int × Bool)
 | 0, _, _, _, _, _ => none
 | k + 1, x28, x29, x30, x252000, x252001 => if x30 < x29 then (if 0 ≤ x30 then (if x30 < (x28.length : Int) then (if x30 < (x252000.length : Int) then (impl_JoinSketches.l0 k x28 x29 (wrap64 (x30 + 1)) (x252000.set (x30 : Int).toNat (wrap64 ((rd x252000 x30) + (rd x28 x30)))) x252001) else (none)) else (none)) else (none)) else ((impl_GoodSketch.f x252000 x252001).bind fun t255 => (if t255 = true then (some (x252000, x252001, true)) else (some (([] : List Int), 0, false))))
end
def impl_JoinSketches.f (k : Nat) (l0_0 : List Int) (a0_1 : Int) (l1_0 : List Int) (a1_1 : Int) : Option (List Int × Int × Bool) := (impl_GoodSketch.f l0_0 a0_1).bind fun t246 => (if t246 = true then ((impl_GoodSketch.f l1_0 a1_1).bind fun t247 => (impl_JoinSketches.j0 k (!t247) l0_0 a0_1 l1_0 a1_1)) else (impl_JoinSketches.j0 k true l0_0 a0_1 l1_0 a1_1))
theorem impl_JoinSketches.mono_l : ∀ k, (∀ y0 y1 y2 y3 y4, LeO (impl_JoinSketches.j0 k y0 y1 y2 y3 y4) (impl_JoinSketches.j0 (k + 1) y0 y1 y2 y3 y4)) ∧ (∀ y0 y1 y2 y3 y4, LeO (impl_JoinSketches.l0 k y0 y1 y2 y3 y4) (impl_JoinSketches.l0 (k + 1) y0 y1 y2 y3 y4))
 | 0 => ⟨fun _ _ _ _ _ r h => by simp [impl_JoinSketches.j0] at h, fun _ _ _ _ _ r h => by simp [impl_JoinSketches.l0] at h⟩
 | k + 1 => by
  obtain ⟨ih0, ih1⟩ := impl_JoinSketches.mono_l k
  refine ⟨?_, ?_⟩
  ·intro y0 y1 y2 y3 y4
   unfold impl_JoinSketches.j0
   repeat' first
   | (with_reducible exact ih0 _ _ _ _ _)
   | (with_reducible exact ih1 _ _ _ _ _)
   | (with_reducible exact LeO.refl _)
   | (with_reducible exact LeO.none _)
   | (with_reducible refine LeO.ite ?_ ?_)
   | (with_reducible refine LeO.bind ?_ (fun _ => ?_))
   | exact ih0 _ _ _ _ _
   | exact ih1 _ _ _ _ _
   | exact LeO.none _
   | refine LeO.ite ?_ ?_
   | refine LeO.bind ?_ (fun _ => ?_)
  ·intro y0 y1 y2 y3 y4
   unfold impl_JoinSketches.l0
   repeat' first
   | (with_reducible exact ih0 _ _ _ _ _)
   | (with_reducible exact ih1 _ _ _ _ _)
   | (with_reducible exact LeO.refl _)
   | (with_reducible exact LeO.none _)
   | (with_reducible refine LeO.ite ?_ ?_)
   | (with_reducible refine LeO.bind ?_ (fun _ => ?_))
   | exact ih0 _ _ _ _ _
   | exact ih1 _ _ _ _ _
   | exact LeO.none _
   | refine LeO.ite ?_ ?_
   | refine LeO.bind ?_ (fun _ => ?_)
theorem impl_JoinSketches.mono : ∀ a0 a1 a2 a3 k, LeO (impl_JoinSketches.f k a0 a1 a2 a3) (impl_JoinSketches.f (k + 1) a0 a1 a2 a3) := by
 intro a0 a1 a2 a3 k
 obtain ⟨ih0, ih1⟩ := impl_JoinSketches.mono_l k
 unfold impl_JoinSketches.f
 repeat' first
   | (with_reducible exact ih0 _ _ _ _ _)
   | (with_reducible exact ih1 _ _ _ _ _)
   | (with_reducible exact LeO.refl _)
   | (with_reducible exact LeO.none _)
   | (with_reducible refine LeO.ite ?_ ?_)
   | (with_reducible refine LeO.bind ?_ (fun _ => ?_))
   | exact ih0 _ _ _ _ _
   | exact ih1 _ _ _ _ _
   | exact LeO.none _
   | refine LeO.ite ?_ ?_
   | refine LeO.bind ?_ (fun _ => ?_)
def impl_JoinSketches.T3 : Bool × List (List Nat × List Nat) := (true, [([], []), ([0], [0]), ([1], [1]), ([], []), ([3], [3]), ([], []), ([5], [5]), ([4, 6], [4, 6]), ([2, 7], [2, 7]), ([], []), ([9, 8, 2, 0, 1, 2, 3, 4, 5, 6, 7, 8, 9], [8, 9])])
def impl_JoinSketches.B3 : List Nat := [0, 1, 3, 0, 8, 0, 32, 120, 255, 0, 1023]
theorem impl_JoinSketches.tab3 : rtab .any (opsOf Try.f16 3) = impl_JoinSketches.T3 := by kernel_rfl
theorem impl_JoinSketches.bits3 : waitsOk impl_JoinSketches.T3.2 impl_JoinSketches.B3 = true := by kernel_rfl
set_option maxHeartbeats 8000000 in
set_option maxRecDepth 100000 in
theorem impl_JoinSketches.calls (k : Nat) (A0_0 : Option Addr) (c0_0 : Nat) (l0_0 : List Int) (a0_1 : Int) (A1_0 : Option Addr) (c1_0 : Nat) (l1_0 : List Int) (a1_1 : Int) (r1 : List Int) (r2 : Int) (r3 : Bool) (w : World) (hr0_0 : Kd.C (Kd.int .i64) w A0_0 l0_0.length l0_0) (hc0_0 : l0_0.length ≤ c0_0) (hr1_0 : Kd.C (Kd.int .i64) w A1_0 l1_0.length l1_0) (hc1_0 : l1_0.length ≤ c1_0) (h : impl_JoinSketches.f k l0_0 a0_1 l1_0 a1_1 = some (r1, r2, r3)) :
  Calls Try.prog 16 #[.agg #[.slice A0_0 l0_0.length c0_0, .int .i64 a0_1], .agg #[.slice A1_0 l1_0.length c1_0, .int .i64 a1_1]] w fun e w' => ∃ v0_ : Value, e = .returned (.tuple #[.agg #[v0_, .int .i64 r2], .bool r3]) ∧ Kd.R (Kd.int .i64) 3 w' w.heap.size (fun _ => True) v0_ r1 ∧ Below w.heap.size w w' := by
 have hu25 := Try.underlying25
 have HR0_0 := Aside0.mk hr0_0
 have HC0_0 := Aside0.mk hc0_0
 clear hr0_0 hc0_0
 have HR1_0 := Aside0.mk hr1_0
 have HC1_0 := Aside0.mk hc1_0
 clear hr1_0 hc1_0
 have HB := Aside0.mk (Below.refl w.heap.size w)
 have H : ((impl_GoodSketch.f l0_0 a0_1).bind fun t246 => (if t246 = true then ((impl_GoodSketch.f l1_0 a1_1).bind fun t247 => (impl_JoinSketches.j0 k (!t247) l0_0 a0_1 l1_0 a1_1)) else (impl_JoinSketches.j0 k true l0_0 a0_1 l1_0 a1_1))) = some (r1, r2, r3) := h
 clear h
 have HC3 := Aside0.mk H
 clear H
 go_enter Try.func16, Try.ntmps16
 go_upto_region 1 with (first | ((with_reducible refine gate_dst (N := 2) rfl ?_); refine xbe_ (N := 2) (cs := #[.slice A0_0 l0_0.length c0_0, .int .i64 a0_1]) (t := 25) ?_; intro gb243 hg w4 hbox hb; have BK243 := Aside0.mk (hbox); have GW243 := xge_ HB hg; have GE243 := xge_ HB hg; replace HB := xws_ HB hb; clear hb hbox hg) | ((with_reducible refine gate_dst (N := 3) rfl ?_); refine xbe_ (N := 3) (cs := #[.slice A1_0 l1_0.length c1_0, .int .i64 a1_1]) (t := 25) ?_; intro gb244 hg w5 hbox hb; have BK244 := Aside0.mk (hbox); have GW244 := xge_ HB hg; have GE244 := xge_ HB hg; replace HB := xws_ HB hb; have NB243_244 := xlt_ BK243 hg; have NB244_243 := xgt_ BK243 hg; replace BK243 := xbb_ BK243 hb; clear hb hbox hg) | ((with_reducible refine gate_dst (N := 4) rfl ?_); refine xbe_ (N := 4) (cs := #[.slice none 0 0, .int .i64 0]) (t := 25) ?_; intro gb245 hg w6 hbox hb; have BK245 := Aside0.mk (hbox); have GW245 := xge_ HB hg; have GE245 := xge_ HB hg; replace HB := xws_ HB hb; have NB243_245 := xlt_ BK243 hg; have NB245_243 := xgt_ BK243 hg; replace BK243 := xbb_ BK243 hb; have NB244_245 := xlt_ BK244 hg; have NB245_244 := xgt_ BK244 hg; replace BK244 := xbb_ BK244 hb; clear hb hbox hg))
 (try simp only [Act.put, List.setIfInBounds_toArray, List.set_cons_zero, List.set_cons_succ])
 go_cut [16] (fun v16 wc => ∃ (kq : Nat) (x16_2 : Bool), v16 = .bool x16_2 ∧ Aside0 (impl_JoinSketches.j0 kq x16_2 l0_0 a0_1 l1_0 a1_1 = some (r1, r2, r3)) ∧ Aside0 (kq ≤ k) ∧ Aside0 (wc.heap[gb243]? = some (.cells #[(.slice A0_0 l0_0.length c0_0), .int .i64 a0_1] 25 (0, 0))) ∧ Aside0 (wc.heap[gb244]? = some (.cells #[(.slice A1_0 l1_0.length c1_0), .int .i64 a1_1] 25 (0, 0))) ∧ Aside0 (wc.heap[gb245]? = some (.cells #[(.slice none 0 0), .int .i64 0] 25 (0, 0))) ∧ Aside0 (Below w.heap.size w wc))
 case first =>
  have H := HC3.out
  clear HC3
  replace H := Option.bind_eq_some_iff.mp H
  obtain ⟨t246, A70, H⟩ := H
  replace H : (if t246 = true then ((impl_GoodSketch.f l1_0 a1_1).bind fun t247 => (impl_JoinSketches.j0 k (!t247) l0_0 a0_1 l1_0 a1_1)) else (impl_JoinSketches.j0 k true l0_0 a0_1 l1_0 a1_1)) = some (r1, r2, r3) := H
  have A7 := Aside0.mk A70
  clear A70
  by_cases c8 : t246 = true
  ·subst c8
   have H1 : ((impl_GoodSketch.f l1_0 a1_1).bind fun t247 => (impl_JoinSketches.j0 k (!t247) l0_0 a0_1 l1_0 a1_1)) = some (r1, r2, r3) := by rw [if_pos rfl] at H; exact H
   clear H
   have H := H1
   clear H1
   replace H := Option.bind_eq_some_iff.mp H
   obtain ⟨t247, A90, H⟩ := H
   replace H : (impl_JoinSketches.j0 k (!t247) l0_0 a0_1 l1_0 a1_1) = some (r1, r2, r3) := H
   have A9 := Aside0.mk A90
   clear A90
   have H' := Aside0.mk H
   clear H
   have hnb10 := NB243_244.out
   have hnc10 := NB244_243.out
   have hnb11 := NB243_245.out
   have hnc11 := NB245_243.out
   have hcz12_0 : w6.cell? ⟨gb243, 0, none⟩ = some (.slice A0_0 l0_0.length c0_0) := xk_ BK243 0
   have hcz12_1 : w6.cell? ⟨gb243, 1, none⟩ = some (.int .i64 a0_1) := xk_ BK243 1
   have hfz12_0 := blk_frozen BK243.out 0
   have hfz12_1 := blk_frozen BK243.out 1
   go_wp2_with (first | ((with_reducible refine gate_callee (f := 9) rfl ?_); refine xgl_ (some 10) Try.func9 #[.agg #[.slice A0_0 l0_0.length c0_0, .int .i64 a0_1]] ?_; (with_reducible refine (impl_GoodSketch.calls _ _ l0_0 a0_1 true _ ?side1 ?side2 A7.out).mono ?_); (case side1 => exact xc_ ((Kd.C_below HR0_0.out HB.out))); (case side2 => exact HC0_0.out); rintro e w13 ⟨rfl, hb⟩; refine ⟨_, rfl, ?_⟩; replace BK243 := xbb_ BK243 hb; replace BK244 := xbb_ BK244 hb; replace BK245 := xbb_ BK245 hb; replace HB := xws_ HB hb; (try clear hb); (try clear hb2); (try clear hk); (try clear hi); have hnb14 := NB244_245.out; have hnc14 := NB245_244.out; have hcz15_0 : w13.cell? ⟨gb244, 0, none⟩ = some (.slice A1_0 l1_0.length c1_0) := xk_ BK244 0; have hcz15_1 : w13.cell? ⟨gb244, 1, none⟩ = some (.int .i64 a1_1) := xk_ BK244 1; have hfz15_0 := blk_frozen BK244.out 0; have hfz15_1 := blk_frozen BK244.out 1) | (go_at_call 9; (with_reducible refine (impl_GoodSketch.calls _ _ l1_0 a1_1 t247 _ ?side1 ?side2 A9.out).mono ?_); (case side1 => exact xc_ ((Kd.C_below HR1_0.out HB.out))); (case side2 => exact HC1_0.out); rintro e w16 ⟨rfl, hb⟩; replace BK243 := xbb_ BK243 hb; replace BK244 := xbb_ BK244 hb; replace BK245 := xbb_ BK245 hb; replace HB := xws_ HB hb; (try clear hb); (try clear hb2); (try clear hk); (try clear hi)))
   go_meet
   case rel => exact ⟨_, (!t247), (by first | rfl | (simp; done) | (simp [*]; done)), H', ⟨by first | omega | exact Nat.le_refl _⟩, ⟨xb_ BK243⟩, ⟨xb_ BK244⟩, ⟨xb_ BK245⟩, ⟨xw_ HB⟩⟩
  ·replace c8 := Bool.eq_false_iff.mpr c8
   subst c8
   have H1 : (impl_JoinSketches.j0 k true l0_0 a0_1 l1_0 a1_1) = some (r1, r2, r3) := by rw [if_neg (show ¬ (false = true) by decide)] at H; exact H
   clear H
   have H := H1
   clear H1
   have H' := Aside0.mk H
   clear H
   have hnb17 := NB243_244.out
   have hnc17 := NB244_243.out
   have hnb18 := NB243_245.out
   have hnc18 := NB245_243.out
   have hcz19_0 : w6.cell? ⟨gb243, 0, none⟩ = some (.slice A0_0 l0_0.length c0_0) := xk_ BK243 0
   have hcz19_1 : w6.cell? ⟨gb243, 1, none⟩ = some (.int .i64 a0_1) := xk_ BK243 1
   have hfz19_0 := blk_frozen BK243.out 0
   have hfz19_1 := blk_frozen BK243.out 1
   go_wp2_with (first | ((with_reducible refine gate_callee (f := 9) rfl ?_); refine xgl_ (some 10) Try.func9 #[.agg #[.slice A0_0 l0_0.length c0_0, .int .i64 a0_1]] ?_; (with_reducible refine (impl_GoodSketch.calls _ _ l0_0 a0_1 false _ ?side1 ?side2 A7.out).mono ?_); (case side1 => exact xc_ ((Kd.C_below HR0_0.out HB.out))); (case side2 => exact HC0_0.out); rintro e w20 ⟨rfl, hb⟩; refine ⟨_, rfl, ?_⟩; replace BK243 := xbb_ BK243 hb; replace BK244 := xbb_ BK244 hb; replace BK245 := xbb_ BK245 hb; replace HB := xws_ HB hb; (try clear hb); (try clear hb2); (try clear hk); (try clear hi)))
   go_meet
   case rel => exact ⟨_, (true), (by first | rfl | (simp; done) | (simp [*]; done)), H', ⟨by first | omega | exact Nat.le_refl _⟩, ⟨xb_ BK243⟩, ⟨xb_ BK244⟩, ⟨xb_ BK245⟩, ⟨xw_ HB⟩⟩
 case rest =>
  clear HC3
  try clear c1
  try clear p2
  try clear c8
  try clear c9
  try clear c10
  try clear c11
  try clear c14
  try clear c16
  try clear c17
  try clear c18
  try clear hcz12_0
  try clear hcz12_1
  try clear hcz15_0
  try clear hcz15_1
  try clear hcz19_0
  try clear hcz19_1
  try clear hfz12_0
  try clear hfz12_1
  try clear hfz15_0
  try clear hfz15_1
  try clear hfz19_0
  try clear hfz19_1
  obtain ⟨kq, x16_2, rfl, HA, HJ2, BK243, BK244, BK245, HB⟩ := hcut
  cases kq with
  | zero => exact absurd HA.out (by simp [impl_JoinSketches.j0])
  | succ kj2 =>
   have H := HA.out
   clear HA
   simp only [impl_JoinSketches.j0] at H
   by_cases c21 : x16_2 = true
   ·subst c21
    have H1 : (some (([] : List Int), 0, false)) = some (r1, r2, r3) := by rw [if_pos rfl] at H; exact H
    clear H
    have H := H1
    clear H1
    simp only [Option.some.injEq, Prod.mk.injEq] at H
    obtain ⟨rfl, rfl, rfl⟩ := H
    have hnb22 := NB245_243.out
    have hnc22 := NB243_245.out
    have hnb23 := NB245_244.out
    have hnc23 := NB244_245.out
    have hcz24_0 : wc.cell? ⟨gb245, 0, none⟩ = some (.slice none 0 0) := xk_ BK245 0
    have hcz24_1 : wc.cell? ⟨gb245, 1, none⟩ = some (.int .i64 0) := xk_ BK245 1
    have hfz24_0 := blk_frozen BK245.out 0
    have hfz24_1 := blk_frozen BK245.out 1
    go_wp2
    refine bodyPost_ret (results_ct rfl _ _ gb245 25 #[.slice none 0 0, .int .i64 0] (0, 0) _ rfl (by (with_reducible repeat (first | refine blk_drewN ?_ _ | refine blk_drew ?_ | refine blk_alloc ?_ _)); refine blk_put (cs := #[.slice none 0 0, .int .i64 0]) ?_ 1 _ rfl; (with_reducible repeat (first | refine blk_drewN ?_ _ | refine blk_drew ?_ | refine blk_alloc ?_ _)); refine blk_put (cs := #[.slice none 0 0, .int .i64 0]) ?_ 0 _ rfl; (with_reducible repeat (first | refine blk_drewN ?_ _ | refine blk_drew ?_ | refine blk_alloc ?_ _)); exact BK245.out) Try.underlying25 rfl (by kernel_rfl)) rfl ?_
    exact ⟨_, by first | rfl | (simp [errW_none, errW_some] <;> rfl) | (simp [*, errW_none, errW_some] <;> rfl), by first | exact Kd.R_nil _ _ _ _ _ | exact Kd.N_nil _ _ _ _ _ | exact Kd.V_nil _ _ _ _ _ | exact Kd.Q_nil _ _ _ _ _ | exact Kd.S_nil _ _ _ _ _, xw_ HB⟩
   ·replace c21 := Bool.eq_false_iff.mpr c21
    subst c21
    have H1 : ((slices_Clone_int_int.f l0_0).bind fun t248 => (impl_JoinSketches.l0 kj2 l1_0 (l1_0.length : Int) 0 t248 (wrap64 (a0_1 + a1_1)))) = some (r1, r2, r3) := by rw [if_neg (show ¬ (false = true) by decide)] at H; exact H
    clear H
    have H := H1
    clear H1
    replace H := Option.bind_eq_some_iff.mp H
    obtain ⟨t248, A250, H⟩ := H
    replace H : (impl_JoinSketches.l0 kj2 l1_0 (l1_0.length : Int) 0 t248 (wrap64 (a0_1 + a1_1))) = some (r1, r2, r3) := H
    have A25 := Aside0.mk A250
    clear A250
    have H' := Aside0.mk H
    clear H
    try go_wp2
    replace BK243 := Aside0.mk (blk_drew BK243.out)
    replace BK244 := Aside0.mk (blk_drew BK244.out)
    replace BK245 := Aside0.mk (blk_drew BK245.out)
    replace HB := Aside0.mk (below_drew1 HB.out)
    refine start_ (n := 11) (S := fun w' => w'.cell? ⟨gb243, 0, none⟩ = some (.slice A0_0 l0_0.length c0_0) ∧ w'.cell? ⟨gb243, 1, none⟩ = some (.int .i64 a0_1) ∧ w'.cell? ⟨gb244, 0, none⟩ = some (.slice A1_0 l1_0.length c1_0) ∧ w'.cell? ⟨gb244, 1, none⟩ = some (.int .i64 a1_1)) (ds := []) #[false, false, false, false, false, false, false, false, false, false, false] (by kernel_rfl) rfl rfl ⟨xk_ BK243 0, xk_ BK243 1, xk_ BK244 0, xk_ BK244 1⟩ (fun hHeld => ?_); refine with_tabW impl_JoinSketches.tab3 impl_JoinSketches.bits3 (fun HT_ HW_ => ?_)
    generalize wc.drew = w26 at BK243 BK244 BK245 HB hHeld ⊢
    refine pure_ (i := 0) (N := some 18) (v := ?_) (a' := ?_) #[true, false, false, false, false, false, false, false, false, false, false] rfl rfl (any_of HT_.out (by kernel_rfl)) (fun _ _ _ h => h) (Or.inl ⟨by rfl, ?_⟩) ?_ ?_
    rotate_left
    ·intro w'
     go_simp
     with_reducible rfl
    rotate_left
    ·simp only [Act.put, List.setIfInBounds_toArray, List.set_cons_zero, List.set_cons_succ, i64_w, i32_w]
     rfl
    refine pure_ (i := 3) (N := some 21) (v := ?_) (a' := ?_) #[true, false, false, true, false, false, false, false, false, false, false] rfl rfl (any_of HT_.out (by kernel_rfl)) (fun _ _ _ h => h) (Or.inl ⟨by rfl, ?_⟩) ?_ ?_
    rotate_left
    ·intro w'
     go_simp
     with_reducible rfl
    rotate_left
    ·simp only [Act.put, List.setIfInBounds_toArray, List.set_cons_zero, List.set_cons_succ, i64_w, i32_w]
     rfl
    refine pure_ (i := 5) (N := some 23) (v := ?_) (a' := ?_) #[true, false, false, true, false, true, false, false, false, false, false] rfl rfl (any_of HT_.out (by kernel_rfl)) (fun _ _ _ h => h) (Or.inl ⟨by rfl, ?_⟩) ?_ ?_
    rotate_left
    ·intro w'
     go_simp
     with_reducible rfl
    rotate_left
    ·simp only [Act.put, List.setIfInBounds_toArray, List.set_cons_zero, List.set_cons_succ, i64_w, i32_w]
     rfl
    refine take_ (i := 1) (N := some 19) (v := ?_) (a' := ?_) #[true, true, false, true, false, true, false, false, false, false, false] rfl rfl (take_ofW HT_.out HW_.out (by kernel_rfl)) (fun _ _ _ h => h) (Or.inl ⟨by rfl, ?_⟩) hHeld ?_ ?_
    rotate_left
    ·rintro w' ⟨s0, s1, s2, s3⟩
     go_simp
     with_reducible rfl
    rotate_left
    ·simp only [Act.put, List.setIfInBounds_toArray, List.set_cons_zero, List.set_cons_succ, i64_w, i32_w]
     rfl
    refine take_ (i := 4) (N := some 22) (v := ?_) (a' := ?_) #[true, true, false, true, true, true, false, false, false, false, false] rfl rfl (take_ofW HT_.out HW_.out (by kernel_rfl)) (fun _ _ _ h => h) (Or.inl ⟨by rfl, ?_⟩) hHeld ?_ ?_
    rotate_left
    ·rintro w' ⟨s0, s1, s2, s3⟩
     go_simp
     with_reducible rfl
    rotate_left
    ·simp only [Act.put, List.setIfInBounds_toArray, List.set_cons_zero, List.set_cons_succ, i64_w, i32_w]
     rfl
    refine take_ (i := 6) (N := some 24) (v := ?_) (a' := ?_) #[true, true, false, true, true, true, true, false, false, false, false] rfl rfl (take_ofW HT_.out HW_.out (by kernel_rfl)) (fun _ _ _ h => h) (Or.inl ⟨by rfl, ?_⟩) hHeld ?_ ?_
    rotate_left
    ·rintro w' ⟨s0, s1, s2, s3⟩
     go_simp
     with_reducible rfl
    rotate_left
    ·simp only [Act.put, List.setIfInBounds_toArray, List.set_cons_zero, List.set_cons_succ, i64_w, i32_w]
     rfl
    refine pure_ (i := 7) (N := some 25) (v := ?_) (a' := ?_) #[true, true, false, true, true, true, true, true, false, false, false] rfl rfl (any_of HT_.out (by kernel_rfl)) (fun _ _ _ h => h) (Or.inl ⟨by rfl, ?_⟩) ?_ ?_
    rotate_left
    ·intro w'
     go_simp
     with_reducible rfl
    rotate_left
    ·simp only [Act.put, List.setIfInBounds_toArray, List.set_cons_zero, List.set_cons_succ, i64_w, i32_w]
     rfl
    refine join_ (σ := Value × Nat) 1 #[true, true, true, true, true, true, true, true, true, true, false] (fun s_ => [(20, s_.1), (6, .pointer (some ⟨s_.2, 0, none⟩)), (26, .agg #[s_.1, .int .i64 (wrap64 (a0_1 + a1_1))])]) (fun s_ w' => (w'.cell? ⟨gb243, 0, none⟩ = some (.slice A0_0 l0_0.length c0_0) ∧ w'.cell? ⟨gb243, 1, none⟩ = some (.int .i64 a0_1) ∧ w'.cell? ⟨gb244, 0, none⟩ = some (.slice A1_0 l1_0.length c1_0) ∧ w'.cell? ⟨gb244, 1, none⟩ = some (.int .i64 a1_1)) ∧ (Kd.R (Kd.int .i64) 3 w' w.heap.size (fun _ => True) s_.1 t248) ∧ (w'.heap[gb243]? = some (.cells #[.slice A0_0 l0_0.length c0_0, .int .i64 a0_1] 25 (0, 0))) ∧ (w'.heap[gb244]? = some (.cells #[.slice A1_0 l1_0.length c1_0, .int .i64 a1_1] 25 (0, 0))) ∧ (w'.heap[gb245]? = some (.cells #[.slice none 0 0, .int .i64 0] 25 (0, 0))) ∧ (w'.heap[s_.2]? = some (.cells #[.slice none 0 0, .int .i64 0] 25 (0, 0))) ∧ (w.heap.size ≤ s_.2) ∧ (w.heap.size ≤ s_.2) ∧ (gb243 ≠ s_.2) ∧ (s_.2 ≠ gb243) ∧ (gb244 ≠ s_.2) ∧ (s_.2 ≠ gb244) ∧ (gb245 ≠ s_.2) ∧ (s_.2 ≠ gb245) ∧ (Below w.heap.size w w')) ?_ ?_
    rotate_left
    ·intro hCont
     refine two_ (i := 2) (j := 9) (Ni := some 20) (Nj := some 6) #[true, true, true, true, true, true, true, true, false, false, false] #[true, true, false, true, true, true, true, true, false, true, false] rfl rfl rfl rfl (two_of HT_.out (by kernel_rfl)) (by decide) (by decide) (fun K hK => ?_) (fun K hK => ?_)
     ·skip
      refine xgo_ Try.func30 #[.slice A0_0 l0_0.length c0_0] ?_
      with_reducible refine (slices_Clone_int_int.calls _ _ l0_0 t248 _ ?side1 ?side2 A25.out).mono ?_
      (case side1 => exact xc_ ((Kd.C_below HR0_0.out HB.out)))
      (case side2 => exact HC0_0.out)
      rintro e w27 ⟨v249, rfl, ho0, hb⟩
      refine ⟨_, rfl, ?_⟩
      have HO250 := Aside0.mk (Kd.R_lower ho0 (below_size (xw_ HB)))
      replace BK243 := xbb_ BK243 hb
      replace BK244 := xbb_ BK244 hb
      replace BK245 := xbb_ BK245 hb
      replace HB := xws_ HB hb
      (try clear hb)
      (try clear hb2)
      (try clear hk)
      (try clear hi)
      (try clear ho0)
      obtain ⟨Ao28, co28, eo28⟩ := Kd.R_slice HO250.out
      (first | subst eo28 | (injection eo28 with f1_ f2_ f3_; have f4_ := f1_.symm; have f5_ := f3_.symm; clear f1_ f2_ f3_; subst f4_; subst f5_))
      refine hK.out _ _ ⟨xk_ BK243 0, xk_ BK243 1, xk_ BK244 0, xk_ BK244 1⟩ (fun hHeld => ?_)
      clear hK K
      refine norm_ (a' := ?_) ?_ ?_
      rotate_left
      ·show Act.put _ (some 20) _ = _
       simp only [Act.put, List.setIfInBounds_toArray, List.set_cons_zero, List.set_cons_succ, i64_w, i32_w]
       rfl
      refine pure_ (i := 8) (N := some 26) (v := ?_) (a' := ?_) #[true, true, true, true, true, true, true, true, true, false, false] rfl rfl (any_of HT_.out (by kernel_rfl)) (fun _ _ _ h => h) (Or.inl ⟨by rfl, ?_⟩) ?_ ?_
      rotate_left
      ·intro w'
       go_simp
       with_reducible rfl
      rotate_left
      ·simp only [Act.put, List.setIfInBounds_toArray, List.set_cons_zero, List.set_cons_succ, i64_w, i32_w]
       rfl
      refine one_ (i := 9) (N := some 6) #[true, true, true, true, true, true, true, true, true, true, false] rfl rfl (one_of HT_.out (by kernel_rfl)) (by decide) (fun K hK => ?_)
      refine box_step ?hg (N := 6) ?hd (cs := #[.slice none 0 0, .int .i64 0]) (t := 25) ?hr ?_; (case hd => rfl); (case hg => rfl); (case hr => first | (go_simp; done) | (go_simp; rfl))
      intro gb251 hg w29 hbox hb
      replace HO250 := xrb_ HO250 hb
      have BK251 := Aside0.mk (hbox)
      have GW251 := xge_ HB hg
      have GE251 := xge_ HB hg
      replace HB := xws_ HB hb
      have NB243_251 := xlt_ BK243 hg
      have NB251_243 := xgt_ BK243 hg
      replace BK243 := xbb_ BK243 hb
      have NB244_251 := xlt_ BK244 hg
      have NB251_244 := xgt_ BK244 hg
      replace BK244 := xbb_ BK244 hb
      have NB245_251 := xlt_ BK245 hg
      have NB251_245 := xgt_ BK245 hg
      replace BK245 := xbb_ BK245 hb
      clear hb hbox hg
      refine hK.out _ _ ⟨xk_ BK243 0, xk_ BK243 1, xk_ BK244 0, xk_ BK244 1⟩ (fun hHeld => ?_)
      clear hK K
      refine norm_ (a' := ?_) ?_ ?_
      rotate_left
      ·show Act.put _ (some 6) _ = _
       simp only [Act.put, List.setIfInBounds_toArray, List.set_cons_zero, List.set_cons_succ, i64_w, i32_w]
       rfl
      exact norm_ (by simp only [putAll, Act.put, List.setIfInBounds_toArray, List.set_cons_zero, List.set_cons_succ]) (hCont (.slice Ao28 t248.length co28, gb251) _ ⟨hHeld, xr_ HO250, xb_ BK243, xb_ BK244, xb_ BK245, xb_ BK251, GW251.out, GE251.out, NB243_251.out, NB251_243.out, NB244_251.out, NB251_244.out, NB245_251.out, NB251_245.out, xw_ HB⟩)
     ·skip
      refine box_step ?hg (N := 6) ?hd (cs := #[.slice none 0 0, .int .i64 0]) (t := 25) ?hr ?_; (case hd => rfl); (case hg => rfl); (case hr => first | (go_simp; done) | (go_simp; rfl))
      intro gb251 hg w27 hbox hb
      have BK251 := Aside0.mk (hbox)
      have GW251 := xge_ HB hg
      have GE251 := xge_ HB hg
      replace HB := xws_ HB hb
      have NB243_251 := xlt_ BK243 hg
      have NB251_243 := xgt_ BK243 hg
      replace BK243 := xbb_ BK243 hb
      have NB244_251 := xlt_ BK244 hg
      have NB251_244 := xgt_ BK244 hg
      replace BK244 := xbb_ BK244 hb
      have NB245_251 := xlt_ BK245 hg
      have NB251_245 := xgt_ BK245 hg
      replace BK245 := xbb_ BK245 hb
      clear hb hbox hg
      refine hK.out _ _ ⟨xk_ BK243 0, xk_ BK243 1, xk_ BK244 0, xk_ BK244 1⟩ (fun hHeld => ?_)
      clear hK K
      refine norm_ (a' := ?_) ?_ ?_
      rotate_left
      ·show Act.put _ (some 6) _ = _
       simp only [Act.put, List.setIfInBounds_toArray, List.set_cons_zero, List.set_cons_succ, i64_w, i32_w]
       rfl
      refine one_ (i := 2) (N := some 20) #[true, true, true, true, true, true, true, true, false, true, false] rfl rfl (one_of HT_.out (by kernel_rfl)) (by decide) (fun K hK => ?_)
      refine xgo_ Try.func30 #[.slice A0_0 l0_0.length c0_0] ?_
      with_reducible refine (slices_Clone_int_int.calls _ _ l0_0 t248 _ ?side1 ?side2 A25.out).mono ?_
      (case side1 => exact xc_ ((Kd.C_below HR0_0.out HB.out)))
      (case side2 => exact HC0_0.out)
      rintro e w28 ⟨v249, rfl, ho0, hb⟩
      refine ⟨_, rfl, ?_⟩
      have HO250 := Aside0.mk (Kd.R_lower ho0 (below_size (xw_ HB)))
      replace BK243 := xbb_ BK243 hb
      replace BK244 := xbb_ BK244 hb
      replace BK245 := xbb_ BK245 hb
      replace BK251 := xbb_ BK251 hb
      replace HB := xws_ HB hb
      (try clear hb)
      (try clear hb2)
      (try clear hk)
      (try clear hi)
      (try clear ho0)
      obtain ⟨Ao29, co29, eo29⟩ := Kd.R_slice HO250.out
      (first | subst eo29 | (injection eo29 with f1_ f2_ f3_; have f4_ := f1_.symm; have f5_ := f3_.symm; clear f1_ f2_ f3_; subst f4_; subst f5_))
      refine hK.out _ _ ⟨xk_ BK243 0, xk_ BK243 1, xk_ BK244 0, xk_ BK244 1⟩ (fun hHeld => ?_)
      clear hK K
      refine norm_ (a' := ?_) ?_ ?_
      rotate_left
      ·show Act.put _ (some 20) _ = _
       simp only [Act.put, List.setIfInBounds_toArray, List.set_cons_zero, List.set_cons_succ, i64_w, i32_w]
       rfl
      refine pure_ (i := 8) (N := some 26) (v := ?_) (a' := ?_) #[true, true, true, true, true, true, true, true, true, true, false] rfl rfl (any_of HT_.out (by kernel_rfl)) (fun _ _ _ h => h) (Or.inl ⟨by rfl, ?_⟩) ?_ ?_
      rotate_left
      ·intro w'
       go_simp
       with_reducible rfl
      rotate_left
      ·simp only [Act.put, List.setIfInBounds_toArray, List.set_cons_zero, List.set_cons_succ, i64_w, i32_w]
       rfl
      exact norm_ (by simp only [putAll, Act.put, List.setIfInBounds_toArray, List.set_cons_zero, List.set_cons_succ]) (hCont (.slice Ao29 t248.length co29, gb251) _ ⟨hHeld, xr_ HO250, xb_ BK243, xb_ BK244, xb_ BK245, xb_ BK251, GW251.out, GE251.out, NB243_251.out, NB251_243.out, NB244_251.out, NB251_244.out, NB245_251.out, NB251_245.out, xw_ HB⟩)
    rintro ⟨v249, gb251⟩ w30 ⟨hS_, h0_, h1_, h2_, h3_, h4_, h5_, h6_, h7_, h8_, h9_, h10_, h11_, h12_, h13_⟩
    have n0_ : Aside0 (Kd.R (Kd.int .i64) 3 w30 w.heap.size (fun _ => True) v249 t248) := ⟨h0_⟩
    have n1_ : Aside0 (w30.heap[gb243]? = some (.cells #[.slice A0_0 l0_0.length c0_0, .int .i64 a0_1] 25 (0, 0))) := ⟨h1_⟩
    have n2_ : Aside0 (w30.heap[gb244]? = some (.cells #[.slice A1_0 l1_0.length c1_0, .int .i64 a1_1] 25 (0, 0))) := ⟨h2_⟩
    have n3_ : Aside0 (w30.heap[gb245]? = some (.cells #[.slice none 0 0, .int .i64 0] 25 (0, 0))) := ⟨h3_⟩
    have n4_ : Aside0 (w30.heap[gb251]? = some (.cells #[.slice none 0 0, .int .i64 0] 25 (0, 0))) := ⟨h4_⟩
    have n5_ : Aside0 (w.heap.size ≤ gb251) := ⟨h5_⟩
    have n6_ : Aside0 (w.heap.size ≤ gb251) := ⟨h6_⟩
    have n7_ : Aside0 (gb243 ≠ gb251) := ⟨h7_⟩
    have n8_ : Aside0 (gb251 ≠ gb243) := ⟨h8_⟩
    have n9_ : Aside0 (gb244 ≠ gb251) := ⟨h9_⟩
    have n10_ : Aside0 (gb251 ≠ gb244) := ⟨h10_⟩
    have n11_ : Aside0 (gb245 ≠ gb251) := ⟨h11_⟩
    have n12_ : Aside0 (gb251 ≠ gb245) := ⟨h12_⟩
    have n13_ : Aside0 (Below w.heap.size w w30) := ⟨h13_⟩
    clear BK243
    clear BK244
    clear BK245
    clear HB
    clear h0_ h1_ h2_ h3_ h4_ h5_ h6_ h7_ h8_ h9_ h10_ h11_ h12_ h13_
    have HO250 := n0_
    have BK243 := n1_
    have BK244 := n2_
    have BK245 := n3_
    have BK251 := n4_
    have GW251 := n5_
    have GE251 := n6_
    have NB243_251 := n7_
    have NB251_243 := n8_
    have NB244_251 := n9_
    have NB251_244 := n10_
    have NB245_251 := n11_
    have NB251_245 := n12_
    have HB := n13_
    clear n0_ n1_ n2_ n3_ n4_ n5_ n6_ n7_ n8_ n9_ n10_ n11_ n12_ n13_
    have hHeld : w30.cell? ⟨gb243, 0, none⟩ = some (.slice A0_0 l0_0.length c0_0) ∧ w30.cell? ⟨gb243, 1, none⟩ = some (.int .i64 a0_1) ∧ w30.cell? ⟨gb244, 0, none⟩ = some (.slice A1_0 l1_0.length c1_0) ∧ w30.cell? ⟨gb244, 1, none⟩ = some (.int .i64 a1_1) := hS_
    obtain ⟨Ao31, co31, eo31⟩ := Kd.R_slice HO250.out
    (first | subst eo31 | (injection eo31 with f1_ f2_ f3_; have f4_ := f1_.symm; have f5_ := f3_.symm; clear f1_ f2_ f3_; subst f4_; subst f5_))
    refine norm_ (a' := ?_) ?_ ?_
    rotate_left
    ·simp only [putAll, Act.put, List.setIfInBounds_toArray, List.set_cons_zero, List.set_cons_succ]
     rfl
    refine one_ (i := 10) (N := none) #[true, true, true, true, true, true, true, true, true, true, true] rfl rfl (one_of HT_.out (by kernel_rfl)) (by decide) (fun K hK => ?_)
    have hs32 : w30.cell? ⟨gb251, 0, none⟩ = some (.slice none 0 0) := xk_ BK251 0
    have hfs32 := blk_frozen BK251.out 0
    have hns32_0 := NB243_251.out
    have hns32_1 := NB244_251.out
    have hns32_2 := NB245_251.out
    have hms32_0 := NB251_243.out
    have hms32_1 := NB251_244.out
    have hms32_2 := NB251_245.out
    have hs33 : w30.cell? ⟨gb251, 1, none⟩ = some (.int .i64 0) := xk_ BK251 1
    have hfs33 := blk_frozen BK251.out 1
    have hns33_0 := NB243_251.out
    have hns33_1 := NB244_251.out
    have hns33_2 := NB245_251.out
    have hms33_0 := NB251_243.out
    have hms33_1 := NB251_244.out
    have hms33_2 := NB251_245.out
    refine skip_ (w1 := ?_) (by rfl) rfl ?_ ?_
    rotate_left
    ·go_simp
     rfl
    refine hK.out _ _ ⟨((cell_far (p := ⟨gb251, _, none⟩) NB243_251.out _).trans (((cell_far (p := ⟨gb251, _, none⟩) NB243_251.out _).trans (hHeld.1)))), ((cell_far (p := ⟨gb251, _, none⟩) NB243_251.out _).trans (((cell_far (p := ⟨gb251, _, none⟩) NB243_251.out _).trans (hHeld.2.1)))), ((cell_far (p := ⟨gb251, _, none⟩) NB244_251.out _).trans (((cell_far (p := ⟨gb251, _, none⟩) NB244_251.out _).trans (hHeld.2.2.1)))), ((cell_far (p := ⟨gb251, _, none⟩) NB244_251.out _).trans (((cell_far (p := ⟨gb251, _, none⟩) NB244_251.out _).trans (hHeld.2.2.2))))⟩ (fun hHeld => ?_)
    clear hK K
    refine done_ (done_of HT_.out (by kernel_rfl)) ?_
    have hnb34 := NB244_243.out
    have hnc34 := NB243_244.out
    have hnb35 := NB244_245.out
    have hnc35 := NB245_244.out
    have hnb36 := NB244_251.out
    have hnc36 := NB251_244.out
    have hcz37_0 : w30.cell? ⟨gb244, 0, none⟩ = some (.slice A1_0 l1_0.length c1_0) := xk_ BK244 0
    have hcz37_1 : w30.cell? ⟨gb244, 1, none⟩ = some (.int .i64 a1_1) := xk_ BK244 1
    have hfz37_0 := blk_frozen BK244.out 0
    have hfz37_1 := blk_frozen BK244.out 1
    try go_wp2
    go_loopg [30] kj2 (fun kq v30 w' => ∃ (x30_2 : Int) (x252000_2 : List Int) (u252000 : Value), v30 = .int .i64 x30_2 ∧ Aside0 (impl_JoinSketches.l0 kq l1_0 (l1_0.length : Int) x30_2 x252000_2 (wrap64 (a0_1 + a1_1)) = some (r1, r2, r3)) ∧ Aside0 (kq ≤ kj2) ∧ Aside0 (Kd.R (Kd.int .i64) 3 w' w.heap.size (fun _ => True) u252000 x252000_2) ∧ Aside0 (w'.heap[gb243]? = some (.cells #[(.slice A0_0 l0_0.length c0_0), .int .i64 a0_1] 25 (0, 0))) ∧ Aside0 (w'.heap[gb244]? = some (.cells #[(.slice A1_0 l1_0.length c1_0), .int .i64 a1_1] 25 (0, 0))) ∧ Aside0 (w'.heap[gb245]? = some (.cells #[(.slice none 0 0), .int .i64 0] 25 (0, 0))) ∧ Aside0 (w'.heap[gb251]? = some (.cells #[u252000, .int .i64 (wrap64 (a0_1 + a1_1))] 25 (0, 0))) ∧ Aside0 (Below w.heap.size w w'))
    case atStart => exact ⟨(0), (t248), (.slice Ao31 t248.length co31), (by first | rfl | (simp; done) | (simp [*]; done)), H', ⟨Nat.le_refl _⟩, ⟨xrt_ (Kd.R_mono (Kd.R_far (p := ⟨gb251, 1, none⟩) (Kd.R_far (p := ⟨gb251, 0, none⟩) (Kd.R_types HO250.out BK251.out (by decide)) (fun _ hk => hk.2) (.slice Ao31 t248.length co31)) (fun _ hk => hk.2) (.int .i64 (wrap64 (a0_1 + a1_1)))) (fun _ hk => trivial))⟩, ⟨by (with_reducible repeat (first | refine blk_drewN ?_ _ | refine blk_drew ?_ | refine blk_alloc ?_ _)); refine blk_far ?_ NB243_251.out _; (with_reducible repeat (first | refine blk_drewN ?_ _ | refine blk_drew ?_ | refine blk_alloc ?_ _)); refine blk_far ?_ NB243_251.out _; (with_reducible repeat (first | refine blk_drewN ?_ _ | refine blk_drew ?_ | refine blk_alloc ?_ _)); exact BK243.out⟩, ⟨by (with_reducible repeat (first | refine blk_drewN ?_ _ | refine blk_drew ?_ | refine blk_alloc ?_ _)); refine blk_far ?_ NB244_251.out _; (with_reducible repeat (first | refine blk_drewN ?_ _ | refine blk_drew ?_ | refine blk_alloc ?_ _)); refine blk_far ?_ NB244_251.out _; (with_reducible repeat (first | refine blk_drewN ?_ _ | refine blk_drew ?_ | refine blk_alloc ?_ _)); exact BK244.out⟩, ⟨by (with_reducible repeat (first | refine blk_drewN ?_ _ | refine blk_drew ?_ | refine blk_alloc ?_ _)); refine blk_far ?_ NB245_251.out _; (with_reducible repeat (first | refine blk_drewN ?_ _ | refine blk_drew ?_ | refine blk_alloc ?_ _)); refine blk_far ?_ NB245_251.out _; (with_reducible repeat (first | refine blk_drewN ?_ _ | refine blk_drew ?_ | refine blk_alloc ?_ _)); exact BK245.out⟩, ⟨by (with_reducible repeat (first | refine blk_drewN ?_ _ | refine blk_drew ?_ | refine blk_alloc ?_ _)); refine blk_put (cs := #[.slice Ao31 t248.length co31, .int .i64 0]) ?_ 1 _ rfl; (with_reducible repeat (first | refine blk_drewN ?_ _ | refine blk_drew ?_ | refine blk_alloc ?_ _)); refine blk_put (cs := #[.slice none 0 0, .int .i64 0]) ?_ 0 _ rfl; (with_reducible repeat (first | refine blk_drewN ?_ _ | refine blk_drew ?_ | refine blk_alloc ?_ _)); exact BK251.out⟩, ⟨xw_ HB⟩⟩
    case round =>
     clear H'
     try clear c1
     try clear c2
     try clear p2
     try clear c3
     try clear p6
     try clear c8
     try clear c9
     try clear c10
     try clear c11
     try clear c14
     try clear c16
     try clear c17
     try clear c18
     try clear c21
     try clear c22
     try clear c23
     try clear c30
     try clear c34
     try clear c35
     try clear c36
     try clear hcz12_0
     try clear hcz12_1
     try clear hcz15_0
     try clear hcz15_1
     try clear hcz19_0
     try clear hcz19_1
     try clear hcz24_0
     try clear hcz24_1
     try clear hcz37_0
     try clear hcz37_1
     try clear hfz12_0
     try clear hfz12_1
     try clear hfz15_0
     try clear hfz15_1
     try clear hfz19_0
     try clear hfz19_1
     try clear hfz24_0
     try clear hfz24_1
     try clear hfz37_0
     try clear hfz37_1
     try clear p2
     obtain ⟨x30_2, x252000_2, u252000, rfl, HA, HK2, HO_252000, BK243, BK244, BK245, BK251, HB⟩ := hrel
     cases gk with
     | zero => exact absurd HA.out (by simp [impl_JoinSketches.l0])
     | succ k2 =>
      have H := HA.out
      clear HA
      simp only [impl_JoinSketches.l0] at H
      by_cases c38 : x30_2 < (l1_0.length : Int)
      ·rw [if_pos c38] at H
       have c38b0 : decide (x30_2 < (l1_0.length : Int)) = true := decide_eq_true c38
       clear c38
       by_cases c39 : 0 ≤ x30_2
       ·rw [if_pos c39] at H
        have c39b0 : decide (0 ≤ x30_2) = true := decide_eq_true c39
        clear c39
        by_cases c40 : x30_2 < (l1_0.length : Int)
        ·rw [if_pos c40] at H
         have c40b0 : decide (x30_2 < (l1_0.length : Int)) = true := decide_eq_true c40
         clear c40
         by_cases c41 : x30_2 < (x252000_2.length : Int)
         ·rw [if_pos c41] at H
          have c41b0 : decide (x30_2 < (x252000_2.length : Int)) = true := decide_eq_true c41
          clear c41
          obtain ⟨y254, hy254⟩ : ∃ y_ : List Int, y_ = (x252000_2.set (x30_2 : Int).toNat (wrap64 ((rd x252000_2 x30_2) + (rd l1_0 x30_2)))) := ⟨_, rfl⟩
          replace H : (impl_JoinSketches.l0 k2 l1_0 (l1_0.length : Int) (wrap64 (x30_2 + 1)) y254 (wrap64 (a0_1 + a1_1))) = some (r1, r2, r3) := by first | (rw [hy254]; with_reducible exact H) | (have H2_ := (Option.bind_some _ _).symm.trans H; rw [hy254]; with_reducible exact H2_) | (have H2_ := (Option.bind_some _ _).symm.trans H; with_reducible exact H2_) | with_reducible exact H | (rw [hy254]; exact H) | exact H
          have Ny254 := Aside0.mk hy254
          clear hy254
          have H' := Aside0.mk H
          clear H
          have p252 : 0 ≤ (x30_2 : Int) := of_decide_eq_true (by first | (with_reducible assumption) | assumption)
          have q252 : x30_2 < (l1_0.length : Int) := of_decide_eq_true (by first | (with_reducible assumption) | assumption)
          obtain ⟨ad252, e252, hx252_0⟩ := Kd.at_int HR1_0.out x30_2 p252 q252
          cases e252
          replace hx252_0 := (HB.out.cell (World.block_lt_of_cell? w _ hx252_0)).trans hx252_0
          replace p252 := eq_true p252
          replace q252 := eq_true q252
          have hnb43 := NB251_243.out
          have hnc43 := NB243_251.out
          have hnb44 := NB251_244.out
          have hnc44 := NB244_251.out
          have hnb45 := NB251_245.out
          have hnc45 := NB245_251.out
          have hcz46_0 : wr.cell? ⟨gb251, 0, none⟩ = some (u252000) := xk_ BK251 0
          have hcz46_1 : wr.cell? ⟨gb251, 1, none⟩ = some (.int .i64 (wrap64 (a0_1 + a1_1))) := xk_ BK251 1
          have hfz46_0 := blk_frozen BK251.out 0
          have hfz46_1 := blk_frozen BK251.out 1
          obtain ⟨Ao47, co47, eo47⟩ := Kd.R_slice HO_252000.out
          subst eo47
          have p253 : 0 ≤ (x30_2 : Int) := of_decide_eq_true (by first | (with_reducible assumption) | assumption)
          have q253 : x30_2 < (x252000_2.length : Int) := of_decide_eq_true (by first | (with_reducible assumption) | assumption)
          obtain ⟨ad253, e253, hx253_0⟩ := Kd.at_int (Kd.R_reads' HO_252000.out).2.2 x30_2 p253 q253
          cases e253
          replace p253 := eq_true p253
          replace q253 := eq_true q253
          have p42 : 0 ≤ (x30_2 : Int) := of_decide_eq_true (by first | (with_reducible assumption) | assumption)
          have q42 : (x30_2 : Int) < ((x252000_2.length : Int) : Int) := of_decide_eq_true (by first | (with_reducible assumption) | assumption)
          obtain ⟨go42, co42, eo42, gb42, gl42, cl42, HG42⟩ := Kd.R_form HO_252000.out (by omega)
          (first | cases eo42 | (injection eo42 with ea_ en_ ec_; (first | subst ea_ | (injection ea_ with ea_; subst ea_)); subst ec_; clear en_))
          have GB42 := Aside0.mk gb42
          have GG42 := Aside0.mk HG42
          clear gb42 gl42 HG42
          (first | simp only [add_plain] at hx253_0 | skip)
          obtain ⟨hx42_0, hf42_0⟩ := Kd.R_celln 0 HO_252000.out (x30_2 : Int) p42 q42
          replace p42 := eq_true p42
          replace q42 := eq_true q42
          have HP48 := Kd.R_putg HO_252000.out (x30_2 : Int) (wrap64 ((rd x252000_2 x30_2) + (rd l1_0 x30_2)))
          go_wp2_with (first | ((with_reducible refine gate_store (t := 3) (p := 42) rfl ?_); refine store_event (t := 3) (p := 42) (v := ?vo_w49) (w1 := (wr.setCell ⟨go42, (x30_2 : Int).toNat, none⟩ (.int .i64 (wrap64 ((rd x252000_2 x30_2) + (rd l1_0 x30_2)))))) ?hg ?ho ?hn ?hr ?_; (case ho => rfl); (case hg => rfl); (case hn => rfl); (case hr => first | (go_simp; done) | (go_simp; rfl)); intro w49 hw; have hg : wr.grownBy w49 (some go42) := (by rw [hw]; exact HP48.2); have hp_ : Kd.R (Kd.int .i64) 3 w49 w.heap.size (fun _ => True) (.slice (some ⟨go42, 0, none⟩) x252000_2.length co47) y254 := (by rw [hw, Ny254.out]; exact HP48.1); clear HP48; replace BK243 := Aside0.mk (blk_grown (g := gb243) (o := .cells #[.slice A0_0 l0_0.length c0_0, .int .i64 a0_1] 25 (0, 0)) (xb_ BK243) hg (Kd.R_ne HO_252000.out BK243.out (by decide))); replace BK244 := Aside0.mk (blk_grown (g := gb244) (o := .cells #[.slice (some ad252) l1_0.length c1_0, .int .i64 a1_1] 25 (0, 0)) (xb_ BK244) hg (Kd.R_ne HO_252000.out BK244.out (by decide))); replace BK245 := Aside0.mk (blk_grown (g := gb245) (o := .cells #[.slice none 0 0, .int .i64 0] 25 (0, 0)) (xb_ BK245) hg (Kd.R_ne HO_252000.out BK245.out (by decide))); replace BK251 := Aside0.mk (blk_grown (g := gb251) (o := .cells #[.slice (some ⟨go42, 0, none⟩) x252000_2.length co47, .int .i64 (wrap64 (a0_1 + a1_1))] 25 (0, 0)) (xb_ BK251) hg (Kd.R_ne HO_252000.out BK251.out (by decide))); replace HO_252000 := Aside0.mk (hp_); replace HB := Aside0.mk ((by rw [hw]; exact below_set (HB.out) GB42.out : Below w.heap.size w w49)); clear hg hw hp_))
          go_roundg k2
          case measure => have := HJ2.out; have := HK2.out; omega
          case rel => exact ⟨(wrap64 (x30_2 + 1)), (y254), (.slice (some ⟨go42, 0, none⟩) x252000_2.length co47), (by first | rfl | (simp; done) | (simp [*]; done)), H', ⟨by have := HJ2.out; have := HK2.out; omega⟩, ⟨xr_ HO_252000⟩, ⟨xb_ BK243⟩, ⟨xb_ BK244⟩, ⟨xb_ BK245⟩, ⟨xb_ BK251⟩, ⟨xw_ HB⟩⟩
         ·rw [if_neg c41] at H
          exact absurd H (by simp)
        ·rw [if_neg c40] at H
         exact absurd H (by simp)
       ·rw [if_neg c39] at H
        exact absurd H (by simp)
      ·rw [if_neg c38] at H
       have c38b0 : decide (x30_2 < (l1_0.length : Int)) = false := decide_eq_false c38
       clear c38
       replace H := Option.bind_eq_some_iff.mp H
       obtain ⟨t255, A500, H⟩ := H
       replace H : (if t255 = true then (some (x252000_2, (wrap64 (a0_1 + a1_1)), true)) else (some (([] : List Int), 0, false))) = some (r1, r2, r3) := H
       have A50 := Aside0.mk A500
       clear A500
       by_cases c51 : t255 = true
       ·subst c51
        have H1 : (some (x252000_2, (wrap64 (a0_1 + a1_1)), true)) = some (r1, r2, r3) := by rw [if_pos rfl] at H; exact H
        clear H
        have H := H1
        clear H1
        simp only [Option.some.injEq, Prod.mk.injEq] at H
        obtain ⟨rfl, rfl, rfl⟩ := H
        have hnb52 := NB251_243.out
        have hnc52 := NB243_251.out
        have hnb53 := NB251_244.out
        have hnc53 := NB244_251.out
        have hnb54 := NB251_245.out
        have hnc54 := NB245_251.out
        have hcz55_0 : wr.cell? ⟨gb251, 0, none⟩ = some (u252000) := xk_ BK251 0
        have hcz55_1 : wr.cell? ⟨gb251, 1, none⟩ = some (.int .i64 (wrap64 (a0_1 + a1_1))) := xk_ BK251 1
        have hfz55_0 := blk_frozen BK251.out 0
        have hfz55_1 := blk_frozen BK251.out 1
        obtain ⟨Ao56, co56, eo56⟩ := Kd.R_slice HO_252000.out
        subst eo56
        go_wp2_with (first | ((with_reducible refine gate_callee (f := 9) rfl ?_); refine xgl_ (some 45) Try.func9 #[.agg #[.slice Ao56 x252000_2.length co56, .int .i64 (wrap64 (a0_1 + a1_1))]] ?_; (with_reducible refine (impl_GoodSketch.calls _ _ x252000_2 (wrap64 (a0_1 + a1_1)) true _ ?side1 ?side2 A50.out).mono ?_); (case side1 => exact xc_ ((Kd.R_reads' HO_252000.out).2.2)); (case side2 => exact (Kd.R_reads' HO_252000.out).2.1); rintro e w57 ⟨rfl, hb⟩; refine ⟨_, rfl, ?_⟩; replace HO_252000 := xrb_ HO_252000 hb; replace BK243 := xbb_ BK243 hb; replace BK244 := xbb_ BK244 hb; replace BK245 := xbb_ BK245 hb; replace BK251 := xbb_ BK251 hb; replace HB := xws_ HB hb; (try clear hb); (try clear hb2); (try clear hk); (try clear hi); have hcz58_0 : w57.cell? ⟨gb251, 0, none⟩ = some (.slice Ao56 x252000_2.length co56) := xk_ BK251 0; have hcz58_1 : w57.cell? ⟨gb251, 1, none⟩ = some (.int .i64 (wrap64 (a0_1 + a1_1))) := xk_ BK251 1; have hfz58_0 := blk_frozen BK251.out 0; have hfz58_1 := blk_frozen BK251.out 1; have hnb59 := NB245_243.out; have hnc59 := NB243_245.out; have hnb60 := NB245_244.out; have hnc60 := NB244_245.out; have hcz61_0 : w57.cell? ⟨gb245, 0, none⟩ = some (.slice none 0 0) := xk_ BK245 0; have hcz61_1 : w57.cell? ⟨gb245, 1, none⟩ = some (.int .i64 0) := xk_ BK245 1; have hfz61_0 := blk_frozen BK245.out 0; have hfz61_1 := blk_frozen BK245.out 1))
        refine bodyPost_ret (results_ct rfl _ _ gb245 25 #[.slice Ao56 x252000_2.length co56, .int .i64 (wrap64 (a0_1 + a1_1))] (0, 0) _ rfl (by (with_reducible repeat (first | refine blk_drewN ?_ _ | refine blk_drew ?_ | refine blk_alloc ?_ _)); refine blk_put (cs := #[.slice Ao56 x252000_2.length co56, .int .i64 0]) ?_ 1 _ rfl; (with_reducible repeat (first | refine blk_drewN ?_ _ | refine blk_drew ?_ | refine blk_alloc ?_ _)); refine blk_put (cs := #[.slice none 0 0, .int .i64 0]) ?_ 0 _ rfl; (with_reducible repeat (first | refine blk_drewN ?_ _ | refine blk_drew ?_ | refine blk_alloc ?_ _)); exact BK245.out) Try.underlying25 rfl (by kernel_rfl)) rfl ?_
        exact ⟨_, by first | rfl | (simp [errW_none, errW_some] <;> rfl) | (simp [*, errW_none, errW_some] <;> rfl), by (with_reducible repeat (first | apply Kd.R_alloc | apply Kd.R_drewN | apply Kd.R_drew)); exact Kd.R_mono (Kd.R_far (p := ⟨gb245, 1, none⟩) (Kd.R_far (p := ⟨gb245, 0, none⟩) (Kd.R_types HO_252000.out BK245.out (by decide)) (fun _ hk => hk.2) (.slice Ao56 x252000_2.length co56)) (fun _ hk => hk.2) (.int .i64 (wrap64 (a0_1 + a1_1)))) (fun _ hk => trivial), xw_ HB⟩
       ·replace c51 := Bool.eq_false_iff.mpr c51
        subst c51
        have H1 : (some (([] : List Int), 0, false)) = some (r1, r2, r3) := by rw [if_neg (show ¬ (false = true) by decide)] at H; exact H
        clear H
        have H := H1
        clear H1
        simp only [Option.some.injEq, Prod.mk.injEq] at H
        obtain ⟨rfl, rfl, rfl⟩ := H
        have hnb62 := NB251_243.out
        have hnc62 := NB243_251.out
        have hnb63 := NB251_244.out
        have hnc63 := NB244_251.out
        have hnb64 := NB251_245.out
        have hnc64 := NB245_251.out
        have hcz65_0 : wr.cell? ⟨gb251, 0, none⟩ = some (u252000) := xk_ BK251 0
        have hcz65_1 : wr.cell? ⟨gb251, 1, none⟩ = some (.int .i64 (wrap64 (a0_1 + a1_1))) := xk_ BK251 1
        have hfz65_0 := blk_frozen BK251.out 0
        have hfz65_1 := blk_frozen BK251.out 1
        obtain ⟨Ao66, co66, eo66⟩ := Kd.R_slice HO_252000.out
        subst eo66
        go_wp2_with (first | ((with_reducible refine gate_callee (f := 9) rfl ?_); refine xgl_ (some 45) Try.func9 #[.agg #[.slice Ao66 x252000_2.length co66, .int .i64 (wrap64 (a0_1 + a1_1))]] ?_; (with_reducible refine (impl_GoodSketch.calls _ _ x252000_2 (wrap64 (a0_1 + a1_1)) false _ ?side1 ?side2 A50.out).mono ?_); (case side1 => exact xc_ ((Kd.R_reads' HO_252000.out).2.2)); (case side2 => exact (Kd.R_reads' HO_252000.out).2.1); rintro e w67 ⟨rfl, hb⟩; refine ⟨_, rfl, ?_⟩; replace HO_252000 := xrb_ HO_252000 hb; replace BK243 := xbb_ BK243 hb; replace BK244 := xbb_ BK244 hb; replace BK245 := xbb_ BK245 hb; replace BK251 := xbb_ BK251 hb; replace HB := xws_ HB hb; (try clear hb); (try clear hb2); (try clear hk); (try clear hi); have hnb68 := NB245_243.out; have hnc68 := NB243_245.out; have hnb69 := NB245_244.out; have hnc69 := NB244_245.out; have hcz70_0 : w67.cell? ⟨gb245, 0, none⟩ = some (.slice none 0 0) := xk_ BK245 0; have hcz70_1 : w67.cell? ⟨gb245, 1, none⟩ = some (.int .i64 0) := xk_ BK245 1; have hfz70_0 := blk_frozen BK245.out 0; have hfz70_1 := blk_frozen BK245.out 1))
        refine bodyPost_ret (results_ct rfl _ _ gb245 25 #[.slice none 0 0, .int .i64 0] (0, 0) _ rfl (by (with_reducible repeat (first | refine blk_drewN ?_ _ | refine blk_drew ?_ | refine blk_alloc ?_ _)); refine blk_put (cs := #[.slice none 0 0, .int .i64 0]) ?_ 1 _ rfl; (with_reducible repeat (first | refine blk_drewN ?_ _ | refine blk_drew ?_ | refine blk_alloc ?_ _)); refine blk_put (cs := #[.slice none 0 0, .int .i64 0]) ?_ 0 _ rfl; (with_reducible repeat (first | refine blk_drewN ?_ _ | refine blk_drew ?_ | refine blk_alloc ?_ _)); exact BK245.out) Try.underlying25 rfl (by kernel_rfl)) rfl ?_
        exact ⟨_, by first | rfl | (simp [errW_none, errW_some] <;> rfl) | (simp [*, errW_none, errW_some] <;> rfl), by first | exact Kd.R_nil _ _ _ _ _ | exact Kd.N_nil _ _ _ _ _ | exact Kd.V_nil _ _ _ _ _ | exact Kd.Q_nil _ _ _ _ _ | exact Kd.S_nil _ _ _ _ _, xw_ HB⟩

end Go.Proofs.Ytemeajidcggniaa.PFnSummed
