-- Written by a program of this project (xprint.py) out of the translation; Lean checks it.
import Derived.Test.YtemeajidcggniaaPFnSummedx0
import Derived.Test.YtemeajidcggniaaPFnSummedx1
import Derived.Test.YtemeajidcggniaaPFnSummedx2
import Derived.Test.YtemeajidcggniaaPFnSummedx4
import Derived.Test.YtemeajidcggniaaPFnSummedx5
import Derived.Test.YtemeajidcggniaaPFnSummedx6
namespace Go.Proofs.Ytemeajidcggniaa.PFnSummed
open Go.RowKit Go.Proofs.YtemeajidcggniaaW.PrintWords Go.Proofs.YtemeajidcggniaaW.PrintLast Go.Proofs.YtemeajidcggniaaW.PrintMore
attribute [local go_sem] max2_int min2_int max_two min_two max_three min_three max_four min_four   -- for this text's walks alone
set_option linter.unusedVariables false
set_option linter.unusedSimpArgs false

/-! ### spec_DrawGoodSketch: function 40 -/
def spec_DrawGoodSketch.f (k : Nat) (l0 : List Int) : Option (List Int × Int) := (spec_l1Cur_sketch.f k l0 0 0).bind fun bt286 => (some (bt286.1, bt286.2.1))
theorem spec_DrawGoodSketch.mono : ∀ a0 k, LeO (spec_DrawGoodSketch.f k a0) (spec_DrawGoodSketch.f (k + 1) a0) := by
  intro a0 k
  unfold spec_DrawGoodSketch.f
  repeat' first
      | (with_reducible exact spec_l1Cur_sketch.mono _ _ _ _)
      | (with_reducible exact LeO.refl _)
      | (with_reducible exact LeO.none _)
      | (with_reducible refine LeO.ite ?_ ?_)
      | (with_reducible refine LeO.bind ?_ (fun _ => ?_))
      | exact spec_l1Cur_sketch.mono _ _ _ _
      | exact LeO.none _
      | refine LeO.ite ?_ ?_
      | refine LeO.bind ?_ (fun _ => ?_)
set_option maxHeartbeats 8000000 in
set_option maxRecDepth 100000 in
theorem spec_DrawGoodSketch.calls (k : Nat) (A0 : Option Addr) (c0 : Nat) (l0 : List Int) (r1 : List Int) (r2 : Int) (w : World) (hr0 : Kd.C (Kd.int .u8) w A0 l0.length l0) (hc0 : l0.length ≤ c0) (h : spec_DrawGoodSketch.f k l0 = some (r1, r2)) :
    Calls Try.prog 40 #[.slice A0 l0.length c0] w fun e w' => ∃ v0_ : Value, e = .returned (.agg #[v0_, .int .i64 r2]) ∧ Kd.Q (Kd.int .i64) 3 w' w.heap.size (fun _ => True) v0_ r1 ∧ Below w.heap.size w w' := by
  have hu25 := Try.underlying25
  have hu52 := Try.underlying52
  have HR0 := Aside0.mk hr0
  have HC0 := Aside0.mk hc0
  clear hr0 hc0
  have HB := Aside0.mk (Below.refl w.heap.size w)
  have H : ((spec_l1Cur_sketch.f k l0 0 0).bind fun bt286 => (some (bt286.1, bt286.2.1))) = some (r1, r2) := h
  clear h
  replace H := Option.bind_eq_some_iff.mp H
  obtain ⟨⟨t286, t289, t290, t291⟩, A20, H⟩ := H
  replace H : (some (t286, t289)) = some (r1, r2) := H
  have A2 := Aside0.mk A20
  clear A20
  simp only [Option.some.injEq, Prod.mk.injEq] at H
  obtain ⟨rfl, rfl⟩ := H
  go_enter Try.func40, Try.ntmps40
  go_wp2_with (first | ((with_reducible refine gate_dst (N := 2) rfl ?_); refine box_event ?hg (N := 2) ?hd (cs := #[.slice none 0 0, .int .i64 0]) (t := 25) ?hr ?_; (case hd => rfl); (case hg => rfl); (case hr => first | (go_simp; done) | (go_simp; rfl)); intro gb284 hg w3 hbox hb; have n0_ := Aside0.mk (below_step (by repeat (first | (with_reducible first | exact HB.out | apply below_alloc | apply pw_below_drewN | apply below_drew1) | exact HB.out)) hb); have n1_ := Aside0.mk (hbox); have n2_ := Aside0.mk ((by rw [hg]; exact (below_size (by repeat (first | (with_reducible first | exact HB.out | apply below_alloc | apply pw_below_drewN | apply below_drew1) | exact HB.out))) : w.heap.size ≤ gb284)); have n3_ := Aside0.mk ((by rw [hg]; exact (below_size (by repeat (first | (with_reducible first | exact HB.out | apply below_alloc | apply pw_below_drewN | apply below_drew1) | exact HB.out))) : w.heap.size ≤ gb284)); clear HB; have HB := n0_; have BK284 := n1_; have GW284 := n2_; have GE284 := n3_; clear n0_ n1_ n2_ n3_; clear hb hbox hg) | ((with_reducible refine gate_dst (N := 6) rfl ?_); refine box_event ?hg (N := 6) ?hd (cs := #[.slice A0 l0.length c0, .int .i64 0, .int .u64 0]) (t := 52) ?hr ?_; (case hd => rfl); (case hg => rfl); (case hr => first | (go_simp; done) | (go_simp; rfl)); intro gb285 hg w4 hbox hb; have n0_ := Aside0.mk (blk_below (g := gb284) (o := .cells #[.slice none 0 0, .int .i64 0] 25 (0, 0)) (by (with_reducible repeat (first | refine blk_drewN ?_ _ | refine blk_drew ?_ | refine blk_alloc ?_ _)); exact BK284.out) hb); have n1_ := Aside0.mk (below_step (by repeat (first | (with_reducible first | exact HB.out | apply below_alloc | apply pw_below_drewN | apply below_drew1 | refine below_set ?_ GE284.out) | exact HB.out)) hb); have n2_ := Aside0.mk (hbox); have n3_ := Aside0.mk ((by rw [hg]; exact (below_size (by repeat (first | (with_reducible first | exact HB.out | apply below_alloc | apply pw_below_drewN | apply below_drew1 | refine below_set ?_ GE284.out) | exact HB.out))) : w.heap.size ≤ gb285)); have n4_ := Aside0.mk ((by rw [hg]; exact (below_size (by repeat (first | (with_reducible first | exact HB.out | apply below_alloc | apply pw_below_drewN | apply below_drew1 | refine below_set ?_ GE284.out) | exact HB.out))) : w.heap.size ≤ gb285)); have n5_ := Aside0.mk ((by rw [hg]; exact Nat.ne_of_lt (blk_lt (g := gb284) (o := .cells #[.slice none 0 0, .int .i64 0] 25 (0, 0)) (by (with_reducible repeat (first | refine blk_drewN ?_ _ | refine blk_drew ?_ | refine blk_alloc ?_ _)); exact BK284.out)) : gb284 ≠ gb285)); have n6_ := Aside0.mk ((by rw [hg]; exact Nat.ne_of_gt (blk_lt (g := gb284) (o := .cells #[.slice none 0 0, .int .i64 0] 25 (0, 0)) (by (with_reducible repeat (first | refine blk_drewN ?_ _ | refine blk_drew ?_ | refine blk_alloc ?_ _)); exact BK284.out)) : gb285 ≠ gb284)); clear BK284; clear HB; have BK284 := n0_; have HB := n1_; have BK285 := n2_; have GW285 := n3_; have GE285 := n4_; have NB284_285 := n5_; have NB285_284 := n6_; clear n0_ n1_ n2_ n3_ n4_ n5_ n6_; clear hb hbox hg) | ((with_reducible refine gate_callee (f := 25) rfl ?_); refine goesL_ (some 8) rfl rfl Try.func25 (by kernel_rfl) rfl #[.pointer (some ⟨gb285, 0, none⟩)] rfl (by (try simp only [List.map_toArray, List.map_cons, List.map_nil]); first | done | rfl | (simp only [List.length_drop, List.length_take]; rfl)) ?_; (with_reducible refine (spec_l1Cur_sketch.calls k gb285 l0 0 0 t286 t289 t290 t291 w _ ?side1 ?side2 A2.out).mono ?_); (case side1 => exact (show IsS52 w _ gb285 l0 0 0 from ⟨_, _, (by (with_reducible repeat (first | refine blk_drewN ?_ _ | refine blk_drew ?_ | refine blk_alloc ?_ _)); exact BK285.out), GE285.out, HR0.out⟩)); (case side2 => repeat (first | (with_reducible first | exact HB.out | apply below_alloc | apply pw_below_drewN | apply below_drew1 | refine below_set ?_ (IsS52.ge HI285.out) | refine below_set ?_ GE284.out) | exact HB.out)); rintro e w5 ⟨v287, rfl, ho0, hi, hb, hk⟩; refine ⟨_, rfl, ?_⟩; have n0_ := Aside0.mk (KeepBut.blk hk (g' := gb284) (o := .cells #[.slice none 0 0, .int .i64 0] 25 (0, 0)) (by (with_reducible repeat (first | refine blk_drewN ?_ _ | refine blk_drew ?_ | refine blk_alloc ?_ _)); exact BK284.out) NB284_285.out (by simp)); have n1_ := Aside0.mk (Kd.Q_lower ho0 (below_size (by repeat (first | (with_reducible first | exact HB.out | apply below_alloc | apply pw_below_drewN | apply below_drew1 | refine below_set ?_ (IsS52.ge HI285.out) | refine below_set ?_ GE284.out) | exact HB.out)))); have n2_ := Aside0.mk (hb); have n3_ := Aside0.mk (hi); clear BK284; clear HB; have BK284 := n0_; have HO288 := n1_; have HB := n2_; have HI285 := n3_; clear n0_ n1_ n2_ n3_; (try clear hb); (try clear hb2); (try clear hk); (try clear hi); (try clear ho0); obtain ⟨Ao6, co6, eo6, _⟩ := Kd.Q_slice HO288.out; subst eo6; have hnb7 := NB284_285.out; have hnc7 := NB285_284.out; have hcz8_0 : w5.cell? ⟨gb284, 0, none⟩ = some (.slice none 0 0) := (blk_cell BK284.out 0).trans rfl; have hcz8_1 : w5.cell? ⟨gb284, 1, none⟩ = some (.int .i64 0) := (blk_cell BK284.out 1).trans rfl; have hfz8_0 := blk_frozen BK284.out 0; have hfz8_1 := blk_frozen BK284.out 1))
  refine bodyPost_ret (results_cell_row rfl _ _ gb284 25 #[.slice Ao6 t286.length co6, .int .i64 t289] (0, 0) _ rfl (by (with_reducible repeat (first | refine blk_drewN ?_ _ | refine blk_drew ?_ | refine blk_alloc ?_ _)); refine blk_put (cs := #[.slice Ao6 t286.length co6, .int .i64 0]) ?_ 1 _ rfl; (with_reducible repeat (first | refine blk_drewN ?_ _ | refine blk_drew ?_ | refine blk_alloc ?_ _)); refine blk_put (cs := #[.slice none 0 0, .int .i64 0]) ?_ 0 _ rfl; (with_reducible repeat (first | refine blk_drewN ?_ _ | refine blk_drew ?_ | refine blk_alloc ?_ _)); exact BK284.out) Try.underlying25 rfl (by kernel_rfl)) rfl ?_
  exact ⟨_, by first | rfl | (simp [errW_none, errW_some] <;> rfl) | (simp [*, errW_none, errW_some] <;> rfl), by (with_reducible repeat (first | apply Kd.Q_alloc | apply Kd.Q_drewN | apply Kd.Q_drew)); exact Kd.Q_mono (Kd.Q_far (p := ⟨gb284, 1, none⟩) (Kd.Q_far (p := ⟨gb284, 0, none⟩) (Kd.Q_types HO288.out BK284.out (by decide)) (fun _ hk => hk.2) (.slice Ao6 t286.length co6)) (fun _ hk => hk.2) (.int .i64 t289)) (fun _ hk => trivial), by repeat (first | (with_reducible first | exact HB.out | apply below_alloc | apply pw_below_drewN | apply below_drew1 | refine below_set ?_ (IsS52.ge HI285.out) | refine below_set ?_ GE284.out) | exact HB.out)⟩

/-! ### spec_DrawHalveSketch: function 22 -/
def spec_DrawHalveSketch.f (k : Nat) (l0 : List Int) : Option (List Int × Int) := (spec_DrawGoodSketch.f k l0).bind fun bt293 => (some (bt293.1, bt293.2))
theorem spec_DrawHalveSketch.mono : ∀ a0 k, LeO (spec_DrawHalveSketch.f k a0) (spec_DrawHalveSketch.f (k + 1) a0) := by
 intro a0 k
 unfold spec_DrawHalveSketch.f
 repeat' first
   | (with_reducible exact spec_DrawGoodSketch.mono _ _)
   | (with_reducible exact LeO.refl _)
   | (with_reducible exact LeO.none _)
   | (with_reducible refine LeO.ite ?_ ?_)
   | (with_reducible refine LeO.bind ?_ (fun _ => ?_))
   | exact spec_DrawGoodSketch.mono _ _
   | exact LeO.none _
   | refine LeO.ite ?_ ?_
   | refine LeO.bind ?_ (fun _ => ?_)
set_option maxHeartbeats 8000000 in
set_option maxRecDepth 100000 in
theorem spec_DrawHalveSketch.calls (k : Nat) (A0 : Option Addr) (c0 : Nat) (l0 : List Int) (r1 : List Int) (r2 : Int) (w : World) (hr0 : Kd.C (Kd.int .u8) w A0 l0.length l0) (hc0 : l0.length ≤ c0) (h : spec_DrawHalveSketch.f k l0 = some (r1, r2)) :
  Calls Try.prog 22 #[.slice A0 l0.length c0] w fun e w' => ∃ v0_ : Value, e = .returned (.agg #[v0_, .int .i64 r2]) ∧ Kd.Q (Kd.int .i64) 3 w' w.heap.size (fun _ => True) v0_ r1 ∧ Below w.heap.size w w' := by
 have hu25 := Try.underlying25
 have HR0 := Aside0.mk hr0
 have HC0 := Aside0.mk hc0
 clear hr0 hc0
 have HB := Aside0.mk (Below.refl w.heap.size w)
 have H : ((spec_DrawGoodSketch.f k l0).bind fun bt293 => (some (bt293.1, bt293.2))) = some (r1, r2) := h
 clear h
 replace H := Option.bind_eq_some_iff.mp H
 obtain ⟨⟨t293, t296⟩, A20, H⟩ := H
 replace H : (some (t293, t296)) = some (r1, r2) := H
 have A2 := Aside0.mk A20
 clear A20
 simp only [Option.some.injEq, Prod.mk.injEq] at H
 obtain ⟨rfl, rfl⟩ := H
 go_enter Try.func22, Try.ntmps22
 go_wp2_with (first | ((with_reducible refine gate_dst (N := 2) rfl ?_); refine xbe_ (N := 2) (cs := #[.slice none 0 0, .int .i64 0]) (t := 25) ?_; intro gb292 hg w3 hbox hb; have BK292 := Aside0.mk (hbox); have GW292 := xge_ HB hg; have GE292 := xge_ HB hg; replace HB := xws_ HB hb; clear hb hbox hg) | ((with_reducible refine gate_callee (f := 40) rfl ?_); refine xgl_ (some 4) Try.func40 #[.slice A0 l0.length c0] ?_; (with_reducible refine (spec_DrawGoodSketch.calls k _ _ l0 t293 t296 _ ?side1 ?side2 A2.out).mono ?_); (case side1 => exact xc_ ((Kd.C_below HR0.out HB.out))); (case side2 => exact HC0.out); rintro e w4 ⟨v294, rfl, ho0, hb⟩; refine ⟨_, rfl, ?_⟩; have HO295 := Aside0.mk (Kd.Q_lower ho0 (below_size (xw_ HB))); replace BK292 := xbb_ BK292 hb; replace HB := xws_ HB hb; (try clear hb); (try clear hb2); (try clear hk); (try clear hi); (try clear ho0); obtain ⟨Ao5, co5, eo5, _⟩ := Kd.Q_slice HO295.out; subst eo5; have hcz6_0 : w4.cell? ⟨gb292, 0, none⟩ = some (.slice none 0 0) := xk_ BK292 0; have hcz6_1 : w4.cell? ⟨gb292, 1, none⟩ = some (.int .i64 0) := xk_ BK292 1; have hfz6_0 := blk_frozen BK292.out 0; have hfz6_1 := blk_frozen BK292.out 1))
 refine bodyPost_ret (results_cell_row rfl _ _ gb292 25 #[.slice Ao5 t293.length co5, .int .i64 t296] (0, 0) _ rfl (by (with_reducible repeat (first | refine blk_drewN ?_ _ | refine blk_drew ?_ | refine blk_alloc ?_ _)); refine blk_put (cs := #[.slice Ao5 t293.length co5, .int .i64 0]) ?_ 1 _ rfl; (with_reducible repeat (first | refine blk_drewN ?_ _ | refine blk_drew ?_ | refine blk_alloc ?_ _)); refine blk_put (cs := #[.slice none 0 0, .int .i64 0]) ?_ 0 _ rfl; (with_reducible repeat (first | refine blk_drewN ?_ _ | refine blk_drew ?_ | refine blk_alloc ?_ _)); exact BK292.out) Try.underlying25 rfl (by kernel_rfl)) rfl ?_
 exact ⟨_, by first | rfl | (simp [errW_none, errW_some] <;> rfl) | (simp [*, errW_none, errW_some] <;> rfl), by (with_reducible repeat (first | apply Kd.Q_alloc | apply Kd.Q_drewN | apply Kd.Q_drew)); exact Kd.Q_mono (Kd.Q_far (p := ⟨gb292, 1, none⟩) (Kd.Q_far (p := ⟨gb292, 0, none⟩) (Kd.Q_types HO295.out BK292.out (by decide)) (fun _ hk => hk.2) (.slice Ao5 t293.length co5)) (fun _ hk => hk.2) (.int .i64 t296)) (fun _ hk => trivial), xw_ HB⟩

/-! ### impl_HalveSketch: function 23 -/
def impl_HalveSketch.l0 : Nat → Int → Int → List Int → Int → Option (List Int × Int × Bool)
 | 0, _, _, _, _ => none
 | k + 1, x17, x18, x304000, x304001 => if x18 < x17 then (if 0 ≤ x18 then (if x18 < (x304000.length : Int) then (impl_HalveSketch.l0 k x17 (wrap64 (x18 + 1)) (x304000.set (x18 : Int).toNat (wrap64 (Int.tdiv (rd x304000 x18) 2))) x304001) else (none)) else (none)) else (if 32 ≤ (x304000.length : Int) then ((impl_sumOf.f k (x304000.take 32)).bind fun t310 => ((impl_GoodSketch.f x304000 t310).bind fun t311 => (if t311 = true then (some (x304000, t310, true)) else (some (([] : List Int), 0, false))))) else (none))
def impl_HalveSketch.f (k : Nat) (l0_0 : List Int) (a0_1 : Int) : Option (List Int × Int × Bool) := (impl_GoodSketch.f l0_0 a0_1).bind fun t299 => (if t299 = true then ((slices_Clone_int_int.f l0_0).bind fun t300 => (impl_HalveSketch.l0 k (t300.length : Int) 0 t300 0)) else (some (([] : List Int), 0, false)))
theorem impl_HalveSketch.mono_l : ∀ k, (∀ y0 y1 y2 y3, LeO (impl_HalveSketch.l0 k y0 y1 y2 y3) (impl_HalveSketch.l0 (k + 1) y0 y1 y2 y3))
 | 0 => fun _ _ _ _ r h => by simp [impl_HalveSketch.l0] at h
 | k + 1 => by
  have ih0 := impl_HalveSketch.mono_l k
  ·intro y0 y1 y2 y3
   unfold impl_HalveSketch.l0
   repeat' first
   | (with_reducible exact ih0 _ _ _ _)
   | (with_reducible exact impl_sumOf.mono _ _)
   | (with_reducible exact LeO.refl _)
   | (with_reducible exact LeO.none _)
   | (with_reducible refine LeO.ite ?_ ?_)
   | (with_reducible refine LeO.bind ?_ (fun _ => ?_))
   | exact ih0 _ _ _ _
   | exact impl_sumOf.mono _ _
   | exact LeO.none _
   | refine LeO.ite ?_ ?_
   | refine LeO.bind ?_ (fun _ => ?_)
theorem impl_HalveSketch.mono : ∀ a0 a1 k, LeO (impl_HalveSketch.f k a0 a1) (impl_HalveSketch.f (k + 1) a0 a1) := by
 intro a0 a1 k
 have ih0 := impl_HalveSketch.mono_l k
 unfold impl_HalveSketch.f
 repeat' first
   | (with_reducible exact ih0 _ _ _ _)
   | (with_reducible exact impl_sumOf.mono _ _)
   | (with_reducible exact LeO.refl _)
   | (with_reducible exact LeO.none _)
   | (with_reducible refine LeO.ite ?_ ?_)
   | (with_reducible refine LeO.bind ?_ (fun _ => ?_))
   | exact ih0 _ _ _ _
   | exact impl_sumOf.mono _ _
   | exact LeO.none _
   | refine LeO.ite ?_ ?_
   | refine LeO.bind ?_ (fun _ => ?_)
set_option maxHeartbeats 8000000 in
set_option maxRecDepth 100000 in
theorem impl_HalveSketch.calls (k : Nat) (A0_0 : Option Addr) (c0_0 : Nat) (l0_0 : List Int) (a0_1 : Int) (r1 : List Int) (r2 : Int) (r3 : Bool) (w : World) (hr0_0 : Kd.C (Kd.int .i64) w A0_0 l0_0.length l0_0) (hc0_0 : l0_0.length ≤ c0_0) (h : impl_HalveSketch.f k l0_0 a0_1 = some (r1, r2, r3)) :
  Calls Try.prog 23 #[.agg #[.slice A0_0 l0_0.length c0_0, .int .i64 a0_1]] w fun e w' => ∃ v0_ : Value, e = .returned (.tuple #[.agg #[v0_, .int .i64 r2], .bool r3]) ∧ Kd.R (Kd.int .i64) 3 w' w.heap.size (fun _ => True) v0_ r1 ∧ Below w.heap.size w w' := by
 have hu25 := Try.underlying25
 have HR0_0 := Aside0.mk hr0_0
 have HC0_0 := Aside0.mk hc0_0
 clear hr0_0 hc0_0
 have HB := Aside0.mk (Below.refl w.heap.size w)
 have H : ((impl_GoodSketch.f l0_0 a0_1).bind fun t299 => (if t299 = true then ((slices_Clone_int_int.f l0_0).bind fun t300 => (impl_HalveSketch.l0 k (t300.length : Int) 0 t300 0)) else (some (([] : List Int), 0, false)))) = some (r1, r2, r3) := h
 clear h
 replace H := Option.bind_eq_some_iff.mp H
 obtain ⟨t299, A20, H⟩ := H
 replace H : (if t299 = true then ((slices_Clone_int_int.f l0_0).bind fun t300 => (impl_HalveSketch.l0 k (t300.length : Int) 0 t300 0)) else (some (([] : List Int), 0, false))) = some (r1, r2, r3) := H
 have A2 := Aside0.mk A20
 clear A20
 by_cases c3 : t299 = true
 ·subst c3
  have H1 : ((slices_Clone_int_int.f l0_0).bind fun t300 => (impl_HalveSketch.l0 k (t300.length : Int) 0 t300 0)) = some (r1, r2, r3) := by rw [if_pos rfl] at H; exact H
  clear H
  have H := H1
  clear H1
  replace H := Option.bind_eq_some_iff.mp H
  obtain ⟨t300, A40, H⟩ := H
  replace H : (impl_HalveSketch.l0 k (t300.length : Int) 0 t300 0) = some (r1, r2, r3) := H
  have A4 := Aside0.mk A40
  clear A40
  have H' := Aside0.mk H
  clear H
  go_enter Try.func23, Try.ntmps23
  go_wp2_with (first | ((with_reducible refine gate_dst (N := 1) rfl ?_); refine xbe_ (N := 1) (cs := #[.slice A0_0 l0_0.length c0_0, .int .i64 a0_1]) (t := 25) ?_; intro gb297 hg w5 hbox hb; have BK297 := Aside0.mk (hbox); have GW297 := xge_ HB hg; have GE297 := xge_ HB hg; replace HB := xws_ HB hb; clear hb hbox hg) | ((with_reducible refine gate_dst (N := 2) rfl ?_); refine xbe_ (N := 2) (cs := #[.slice none 0 0, .int .i64 0]) (t := 25) ?_; intro gb298 hg w6 hbox hb; have BK298 := Aside0.mk (hbox); have GW298 := xge_ HB hg; have GE298 := xge_ HB hg; replace HB := xws_ HB hb; have NB297_298 := xlt_ BK297 hg; have NB298_297 := xgt_ BK297 hg; replace BK297 := xbb_ BK297 hb; clear hb hbox hg; have hnb7 := NB297_298.out; have hnc7 := NB298_297.out; have hcz8_0 : w6.cell? ⟨gb297, 0, none⟩ = some (.slice A0_0 l0_0.length c0_0) := xk_ BK297 0; have hcz8_1 : w6.cell? ⟨gb297, 1, none⟩ = some (.int .i64 a0_1) := xk_ BK297 1; have hfz8_0 := blk_frozen BK297.out 0; have hfz8_1 := blk_frozen BK297.out 1) | ((with_reducible refine gate_callee (f := 9) rfl ?_); refine xgl_ (some 8) Try.func9 #[.agg #[.slice A0_0 l0_0.length c0_0, .int .i64 a0_1]] ?_; (with_reducible refine (impl_GoodSketch.calls _ _ l0_0 a0_1 true _ ?side1 ?side2 A2.out).mono ?_); (case side1 => exact xc_ ((Kd.C_below HR0_0.out HB.out))); (case side2 => exact HC0_0.out); rintro e w9 ⟨rfl, hb⟩; refine ⟨_, rfl, ?_⟩; replace BK297 := xbb_ BK297 hb; replace BK298 := xbb_ BK298 hb; replace HB := xws_ HB hb; (try clear hb); (try clear hb2); (try clear hk); (try clear hi); have hcz10_0 : w9.cell? ⟨gb297, 0, none⟩ = some (.slice A0_0 l0_0.length c0_0) := xk_ BK297 0; have hcz10_1 : w9.cell? ⟨gb297, 1, none⟩ = some (.int .i64 a0_1) := xk_ BK297 1; have hfz10_0 := blk_frozen BK297.out 0; have hfz10_1 := blk_frozen BK297.out 1) | ((with_reducible refine gate_callee (f := 30) rfl ?_); refine xgl_ (some 13) Try.func30 #[.slice A0_0 l0_0.length c0_0] ?_; (with_reducible refine (slices_Clone_int_int.calls _ _ l0_0 t300 _ ?side1 ?side2 A4.out).mono ?_); (case side1 => exact xc_ ((Kd.C_below HR0_0.out HB.out))); (case side2 => exact HC0_0.out); rintro e w11 ⟨v301, rfl, ho0, hb⟩; refine ⟨_, rfl, ?_⟩; have HO302 := Aside0.mk (Kd.R_lower ho0 (below_size (xw_ HB))); replace BK297 := xbb_ BK297 hb; replace BK298 := xbb_ BK298 hb; replace HB := xws_ HB hb; (try clear hb); (try clear hb2); (try clear hk); (try clear hi); (try clear ho0); obtain ⟨Ao12, co12, eo12⟩ := Kd.R_slice HO302.out; subst eo12) | ((with_reducible refine gate_dst (N := 4) rfl ?_); refine xbe_ (N := 4) (cs := #[.slice none 0 0, .int .i64 0]) (t := 25) ?_; intro gb303 hg w13 hbox hb; replace HO302 := xrb_ HO302 hb; have BK303 := Aside0.mk (hbox); have GW303 := xge_ HB hg; have GE303 := xge_ HB hg; replace HB := xws_ HB hb; have NB297_303 := xlt_ BK297 hg; have NB303_297 := xgt_ BK297 hg; replace BK297 := xbb_ BK297 hb; have NB298_303 := xlt_ BK298 hg; have NB303_298 := xgt_ BK298 hg; replace BK298 := xbb_ BK298 hb; clear hb hbox hg; have hnb14 := NB303_297.out; have hnc14 := NB297_303.out; have hnb15 := NB303_298.out; have hnc15 := NB298_303.out; have hcz16_0 : w13.cell? ⟨gb303, 0, none⟩ = some (.slice none 0 0) := xk_ BK303 0; have hcz16_1 : w13.cell? ⟨gb303, 1, none⟩ = some (.int .i64 0) := xk_ BK303 1; have hfz16_0 := blk_frozen BK303.out 0; have hfz16_1 := blk_frozen BK303.out 1))
  go_loopg [18] k (fun kq v18 w' => ∃ (x18_1 : Int) (x304000_1 : List Int) (u304000 : Value), v18 = .int .i64 x18_1 ∧ Aside0 (u304000 = (.slice Ao12 t300.length co12)) ∧ Aside0 (impl_HalveSketch.l0 kq (t300.length : Int) x18_1 x304000_1 0 = some (r1, r2, r3)) ∧ Aside0 (kq ≤ k) ∧ Aside0 (Kd.R (Kd.int .i64) 3 w' w.heap.size (fun _ => True) u304000 x304000_1) ∧ Aside0 (w'.heap[gb297]? = some (.cells #[(.slice A0_0 l0_0.length c0_0), .int .i64 a0_1] 25 (0, 0))) ∧ Aside0 (w'.heap[gb298]? = some (.cells #[(.slice none 0 0), .int .i64 0] 25 (0, 0))) ∧ Aside0 (w'.heap[gb303]? = some (.cells #[u304000, .int .i64 0] 25 (0, 0))) ∧ Aside0 (Below w.heap.size w w'))
  case atStart => exact ⟨(0), (t300), (.slice Ao12 t300.length co12), (by first | rfl | (simp; done) | (simp [*]; done)), ⟨rfl⟩, H', ⟨Nat.le_refl _⟩, ⟨xrt_ (Kd.R_mono (Kd.R_far (p := ⟨gb303, 1, none⟩) (Kd.R_far (p := ⟨gb303, 0, none⟩) (Kd.R_types HO302.out BK303.out (by decide)) (fun _ hk => hk.2) (.slice Ao12 t300.length co12)) (fun _ hk => hk.2) (.int .i64 0)) (fun _ hk => trivial))⟩, ⟨by (with_reducible repeat (first | refine blk_drewN ?_ _ | refine blk_drew ?_ | refine blk_alloc ?_ _)); refine blk_far ?_ NB297_303.out _; (with_reducible repeat (first | refine blk_drewN ?_ _ | refine blk_drew ?_ | refine blk_alloc ?_ _)); refine blk_far ?_ NB297_303.out _; (with_reducible repeat (first | refine blk_drewN ?_ _ | refine blk_drew ?_ | refine blk_alloc ?_ _)); exact BK297.out⟩, ⟨by (with_reducible repeat (first | refine blk_drewN ?_ _ | refine blk_drew ?_ | refine blk_alloc ?_ _)); refine blk_far ?_ NB298_303.out _; (with_reducible repeat (first | refine blk_drewN ?_ _ | refine blk_drew ?_ | refine blk_alloc ?_ _)); refine blk_far ?_ NB298_303.out _; (with_reducible repeat (first | refine blk_drewN ?_ _ | refine blk_drew ?_ | refine blk_alloc ?_ _)); exact BK298.out⟩, ⟨by (with_reducible repeat (first | refine blk_drewN ?_ _ | refine blk_drew ?_ | refine blk_alloc ?_ _)); refine blk_put (cs := #[.slice Ao12 t300.length co12, .int .i64 0]) ?_ 1 _ rfl; (with_reducible repeat (first | refine blk_drewN ?_ _ | refine blk_drew ?_ | refine blk_alloc ?_ _)); refine blk_put (cs := #[.slice none 0 0, .int .i64 0]) ?_ 0 _ rfl; (with_reducible repeat (first | refine blk_drewN ?_ _ | refine blk_drew ?_ | refine blk_alloc ?_ _)); exact BK303.out⟩, ⟨xw_ HB⟩⟩
  case round =>
   clear H'
   try clear c1
   try clear c2
   try clear p2
   try clear c3
   try clear c7
   try clear c9
   try clear c14
   try clear c15
   try clear hcz10_0
   try clear hcz10_1
   try clear hcz16_0
   try clear hcz16_1
   try clear hcz8_0
   try clear hcz8_1
   try clear hfz10_0
   try clear hfz10_1
   try clear hfz16_0
   try clear hfz16_1
   try clear hfz8_0
   try clear hfz8_1
   obtain ⟨x18_1, x304000_1, u304000, rfl, HU, HA, HK1, HO_304000, BK297, BK298, BK303, HB⟩ := hrel
   cases gk with
   | zero => exact absurd HA.out (by simp [impl_HalveSketch.l0])
   | succ k1 =>
    have H := HA.out
    clear HA
    simp only [impl_HalveSketch.l0] at H
    by_cases c17 : x18_1 < (t300.length : Int)
    ·rw [if_pos c17] at H
     have c17b0 : decide (x18_1 < (t300.length : Int)) = true := decide_eq_true c17
     clear c17
     by_cases c18 : 0 ≤ x18_1
     ·rw [if_pos c18] at H
      have c18b0 : decide (0 ≤ x18_1) = true := decide_eq_true c18
      clear c18
      by_cases c19 : x18_1 < (x304000_1.length : Int)
      ·rw [if_pos c19] at H
       have c19b0 : decide (x18_1 < (x304000_1.length : Int)) = true := decide_eq_true c19
       clear c19
       obtain ⟨y305, hy305⟩ : ∃ y_ : List Int, y_ = (x304000_1.set (x18_1 : Int).toNat (wrap64 (Int.tdiv (rd x304000_1 x18_1) 2))) := ⟨_, rfl⟩
       replace H : (impl_HalveSketch.l0 k1 (t300.length : Int) (wrap64 (x18_1 + 1)) y305 0) = some (r1, r2, r3) := by first | (rw [hy305]; with_reducible exact H) | (have H2_ := (Option.bind_some _ _).symm.trans H; rw [hy305]; with_reducible exact H2_) | (have H2_ := (Option.bind_some _ _).symm.trans H; with_reducible exact H2_) | with_reducible exact H | (rw [hy305]; exact H) | exact H
       have Ny305 := Aside0.mk hy305
       clear hy305
       have H' := Aside0.mk H
       clear H
       obtain ⟨Ao21, co21, eo21⟩ := Kd.R_slice HO_304000.out
       subst eo21
       have HU2 := HU.out
       clear HU
       injection HU2 with e1_ e2_ e3_
       subst e1_
       subst e3_
       have HL_ := Aside0.mk e2_
       have qL_ : (x18_1 < (t300.length : Int)) = True := eq_true (of_decide_eq_true (by assumption))
       clear e2_
       have p304 : 0 ≤ (x18_1 : Int) := of_decide_eq_true (by first | (with_reducible assumption) | assumption)
       have q304 : x18_1 < (x304000_1.length : Int) := of_decide_eq_true (by first | (with_reducible assumption) | assumption)
       obtain ⟨ad304, e304, hx304_0⟩ := Kd.at_int (Kd.R_reads' HO_304000.out).2.2 x18_1 p304 q304
       cases e304
       replace p304 := eq_true p304
       replace q304 := eq_true q304
       have hnb22 := NB303_297.out
       have hnc22 := NB297_303.out
       have hnb23 := NB303_298.out
       have hnc23 := NB298_303.out
       have hcz24_0 : wr.cell? ⟨gb303, 0, none⟩ = some (.slice (some ad304) x304000_1.length co21) := xk_ BK303 0
       have hcz24_1 : wr.cell? ⟨gb303, 1, none⟩ = some (.int .i64 0) := xk_ BK303 1
       have hfz24_0 := blk_frozen BK303.out 0
       have hfz24_1 := blk_frozen BK303.out 1
       have p20 : 0 ≤ (x18_1 : Int) := of_decide_eq_true (by first | (with_reducible assumption) | assumption)
       have q20 : (x18_1 : Int) < ((x304000_1.length : Int) : Int) := of_decide_eq_true (by first | (with_reducible assumption) | assumption)
       obtain ⟨go20, co20, eo20, gb20, gl20, cl20, HG20⟩ := Kd.R_form HO_304000.out (by omega)
       (first | cases eo20 | (injection eo20 with ea_ en_ ec_; (first | subst ea_ | (injection ea_ with ea_; subst ea_)); subst ec_; clear en_))
       have GB20 := Aside0.mk gb20
       have GG20 := Aside0.mk HG20
       clear gb20 gl20 HG20
       (first | simp only [add_plain] at hx304_0 | skip)
       obtain ⟨hx20_0, hf20_0⟩ := Kd.R_celln 0 HO_304000.out (x18_1 : Int) p20 q20
       replace p20 := eq_true p20
       replace q20 := eq_true q20
       have HP25 := Kd.R_putg HO_304000.out (x18_1 : Int) (wrap64 (Int.tdiv (rd x304000_1 x18_1) 2))
       go_wp2_with (first | ((with_reducible refine gate_store (t := 3) (p := 28) rfl ?_); refine store_event (t := 3) (p := 28) (v := ?vo_w26) (w1 := (wr.setCell ⟨go20, (x18_1 : Int).toNat, none⟩ (.int .i64 (wrap64 (Int.tdiv (rd x304000_1 x18_1) 2))))) ?hg ?ho ?hn ?hr ?_; (case ho => rfl); (case hg => rfl); (case hn => rfl); (case hr => first | (go_simp; done) | (go_simp; rfl)); intro w26 hw; have hg : wr.grownBy w26 (some go20) := (by rw [hw]; exact HP25.2); have hp_ : Kd.R (Kd.int .i64) 3 w26 w.heap.size (fun _ => True) (.slice (some ⟨go20, 0, none⟩) x304000_1.length co21) y305 := (by rw [hw, Ny305.out]; exact HP25.1); clear HP25; replace BK297 := Aside0.mk (blk_grown (g := gb297) (o := .cells #[.slice A0_0 l0_0.length c0_0, .int .i64 a0_1] 25 (0, 0)) (xb_ BK297) hg (Kd.R_ne HO_304000.out BK297.out (by decide))); replace BK298 := Aside0.mk (blk_grown (g := gb298) (o := .cells #[.slice none 0 0, .int .i64 0] 25 (0, 0)) (xb_ BK298) hg (Kd.R_ne HO_304000.out BK298.out (by decide))); replace BK303 := Aside0.mk (blk_grown (g := gb303) (o := .cells #[.slice (some ⟨go20, 0, none⟩) x304000_1.length co21, .int .i64 0] 25 (0, 0)) (xb_ BK303) hg (Kd.R_ne HO_304000.out BK303.out (by decide))); replace HO_304000 := Aside0.mk (hp_); replace HB := Aside0.mk ((by rw [hw]; exact below_set (HB.out) GB20.out : Below w.heap.size w w26)); clear hg hw hp_))
       go_roundg k1
       case measure => have := HK1.out; omega
       case rel => exact ⟨(wrap64 (x18_1 + 1)), (y305), (.slice (some ⟨go20, 0, none⟩) x304000_1.length co21), (by first | rfl | (simp; done) | (simp [*]; done)), ⟨by rw [HL_.out]⟩, H', ⟨by have := HK1.out; omega⟩, ⟨xr_ HO_304000⟩, ⟨xb_ BK297⟩, ⟨xb_ BK298⟩, ⟨xb_ BK303⟩, ⟨xw_ HB⟩⟩
      ·rw [if_neg c19] at H
       exact absurd H (by simp)
     ·rw [if_neg c18] at H
      exact absurd H (by simp)
    ·rw [if_neg c17] at H
     have c17b0 : decide (x18_1 < (t300.length : Int)) = false := decide_eq_false c17
     clear c17
     by_cases c27 : 32 ≤ (x304000_1.length : Int)
     ·rw [if_pos c27] at H
      have c27b0 := eq_true c27
      have c27b1 : decide (32 ≤ (x304000_1.length : Int)) = true := decide_eq_true c27
      clear c27
      obtain ⟨y306, hy306⟩ : ∃ y_ : List Int, y_ = (x304000_1.take 32) := ⟨_, rfl⟩
      replace H : ((impl_sumOf.f k1 y306).bind fun t310 => ((impl_GoodSketch.f x304000_1 t310).bind fun t311 => (if t311 = true then (some (x304000_1, t310, true)) else (some (([] : List Int), 0, false))))) = some (r1, r2, r3) := by first | (rw [hy306]; with_reducible exact H) | (have H2_ := (Option.bind_some _ _).symm.trans H; rw [hy306]; with_reducible exact H2_) | (have H2_ := (Option.bind_some _ _).symm.trans H; with_reducible exact H2_) | with_reducible exact H | (rw [hy306]; exact H) | exact H
      have Ny306 := Aside0.mk hy306
      clear hy306
      replace H := Option.bind_eq_some_iff.mp H
      obtain ⟨t310, A280, H⟩ := H
      replace H : ((impl_GoodSketch.f x304000_1 t310).bind fun t311 => (if t311 = true then (some (x304000_1, t310, true)) else (some (([] : List Int), 0, false)))) = some (r1, r2, r3) := H
      have A28 := Aside0.mk A280
      clear A280
      replace H := Option.bind_eq_some_iff.mp H
      obtain ⟨t311, A290, H⟩ := H
      replace H : (if t311 = true then (some (x304000_1, t310, true)) else (some (([] : List Int), 0, false))) = some (r1, r2, r3) := H
      have A29 := Aside0.mk A290
      clear A290
      by_cases c30 : t311 = true
      ·subst c30
       have H1 : (some (x304000_1, t310, true)) = some (r1, r2, r3) := by rw [if_pos rfl] at H; exact H
       clear H
       have H := H1
       clear H1
       simp only [Option.some.injEq, Prod.mk.injEq] at H
       obtain ⟨rfl, rfl, rfl⟩ := H
       have hnb31 := NB303_297.out
       have hnc31 := NB297_303.out
       have hnb32 := NB303_298.out
       have hnc32 := NB298_303.out
       have hcz33_0 : wr.cell? ⟨gb303, 0, none⟩ = some (u304000) := xk_ BK303 0
       have hcz33_1 : wr.cell? ⟨gb303, 1, none⟩ = some (.int .i64 0) := xk_ BK303 1
       have hfz33_0 := blk_frozen BK303.out 0
       have hfz33_1 := blk_frozen BK303.out 1
       obtain ⟨Ao35, co35, eo35⟩ := Kd.R_slice HO_304000.out
       subst eo35
       have q34 : (32 : Int) ≤ ((x304000_1.length : Int) : Int) := of_decide_eq_true (by first | (with_reducible assumption) | assumption)
       obtain ⟨i034, hi034, _, hsz34, _⟩ := info_parts info3
       have hroom34 : x304000_1.length ≤ co35 := (Kd.R_reads' HO_304000.out).2.1
       have hC34 : Kd.C (Kd.int .i64) _ Ao35 x304000_1.length x304000_1 := (Kd.R_reads' HO_304000.out).2.2
       have hcut34 := cut_to (P := Try.prog) 23 3 .i64 Try.underlying23 hi034 Ao35 x304000_1.length co35 32 (by omega) q34 hroom34
       have hr34 := Kd.C_take (m := 32) hC34 (by omega)
       have hy34 : y306.length = (32 : Int).toNat := (by rw [Ny306.out, List.length_take]; omega)
       rw [← Ny306.out] at hr34
       rw [← hy34] at hcut34
       have HR309 := Aside0.mk hr34
       have HC309 := Aside0.mk (show y306.length ≤ co35 from by omega)
       clear hr34 hC34 hroom34 hi034 hsz34
       have KY34 := Aside0.mk hy34
       clear hy34
       have KL34 := Aside0.mk (show 32 ≤ x304000_1.length from by omega)
       replace q34 := eq_true q34
       go_wp2_with (first | ((with_reducible refine gate_callee (f := 38) rfl ?_); refine xgl_ (some 33) Try.func38 #[.slice Ao35 y306.length co35] ?_; (with_reducible refine (impl_sumOf.calls k1 _ _ y306 t310 _ ?side1 ?side2 A28.out).mono ?_); (case side1 => repeat (first | exact (by repeat (first | (with_reducible exact HR309.out) | (with_reducible refine Kd.C_alloc ?_ _) | (with_reducible refine Kd.C_drewN ?_ _) | (with_reducible refine Kd.C_drew ?_) | exact HR309.out)) | (with_reducible refine Kd.C_alloc ?_ _) | (with_reducible refine Kd.C_drewN ?_ _) | (with_reducible refine Kd.C_drew ?_))); (case side2 => exact HC309.out); rintro e w' ⟨rfl, ⟨nd, rfl⟩⟩; refine ⟨_, rfl, ?_⟩; (try (rw [drewN_self wr]; generalize hq_ : World.drewN wr _ = wr; have n0_ : Aside0 (Kd.R (Kd.int .i64) 3 wr w.heap.size (fun _ => True) (.slice Ao35 x304000_1.length co35) x304000_1) := ⟨by rw [← hq_]; exact (xr_ HO_304000)⟩; have n1_ : Aside0 (wr.heap[gb297]? = some (.cells #[.slice A0_0 l0_0.length c0_0, .int .i64 a0_1] 25 (0, 0))) := ⟨by rw [← hq_]; exact (xb_ BK297)⟩; have n2_ : Aside0 (wr.heap[gb298]? = some (.cells #[.slice none 0 0, .int .i64 0] 25 (0, 0))) := ⟨by rw [← hq_]; exact (xb_ BK298)⟩; have n3_ : Aside0 (wr.heap[gb303]? = some (.cells #[.slice Ao35 x304000_1.length co35, .int .i64 0] 25 (0, 0))) := ⟨by rw [← hq_]; exact (xb_ BK303)⟩; have n4_ : Aside0 (Below w.heap.size w wr) := ⟨by rw [← hq_]; exact (xw_ HB)⟩; have n5_ : Aside0 (Kd.C (Kd.int .i64) wr Ao35 y306.length y306) := ⟨by rw [← hq_]; exact (by repeat (first | (with_reducible exact HR309.out) | (with_reducible refine Kd.C_alloc ?_ _) | (with_reducible refine Kd.C_drewN ?_ _) | (with_reducible refine Kd.C_drew ?_) | exact HR309.out))⟩; clear HO_304000 BK297 BK298 BK303 HB HR309 hq_; have HO_304000 := n0_; have BK297 := n1_; have BK298 := n2_; have BK303 := n3_; have HB := n4_; have HR309 := n5_; clear n0_ n1_ n2_ n3_ n4_ n5_; have hcw33_0 : wr.cell? ⟨gb303, 0, none⟩ = some (u304000) := xk_ BK303 0; have hcw33_1 : wr.cell? ⟨gb303, 1, none⟩ = some (.int .i64 0) := xk_ BK303 1; have hfw33_0 := blk_frozen BK303.out 0; have hfw33_1 := blk_frozen BK303.out 1))) | ((with_reducible refine gate_callee (f := 9) rfl ?_); refine xgl_ (some 36) Try.func9 #[.agg #[.slice Ao35 x304000_1.length co35, .int .i64 t310]] ?_; (with_reducible refine (impl_GoodSketch.calls _ _ x304000_1 t310 true _ ?side1 ?side2 A29.out).mono ?_); (case side1 => refine (Kd.R_reads' (e := 3) (base := w.heap.size) (ok := fun k_ => True) (n := x304000_1.length) (c := co35) ?_).2.2; exact (xrt_ ((Kd.R_mono (Kd.R_far (p := ⟨gb303, 1, none⟩) (Kd.R_types HO_304000.out BK303.out (by decide)) (fun _ hk => hk.2) (.int .i64 t310)) (fun _ h_ => h_.1))))); (case side2 => exact (Kd.R_reads' HO_304000.out).2.1); rintro e w36 ⟨rfl, hb⟩; refine ⟨_, rfl, ?_⟩; replace HO_304000 := Aside0.mk (Kd.R_below (xrt_ ((Kd.R_mono (Kd.R_far (p := ⟨gb303, 1, none⟩) (Kd.R_types HO_304000.out BK303.out (by decide)) (fun _ hk => hk.2) (.int .i64 t310)) (fun _ h_ => h_.1)))) hb); replace BK297 := Aside0.mk (blk_below (g := gb297) (o := .cells #[.slice A0_0 l0_0.length c0_0, .int .i64 a0_1] 25 (0, 0)) (by (with_reducible repeat (first | refine blk_drewN ?_ _ | refine blk_drew ?_ | refine blk_alloc ?_ _)); refine blk_far ?_ NB297_303.out _; (with_reducible repeat (first | refine blk_drewN ?_ _ | refine blk_drew ?_ | refine blk_alloc ?_ _)); exact BK297.out) hb); replace BK298 := Aside0.mk (blk_below (g := gb298) (o := .cells #[.slice none 0 0, .int .i64 0] 25 (0, 0)) (by (with_reducible repeat (first | refine blk_drewN ?_ _ | refine blk_drew ?_ | refine blk_alloc ?_ _)); refine blk_far ?_ NB298_303.out _; (with_reducible repeat (first | refine blk_drewN ?_ _ | refine blk_drew ?_ | refine blk_alloc ?_ _)); exact BK298.out) hb); replace BK303 := Aside0.mk (blk_below (g := gb303) (o := .cells #[.slice Ao35 x304000_1.length co35, .int .i64 t310] 25 (0, 0)) (by (with_reducible repeat (first | refine blk_drewN ?_ _ | refine blk_drew ?_ | refine blk_alloc ?_ _)); refine blk_put (cs := #[.slice Ao35 x304000_1.length co35, .int .i64 0]) ?_ 1 _ rfl; (with_reducible repeat (first | refine blk_drewN ?_ _ | refine blk_drew ?_ | refine blk_alloc ?_ _)); exact BK303.out) hb); replace HB := xws_ HB hb; (try clear hb); (try clear hb2); (try clear hk); (try clear hi); have hcz37_0 : w36.cell? ⟨gb303, 0, none⟩ = some (.slice Ao35 x304000_1.length co35) := xk_ BK303 0; have hcz37_1 : w36.cell? ⟨gb303, 1, none⟩ = some (.int .i64 t310) := xk_ BK303 1; have hfz37_0 := blk_frozen BK303.out 0; have hfz37_1 := blk_frozen BK303.out 1; have hnb38 := NB298_297.out; have hnc38 := NB297_298.out; have hcz39_0 : w36.cell? ⟨gb298, 0, none⟩ = some (.slice none 0 0) := xk_ BK298 0; have hcz39_1 : w36.cell? ⟨gb298, 1, none⟩ = some (.int .i64 0) := xk_ BK298 1; have hfz39_0 := blk_frozen BK298.out 0; have hfz39_1 := blk_frozen BK298.out 1))
       refine bodyPost_ret (results_ct rfl _ _ gb298 25 #[.slice Ao35 x304000_1.length co35, .int .i64 t310] (0, 0) _ rfl (by (with_reducible repeat (first | refine blk_drewN ?_ _ | refine blk_drew ?_ | refine blk_alloc ?_ _)); refine blk_put (cs := #[.slice Ao35 x304000_1.length co35, .int .i64 0]) ?_ 1 _ rfl; (with_reducible repeat (first | refine blk_drewN ?_ _ | refine blk_drew ?_ | refine blk_alloc ?_ _)); refine blk_put (cs := #[.slice none 0 0, .int .i64 0]) ?_ 0 _ rfl; (with_reducible repeat (first | refine blk_drewN ?_ _ | refine blk_drew ?_ | refine blk_alloc ?_ _)); exact BK298.out) Try.underlying25 rfl (by kernel_rfl)) rfl ?_
       exact ⟨_, by first | rfl | (simp [errW_none, errW_some] <;> rfl) | (simp [*, errW_none, errW_some] <;> rfl), by (with_reducible repeat (first | apply Kd.R_alloc | apply Kd.R_drewN | apply Kd.R_drew)); exact Kd.R_mono (Kd.R_far (p := ⟨gb298, 1, none⟩) (Kd.R_far (p := ⟨gb298, 0, none⟩) (Kd.R_types HO_304000.out BK298.out (by decide)) (fun _ hk => hk.2) (.slice Ao35 x304000_1.length co35)) (fun _ hk => hk.2) (.int .i64 t310)) (fun _ hk => trivial), xw_ HB⟩
      ·replace c30 := Bool.eq_false_iff.mpr c30
       subst c30
       have H1 : (some (([] : List Int), 0, false)) = some (r1, r2, r3) := by rw [if_neg (show ¬ (false = true) by decide)] at H; exact H
       clear H
       have H := H1
       clear H1
       simp only [Option.some.injEq, Prod.mk.injEq] at H
       obtain ⟨rfl, rfl, rfl⟩ := H
       have hnb40 := NB303_297.out
       have hnc40 := NB297_303.out
       have hnb41 := NB303_298.out
       have hnc41 := NB298_303.out
       have hcz42_0 : wr.cell? ⟨gb303, 0, none⟩ = some (u304000) := xk_ BK303 0
       have hcz42_1 : wr.cell? ⟨gb303, 1, none⟩ = some (.int .i64 0) := xk_ BK303 1
       have hfz42_0 := blk_frozen BK303.out 0
       have hfz42_1 := blk_frozen BK303.out 1
       obtain ⟨Ao44, co44, eo44⟩ := Kd.R_slice HO_304000.out
       subst eo44
       have q43 : (32 : Int) ≤ ((x304000_1.length : Int) : Int) := of_decide_eq_true (by first | (with_reducible assumption) | assumption)
       obtain ⟨i043, hi043, _, hsz43, _⟩ := info_parts info3
       have hroom43 : x304000_1.length ≤ co44 := (Kd.R_reads' HO_304000.out).2.1
       have hC43 : Kd.C (Kd.int .i64) _ Ao44 x304000_1.length x304000_1 := (Kd.R_reads' HO_304000.out).2.2
       have hcut43 := cut_to (P := Try.prog) 23 3 .i64 Try.underlying23 hi043 Ao44 x304000_1.length co44 32 (by omega) q43 hroom43
       have hr43 := Kd.C_take (m := 32) hC43 (by omega)
       have hy43 : y306.length = (32 : Int).toNat := (by rw [Ny306.out, List.length_take]; omega)
       rw [← Ny306.out] at hr43
       rw [← hy43] at hcut43
       have HR309 := Aside0.mk hr43
       have HC309 := Aside0.mk (show y306.length ≤ co44 from by omega)
       clear hr43 hC43 hroom43 hi043 hsz43
       have KY43 := Aside0.mk hy43
       clear hy43
       have KL43 := Aside0.mk (show 32 ≤ x304000_1.length from by omega)
       replace q43 := eq_true q43
       go_wp2_with (first | ((with_reducible refine gate_callee (f := 38) rfl ?_); refine xgl_ (some 33) Try.func38 #[.slice Ao44 y306.length co44] ?_; (with_reducible refine (impl_sumOf.calls k1 _ _ y306 t310 _ ?side1 ?side2 A28.out).mono ?_); (case side1 => repeat (first | exact (by repeat (first | (with_reducible exact HR309.out) | (with_reducible refine Kd.C_alloc ?_ _) | (with_reducible refine Kd.C_drewN ?_ _) | (with_reducible refine Kd.C_drew ?_) | exact HR309.out)) | (with_reducible refine Kd.C_alloc ?_ _) | (with_reducible refine Kd.C_drewN ?_ _) | (with_reducible refine Kd.C_drew ?_))); (case side2 => exact HC309.out); rintro e w' ⟨rfl, ⟨nd, rfl⟩⟩; refine ⟨_, rfl, ?_⟩; (try (rw [drewN_self wr]; generalize hq_ : World.drewN wr _ = wr; have n0_ : Aside0 (Kd.R (Kd.int .i64) 3 wr w.heap.size (fun _ => True) (.slice Ao44 x304000_1.length co44) x304000_1) := ⟨by rw [← hq_]; exact (xr_ HO_304000)⟩; have n1_ : Aside0 (wr.heap[gb297]? = some (.cells #[.slice A0_0 l0_0.length c0_0, .int .i64 a0_1] 25 (0, 0))) := ⟨by rw [← hq_]; exact (xb_ BK297)⟩; have n2_ : Aside0 (wr.heap[gb298]? = some (.cells #[.slice none 0 0, .int .i64 0] 25 (0, 0))) := ⟨by rw [← hq_]; exact (xb_ BK298)⟩; have n3_ : Aside0 (wr.heap[gb303]? = some (.cells #[.slice Ao44 x304000_1.length co44, .int .i64 0] 25 (0, 0))) := ⟨by rw [← hq_]; exact (xb_ BK303)⟩; have n4_ : Aside0 (Below w.heap.size w wr) := ⟨by rw [← hq_]; exact (xw_ HB)⟩; have n5_ : Aside0 (Kd.C (Kd.int .i64) wr Ao44 y306.length y306) := ⟨by rw [← hq_]; exact (by repeat (first | (with_reducible exact HR309.out) | (with_reducible refine Kd.C_alloc ?_ _) | (with_reducible refine Kd.C_drewN ?_ _) | (with_reducible refine Kd.C_drew ?_) | exact HR309.out))⟩; clear HO_304000 BK297 BK298 BK303 HB HR309 hq_; have HO_304000 := n0_; have BK297 := n1_; have BK298 := n2_; have BK303 := n3_; have HB := n4_; have HR309 := n5_; clear n0_ n1_ n2_ n3_ n4_ n5_; have hcw33_0 : wr.cell? ⟨gb303, 0, none⟩ = some (u304000) := xk_ BK303 0; have hcw33_1 : wr.cell? ⟨gb303, 1, none⟩ = some (.int .i64 0) := xk_ BK303 1; have hfw33_0 := blk_frozen BK303.out 0; have hfw33_1 := blk_frozen BK303.out 1; have hcw42_0 : wr.cell? ⟨gb303, 0, none⟩ = some (u304000) := xk_ BK303 0; have hcw42_1 : wr.cell? ⟨gb303, 1, none⟩ = some (.int .i64 0) := xk_ BK303 1; have hfw42_0 := blk_frozen BK303.out 0; have hfw42_1 := blk_frozen BK303.out 1))) | ((with_reducible refine gate_callee (f := 9) rfl ?_); refine xgl_ (some 36) Try.func9 #[.agg #[.slice Ao44 x304000_1.length co44, .int .i64 t310]] ?_; (with_reducible refine (impl_GoodSketch.calls _ _ x304000_1 t310 false _ ?side1 ?side2 A29.out).mono ?_); (case side1 => refine (Kd.R_reads' (e := 3) (base := w.heap.size) (ok := fun k_ => True) (n := x304000_1.length) (c := co44) ?_).2.2; exact (xrt_ ((Kd.R_mono (Kd.R_far (p := ⟨gb303, 1, none⟩) (Kd.R_types HO_304000.out BK303.out (by decide)) (fun _ hk => hk.2) (.int .i64 t310)) (fun _ h_ => h_.1))))); (case side2 => exact (Kd.R_reads' HO_304000.out).2.1); rintro e w45 ⟨rfl, hb⟩; refine ⟨_, rfl, ?_⟩; replace HO_304000 := Aside0.mk (Kd.R_below (xrt_ ((Kd.R_mono (Kd.R_far (p := ⟨gb303, 1, none⟩) (Kd.R_types HO_304000.out BK303.out (by decide)) (fun _ hk => hk.2) (.int .i64 t310)) (fun _ h_ => h_.1)))) hb); replace BK297 := Aside0.mk (blk_below (g := gb297) (o := .cells #[.slice A0_0 l0_0.length c0_0, .int .i64 a0_1] 25 (0, 0)) (by (with_reducible repeat (first | refine blk_drewN ?_ _ | refine blk_drew ?_ | refine blk_alloc ?_ _)); refine blk_far ?_ NB297_303.out _; (with_reducible repeat (first | refine blk_drewN ?_ _ | refine blk_drew ?_ | refine blk_alloc ?_ _)); exact BK297.out) hb); replace BK298 := Aside0.mk (blk_below (g := gb298) (o := .cells #[.slice none 0 0, .int .i64 0] 25 (0, 0)) (by (with_reducible repeat (first | refine blk_drewN ?_ _ | refine blk_drew ?_ | refine blk_alloc ?_ _)); refine blk_far ?_ NB298_303.out _; (with_reducible repeat (first | refine blk_drewN ?_ _ | refine blk_drew ?_ | refine blk_alloc ?_ _)); exact BK298.out) hb); replace BK303 := Aside0.mk (blk_below (g := gb303) (o := .cells #[.slice Ao44 x304000_1.length co44, .int .i64 t310] 25 (0, 0)) (by (with_reducible repeat (first | refine blk_drewN ?_ _ | refine blk_drew ?_ | refine blk_alloc ?_ _)); refine blk_put (cs := #[.slice Ao44 x304000_1.length co44, .int .i64 0]) ?_ 1 _ rfl; (with_reducible repeat (first | refine blk_drewN ?_ _ | refine blk_drew ?_ | refine blk_alloc ?_ _)); exact BK303.out) hb); replace HB := xws_ HB hb; (try clear hb); (try clear hb2); (try clear hk); (try clear hi); have hnb46 := NB298_297.out; have hnc46 := NB297_298.out; have hcz47_0 : w45.cell? ⟨gb298, 0, none⟩ = some (.slice none 0 0) := xk_ BK298 0; have hcz47_1 : w45.cell? ⟨gb298, 1, none⟩ = some (.int .i64 0) := xk_ BK298 1; have hfz47_0 := blk_frozen BK298.out 0; have hfz47_1 := blk_frozen BK298.out 1))
       refine bodyPost_ret (results_ct rfl _ _ gb298 25 #[.slice none 0 0, .int .i64 0] (0, 0) _ rfl (by (with_reducible repeat (first | refine blk_drewN ?_ _ | refine blk_drew ?_ | refine blk_alloc ?_ _)); refine blk_put (cs := #[.slice none 0 0, .int .i64 0]) ?_ 1 _ rfl; (with_reducible repeat (first | refine blk_drewN ?_ _ | refine blk_drew ?_ | refine blk_alloc ?_ _)); refine blk_put (cs := #[.slice none 0 0, .int .i64 0]) ?_ 0 _ rfl; (with_reducible repeat (first | refine blk_drewN ?_ _ | refine blk_drew ?_ | refine blk_alloc ?_ _)); exact BK298.out) Try.underlying25 rfl (by kernel_rfl)) rfl ?_
       exact ⟨_, by first | rfl | (simp [errW_none, errW_some] <;> rfl) | (simp [*, errW_none, errW_some] <;> rfl), by first | exact Kd.R_nil _ _ _ _ _ | exact Kd.N_nil _ _ _ _ _ | exact Kd.V_nil _ _ _ _ _ | exact Kd.Q_nil _ _ _ _ _ | exact Kd.S_nil _ _ _ _ _, xw_ HB⟩
     ·rw [if_neg c27] at H
      exact absurd H (by simp)
 ·replace c3 := Bool.eq_false_iff.mpr c3
  subst c3
  have H1 : (some (([] : List Int), 0, false)) = some (r1, r2, r3) := by rw [if_neg (show ¬ (false = true) by decide)] at H; exact H
  clear H
  have H := H1
  clear H1
  simp only [Option.some.injEq, Prod.mk.injEq] at H
  obtain ⟨rfl, rfl, rfl⟩ := H
  go_enter Try.func23, Try.ntmps23
  go_wp2_with (first | ((with_reducible refine gate_dst (N := 1) rfl ?_); refine xbe_ (N := 1) (cs := #[.slice A0_0 l0_0.length c0_0, .int .i64 a0_1]) (t := 25) ?_; intro gb297 hg w48 hbox hb; have BK297 := Aside0.mk (hbox); have GW297 := xge_ HB hg; have GE297 := xge_ HB hg; replace HB := xws_ HB hb; clear hb hbox hg) | ((with_reducible refine gate_dst (N := 2) rfl ?_); refine xbe_ (N := 2) (cs := #[.slice none 0 0, .int .i64 0]) (t := 25) ?_; intro gb298 hg w49 hbox hb; have BK298 := Aside0.mk (hbox); have GW298 := xge_ HB hg; have GE298 := xge_ HB hg; replace HB := xws_ HB hb; have NB297_298 := xlt_ BK297 hg; have NB298_297 := xgt_ BK297 hg; replace BK297 := xbb_ BK297 hb; clear hb hbox hg; have hnb50 := NB297_298.out; have hnc50 := NB298_297.out; have hcz51_0 : w49.cell? ⟨gb297, 0, none⟩ = some (.slice A0_0 l0_0.length c0_0) := xk_ BK297 0; have hcz51_1 : w49.cell? ⟨gb297, 1, none⟩ = some (.int .i64 a0_1) := xk_ BK297 1; have hfz51_0 := blk_frozen BK297.out 0; have hfz51_1 := blk_frozen BK297.out 1) | ((with_reducible refine gate_callee (f := 9) rfl ?_); refine xgl_ (some 8) Try.func9 #[.agg #[.slice A0_0 l0_0.length c0_0, .int .i64 a0_1]] ?_; (with_reducible refine (impl_GoodSketch.calls _ _ l0_0 a0_1 false _ ?side1 ?side2 A2.out).mono ?_); (case side1 => exact xc_ ((Kd.C_below HR0_0.out HB.out))); (case side2 => exact HC0_0.out); rintro e w52 ⟨rfl, hb⟩; refine ⟨_, rfl, ?_⟩; replace BK297 := xbb_ BK297 hb; replace BK298 := xbb_ BK298 hb; replace HB := xws_ HB hb; (try clear hb); (try clear hb2); (try clear hk); (try clear hi); have hcz53_0 : w52.cell? ⟨gb298, 0, none⟩ = some (.slice none 0 0) := xk_ BK298 0; have hcz53_1 : w52.cell? ⟨gb298, 1, none⟩ = some (.int .i64 0) := xk_ BK298 1; have hfz53_0 := blk_frozen BK298.out 0; have hfz53_1 := blk_frozen BK298.out 1))
  refine bodyPost_ret (results_ct rfl _ _ gb298 25 #[.slice none 0 0, .int .i64 0] (0, 0) _ rfl (by (with_reducible repeat (first | refine blk_drewN ?_ _ | refine blk_drew ?_ | refine blk_alloc ?_ _)); refine blk_put (cs := #[.slice none 0 0, .int .i64 0]) ?_ 1 _ rfl; (with_reducible repeat (first | refine blk_drewN ?_ _ | refine blk_drew ?_ | refine blk_alloc ?_ _)); refine blk_put (cs := #[.slice none 0 0, .int .i64 0]) ?_ 0 _ rfl; (with_reducible repeat (first | refine blk_drewN ?_ _ | refine blk_drew ?_ | refine blk_alloc ?_ _)); exact BK298.out) Try.underlying25 rfl (by kernel_rfl)) rfl ?_
  exact ⟨_, by first | rfl | (simp [errW_none, errW_some] <;> rfl) | (simp [*, errW_none, errW_some] <;> rfl), by first | exact Kd.R_nil _ _ _ _ _ | exact Kd.N_nil _ _ _ _ _ | exact Kd.V_nil _ _ _ _ _ | exact Kd.Q_nil _ _ _ _ _ | exact Kd.S_nil _ _ _ _ _, xw_ HB⟩

/-! ### spec_HalveSketch: function 24 -/
def spec_HalveSketch.l0 : Nat → List Int → Int → Int → List Int → Int → Option (List Int × Int × Bool)
 | 0, _, _, _, _, _ => none
 | k + 1, x13, x14, x15, x316000, x316001 => if x15 < x14 then (if 0 ≤ x15 then (if x15 < (x13.length : Int) then (if x316000.length < 17592186044416 then ((some (x316000 ++ [wrap64 (Int.tdiv (rd x13 x15) 2)] : List Int)).bind fun y317 => (if x15 < 32 then (spec_HalveSketch.l0 k x13 x14 (wrap64 (x15 + 1)) y317 (wrap64 (x316001 + (wrap64 (Int.tdiv (rd x13 x15) 2))))) else (spec_HalveSketch.l0 k x13 x14 (wrap64 (x15 + 1)) y317 x316001))) else (none)) else (none)) else (none)) else ((spec_GoodSketch.f k x316000 x316001).bind fun t320 => (if t320 = true then (some (x316000, x316001, true)) else (some (([] : List Int), 0, false))))
def spec_HalveSketch.f (k : Nat) (l0_0 : List Int) (a0_1 : Int) : Option (List Int × Int × Bool) := (spec_GoodSketch.f k l0_0 a0_1).bind fun t314 => (if t314 = true then (spec_HalveSketch.l0 k l0_0 (l0_0.length : Int) 0 ([] : List Int) 0) else (some (([] : List Int), 0, false)))
theorem spec_HalveSketch.mono_l : ∀ k, (∀ y0 y1 y2 y3 y4, LeO (spec_HalveSketch.l0 k y0 y1 y2 y3 y4) (spec_HalveSketch.l0 (k + 1) y0 y1 y2 y3 y4))
 | 0 => fun _ _ _ _ _ r h => by simp [spec_HalveSketch.l0] at h
 | k + 1 => by
  have ih0 := spec_HalveSketch.mono_l k
  ·intro y0 y1 y2 y3 y4
   unfold spec_HalveSketch.l0
   repeat' first
   | (with_reducible exact ih0 _ _ _ _ _)
   | (with_reducible exact spec_GoodSketch.mono _ _ _)
   | (with_reducible exact LeO.refl _)
   | (with_reducible exact LeO.none _)
   | (with_reducible refine LeO.ite ?_ ?_)
   | (with_reducible refine LeO.bind ?_ (fun _ => ?_))
   | exact ih0 _ _ _ _ _
   | exact spec_GoodSketch.mono _ _ _
   | exact LeO.none _
   | refine LeO.ite ?_ ?_
   | refine LeO.bind ?_ (fun _ => ?_)
theorem spec_HalveSketch.mono : ∀ a0 a1 k, LeO (spec_HalveSketch.f k a0 a1) (spec_HalveSketch.f (k + 1) a0 a1) := by
 intro a0 a1 k
 have ih0 := spec_HalveSketch.mono_l k
 unfold spec_HalveSketch.f
 repeat' first
   | (with_reducible exact ih0 _ _ _ _ _)
   | (with_reducible exact spec_GoodSketch.mono _ _ _)
   | (with_reducible exact LeO.refl _)
   | (with_reducible exact LeO.none _)
   | (with_reducible refine LeO.ite ?_ ?_)
   | (with_reducible refine LeO.bind ?_ (fun _ => ?_))
   | exact ih0 _ _ _ _ _
   | exact spec_GoodSketch.mono _ _ _
   | exact LeO.none _
   | refine LeO.ite ?_ ?_
   | refine LeO.bind ?_ (fun _ => ?_)
set_option maxHeartbeats 8000000 in
set_option maxRecDepth 100000 in
theorem spec_HalveSketch.calls (k : Nat) (A0_0 : Option Addr) (c0_0 : Nat) (l0_0 : List Int) (a0_1 : Int) (r1 : List Int) (r2 : Int) (r3 : Bool) (w : World) (hr0_0 : Kd.C (Kd.int .i64) w A0_0 l0_0.length l0_0) (hc0_0 : l0_0.length ≤ c0_0) (h : spec_HalveSketch.f k l0_0 a0_1 = some (r1, r2, r3)) :
  Calls Try.prog 24 #[.agg #[.slice A0_0 l0_0.length c0_0, .int .i64 a0_1]] w fun e w' => ∃ v0_ : Value, e = .returned (.tuple #[.agg #[v0_, .int .i64 r2], .bool r3]) ∧ Kd.R (Kd.int .i64) 3 w' w.heap.size (fun _ => True) v0_ r1 ∧ Below w.heap.size w w' := by
 have hu25 := Try.underlying25
 have HR0_0 := Aside0.mk hr0_0
 have HC0_0 := Aside0.mk hc0_0
 clear hr0_0 hc0_0
 have HB := Aside0.mk (Below.refl w.heap.size w)
 have H : ((spec_GoodSketch.f k l0_0 a0_1).bind fun t314 => (if t314 = true then (spec_HalveSketch.l0 k l0_0 (l0_0.length : Int) 0 ([] : List Int) 0) else (some (([] : List Int), 0, false)))) = some (r1, r2, r3) := h
 clear h
 replace H := Option.bind_eq_some_iff.mp H
 obtain ⟨t314, A20, H⟩ := H
 replace H : (if t314 = true then (spec_HalveSketch.l0 k l0_0 (l0_0.length : Int) 0 ([] : List Int) 0) else (some (([] : List Int), 0, false))) = some (r1, r2, r3) := H
 have A2 := Aside0.mk A20
 clear A20
 by_cases c3 : t314 = true
 ·subst c3
  have H1 : (spec_HalveSketch.l0 k l0_0 (l0_0.length : Int) 0 ([] : List Int) 0) = some (r1, r2, r3) := by rw [if_pos rfl] at H; exact H
  clear H
  have H := H1
  clear H1
  have H' := Aside0.mk H
  clear H
  go_enter Try.func24, Try.ntmps24
  go_wp2_with (first | ((with_reducible refine gate_dst (N := 1) rfl ?_); refine xbe_ (N := 1) (cs := #[.slice A0_0 l0_0.length c0_0, .int .i64 a0_1]) (t := 25) ?_; intro gb312 hg w4 hbox hb; have BK312 := Aside0.mk (hbox); have GW312 := xge_ HB hg; have GE312 := xge_ HB hg; replace HB := xws_ HB hb; clear hb hbox hg) | ((with_reducible refine gate_dst (N := 2) rfl ?_); refine xbe_ (N := 2) (cs := #[.slice none 0 0, .int .i64 0]) (t := 25) ?_; intro gb313 hg w5 hbox hb; have BK313 := Aside0.mk (hbox); have GW313 := xge_ HB hg; have GE313 := xge_ HB hg; replace HB := xws_ HB hb; have NB312_313 := xlt_ BK312 hg; have NB313_312 := xgt_ BK312 hg; replace BK312 := xbb_ BK312 hb; clear hb hbox hg; have hnb6 := NB312_313.out; have hnc6 := NB313_312.out; have hcz7_0 : w5.cell? ⟨gb312, 0, none⟩ = some (.slice A0_0 l0_0.length c0_0) := xk_ BK312 0; have hcz7_1 : w5.cell? ⟨gb312, 1, none⟩ = some (.int .i64 a0_1) := xk_ BK312 1; have hfz7_0 := blk_frozen BK312.out 0; have hfz7_1 := blk_frozen BK312.out 1) | ((with_reducible refine gate_callee (f := 10) rfl ?_); refine xgl_ (some 8) Try.func10 #[.agg #[.slice A0_0 l0_0.length c0_0, .int .i64 a0_1]] ?_; (with_reducible refine (spec_GoodSketch.calls k _ _ l0_0 a0_1 true _ ?side1 ?side2 A2.out).mono ?_); (case side1 => exact xc_ ((Kd.C_below HR0_0.out HB.out))); (case side2 => exact HC0_0.out); rintro e w8 ⟨rfl, hb⟩; refine ⟨_, rfl, ?_⟩; replace BK312 := xbb_ BK312 hb; replace BK313 := xbb_ BK313 hb; replace HB := xws_ HB hb; (try clear hb); (try clear hb2); (try clear hk); (try clear hi)) | ((with_reducible refine gate_dst (N := 4) rfl ?_); refine xbe_ (N := 4) (cs := #[.slice none 0 0, .int .i64 0]) (t := 25) ?_; intro gb315 hg w9 hbox hb; have BK315 := Aside0.mk (hbox); have GW315 := xge_ HB hg; have GE315 := xge_ HB hg; replace HB := xws_ HB hb; have NB312_315 := xlt_ BK312 hg; have NB315_312 := xgt_ BK312 hg; replace BK312 := xbb_ BK312 hb; have NB313_315 := xlt_ BK313 hg; have NB315_313 := xgt_ BK313 hg; replace BK313 := xbb_ BK313 hb; clear hb hbox hg; have hnb10 := NB315_312.out; have hnc10 := NB312_315.out; have hnb11 := NB315_313.out; have hnc11 := NB313_315.out; have hcz12_0 : w9.cell? ⟨gb315, 0, none⟩ = some (.slice none 0 0) := xk_ BK315 0; have hcz12_1 : w9.cell? ⟨gb315, 1, none⟩ = some (.int .i64 0) := xk_ BK315 1; have hfz12_0 := blk_frozen BK315.out 0; have hfz12_1 := blk_frozen BK315.out 1; have hcz13_0 : w9.cell? ⟨gb312, 0, none⟩ = some (.slice A0_0 l0_0.length c0_0) := xk_ BK312 0; have hcz13_1 : w9.cell? ⟨gb312, 1, none⟩ = some (.int .i64 a0_1) := xk_ BK312 1; have hfz13_0 := blk_frozen BK312.out 0; have hfz13_1 := blk_frozen BK312.out 1))
  go_loopg [15] k (fun kq v15 w' => ∃ (x15_1 : Int) (x316000_1 : List Int) (x316001_1 : Int) (u316000 : Value), v15 = .int .i64 x15_1 ∧ Aside0 (spec_HalveSketch.l0 kq l0_0 (l0_0.length : Int) x15_1 x316000_1 x316001_1 = some (r1, r2, r3)) ∧ Aside0 (kq ≤ k) ∧ Aside0 (Kd.R (Kd.int .i64) 3 w' w.heap.size (fun _ => True) u316000 x316000_1) ∧ Aside0 (w'.heap[gb312]? = some (.cells #[(.slice A0_0 l0_0.length c0_0), .int .i64 a0_1] 25 (0, 0))) ∧ Aside0 (w'.heap[gb313]? = some (.cells #[(.slice none 0 0), .int .i64 0] 25 (0, 0))) ∧ Aside0 (w'.heap[gb315]? = some (.cells #[u316000, .int .i64 x316001_1] 25 (0, 0))) ∧ Aside0 (Below w.heap.size w w'))
  case atStart => exact ⟨(0), (([] : List Int)), (0), (.slice none 0 0), (by first | rfl | (simp; done) | (simp [*]; done)), H', ⟨Nat.le_refl _⟩, ⟨by first | exact Kd.R_nil _ _ _ _ _ | exact Kd.N_nil _ _ _ _ _ | exact Kd.V_nil _ _ _ _ _ | exact Kd.Q_nil _ _ _ _ _ | exact Kd.S_nil _ _ _ _ _⟩, ⟨by (with_reducible repeat (first | refine blk_drewN ?_ _ | refine blk_drew ?_ | refine blk_alloc ?_ _)); refine blk_far ?_ NB312_315.out _; (with_reducible repeat (first | refine blk_drewN ?_ _ | refine blk_drew ?_ | refine blk_alloc ?_ _)); refine blk_far ?_ NB312_315.out _; (with_reducible repeat (first | refine blk_drewN ?_ _ | refine blk_drew ?_ | refine blk_alloc ?_ _)); exact BK312.out⟩, ⟨by (with_reducible repeat (first | refine blk_drewN ?_ _ | refine blk_drew ?_ | refine blk_alloc ?_ _)); refine blk_far ?_ NB313_315.out _; (with_reducible repeat (first | refine blk_drewN ?_ _ | refine blk_drew ?_ | refine blk_alloc ?_ _)); refine blk_far ?_ NB313_315.out _; (with_reducible repeat (first | refine blk_drewN ?_ _ | refine blk_drew ?_ | refine blk_alloc ?_ _)); exact BK313.out⟩, ⟨by (with_reducible repeat (first | refine blk_drewN ?_ _ | refine blk_drew ?_ | refine blk_alloc ?_ _)); refine blk_put (cs := #[.slice none 0 0, .int .i64 0]) ?_ 1 _ rfl; (with_reducible repeat (first | refine blk_drewN ?_ _ | refine blk_drew ?_ | refine blk_alloc ?_ _)); refine blk_put (cs := #[.slice none 0 0, .int .i64 0]) ?_ 0 _ rfl; (with_reducible repeat (first | refine blk_drewN ?_ _ | refine blk_drew ?_ | refine blk_alloc ?_ _)); exact BK315.out⟩, ⟨xw_ HB⟩⟩
  case round =>
   clear H'
   try clear c1
   try clear c2
   try clear p2
   try clear c3
   try clear c6
   try clear c10
   try clear c11
   try clear hcz12_0
   try clear hcz12_1
   try clear hcz13_0
   try clear hcz13_1
   try clear hcz7_0
   try clear hcz7_1
   try clear hfz12_0
   try clear hfz12_1
   try clear hfz13_0
   try clear hfz13_1
   try clear hfz7_0
   try clear hfz7_1
   obtain ⟨x15_1, x316000_1, x316001_1, u316000, rfl, HA, HK1, HO_316000, BK312, BK313, BK315, HB⟩ := hrel
   cases gk with
   | zero => exact absurd HA.out (by simp [spec_HalveSketch.l0])
   | succ k1 =>
    have H := HA.out
    clear HA
    simp only [spec_HalveSketch.l0] at H
    by_cases c14 : x15_1 < (l0_0.length : Int)
    ·rw [if_pos c14] at H
     have c14b0 : decide (x15_1 < (l0_0.length : Int)) = true := decide_eq_true c14
     clear c14
     by_cases c15 : 0 ≤ x15_1
     ·rw [if_pos c15] at H
      have c15b0 : decide (0 ≤ x15_1) = true := decide_eq_true c15
      clear c15
      by_cases c16 : x15_1 < (l0_0.length : Int)
      ·rw [if_pos c16] at H
       have c16b0 : decide (x15_1 < (l0_0.length : Int)) = true := decide_eq_true c16
       clear c16
       by_cases c17 : x316000_1.length < 17592186044416
       ·rw [if_pos c17] at H
        have LMc17 := Aside0.mk c17
        clear c17
        obtain ⟨y317, hy317⟩ : ∃ y_ : List Int, y_ = (x316000_1 ++ [wrap64 (Int.tdiv (rd l0_0 x15_1) 2)]) := ⟨_, rfl⟩
        replace H : (if x15_1 < 32 then (spec_HalveSketch.l0 k1 l0_0 (l0_0.length : Int) (wrap64 (x15_1 + 1)) y317 (wrap64 (x316001_1 + (wrap64 (Int.tdiv (rd l0_0 x15_1) 2))))) else (spec_HalveSketch.l0 k1 l0_0 (l0_0.length : Int) (wrap64 (x15_1 + 1)) y317 x316001_1)) = some (r1, r2, r3) := by first | (rw [hy317]; with_reducible exact H) | (have H2_ := (Option.bind_some _ _).symm.trans H; rw [hy317]; with_reducible exact H2_) | (have H2_ := (Option.bind_some _ _).symm.trans H; with_reducible exact H2_) | with_reducible exact H | (rw [hy317]; exact H) | exact H
        have Ny317 := Aside0.mk hy317
        clear hy317
        by_cases c18 : x15_1 < 32
        ·rw [if_pos c18] at H
         have c18b0 : decide (x15_1 < 32) = true := decide_eq_true c18
         clear c18
         have H' := Aside0.mk H
         clear H
         have p316 : 0 ≤ (x15_1 : Int) := of_decide_eq_true (by first | (with_reducible assumption) | assumption)
         have q316 : x15_1 < (l0_0.length : Int) := of_decide_eq_true (by first | (with_reducible assumption) | assumption)
         obtain ⟨ad316, e316, hx316_0⟩ := Kd.at_int HR0_0.out x15_1 p316 q316
         cases e316
         replace hx316_0 := (HB.out.cell (World.block_lt_of_cell? w _ hx316_0)).trans hx316_0
         replace p316 := eq_true p316
         replace q316 := eq_true q316
         have hnb19 := NB315_312.out
         have hnc19 := NB312_315.out
         have hnb20 := NB315_313.out
         have hnc20 := NB313_315.out
         have hcz21_0 : wr.cell? ⟨gb315, 0, none⟩ = some (u316000) := xk_ BK315 0
         have hcz21_1 : wr.cell? ⟨gb315, 1, none⟩ = some (.int .i64 x316001_1) := xk_ BK315 1
         have hfz21_0 := blk_frozen BK315.out 0
         have hfz21_1 := blk_frozen BK315.out 1
         go_wp2_with (first | ((with_reducible refine gate_builtin (b := .append) (xs := #[.tmp 21, .tmp 24]) rfl ?_); at_builtin; refine Kd.R_append (Kd.int .i64) (w0 := w) w.heap.size rfl (.tmp 21) (.tmp 24) 23 3 (.int .i64 0) 8 rfl Try.underlying23 info3 rfl (by decide) (by omega) u316000 x316000_1 (wrap64 (Int.tdiv (rd l0_0 x15_1) 2)) [.int .i64 (wrap64 (Int.tdiv (rd l0_0 x15_1) 2))] (fun _ => True) (fun _ => False) rfl rfl ?aP (fun _ hk => hk.elim) ?aF ?aO ?aB ?aS ?aL ?_; (case aP => exact rfl); (case aB => exact (xw_ HB)); (case aF => exact (fun _ _ => trivial)); (case aO => exact (xr_ HO_316000)); (case aS => exact (below_size (xw_ HB))); (case aL => have := LMc17.out; omega); intro v318 w22 ho hb hg hat; rw [← Ny317.out] at ho; replace BK312 := Aside0.mk (blk_grown (g := gb312) (o := .cells #[.slice (some ad316) l0_0.length c0_0, .int .i64 a0_1] 25 (0, 0)) (xb_ BK312) hg (Kd.R_ne HO_316000.out BK312.out (by decide))); replace BK313 := Aside0.mk (blk_grown (g := gb313) (o := .cells #[.slice none 0 0, .int .i64 0] 25 (0, 0)) (xb_ BK313) hg (Kd.R_ne HO_316000.out BK313.out (by decide))); replace BK315 := Aside0.mk (blk_grown (g := gb315) (o := .cells #[u316000, .int .i64 x316001_1] 25 (0, 0)) (xb_ BK315) hg (Kd.R_ne HO_316000.out BK315.out (by decide))); replace HB := Aside0.mk (hb); have HO319 := Aside0.mk (ho); clear HO_316000; clear ho hb hg hat; obtain ⟨Ao23, co23, eo23⟩ := Kd.R_slice HO319.out; subst eo23; have hcz24_0 : w22.cell? ⟨gb315, 0, none⟩ = some (u316000) := xk_ BK315 0; have hcz24_1 : w22.cell? ⟨gb315, 1, none⟩ = some (.int .i64 x316001_1) := xk_ BK315 1; have hfz24_0 := blk_frozen BK315.out 0; have hfz24_1 := blk_frozen BK315.out 1))
         go_roundg k1
         case measure => have := HK1.out; omega
         case rel => exact ⟨(wrap64 (x15_1 + 1)), (y317), (wrap64 (x316001_1 + (wrap64 (Int.tdiv (rd l0_0 x15_1) 2)))), (.slice Ao23 y317.length co23), (by first | rfl | (simp; done) | (simp [*]; done)), H', ⟨by have := HK1.out; omega⟩, ⟨xrt_ (Kd.R_mono (Kd.R_far (p := ⟨gb315, 1, none⟩) (Kd.R_far (p := ⟨gb315, 0, none⟩) (Kd.R_types HO319.out BK315.out (by decide)) (fun _ hk => hk.2) (.slice Ao23 y317.length co23)) (fun _ hk => hk.2) (.int .i64 (wrap64 (x316001_1 + (wrap64 (Int.tdiv (rd l0_0 x15_1) 2)))))) (fun _ hk => trivial))⟩, ⟨by (with_reducible repeat (first | refine blk_drewN ?_ _ | refine blk_drew ?_ | refine blk_alloc ?_ _)); refine blk_far ?_ NB312_315.out _; (with_reducible repeat (first | refine blk_drewN ?_ _ | refine blk_drew ?_ | refine blk_alloc ?_ _)); refine blk_far ?_ NB312_315.out _; (with_reducible repeat (first | refine blk_drewN ?_ _ | refine blk_drew ?_ | refine blk_alloc ?_ _)); exact BK312.out⟩, ⟨by (with_reducible repeat (first | refine blk_drewN ?_ _ | refine blk_drew ?_ | refine blk_alloc ?_ _)); refine blk_far ?_ NB313_315.out _; (with_reducible repeat (first | refine blk_drewN ?_ _ | refine blk_drew ?_ | refine blk_alloc ?_ _)); refine blk_far ?_ NB313_315.out _; (with_reducible repeat (first | refine blk_drewN ?_ _ | refine blk_drew ?_ | refine blk_alloc ?_ _)); exact BK313.out⟩, ⟨by (with_reducible repeat (first | refine blk_drewN ?_ _ | refine blk_drew ?_ | refine blk_alloc ?_ _)); refine blk_put (cs := #[.slice Ao23 y317.length co23, .int .i64 x316001_1]) ?_ 1 _ rfl; (with_reducible repeat (first | refine blk_drewN ?_ _ | refine blk_drew ?_ | refine blk_alloc ?_ _)); refine blk_put (cs := #[u316000, .int .i64 x316001_1]) ?_ 0 _ rfl; (with_reducible repeat (first | refine blk_drewN ?_ _ | refine blk_drew ?_ | refine blk_alloc ?_ _)); exact BK315.out⟩, ⟨xw_ HB⟩⟩
        ·rw [if_neg c18] at H
         have c18b0 : decide (x15_1 < 32) = false := decide_eq_false c18
         clear c18
         have H' := Aside0.mk H
         clear H
         have p316 : 0 ≤ (x15_1 : Int) := of_decide_eq_true (by first | (with_reducible assumption) | assumption)
         have q316 : x15_1 < (l0_0.length : Int) := of_decide_eq_true (by first | (with_reducible assumption) | assumption)
         obtain ⟨ad316, e316, hx316_0⟩ := Kd.at_int HR0_0.out x15_1 p316 q316
         cases e316
         replace hx316_0 := (HB.out.cell (World.block_lt_of_cell? w _ hx316_0)).trans hx316_0
         replace p316 := eq_true p316
         replace q316 := eq_true q316
         have hnb25 := NB315_312.out
         have hnc25 := NB312_315.out
         have hnb26 := NB315_313.out
         have hnc26 := NB313_315.out
         have hcz27_0 : wr.cell? ⟨gb315, 0, none⟩ = some (u316000) := xk_ BK315 0
         have hcz27_1 : wr.cell? ⟨gb315, 1, none⟩ = some (.int .i64 x316001_1) := xk_ BK315 1
         have hfz27_0 := blk_frozen BK315.out 0
         have hfz27_1 := blk_frozen BK315.out 1
         go_wp2_with (first | ((with_reducible refine gate_builtin (b := .append) (xs := #[.tmp 21, .tmp 24]) rfl ?_); at_builtin; refine Kd.R_append (Kd.int .i64) (w0 := w) w.heap.size rfl (.tmp 21) (.tmp 24) 23 3 (.int .i64 0) 8 rfl Try.underlying23 info3 rfl (by decide) (by omega) u316000 x316000_1 (wrap64 (Int.tdiv (rd l0_0 x15_1) 2)) [.int .i64 (wrap64 (Int.tdiv (rd l0_0 x15_1) 2))] (fun _ => True) (fun _ => False) rfl rfl ?aP (fun _ hk => hk.elim) ?aF ?aO ?aB ?aS ?aL ?_; (case aP => exact rfl); (case aB => exact (xw_ HB)); (case aF => exact (fun _ _ => trivial)); (case aO => exact (xr_ HO_316000)); (case aS => exact (below_size (xw_ HB))); (case aL => have := LMc17.out; omega); intro v318 w28 ho hb hg hat; rw [← Ny317.out] at ho; replace BK312 := Aside0.mk (blk_grown (g := gb312) (o := .cells #[.slice (some ad316) l0_0.length c0_0, .int .i64 a0_1] 25 (0, 0)) (xb_ BK312) hg (Kd.R_ne HO_316000.out BK312.out (by decide))); replace BK313 := Aside0.mk (blk_grown (g := gb313) (o := .cells #[.slice none 0 0, .int .i64 0] 25 (0, 0)) (xb_ BK313) hg (Kd.R_ne HO_316000.out BK313.out (by decide))); replace BK315 := Aside0.mk (blk_grown (g := gb315) (o := .cells #[u316000, .int .i64 x316001_1] 25 (0, 0)) (xb_ BK315) hg (Kd.R_ne HO_316000.out BK315.out (by decide))); replace HB := Aside0.mk (hb); have HO319 := Aside0.mk (ho); clear HO_316000; clear ho hb hg hat; obtain ⟨Ao29, co29, eo29⟩ := Kd.R_slice HO319.out; subst eo29; have hcz30_0 : w28.cell? ⟨gb315, 0, none⟩ = some (u316000) := xk_ BK315 0; have hcz30_1 : w28.cell? ⟨gb315, 1, none⟩ = some (.int .i64 x316001_1) := xk_ BK315 1; have hfz30_0 := blk_frozen BK315.out 0; have hfz30_1 := blk_frozen BK315.out 1))
         go_roundg k1
         case measure => have := HK1.out; omega
         case rel => exact ⟨(wrap64 (x15_1 + 1)), (y317), (x316001_1), (.slice Ao29 y317.length co29), (by first | rfl | (simp; done) | (simp [*]; done)), H', ⟨by have := HK1.out; omega⟩, ⟨xrt_ (Kd.R_mono (Kd.R_far (p := ⟨gb315, 0, none⟩) (Kd.R_types HO319.out BK315.out (by decide)) (fun _ hk => hk.2) (.slice Ao29 y317.length co29)) (fun _ hk => trivial))⟩, ⟨by (with_reducible repeat (first | refine blk_drewN ?_ _ | refine blk_drew ?_ | refine blk_alloc ?_ _)); refine blk_far ?_ NB312_315.out _; (with_reducible repeat (first | refine blk_drewN ?_ _ | refine blk_drew ?_ | refine blk_alloc ?_ _)); exact BK312.out⟩, ⟨by (with_reducible repeat (first | refine blk_drewN ?_ _ | refine blk_drew ?_ | refine blk_alloc ?_ _)); refine blk_far ?_ NB313_315.out _; (with_reducible repeat (first | refine blk_drewN ?_ _ | refine blk_drew ?_ | refine blk_alloc ?_ _)); exact BK313.out⟩, ⟨by (with_reducible repeat (first | refine blk_drewN ?_ _ | refine blk_drew ?_ | refine blk_alloc ?_ _)); refine blk_put (cs := #[u316000, .int .i64 x316001_1]) ?_ 0 _ rfl; (with_reducible repeat (first | refine blk_drewN ?_ _ | refine blk_drew ?_ | refine blk_alloc ?_ _)); exact BK315.out⟩, ⟨xw_ HB⟩⟩
       ·rw [if_neg c17] at H
        exact absurd H (by simp)
      ·rw [if_neg c16] at H
       exact absurd H (by simp)
     ·rw [if_neg c15] at H
      exact absurd H (by simp)
    ·rw [if_neg c14] at H
     have c14b0 : decide (x15_1 < (l0_0.length : Int)) = false := decide_eq_false c14
     clear c14
     replace H := Option.bind_eq_some_iff.mp H
     obtain ⟨t320, A310, H⟩ := H
     replace H : (if t320 = true then (some (x316000_1, x316001_1, true)) else (some (([] : List Int), 0, false))) = some (r1, r2, r3) := H
     have A31 := Aside0.mk A310
     clear A310
     by_cases c32 : t320 = true
     ·subst c32
      have H1 : (some (x316000_1, x316001_1, true)) = some (r1, r2, r3) := by rw [if_pos rfl] at H; exact H
      clear H
      have H := H1
      clear H1
      simp only [Option.some.injEq, Prod.mk.injEq] at H
      obtain ⟨rfl, rfl, rfl⟩ := H
      have hnb33 := NB315_312.out
      have hnc33 := NB312_315.out
      have hnb34 := NB315_313.out
      have hnc34 := NB313_315.out
      have hcz35_0 : wr.cell? ⟨gb315, 0, none⟩ = some (u316000) := xk_ BK315 0
      have hcz35_1 : wr.cell? ⟨gb315, 1, none⟩ = some (.int .i64 x316001_1) := xk_ BK315 1
      have hfz35_0 := blk_frozen BK315.out 0
      have hfz35_1 := blk_frozen BK315.out 1
      obtain ⟨Ao36, co36, eo36⟩ := Kd.R_slice HO_316000.out
      subst eo36
      go_wp2_with (first | ((with_reducible refine gate_callee (f := 10) rfl ?_); refine xgl_ (some 37) Try.func10 #[.agg #[.slice Ao36 x316000_1.length co36, .int .i64 x316001_1]] ?_; (with_reducible refine (spec_GoodSketch.calls k1 _ _ x316000_1 x316001_1 true _ ?side1 ?side2 A31.out).mono ?_); (case side1 => exact xc_ ((Kd.R_reads' HO_316000.out).2.2)); (case side2 => exact (Kd.R_reads' HO_316000.out).2.1); rintro e w37 ⟨rfl, hb⟩; refine ⟨_, rfl, ?_⟩; replace HO_316000 := xrb_ HO_316000 hb; replace BK312 := xbb_ BK312 hb; replace BK313 := xbb_ BK313 hb; replace BK315 := xbb_ BK315 hb; replace HB := xws_ HB hb; (try clear hb); (try clear hb2); (try clear hk); (try clear hi); have hcz38_0 : w37.cell? ⟨gb315, 0, none⟩ = some (.slice Ao36 x316000_1.length co36) := xk_ BK315 0; have hcz38_1 : w37.cell? ⟨gb315, 1, none⟩ = some (.int .i64 x316001_1) := xk_ BK315 1; have hfz38_0 := blk_frozen BK315.out 0; have hfz38_1 := blk_frozen BK315.out 1; have hnb39 := NB313_312.out; have hnc39 := NB312_313.out; have hcz40_0 : w37.cell? ⟨gb313, 0, none⟩ = some (.slice none 0 0) := xk_ BK313 0; have hcz40_1 : w37.cell? ⟨gb313, 1, none⟩ = some (.int .i64 0) := xk_ BK313 1; have hfz40_0 := blk_frozen BK313.out 0; have hfz40_1 := blk_frozen BK313.out 1))
      refine bodyPost_ret (results_ct rfl _ _ gb313 25 #[.slice Ao36 x316000_1.length co36, .int .i64 x316001_1] (0, 0) _ rfl (by (with_reducible repeat (first | refine blk_drewN ?_ _ | refine blk_drew ?_ | refine blk_alloc ?_ _)); refine blk_put (cs := #[.slice Ao36 x316000_1.length co36, .int .i64 0]) ?_ 1 _ rfl; (with_reducible repeat (first | refine blk_drewN ?_ _ | refine blk_drew ?_ | refine blk_alloc ?_ _)); refine blk_put (cs := #[.slice none 0 0, .int .i64 0]) ?_ 0 _ rfl; (with_reducible repeat (first | refine blk_drewN ?_ _ | refine blk_drew ?_ | refine blk_alloc ?_ _)); exact BK313.out) Try.underlying25 rfl (by kernel_rfl)) rfl ?_
      exact ⟨_, by first | rfl | (simp [errW_none, errW_some] <;> rfl) | (simp [*, errW_none, errW_some] <;> rfl), by (with_reducible repeat (first | apply Kd.R_alloc | apply Kd.R_drewN | apply Kd.R_drew)); exact Kd.R_mono (Kd.R_far (p := ⟨gb313, 1, none⟩) (Kd.R_far (p := ⟨gb313, 0, none⟩) (Kd.R_types HO_316000.out BK313.out (by decide)) (fun _ hk => hk.2) (.slice Ao36 x316000_1.length co36)) (fun _ hk => hk.2) (.int .i64 x316001_1)) (fun _ hk => trivial), xw_ HB⟩
     ·replace c32 := Bool.eq_false_iff.mpr c32
      subst c32
      have H1 : (some (([] : List Int), 0, false)) = some (r1, r2, r3) := by rw [if_neg (show ¬ (false = true) by decide)] at H; exact H
      clear H
      have H := H1
      clear H1
      simp only [Option.some.injEq, Prod.mk.injEq] at H
      obtain ⟨rfl, rfl, rfl⟩ := H
      have hnb41 := NB315_312.out
      have hnc41 := NB312_315.out
      have hnb42 := NB315_313.out
      have hnc42 := NB313_315.out
      have hcz43_0 : wr.cell? ⟨gb315, 0, none⟩ = some (u316000) := xk_ BK315 0
      have hcz43_1 : wr.cell? ⟨gb315, 1, none⟩ = some (.int .i64 x316001_1) := xk_ BK315 1
      have hfz43_0 := blk_frozen BK315.out 0
      have hfz43_1 := blk_frozen BK315.out 1
      obtain ⟨Ao44, co44, eo44⟩ := Kd.R_slice HO_316000.out
      subst eo44
      go_wp2_with (first | ((with_reducible refine gate_callee (f := 10) rfl ?_); refine xgl_ (some 37) Try.func10 #[.agg #[.slice Ao44 x316000_1.length co44, .int .i64 x316001_1]] ?_; (with_reducible refine (spec_GoodSketch.calls k1 _ _ x316000_1 x316001_1 false _ ?side1 ?side2 A31.out).mono ?_); (case side1 => exact xc_ ((Kd.R_reads' HO_316000.out).2.2)); (case side2 => exact (Kd.R_reads' HO_316000.out).2.1); rintro e w45 ⟨rfl, hb⟩; refine ⟨_, rfl, ?_⟩; replace HO_316000 := xrb_ HO_316000 hb; replace BK312 := xbb_ BK312 hb; replace BK313 := xbb_ BK313 hb; replace BK315 := xbb_ BK315 hb; replace HB := xws_ HB hb; (try clear hb); (try clear hb2); (try clear hk); (try clear hi); have hnb46 := NB313_312.out; have hnc46 := NB312_313.out; have hcz47_0 : w45.cell? ⟨gb313, 0, none⟩ = some (.slice none 0 0) := xk_ BK313 0; have hcz47_1 : w45.cell? ⟨gb313, 1, none⟩ = some (.int .i64 0) := xk_ BK313 1; have hfz47_0 := blk_frozen BK313.out 0; have hfz47_1 := blk_frozen BK313.out 1))
      refine bodyPost_ret (results_ct rfl _ _ gb313 25 #[.slice none 0 0, .int .i64 0] (0, 0) _ rfl (by (with_reducible repeat (first | refine blk_drewN ?_ _ | refine blk_drew ?_ | refine blk_alloc ?_ _)); refine blk_put (cs := #[.slice none 0 0, .int .i64 0]) ?_ 1 _ rfl; (with_reducible repeat (first | refine blk_drewN ?_ _ | refine blk_drew ?_ | refine blk_alloc ?_ _)); refine blk_put (cs := #[.slice none 0 0, .int .i64 0]) ?_ 0 _ rfl; (with_reducible repeat (first | refine blk_drewN ?_ _ | refine blk_drew ?_ | refine blk_alloc ?_ _)); exact BK313.out) Try.underlying25 rfl (by kernel_rfl)) rfl ?_
      exact ⟨_, by first | rfl | (simp [errW_none, errW_some] <;> rfl) | (simp [*, errW_none, errW_some] <;> rfl), by first | exact Kd.R_nil _ _ _ _ _ | exact Kd.N_nil _ _ _ _ _ | exact Kd.V_nil _ _ _ _ _ | exact Kd.Q_nil _ _ _ _ _ | exact Kd.S_nil _ _ _ _ _, xw_ HB⟩
 ·replace c3 := Bool.eq_false_iff.mpr c3
  subst c3
  have H1 : (some (([] : List Int), 0, false)) = some (r1, r2, r3) := by rw [if_neg (show ¬ (false = true) by decide)] at H; exact H
  clear H
  have H := H1
  clear H1
  simp only [Option.some.injEq, Prod.mk.injEq] at H
  obtain ⟨rfl, rfl, rfl⟩ := H
  go_enter Try.func24, Try.ntmps24
  go_wp2_with (first | ((with_reducible refine gate_dst (N := 1) rfl ?_); refine xbe_ (N := 1) (cs := #[.slice A0_0 l0_0.length c0_0, .int .i64 a0_1]) (t := 25) ?_; intro gb312 hg w48 hbox hb; have BK312 := Aside0.mk (hbox); have GW312 := xge_ HB hg; have GE312 := xge_ HB hg; replace HB := xws_ HB hb; clear hb hbox hg) | ((with_reducible refine gate_dst (N := 2) rfl ?_); refine xbe_ (N := 2) (cs := #[.slice none 0 0, .int .i64 0]) (t := 25) ?_; intro gb313 hg w49 hbox hb; have BK313 := Aside0.mk (hbox); have GW313 := xge_ HB hg; have GE313 := xge_ HB hg; replace HB := xws_ HB hb; have NB312_313 := xlt_ BK312 hg; have NB313_312 := xgt_ BK312 hg; replace BK312 := xbb_ BK312 hb; clear hb hbox hg; have hnb50 := NB312_313.out; have hnc50 := NB313_312.out; have hcz51_0 : w49.cell? ⟨gb312, 0, none⟩ = some (.slice A0_0 l0_0.length c0_0) := xk_ BK312 0; have hcz51_1 : w49.cell? ⟨gb312, 1, none⟩ = some (.int .i64 a0_1) := xk_ BK312 1; have hfz51_0 := blk_frozen BK312.out 0; have hfz51_1 := blk_frozen BK312.out 1) | ((with_reducible refine gate_callee (f := 10) rfl ?_); refine xgl_ (some 8) Try.func10 #[.agg #[.slice A0_0 l0_0.length c0_0, .int .i64 a0_1]] ?_; (with_reducible refine (spec_GoodSketch.calls k _ _ l0_0 a0_1 false _ ?side1 ?side2 A2.out).mono ?_); (case side1 => exact xc_ ((Kd.C_below HR0_0.out HB.out))); (case side2 => exact HC0_0.out); rintro e w52 ⟨rfl, hb⟩; refine ⟨_, rfl, ?_⟩; replace BK312 := xbb_ BK312 hb; replace BK313 := xbb_ BK313 hb; replace HB := xws_ HB hb; (try clear hb); (try clear hb2); (try clear hk); (try clear hi); have hcz53_0 : w52.cell? ⟨gb313, 0, none⟩ = some (.slice none 0 0) := xk_ BK313 0; have hcz53_1 : w52.cell? ⟨gb313, 1, none⟩ = some (.int .i64 0) := xk_ BK313 1; have hfz53_0 := blk_frozen BK313.out 0; have hfz53_1 := blk_frozen BK313.out 1))
  refine bodyPost_ret (results_ct rfl _ _ gb313 25 #[.slice none 0 0, .int .i64 0] (0, 0) _ rfl (by (with_reducible repeat (first | refine blk_drewN ?_ _ | refine blk_drew ?_ | refine blk_alloc ?_ _)); refine blk_put (cs := #[.slice none 0 0, .int .i64 0]) ?_ 1 _ rfl; (with_reducible repeat (first | refine blk_drewN ?_ _ | refine blk_drew ?_ | refine blk_alloc ?_ _)); refine blk_put (cs := #[.slice none 0 0, .int .i64 0]) ?_ 0 _ rfl; (with_reducible repeat (first | refine blk_drewN ?_ _ | refine blk_drew ?_ | refine blk_alloc ?_ _)); exact BK313.out) Try.underlying25 rfl (by kernel_rfl)) rfl ?_
  exact ⟨_, by first | rfl | (simp [errW_none, errW_some] <;> rfl) | (simp [*, errW_none, errW_some] <;> rfl), by first | exact Kd.R_nil _ _ _ _ _ | exact Kd.N_nil _ _ _ _ _ | exact Kd.V_nil _ _ _ _ _ | exact Kd.Q_nil _ _ _ _ _ | exact Kd.S_nil _ _ _ _ _, xw_ HB⟩

end Go.Proofs.Ytemeajidcggniaa.PFnSummed
