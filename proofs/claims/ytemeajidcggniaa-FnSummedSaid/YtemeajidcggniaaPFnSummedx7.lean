-- Written by a program of this project (xprint.py) out of the translation; Lean checks it.
import Derived.Test.YtemeajidcggniaaPFnSummedx0
import Derived.Test.YtemeajidcggniaaPFnSummedx1
import Derived.Test.YtemeajidcggniaaPFnSummedx2
import Derived.Test.YtemeajidcggniaaPFnSummedx4
namespace Go.Proofs.Ytemeajidcggniaa.PFnSummed
open Go.RowKit Go.Proofs.YtemeajidcggniaaW.PrintWords Go.Proofs.YtemeajidcggniaaW.PrintLast Go.Proofs.YtemeajidcggniaaW.PrintMore
attribute [local go_sem] max2_int min2_int max_two min_two max_three min_three max_four min_four   -- for this text's walks alone
set_option linter.unusedVariables false
set_option linter.unusedSimpArgs false

/-! ### spec_JoinSketches: function 17 -/
mutual
def spec_JoinSketches.j0 : Nat → Bool → List Int → Int → List Int → Int → Option (List Int × Int × Bool)
 | 0, _, _, _, _, _ => none
 | k + 1, x16, x257000, x257001, x258000, x258001 => if x16 = true then (some (([] : List Int), 0, false)) else ((some (([] : List Int) : List Int)).bind fun y261 => (if y261.length + x257000.length < 17592186044416 then (spec_JoinSketches.l0 k x258000 (x258000.length : Int) 0 (y261 ++ x257000) (wrap64 (x257001 + x258001))) else (none)))
def spec_JoinSketches.l0 : Nat → List Int → Int → Int → List Int → Int → Option (List Int × Int × Bool)
 | 0, _, _, _, _, _ => none
 | k + 1, x29, x30, x31, x268000, x268001 => if x31 < x30 then (if 0 ≤ x31 then (if x31 < (x29.length : Int) then (if x31 < (x268000.length : Int) then (spec_JoinSketches.l0 k x29 x30 (wrap64 (x31 + 1)) (x268000.set (x31 : Int).toNat (wrap64 ((rd x268000 x31) + (rd x29 x31)))) x268001) else (none)) else (none)) else (none)) else ((spec_GoodSketch.f k x268000 x268001).bind fun t271 => (if t271 = true then (some (x268000, x268001, true)) else (some (([] : List Int), 0, false))))
end
def spec_JoinSketches.f (k : Nat) (l0_0 : List Int) (a0_1 : Int) (l1_0 : List Int) (a1_1 : Int) : Option (List Int × Int × Bool) := (spec_GoodSketch.f k l0_0 a0_1).bind fun t259 => (if t259 = true then ((spec_GoodSketch.f k l1_0 a1_1).bind fun t260 => (spec_JoinSketches.j0 k (!t260) l0_0 a0_1 l1_0 a1_1)) else (spec_JoinSketches.j0 k true l0_0 a0_1 l1_0 a1_1))
theorem spec_JoinSketches.mono_l : ∀ k, (∀ y0 y1 y2 y3 y4, LeO (spec_JoinSketches.j0 k y0 y1 y2 y3 y4) (spec_JoinSketches.j0 (k + 1) y0 y1 y2 y3 y4)) ∧ (∀ y0 y1 y2 y3 y4, LeO (spec_JoinSketches.l0 k y0 y1 y2 y3 y4) (spec_JoinSketches.l0 (k + 1) y0 y1 y2 y3 y4))
 | 0 => ⟨fun _ _ _ _ _ r h => by simp [spec_JoinSketches.j0] at h, fun _ _ _ _ _ r h => by simp [spec_JoinSketches.l0] at h⟩
 | k + 1 => by
  obtain ⟨ih0, ih1⟩ := spec_JoinSketches.mono_l k
  refine ⟨?_, ?_⟩
  ·intro y0 y1 y2 y3 y4
   unfold spec_JoinSketches.j0
   repeat' first
   | (with_reducible exact ih0 _ _ _ _ _)
   | (with_reducible exact ih1 _ _ _ _ _)
   | (with_reducible exact spec_GoodSketch.mono _ _ _)
   | (with_reducible exact LeO.refl _)
   | (with_reducible exact LeO.none _)
   | (with_reducible refine LeO.ite ?_ ?_)
   | (with_reducible refine LeO.bind ?_ (fun _ => ?_))
   | exact ih0 _ _ _ _ _
   | exact ih1 _ _ _ _ _
   | exact spec_GoodSketch.mono _ _ _
   | exact LeO.none _
   | refine LeO.ite ?_ ?_
   | refine LeO.bind ?_ (fun _ => ?_)
  ·intro y0 y1 y2 y3 y4
   unfold spec_JoinSketches.l0
   repeat' first
   | (with_reducible exact ih0 _ _ _ _ _)
   | (with_reducible exact ih1 _ _ _ _ _)
   | (with_reducible exact spec_GoodSketch.mono _ _ _)
   | (with_reducible exact LeO.refl _)
   | (with_reducible exact LeO.none _)
   | (with_reducible refine LeO.ite ?_ ?_)
   | (with_reducible refine LeO.bind ?_ (fun _ => ?_))
   | exact ih0 _ _ _ _ _
   | exact ih1 _ _ _ _ _
   | exact spec_GoodSketch.mono _ _ _
   | exact LeO.none _
   | refine LeO.ite ?_ ?_
   | refine LeO.bind ?_ (fun _ => ?_)
theorem spec_JoinSketches.mono : ∀ a0 a1 a2 a3 k, LeO (spec_JoinSketches.f k a0 a1 a2 a3) (spec_JoinSketches.f (k + 1) a0 a1 a2 a3) := by
 intro a0 a1 a2 a3 k
 obtain ⟨ih0, ih1⟩ := spec_JoinSketches.mono_l k
 unfold spec_JoinSketches.f
 repeat' first
   | (with_reducible exact ih0 _ _ _ _ _)
   | (with_reducible exact ih1 _ _ _ _ _)
   | (with_reducible exact spec_GoodSketch.mono _ _ _)
   | (with_reducible exact LeO.refl _)
   | (with_reducible exact LeO.none _)
   | (with_reducible refine LeO.ite ?_ ?_)
   | (with_reducible refine LeO.bind ?_ (fun _ => ?_))
   | exact ih0 _ _ _ _ _
   | exact ih1 _ _ _ _ _
   | exact spec_GoodSketch.mono _ _ _
   | exact LeO.none _
   | refine LeO.ite ?_ ?_
   | refine LeO.bind ?_ (fun _ => ?_)
def spec_JoinSketches.T3 : Bool × List (List Nat × List Nat) := (true, [([], []), ([], []), ([1], [1]), ([0, 2], [0, 2]), ([], []), ([4], [4]), ([], []), ([6], [6]), ([5, 7], [5, 7]), ([3, 8], [3, 8]), ([], []), ([10, 9, 3, 0, 1, 2, 3, 4, 5, 6, 7, 8, 9, 10], [9, 10])])
def spec_JoinSketches.B3 : List Nat := [0, 0, 2, 7, 0, 16, 0, 64, 240, 511, 0, 2047]
theorem spec_JoinSketches.tab3 : rtab .any (opsOf Try.f17 3) = spec_JoinSketches.T3 := by kernel_rfl
theorem spec_JoinSketches.bits3 : waitsOk spec_JoinSketches.T3.2 spec_JoinSketches.B3 = true := by kernel_rfl
set_option maxHeartbeats 8000000 in
set_option maxRecDepth 100000 in
theorem spec_JoinSketches.calls (k : Nat) (A0_0 : Option Addr) (c0_0 : Nat) (l0_0 : List Int) (a0_1 : Int) (A1_0 : Option Addr) (c1_0 : Nat) (l1_0 : List Int) (a1_1 : Int) (r1 : List Int) (r2 : Int) (r3 : Bool) (w : World) (hr0_0 : Kd.C (Kd.int .i64) w A0_0 l0_0.length l0_0) (hc0_0 : l0_0.length ≤ c0_0) (hr1_0 : Kd.C (Kd.int .i64) w A1_0 l1_0.length l1_0) (hc1_0 : l1_0.length ≤ c1_0) (h : spec_JoinSketches.f k l0_0 a0_1 l1_0 a1_1 = some (r1, r2, r3)) :
  Calls Try.prog 17 #[.agg #[.slice A0_0 l0_0.length c0_0, .int .i64 a0_1], .agg #[.slice A1_0 l1_0.length c1_0, .int .i64 a1_1]] w fun e w' => ∃ v0_ : Value, e = .returned (.tuple #[.agg #[v0_, .int .i64 r2], .bool r3]) ∧ Kd.R (Kd.int .i64) 3 w' w.heap.size (fun _ => True) v0_ r1 ∧ Below w.heap.size w w' := by
 have hu25 := Try.underlying25
 have HR0_0 := Aside0.mk hr0_0
 have HC0_0 := Aside0.mk hc0_0
 clear hr0_0 hc0_0
 have HR1_0 := Aside0.mk hr1_0
 have HC1_0 := Aside0.mk hc1_0
 clear hr1_0 hc1_0
 have HB := Aside0.mk (Below.refl w.heap.size w)
 have H : ((spec_GoodSketch.f k l0_0 a0_1).bind fun t259 => (if t259 = true then ((spec_GoodSketch.f k l1_0 a1_1).bind fun t260 => (spec_JoinSketches.j0 k (!t260) l0_0 a0_1 l1_0 a1_1)) else (spec_JoinSketches.j0 k true l0_0 a0_1 l1_0 a1_1))) = some (r1, r2, r3) := h
 clear h
 have HC3 := Aside0.mk H
 clear H
 go_enter Try.func17, Try.ntmps17
 go_upto_region 1 with (first | ((with_reducible refine gate_dst (N := 2) rfl ?_); refine xbe_ (N := 2) (cs := #[.slice A0_0 l0_0.length c0_0, .int .i64 a0_1]) (t := 25) ?_; intro gb256 hg w4 hbox hb; have BK256 := Aside0.mk (hbox); have GW256 := xge_ HB hg; have GE256 := xge_ HB hg; replace HB := xws_ HB hb; clear hb hbox hg) | ((with_reducible refine gate_dst (N := 3) rfl ?_); refine xbe_ (N := 3) (cs := #[.slice A1_0 l1_0.length c1_0, .int .i64 a1_1]) (t := 25) ?_; intro gb257 hg w5 hbox hb; have BK257 := Aside0.mk (hbox); have GW257 := xge_ HB hg; have GE257 := xge_ HB hg; replace HB := xws_ HB hb; have NB256_257 := xlt_ BK256 hg; have NB257_256 := xgt_ BK256 hg; replace BK256 := xbb_ BK256 hb; clear hb hbox hg) | ((with_reducible refine gate_dst (N := 4) rfl ?_); refine xbe_ (N := 4) (cs := #[.slice none 0 0, .int .i64 0]) (t := 25) ?_; intro gb258 hg w6 hbox hb; have BK258 := Aside0.mk (hbox); have GW258 := xge_ HB hg; have GE258 := xge_ HB hg; replace HB := xws_ HB hb; have NB256_258 := xlt_ BK256 hg; have NB258_256 := xgt_ BK256 hg; replace BK256 := xbb_ BK256 hb; have NB257_258 := xlt_ BK257 hg; have NB258_257 := xgt_ BK257 hg; replace BK257 := xbb_ BK257 hb; clear hb hbox hg))
 (try simp only [Act.put, List.setIfInBounds_toArray, List.set_cons_zero, List.set_cons_succ])
 go_cut [16] (fun v16 wc => ∃ (kq : Nat) (x16_2 : Bool), v16 = .bool x16_2 ∧ Aside0 (spec_JoinSketches.j0 kq x16_2 l0_0 a0_1 l1_0 a1_1 = some (r1, r2, r3)) ∧ Aside0 (kq ≤ k) ∧ Aside0 (wc.heap[gb256]? = some (.cells #[(.slice A0_0 l0_0.length c0_0), .int .i64 a0_1] 25 (0, 0))) ∧ Aside0 (wc.heap[gb257]? = some (.cells #[(.slice A1_0 l1_0.length c1_0), .int .i64 a1_1] 25 (0, 0))) ∧ Aside0 (wc.heap[gb258]? = some (.cells #[(.slice none 0 0), .int .i64 0] 25 (0, 0))) ∧ Aside0 (Below w.heap.size w wc))
 case first =>
  have H := HC3.out
  clear HC3
  replace H := Option.bind_eq_some_iff.mp H
  obtain ⟨t259, A70, H⟩ := H
  replace H : (if t259 = true then ((spec_GoodSketch.f k l1_0 a1_1).bind fun t260 => (spec_JoinSketches.j0 k (!t260) l0_0 a0_1 l1_0 a1_1)) else (spec_JoinSketches.j0 k true l0_0 a0_1 l1_0 a1_1)) = some (r1, r2, r3) := H
  have A7 := Aside0.mk A70
  clear A70
  by_cases c8 : t259 = true
  ·subst c8
   have H1 : ((spec_GoodSketch.f k l1_0 a1_1).bind fun t260 => (spec_JoinSketches.j0 k (!t260) l0_0 a0_1 l1_0 a1_1)) = some (r1, r2, r3) := by rw [if_pos rfl] at H; exact H
   clear H
   have H := H1
   clear H1
   replace H := Option.bind_eq_some_iff.mp H
   obtain ⟨t260, A90, H⟩ := H
   replace H : (spec_JoinSketches.j0 k (!t260) l0_0 a0_1 l1_0 a1_1) = some (r1, r2, r3) := H
   have A9 := Aside0.mk A90
   clear A90
   have H' := Aside0.mk H
   clear H
   have hnb10 := NB256_257.out
   have hnc10 := NB257_256.out
   have hnb11 := NB256_258.out
   have hnc11 := NB258_256.out
   have hcz12_0 : w6.cell? ⟨gb256, 0, none⟩ = some (.slice A0_0 l0_0.length c0_0) := xk_ BK256 0
   have hcz12_1 : w6.cell? ⟨gb256, 1, none⟩ = some (.int .i64 a0_1) := xk_ BK256 1
   have hfz12_0 := blk_frozen BK256.out 0
   have hfz12_1 := blk_frozen BK256.out 1
   go_wp2_with (first | ((with_reducible refine gate_callee (f := 10) rfl ?_); refine xgl_ (some 10) Try.func10 #[.agg #[.slice A0_0 l0_0.length c0_0, .int .i64 a0_1]] ?_; (with_reducible refine (spec_GoodSketch.calls k _ _ l0_0 a0_1 true _ ?side1 ?side2 A7.out).mono ?_); (case side1 => exact xc_ ((Kd.C_below HR0_0.out HB.out))); (case side2 => exact HC0_0.out); rintro e w13 ⟨rfl, hb⟩; refine ⟨_, rfl, ?_⟩; replace BK256 := xbb_ BK256 hb; replace BK257 := xbb_ BK257 hb; replace BK258 := xbb_ BK258 hb; replace HB := xws_ HB hb; (try clear hb); (try clear hb2); (try clear hk); (try clear hi); have hnb14 := NB257_258.out; have hnc14 := NB258_257.out; have hcz15_0 : w13.cell? ⟨gb257, 0, none⟩ = some (.slice A1_0 l1_0.length c1_0) := xk_ BK257 0; have hcz15_1 : w13.cell? ⟨gb257, 1, none⟩ = some (.int .i64 a1_1) := xk_ BK257 1; have hfz15_0 := blk_frozen BK257.out 0; have hfz15_1 := blk_frozen BK257.out 1) | (go_at_call 10; (with_reducible refine (spec_GoodSketch.calls k _ _ l1_0 a1_1 t260 _ ?side1 ?side2 A9.out).mono ?_); (case side1 => exact xc_ ((Kd.C_below HR1_0.out HB.out))); (case side2 => exact HC1_0.out); rintro e w16 ⟨rfl, hb⟩; replace BK256 := xbb_ BK256 hb; replace BK257 := xbb_ BK257 hb; replace BK258 := xbb_ BK258 hb; replace HB := xws_ HB hb; (try clear hb); (try clear hb2); (try clear hk); (try clear hi)))
   go_meet
   case rel => exact ⟨_, (!t260), (by first | rfl | (simp; done) | (simp [*]; done)), H', ⟨by first | omega | exact Nat.le_refl _⟩, ⟨xb_ BK256⟩, ⟨xb_ BK257⟩, ⟨xb_ BK258⟩, ⟨xw_ HB⟩⟩
  ·replace c8 := Bool.eq_false_iff.mpr c8
   subst c8
   have H1 : (spec_JoinSketches.j0 k true l0_0 a0_1 l1_0 a1_1) = some (r1, r2, r3) := by rw [if_neg (show ¬ (false = true) by decide)] at H; exact H
   clear H
   have H := H1
   clear H1
   have H' := Aside0.mk H
   clear H
   have hnb17 := NB256_257.out
   have hnc17 := NB257_256.out
   have hnb18 := NB256_258.out
   have hnc18 := NB258_256.out
   have hcz19_0 : w6.cell? ⟨gb256, 0, none⟩ = some (.slice A0_0 l0_0.length c0_0) := xk_ BK256 0
   have hcz19_1 : w6.cell? ⟨gb256, 1, none⟩ = some (.int .i64 a0_1) := xk_ BK256 1
   have hfz19_0 := blk_frozen BK256.out 0
   have hfz19_1 := blk_frozen BK256.out 1
   go_wp2_with (first | ((with_reducible refine gate_callee (f := 10) rfl ?_); refine xgl_ (some 10) Try.func10 #[.agg #[.slice A0_0 l0_0.length c0_0, .int .i64 a0_1]] ?_; (with_reducible refine (spec_GoodSketch.calls k _ _ l0_0 a0_1 false _ ?side1 ?side2 A7.out).mono ?_); (case side1 => exact xc_ ((Kd.C_below HR0_0.out HB.out))); (case side2 => exact HC0_0.out); rintro e w20 ⟨rfl, hb⟩; refine ⟨_, rfl, ?_⟩; replace BK256 := xbb_ BK256 hb; replace BK257 := xbb_ BK257 hb; replace BK258 := xbb_ BK258 hb; replace HB := xws_ HB hb; (try clear hb); (try clear hb2); (try clear hk); (try clear hi)))
   go_meet
   case rel => exact ⟨_, (true), (by first | rfl | (simp; done) | (simp [*]; done)), H', ⟨by first | omega | exact Nat.le_refl _⟩, ⟨xb_ BK256⟩, ⟨xb_ BK257⟩, ⟨xb_ BK258⟩, ⟨xw_ HB⟩⟩
 case rest =>
  clear HC3
  try clear c1
  try clear p2
  try clear c8
  try clear c10
  try clear c11
  try clear c14
  try clear c17
  try clear c18
  try clear hcz12_0
  try clear hcz12_1
  try clear hcz15_0
  try clear hcz15_1
  try clear hcz19_0
  try clear hcz19_1
  try clear hfz12_0
  try clear hfz12_1
  try clear hfz15_0
  try clear hfz15_1
  try clear hfz19_0
  try clear hfz19_1
  obtain ⟨kq, x16_2, rfl, HA, HJ2, BK256, BK257, BK258, HB⟩ := hcut
  cases kq with
  | zero => exact absurd HA.out (by simp [spec_JoinSketches.j0])
  | succ kj2 =>
   have H := HA.out
   clear HA
   simp only [spec_JoinSketches.j0] at H
   by_cases c21 : x16_2 = true
   ·subst c21
    have H1 : (some (([] : List Int), 0, false)) = some (r1, r2, r3) := by rw [if_pos rfl] at H; exact H
    clear H
    have H := H1
    clear H1
    simp only [Option.some.injEq, Prod.mk.injEq] at H
    obtain ⟨rfl, rfl, rfl⟩ := H
    have hnb22 := NB258_256.out
    have hnc22 := NB256_258.out
    have hnb23 := NB258_257.out
    have hnc23 := NB257_258.out
    have hcz24_0 : wc.cell? ⟨gb258, 0, none⟩ = some (.slice none 0 0) := xk_ BK258 0
    have hcz24_1 : wc.cell? ⟨gb258, 1, none⟩ = some (.int .i64 0) := xk_ BK258 1
    have hfz24_0 := blk_frozen BK258.out 0
    have hfz24_1 := blk_frozen BK258.out 1
    go_wp2
    refine bodyPost_ret (results_ct rfl _ _ gb258 25 #[.slice none 0 0, .int .i64 0] (0, 0) _ rfl (by (with_reducible repeat (first | refine blk_drewN ?_ _ | refine blk_drew ?_ | refine blk_alloc ?_ _)); refine blk_put (cs := #[.slice none 0 0, .int .i64 0]) ?_ 1 _ rfl; (with_reducible repeat (first | refine blk_drewN ?_ _ | refine blk_drew ?_ | refine blk_alloc ?_ _)); refine blk_put (cs := #[.slice none 0 0, .int .i64 0]) ?_ 0 _ rfl; (with_reducible repeat (first | refine blk_drewN ?_ _ | refine blk_drew ?_ | refine blk_alloc ?_ _)); exact BK258.out) Try.underlying25 rfl (by kernel_rfl)) rfl ?_
    exact ⟨_, by first | rfl | (simp [errW_none, errW_some] <;> rfl) | (simp [*, errW_none, errW_some] <;> rfl), by first | exact Kd.R_nil _ _ _ _ _ | exact Kd.N_nil _ _ _ _ _ | exact Kd.V_nil _ _ _ _ _ | exact Kd.Q_nil _ _ _ _ _ | exact Kd.S_nil _ _ _ _ _, xw_ HB⟩
   ·replace c21 := Bool.eq_false_iff.mpr c21
    subst c21
    have H1 : ((some (([] : List Int) : List Int)).bind fun y261 => (if y261.length + l0_0.length < 17592186044416 then (spec_JoinSketches.l0 kj2 l1_0 (l1_0.length : Int) 0 (y261 ++ l0_0) (wrap64 (a0_1 + a1_1))) else (none))) = some (r1, r2, r3) := by rw [if_neg (show ¬ (false = true) by decide)] at H; exact H
    clear H
    have H := H1
    clear H1
    obtain ⟨y261, hy261⟩ : ∃ y_ : List Int, y_ = (([] : List Int)) := ⟨_, rfl⟩
    replace H : (if y261.length + l0_0.length < 17592186044416 then (spec_JoinSketches.l0 kj2 l1_0 (l1_0.length : Int) 0 (y261 ++ l0_0) (wrap64 (a0_1 + a1_1))) else (none)) = some (r1, r2, r3) := by first | (rw [hy261]; with_reducible exact H) | (have H2_ := (Option.bind_some _ _).symm.trans H; rw [hy261]; with_reducible exact H2_) | (have H2_ := (Option.bind_some _ _).symm.trans H; with_reducible exact H2_) | with_reducible exact H | (rw [hy261]; exact H) | exact H
    have Ny261 := Aside0.mk hy261
    clear hy261
    by_cases c25 : y261.length + l0_0.length < 17592186044416
    ·rw [if_pos c25] at H
     have LMc25 := Aside0.mk c25
     clear c25
     obtain ⟨y264, hy264⟩ : ∃ y_ : List Int, y_ = (y261 ++ l0_0) := ⟨_, rfl⟩
     replace H : (spec_JoinSketches.l0 kj2 l1_0 (l1_0.length : Int) 0 y264 (wrap64 (a0_1 + a1_1))) = some (r1, r2, r3) := by first | (rw [hy264]; with_reducible exact H) | (have H2_ := (Option.bind_some _ _).symm.trans H; rw [hy264]; with_reducible exact H2_) | (have H2_ := (Option.bind_some _ _).symm.trans H; with_reducible exact H2_) | with_reducible exact H | (rw [hy264]; exact H) | exact H
     have Ny264 := Aside0.mk hy264
     clear hy264
     have H' := Aside0.mk H
     clear H
     try go_wp2
     replace BK256 := Aside0.mk (blk_drew BK256.out)
     replace BK257 := Aside0.mk (blk_drew BK257.out)
     replace BK258 := Aside0.mk (blk_drew BK258.out)
     replace HB := Aside0.mk (below_drew1 HB.out)
     refine start_ (n := 12) (S := fun w' => w'.cell? ⟨gb256, 0, none⟩ = some (.slice A0_0 l0_0.length c0_0) ∧ w'.cell? ⟨gb256, 1, none⟩ = some (.int .i64 a0_1) ∧ w'.cell? ⟨gb257, 0, none⟩ = some (.slice A1_0 l1_0.length c1_0) ∧ w'.cell? ⟨gb257, 1, none⟩ = some (.int .i64 a1_1)) (ds := []) #[false, false, false, false, false, false, false, false, false, false, false, false] (by kernel_rfl) rfl rfl ⟨xk_ BK256 0, xk_ BK256 1, xk_ BK257 0, xk_ BK257 1⟩ (fun hHeld => ?_); refine with_tabW spec_JoinSketches.tab3 spec_JoinSketches.bits3 (fun HT_ HW_ => ?_)
     generalize wc.drew = w26 at BK256 BK257 BK258 HB hHeld ⊢
     refine pure_ (i := 1) (N := some 19) (v := ?_) (a' := ?_) #[false, true, false, false, false, false, false, false, false, false, false, false] rfl rfl (any_of HT_.out (by kernel_rfl)) (fun _ _ _ h => h) (Or.inl ⟨by rfl, ?_⟩) ?_ ?_
     rotate_left
     ·intro w'
      go_simp
      with_reducible rfl
     rotate_left
     ·simp only [Act.put, List.setIfInBounds_toArray, List.set_cons_zero, List.set_cons_succ, i64_w, i32_w]
      rfl
     refine pure_ (i := 4) (N := some 22) (v := ?_) (a' := ?_) #[false, true, false, false, true, false, false, false, false, false, false, false] rfl rfl (any_of HT_.out (by kernel_rfl)) (fun _ _ _ h => h) (Or.inl ⟨by rfl, ?_⟩) ?_ ?_
     rotate_left
     ·intro w'
      go_simp
      with_reducible rfl
     rotate_left
     ·simp only [Act.put, List.setIfInBounds_toArray, List.set_cons_zero, List.set_cons_succ, i64_w, i32_w]
      rfl
     refine pure_ (i := 6) (N := some 24) (v := ?_) (a' := ?_) #[false, true, false, false, true, false, true, false, false, false, false, false] rfl rfl (any_of HT_.out (by kernel_rfl)) (fun _ _ _ h => h) (Or.inl ⟨by rfl, ?_⟩) ?_ ?_
     rotate_left
     ·intro w'
      go_simp
      with_reducible rfl
     rotate_left
     ·simp only [Act.put, List.setIfInBounds_toArray, List.set_cons_zero, List.set_cons_succ, i64_w, i32_w]
      rfl
     refine take_ (i := 2) (N := some 20) (v := ?_) (a' := ?_) #[false, true, true, false, true, false, true, false, false, false, false, false] rfl rfl (take_ofW HT_.out HW_.out (by kernel_rfl)) (fun _ _ _ h => h) (Or.inl ⟨by rfl, ?_⟩) hHeld ?_ ?_
     rotate_left
     ·rintro w' ⟨s0, s1, s2, s3⟩
      go_simp
      with_reducible rfl
     rotate_left
     ·simp only [Act.put, List.setIfInBounds_toArray, List.set_cons_zero, List.set_cons_succ, i64_w, i32_w]
      rfl
     refine take_ (i := 5) (N := some 23) (v := ?_) (a' := ?_) #[false, true, true, false, true, true, true, false, false, false, false, false] rfl rfl (take_ofW HT_.out HW_.out (by kernel_rfl)) (fun _ _ _ h => h) (Or.inl ⟨by rfl, ?_⟩) hHeld ?_ ?_
     rotate_left
     ·rintro w' ⟨s0, s1, s2, s3⟩
      go_simp
      with_reducible rfl
     rotate_left
     ·simp only [Act.put, List.setIfInBounds_toArray, List.set_cons_zero, List.set_cons_succ, i64_w, i32_w]
      rfl
     refine take_ (i := 7) (N := some 25) (v := ?_) (a' := ?_) #[false, true, true, false, true, true, true, true, false, false, false, false] rfl rfl (take_ofW HT_.out HW_.out (by kernel_rfl)) (fun _ _ _ h => h) (Or.inl ⟨by rfl, ?_⟩) hHeld ?_ ?_
     rotate_left
     ·rintro w' ⟨s0, s1, s2, s3⟩
      go_simp
      with_reducible rfl
     rotate_left
     ·simp only [Act.put, List.setIfInBounds_toArray, List.set_cons_zero, List.set_cons_succ, i64_w, i32_w]
      rfl
     refine pure_ (i := 8) (N := some 26) (v := ?_) (a' := ?_) #[false, true, true, false, true, true, true, true, true, false, false, false] rfl rfl (any_of HT_.out (by kernel_rfl)) (fun _ _ _ h => h) (Or.inl ⟨by rfl, ?_⟩) ?_ ?_
     rotate_left
     ·intro w'
      go_simp
      with_reducible rfl
     rotate_left
     ·simp only [Act.put, List.setIfInBounds_toArray, List.set_cons_zero, List.set_cons_succ, i64_w, i32_w]
      rfl
     refine join_ (σ := Value × Value × Nat) 1 #[true, true, true, true, true, true, true, true, true, true, true, false] (fun s_ => [(18, s_.1), (21, s_.2.1), (6, .pointer (some ⟨s_.2.2, 0, none⟩)), (27, .agg #[s_.2.1, .int .i64 (wrap64 (a0_1 + a1_1))])]) (fun s_ w' => (w'.cell? ⟨gb256, 0, none⟩ = some (.slice A0_0 l0_0.length c0_0) ∧ w'.cell? ⟨gb256, 1, none⟩ = some (.int .i64 a0_1) ∧ w'.cell? ⟨gb257, 0, none⟩ = some (.slice A1_0 l1_0.length c1_0) ∧ w'.cell? ⟨gb257, 1, none⟩ = some (.int .i64 a1_1)) ∧ (Kd.R (Kd.int .i64) 3 w' w.heap.size (fun _ => True) s_.2.1 y264) ∧ (w'.heap[gb256]? = some (.cells #[.slice A0_0 l0_0.length c0_0, .int .i64 a0_1] 25 (0, 0))) ∧ (w'.heap[gb257]? = some (.cells #[.slice A1_0 l1_0.length c1_0, .int .i64 a1_1] 25 (0, 0))) ∧ (w'.heap[gb258]? = some (.cells #[.slice none 0 0, .int .i64 0] 25 (0, 0))) ∧ (w'.heap[s_.2.2]? = some (.cells #[.slice none 0 0, .int .i64 0] 25 (0, 0))) ∧ (w.heap.size ≤ s_.2.2) ∧ (w.heap.size ≤ s_.2.2) ∧ (gb256 ≠ s_.2.2) ∧ (s_.2.2 ≠ gb256) ∧ (gb257 ≠ s_.2.2) ∧ (s_.2.2 ≠ gb257) ∧ (gb258 ≠ s_.2.2) ∧ (s_.2.2 ≠ gb258) ∧ (Below w.heap.size w w')) ?_ ?_
     rotate_left
     ·intro hCont
      refine two_ (i := 0) (j := 10) (Ni := some 18) (Nj := some 6) #[true, true, true, false, true, true, true, true, true, false, false, false] #[false, true, true, false, true, true, true, true, true, false, true, false] rfl rfl rfl rfl (two_of HT_.out (by kernel_rfl)) (by decide) (by decide) (fun K hK => ?_) (fun K hK => ?_)
      ·skip
       refine Kd.R_lit_step (Kd.int .i64) _ 3 ?hg (N := 18) ?hd (xs := ([] : List Int)) (inner := []) (ok := fun _ => True) (okp := fun _ => True) ?hr ?hp (fun _ hk => hk) trivial (Below.refl _ _) (Nat.le_refl _) (by simp) ?_; (case hd => rfl); (case hg => rfl); (case hr => first | (go_simp; done) | (go_simp; rfl)); (case hp => exact (Reps.none _ _))
       intro v262 w27 ho28 hb hg_ hnew_
       clear hg_ hnew_
       (first | rw [← Ny261.out] at ho28 | (simp only [Int.reduceToNat] at ho28; rw [← Ny261.out] at ho28))
       have HO263 := Aside0.mk (Kd.R_lower ho28 (below_size (xw_ HB)))
       replace BK256 := xbb_ BK256 hb
       replace BK257 := xbb_ BK257 hb
       replace BK258 := xbb_ BK258 hb
       replace HB := xws_ HB hb
       clear hb ho28
       refine hK.out _ _ ⟨xk_ BK256 0, xk_ BK256 1, xk_ BK257 0, xk_ BK257 1⟩ (fun hHeld => ?_)
       clear hK K
       refine norm_ (a' := ?_) ?_ ?_
       rotate_left
       ·show Act.put _ (some 18) _ = _
        simp only [Act.put, List.setIfInBounds_toArray, List.set_cons_zero, List.set_cons_succ, i64_w, i32_w]
        rfl
       refine two_ (i := 3) (j := 10) (Ni := some 21) (Nj := some 6) #[true, true, true, true, true, true, true, true, true, false, false, false] #[true, true, true, false, true, true, true, true, true, false, true, false] rfl rfl rfl rfl (two_of HT_.out (by kernel_rfl)) (by decide) (by decide) (fun K hK => ?_) (fun K hK => ?_)
       ·skip
        refine Kd.R_append_rows_step (Kd.int .i64) (w0 := w) w.heap.size (by rfl) (.tmp 18) (.tmp 20) 23 3 (.int .i64 0) 8 rfl Try.underlying23 info3 rfl (by decide) (by omega) v262 y261 l0_0 _ _ _ (fun _ => True) (fun _ => False) rfl rfl ?aO ?aR (fun _ _ h => h) (fun _ h => h.elim) ?aF ?aB ?aS ?aL ?_
        (case aR => exact xc_ ((Kd.C_below HR0_0.out HB.out)))
        (case aB => exact (xw_ HB))
        (case aF => exact (fun _ _ => trivial))
        (case aO => exact (xr_ HO263))
        (case aS => exact (below_size (xw_ HB)))
        (case aL => have := LMc25.out; omega)
        intro v265 w29 ho hb hg hat
        rw [← Ny264.out] at ho
        replace BK256 := Aside0.mk (blk_grown (g := gb256) (o := .cells #[.slice A0_0 l0_0.length c0_0, .int .i64 a0_1] 25 (0, 0)) (xb_ BK256) hg (Kd.R_ne HO263.out BK256.out (by decide)))
        replace BK257 := Aside0.mk (blk_grown (g := gb257) (o := .cells #[.slice A1_0 l1_0.length c1_0, .int .i64 a1_1] 25 (0, 0)) (xb_ BK257) hg (Kd.R_ne HO263.out BK257.out (by decide)))
        replace BK258 := Aside0.mk (blk_grown (g := gb258) (o := .cells #[.slice none 0 0, .int .i64 0] 25 (0, 0)) (xb_ BK258) hg (Kd.R_ne HO263.out BK258.out (by decide)))
        replace HB := Aside0.mk (hb)
        have HO266 := Aside0.mk (ho)
        clear HO263
        clear ho hb hg hat
        obtain ⟨Ao30, co30, eo30⟩ := Kd.R_slice HO266.out
        (first | subst eo30 | (injection eo30 with f1_ f2_ f3_; have f4_ := f1_.symm; have f5_ := f3_.symm; clear f1_ f2_ f3_; subst f4_; subst f5_))
        refine hK.out _ _ ⟨xk_ BK256 0, xk_ BK256 1, xk_ BK257 0, xk_ BK257 1⟩ (fun hHeld => ?_)
        clear hK K
        refine norm_ (a' := ?_) ?_ ?_
        rotate_left
        ·show Act.put _ (some 21) _ = _
         simp only [Act.put, List.setIfInBounds_toArray, List.set_cons_zero, List.set_cons_succ, i64_w, i32_w]
         rfl
        refine pure_ (i := 9) (N := some 27) (v := ?_) (a' := ?_) #[true, true, true, true, true, true, true, true, true, true, false, false] rfl rfl (any_of HT_.out (by kernel_rfl)) (fun _ _ _ h => h) (Or.inl ⟨by rfl, ?_⟩) ?_ ?_
        rotate_left
        ·intro w'
         go_simp
         with_reducible rfl
        rotate_left
        ·simp only [Act.put, List.setIfInBounds_toArray, List.set_cons_zero, List.set_cons_succ, i64_w, i32_w]
         rfl
        refine one_ (i := 10) (N := some 6) #[true, true, true, true, true, true, true, true, true, true, true, false] rfl rfl (one_of HT_.out (by kernel_rfl)) (by decide) (fun K hK => ?_)
        refine box_step ?hg (N := 6) ?hd (cs := #[.slice none 0 0, .int .i64 0]) (t := 25) ?hr ?_; (case hd => rfl); (case hg => rfl); (case hr => first | (go_simp; done) | (go_simp; rfl))
        intro gb267 hg w31 hbox hb
        replace HO266 := xrb_ HO266 hb
        have BK267 := Aside0.mk (hbox)
        have GW267 := xge_ HB hg
        have GE267 := xge_ HB hg
        replace HB := xws_ HB hb
        have NB256_267 := xlt_ BK256 hg
        have NB267_256 := xgt_ BK256 hg
        replace BK256 := xbb_ BK256 hb
        have NB257_267 := xlt_ BK257 hg
        have NB267_257 := xgt_ BK257 hg
        replace BK257 := xbb_ BK257 hb
        have NB258_267 := xlt_ BK258 hg
        have NB267_258 := xgt_ BK258 hg
        replace BK258 := xbb_ BK258 hb
        clear hb hbox hg
        refine hK.out _ _ ⟨xk_ BK256 0, xk_ BK256 1, xk_ BK257 0, xk_ BK257 1⟩ (fun hHeld => ?_)
        clear hK K
        refine norm_ (a' := ?_) ?_ ?_
        rotate_left
        ·show Act.put _ (some 6) _ = _
         simp only [Act.put, List.setIfInBounds_toArray, List.set_cons_zero, List.set_cons_succ, i64_w, i32_w]
         rfl
        exact norm_ (by simp only [putAll, Act.put, List.setIfInBounds_toArray, List.set_cons_zero, List.set_cons_succ]) (hCont (v262, .slice Ao30 y264.length co30, gb267) _ ⟨hHeld, xr_ HO266, xb_ BK256, xb_ BK257, xb_ BK258, xb_ BK267, GW267.out, GE267.out, NB256_267.out, NB267_256.out, NB257_267.out, NB267_257.out, NB258_267.out, NB267_258.out, xw_ HB⟩)
       ·skip
        refine box_step ?hg (N := 6) ?hd (cs := #[.slice none 0 0, .int .i64 0]) (t := 25) ?hr ?_; (case hd => rfl); (case hg => rfl); (case hr => first | (go_simp; done) | (go_simp; rfl))
        intro gb267 hg w29 hbox hb
        replace HO263 := xrb_ HO263 hb
        have BK267 := Aside0.mk (hbox)
        have GW267 := xge_ HB hg
        have GE267 := xge_ HB hg
        replace HB := xws_ HB hb
        have NB256_267 := xlt_ BK256 hg
        have NB267_256 := xgt_ BK256 hg
        replace BK256 := xbb_ BK256 hb
        have NB257_267 := xlt_ BK257 hg
        have NB267_257 := xgt_ BK257 hg
        replace BK257 := xbb_ BK257 hb
        have NB258_267 := xlt_ BK258 hg
        have NB267_258 := xgt_ BK258 hg
        replace BK258 := xbb_ BK258 hb
        clear hb hbox hg
        refine hK.out _ _ ⟨xk_ BK256 0, xk_ BK256 1, xk_ BK257 0, xk_ BK257 1⟩ (fun hHeld => ?_)
        clear hK K
        refine norm_ (a' := ?_) ?_ ?_
        rotate_left
        ·show Act.put _ (some 6) _ = _
         simp only [Act.put, List.setIfInBounds_toArray, List.set_cons_zero, List.set_cons_succ, i64_w, i32_w]
         rfl
        refine one_ (i := 3) (N := some 21) #[true, true, true, true, true, true, true, true, true, false, true, false] rfl rfl (one_of HT_.out (by kernel_rfl)) (by decide) (fun K hK => ?_)
        refine Kd.R_append_rows_step (Kd.int .i64) (w0 := w) w.heap.size (by rfl) (.tmp 18) (.tmp 20) 23 3 (.int .i64 0) 8 rfl Try.underlying23 info3 rfl (by decide) (by omega) v262 y261 l0_0 _ _ _ (fun _ => True) (fun _ => False) rfl rfl ?aO ?aR (fun _ _ h => h) (fun _ h => h.elim) ?aF ?aB ?aS ?aL ?_
        (case aR => exact xc_ ((Kd.C_below HR0_0.out HB.out)))
        (case aB => exact (xw_ HB))
        (case aF => exact (fun _ _ => trivial))
        (case aO => exact (xr_ HO263))
        (case aS => exact (below_size (xw_ HB)))
        (case aL => have := LMc25.out; omega)
        intro v265 w30 ho hb hg hat
        rw [← Ny264.out] at ho
        replace BK256 := Aside0.mk (blk_grown (g := gb256) (o := .cells #[.slice A0_0 l0_0.length c0_0, .int .i64 a0_1] 25 (0, 0)) (xb_ BK256) hg (Kd.R_ne HO263.out BK256.out (by decide)))
        replace BK257 := Aside0.mk (blk_grown (g := gb257) (o := .cells #[.slice A1_0 l1_0.length c1_0, .int .i64 a1_1] 25 (0, 0)) (xb_ BK257) hg (Kd.R_ne HO263.out BK257.out (by decide)))
        replace BK258 := Aside0.mk (blk_grown (g := gb258) (o := .cells #[.slice none 0 0, .int .i64 0] 25 (0, 0)) (xb_ BK258) hg (Kd.R_ne HO263.out BK258.out (by decide)))
        replace BK267 := Aside0.mk (blk_grown (g := gb267) (o := .cells #[.slice none 0 0, .int .i64 0] 25 (0, 0)) (xb_ BK267) hg (Kd.R_ne HO263.out BK267.out (by decide)))
        replace HB := Aside0.mk (hb)
        have HO266 := Aside0.mk (ho)
        clear HO263
        clear ho hb hg hat
        obtain ⟨Ao31, co31, eo31⟩ := Kd.R_slice HO266.out
        (first | subst eo31 | (injection eo31 with f1_ f2_ f3_; have f4_ := f1_.symm; have f5_ := f3_.symm; clear f1_ f2_ f3_; subst f4_; subst f5_))
        refine hK.out _ _ ⟨xk_ BK256 0, xk_ BK256 1, xk_ BK257 0, xk_ BK257 1⟩ (fun hHeld => ?_)
        clear hK K
        refine norm_ (a' := ?_) ?_ ?_
        rotate_left
        ·show Act.put _ (some 21) _ = _
         simp only [Act.put, List.setIfInBounds_toArray, List.set_cons_zero, List.set_cons_succ, i64_w, i32_w]
         rfl
        refine pure_ (i := 9) (N := some 27) (v := ?_) (a' := ?_) #[true, true, true, true, true, true, true, true, true, true, true, false] rfl rfl (any_of HT_.out (by kernel_rfl)) (fun _ _ _ h => h) (Or.inl ⟨by rfl, ?_⟩) ?_ ?_
        rotate_left
        ·intro w'
         go_simp
         with_reducible rfl
        rotate_left
        ·simp only [Act.put, List.setIfInBounds_toArray, List.set_cons_zero, List.set_cons_succ, i64_w, i32_w]
         rfl
        exact norm_ (by simp only [putAll, Act.put, List.setIfInBounds_toArray, List.set_cons_zero, List.set_cons_succ]) (hCont (v262, .slice Ao31 y264.length co31, gb267) _ ⟨hHeld, xr_ HO266, xb_ BK256, xb_ BK257, xb_ BK258, xb_ BK267, GW267.out, GE267.out, NB256_267.out, NB267_256.out, NB257_267.out, NB267_257.out, NB258_267.out, NB267_258.out, xw_ HB⟩)
      ·skip
       refine box_step ?hg (N := 6) ?hd (cs := #[.slice none 0 0, .int .i64 0]) (t := 25) ?hr ?_; (case hd => rfl); (case hg => rfl); (case hr => first | (go_simp; done) | (go_simp; rfl))
       intro gb267 hg w27 hbox hb
       have BK267 := Aside0.mk (hbox)
       have GW267 := xge_ HB hg
       have GE267 := xge_ HB hg
       replace HB := xws_ HB hb
       have NB256_267 := xlt_ BK256 hg
       have NB267_256 := xgt_ BK256 hg
       replace BK256 := xbb_ BK256 hb
       have NB257_267 := xlt_ BK257 hg
       have NB267_257 := xgt_ BK257 hg
       replace BK257 := xbb_ BK257 hb
       have NB258_267 := xlt_ BK258 hg
       have NB267_258 := xgt_ BK258 hg
       replace BK258 := xbb_ BK258 hb
       clear hb hbox hg
       refine hK.out _ _ ⟨xk_ BK256 0, xk_ BK256 1, xk_ BK257 0, xk_ BK257 1⟩ (fun hHeld => ?_)
       clear hK K
       refine norm_ (a' := ?_) ?_ ?_
       rotate_left
       ·show Act.put _ (some 6) _ = _
        simp only [Act.put, List.setIfInBounds_toArray, List.set_cons_zero, List.set_cons_succ, i64_w, i32_w]
        rfl
       refine one_ (i := 0) (N := some 18) #[true, true, true, false, true, true, true, true, true, false, true, false] rfl rfl (one_of HT_.out (by kernel_rfl)) (by decide) (fun K hK => ?_)
       refine Kd.R_lit_step (Kd.int .i64) _ 3 ?hg (N := 18) ?hd (xs := ([] : List Int)) (inner := []) (ok := fun _ => True) (okp := fun _ => True) ?hr ?hp (fun _ hk => hk) trivial (Below.refl _ _) (Nat.le_refl _) (by simp) ?_; (case hd => rfl); (case hg => rfl); (case hr => first | (go_simp; done) | (go_simp; rfl)); (case hp => exact (Reps.none _ _))
       intro v262 w28 ho29 hb hg_ hnew_
       clear hg_ hnew_
       (first | rw [← Ny261.out] at ho29 | (simp only [Int.reduceToNat] at ho29; rw [← Ny261.out] at ho29))
       have HO263 := Aside0.mk (Kd.R_lower ho29 (below_size (xw_ HB)))
       replace BK256 := xbb_ BK256 hb
       replace BK257 := xbb_ BK257 hb
       replace BK258 := xbb_ BK258 hb
       replace BK267 := xbb_ BK267 hb
       replace HB := xws_ HB hb
       clear hb ho29
       refine hK.out _ _ ⟨xk_ BK256 0, xk_ BK256 1, xk_ BK257 0, xk_ BK257 1⟩ (fun hHeld => ?_)
       clear hK K
       refine norm_ (a' := ?_) ?_ ?_
       rotate_left
       ·show Act.put _ (some 18) _ = _
        simp only [Act.put, List.setIfInBounds_toArray, List.set_cons_zero, List.set_cons_succ, i64_w, i32_w]
        rfl
       refine one_ (i := 3) (N := some 21) #[true, true, true, true, true, true, true, true, true, false, true, false] rfl rfl (one_of HT_.out (by kernel_rfl)) (by decide) (fun K hK => ?_)
       refine Kd.R_append_rows_step (Kd.int .i64) (w0 := w) w.heap.size (by rfl) (.tmp 18) (.tmp 20) 23 3 (.int .i64 0) 8 rfl Try.underlying23 info3 rfl (by decide) (by omega) v262 y261 l0_0 _ _ _ (fun _ => True) (fun _ => False) rfl rfl ?aO ?aR (fun _ _ h => h) (fun _ h => h.elim) ?aF ?aB ?aS ?aL ?_
       (case aR => exact xc_ ((Kd.C_below HR0_0.out HB.out)))
       (case aB => exact (xw_ HB))
       (case aF => exact (fun _ _ => trivial))
       (case aO => exact (xr_ HO263))
       (case aS => exact (below_size (xw_ HB)))
       (case aL => have := LMc25.out; omega)
       intro v265 w30 ho hb hg hat
       rw [← Ny264.out] at ho
       replace BK256 := Aside0.mk (blk_grown (g := gb256) (o := .cells #[.slice A0_0 l0_0.length c0_0, .int .i64 a0_1] 25 (0, 0)) (xb_ BK256) hg (Kd.R_ne HO263.out BK256.out (by decide)))
       replace BK257 := Aside0.mk (blk_grown (g := gb257) (o := .cells #[.slice A1_0 l1_0.length c1_0, .int .i64 a1_1] 25 (0, 0)) (xb_ BK257) hg (Kd.R_ne HO263.out BK257.out (by decide)))
       replace BK258 := Aside0.mk (blk_grown (g := gb258) (o := .cells #[.slice none 0 0, .int .i64 0] 25 (0, 0)) (xb_ BK258) hg (Kd.R_ne HO263.out BK258.out (by decide)))
       replace BK267 := Aside0.mk (blk_grown (g := gb267) (o := .cells #[.slice none 0 0, .int .i64 0] 25 (0, 0)) (xb_ BK267) hg (Kd.R_ne HO263.out BK267.out (by decide)))
       replace HB := Aside0.mk (hb)
       have HO266 := Aside0.mk (ho)
       clear HO263
       clear ho hb hg hat
       obtain ⟨Ao31, co31, eo31⟩ := Kd.R_slice HO266.out
       (first | subst eo31 | (injection eo31 with f1_ f2_ f3_; have f4_ := f1_.symm; have f5_ := f3_.symm; clear f1_ f2_ f3_; subst f4_; subst f5_))
       refine hK.out _ _ ⟨xk_ BK256 0, xk_ BK256 1, xk_ BK257 0, xk_ BK257 1⟩ (fun hHeld => ?_)
       clear hK K
       refine norm_ (a' := ?_) ?_ ?_
       rotate_left
       ·show Act.put _ (some 21) _ = _
        simp only [Act.put, List.setIfInBounds_toArray, List.set_cons_zero, List.set_cons_succ, i64_w, i32_w]
        rfl
       refine pure_ (i := 9) (N := some 27) (v := ?_) (a' := ?_) #[true, true, true, true, true, true, true, true, true, true, true, false] rfl rfl (any_of HT_.out (by kernel_rfl)) (fun _ _ _ h => h) (Or.inl ⟨by rfl, ?_⟩) ?_ ?_
       rotate_left
       ·intro w'
        go_simp
        with_reducible rfl
       rotate_left
       ·simp only [Act.put, List.setIfInBounds_toArray, List.set_cons_zero, List.set_cons_succ, i64_w, i32_w]
        rfl
       exact norm_ (by simp only [putAll, Act.put, List.setIfInBounds_toArray, List.set_cons_zero, List.set_cons_succ]) (hCont (v262, .slice Ao31 y264.length co31, gb267) _ ⟨hHeld, xr_ HO266, xb_ BK256, xb_ BK257, xb_ BK258, xb_ BK267, GW267.out, GE267.out, NB256_267.out, NB267_256.out, NB257_267.out, NB267_257.out, NB258_267.out, NB267_258.out, xw_ HB⟩)
     rintro ⟨v262, v265, gb267⟩ w32 ⟨hS_, h0_, h1_, h2_, h3_, h4_, h5_, h6_, h7_, h8_, h9_, h10_, h11_, h12_, h13_⟩
     have n0_ : Aside0 (Kd.R (Kd.int .i64) 3 w32 w.heap.size (fun _ => True) v265 y264) := ⟨h0_⟩
     have n1_ : Aside0 (w32.heap[gb256]? = some (.cells #[.slice A0_0 l0_0.length c0_0, .int .i64 a0_1] 25 (0, 0))) := ⟨h1_⟩
     have n2_ : Aside0 (w32.heap[gb257]? = some (.cells #[.slice A1_0 l1_0.length c1_0, .int .i64 a1_1] 25 (0, 0))) := ⟨h2_⟩
     have n3_ : Aside0 (w32.heap[gb258]? = some (.cells #[.slice none 0 0, .int .i64 0] 25 (0, 0))) := ⟨h3_⟩
     have n4_ : Aside0 (w32.heap[gb267]? = some (.cells #[.slice none 0 0, .int .i64 0] 25 (0, 0))) := ⟨h4_⟩
     have n5_ : Aside0 (w.heap.size ≤ gb267) := ⟨h5_⟩
     have n6_ : Aside0 (w.heap.size ≤ gb267) := ⟨h6_⟩
     have n7_ : Aside0 (gb256 ≠ gb267) := ⟨h7_⟩
     have n8_ : Aside0 (gb267 ≠ gb256) := ⟨h8_⟩
     have n9_ : Aside0 (gb257 ≠ gb267) := ⟨h9_⟩
     have n10_ : Aside0 (gb267 ≠ gb257) := ⟨h10_⟩
     have n11_ : Aside0 (gb258 ≠ gb267) := ⟨h11_⟩
     have n12_ : Aside0 (gb267 ≠ gb258) := ⟨h12_⟩
     have n13_ : Aside0 (Below w.heap.size w w32) := ⟨h13_⟩
     clear BK256
     clear BK257
     clear BK258
     clear HB
     clear h0_ h1_ h2_ h3_ h4_ h5_ h6_ h7_ h8_ h9_ h10_ h11_ h12_ h13_
     have HO266 := n0_
     have BK256 := n1_
     have BK257 := n2_
     have BK258 := n3_
     have BK267 := n4_
     have GW267 := n5_
     have GE267 := n6_
     have NB256_267 := n7_
     have NB267_256 := n8_
     have NB257_267 := n9_
     have NB267_257 := n10_
     have NB258_267 := n11_
     have NB267_258 := n12_
     have HB := n13_
     clear n0_ n1_ n2_ n3_ n4_ n5_ n6_ n7_ n8_ n9_ n10_ n11_ n12_ n13_
     have hHeld : w32.cell? ⟨gb256, 0, none⟩ = some (.slice A0_0 l0_0.length c0_0) ∧ w32.cell? ⟨gb256, 1, none⟩ = some (.int .i64 a0_1) ∧ w32.cell? ⟨gb257, 0, none⟩ = some (.slice A1_0 l1_0.length c1_0) ∧ w32.cell? ⟨gb257, 1, none⟩ = some (.int .i64 a1_1) := hS_
     obtain ⟨Ao33, co33, eo33⟩ := Kd.R_slice HO266.out
     (first | subst eo33 | (injection eo33 with f1_ f2_ f3_; have f4_ := f1_.symm; have f5_ := f3_.symm; clear f1_ f2_ f3_; subst f4_; subst f5_))
     refine norm_ (a' := ?_) ?_ ?_
     rotate_left
     ·simp only [putAll, Act.put, List.setIfInBounds_toArray, List.set_cons_zero, List.set_cons_succ]
      rfl
     refine one_ (i := 11) (N := none) #[true, true, true, true, true, true, true, true, true, true, true, true] rfl rfl (one_of HT_.out (by kernel_rfl)) (by decide) (fun K hK => ?_)
     have hs34 : w32.cell? ⟨gb267, 0, none⟩ = some (.slice none 0 0) := xk_ BK267 0
     have hfs34 := blk_frozen BK267.out 0
     have hns34_0 := NB256_267.out
     have hns34_1 := NB257_267.out
     have hns34_2 := NB258_267.out
     have hms34_0 := NB267_256.out
     have hms34_1 := NB267_257.out
     have hms34_2 := NB267_258.out
     have hs35 : w32.cell? ⟨gb267, 1, none⟩ = some (.int .i64 0) := xk_ BK267 1
     have hfs35 := blk_frozen BK267.out 1
     have hns35_0 := NB256_267.out
     have hns35_1 := NB257_267.out
     have hns35_2 := NB258_267.out
     have hms35_0 := NB267_256.out
     have hms35_1 := NB267_257.out
     have hms35_2 := NB267_258.out
     refine skip_ (w1 := ?_) (by rfl) rfl ?_ ?_
     rotate_left
     ·go_simp
      rfl
     refine hK.out _ _ ⟨((cell_far (p := ⟨gb267, _, none⟩) NB256_267.out _).trans (((cell_far (p := ⟨gb267, _, none⟩) NB256_267.out _).trans (hHeld.1)))), ((cell_far (p := ⟨gb267, _, none⟩) NB256_267.out _).trans (((cell_far (p := ⟨gb267, _, none⟩) NB256_267.out _).trans (hHeld.2.1)))), ((cell_far (p := ⟨gb267, _, none⟩) NB257_267.out _).trans (((cell_far (p := ⟨gb267, _, none⟩) NB257_267.out _).trans (hHeld.2.2.1)))), ((cell_far (p := ⟨gb267, _, none⟩) NB257_267.out _).trans (((cell_far (p := ⟨gb267, _, none⟩) NB257_267.out _).trans (hHeld.2.2.2))))⟩ (fun hHeld => ?_)
     clear hK K
     refine done_ (done_of HT_.out (by kernel_rfl)) ?_
     have hnb36 := NB257_256.out
     have hnc36 := NB256_257.out
     have hnb37 := NB257_258.out
     have hnc37 := NB258_257.out
     have hnb38 := NB257_267.out
     have hnc38 := NB267_257.out
     have hcz39_0 : w32.cell? ⟨gb257, 0, none⟩ = some (.slice A1_0 l1_0.length c1_0) := xk_ BK257 0
     have hcz39_1 : w32.cell? ⟨gb257, 1, none⟩ = some (.int .i64 a1_1) := xk_ BK257 1
     have hfz39_0 := blk_frozen BK257.out 0
     have hfz39_1 := blk_frozen BK257.out 1
     try go_wp2
     go_loopg [31] kj2 (fun kq v31 w' => ∃ (x31_2 : Int) (x268000_2 : List Int) (u268000 : Value), v31 = .int .i64 x31_2 ∧ Aside0 (spec_JoinSketches.l0 kq l1_0 (l1_0.length : Int) x31_2 x268000_2 (wrap64 (a0_1 + a1_1)) = some (r1, r2, r3)) ∧ Aside0 (kq ≤ kj2) ∧ Aside0 (Kd.R (Kd.int .i64) 3 w' w.heap.size (fun _ => True) u268000 x268000_2) ∧ Aside0 (w'.heap[gb256]? = some (.cells #[(.slice A0_0 l0_0.length c0_0), .int .i64 a0_1] 25 (0, 0))) ∧ Aside0 (w'.heap[gb257]? = some (.cells #[(.slice A1_0 l1_0.length c1_0), .int .i64 a1_1] 25 (0, 0))) ∧ Aside0 (w'.heap[gb258]? = some (.cells #[(.slice none 0 0), .int .i64 0] 25 (0, 0))) ∧ Aside0 (w'.heap[gb267]? = some (.cells #[u268000, .int .i64 (wrap64 (a0_1 + a1_1))] 25 (0, 0))) ∧ Aside0 (Below w.heap.size w w'))
     case atStart => exact ⟨(0), (y264), (.slice Ao33 y264.length co33), (by first | rfl | (simp; done) | (simp [*]; done)), H', ⟨Nat.le_refl _⟩, ⟨xrt_ (Kd.R_mono (Kd.R_far (p := ⟨gb267, 1, none⟩) (Kd.R_far (p := ⟨gb267, 0, none⟩) (Kd.R_types HO266.out BK267.out (by decide)) (fun _ hk => hk.2) (.slice Ao33 y264.length co33)) (fun _ hk => hk.2) (.int .i64 (wrap64 (a0_1 + a1_1)))) (fun _ hk => trivial))⟩, ⟨by (with_reducible repeat (first | refine blk_drewN ?_ _ | refine blk_drew ?_ | refine blk_alloc ?_ _)); refine blk_far ?_ NB256_267.out _; (with_reducible repeat (first | refine blk_drewN ?_ _ | refine blk_drew ?_ | refine blk_alloc ?_ _)); refine blk_far ?_ NB256_267.out _; (with_reducible repeat (first | refine blk_drewN ?_ _ | refine blk_drew ?_ | refine blk_alloc ?_ _)); exact BK256.out⟩, ⟨by (with_reducible repeat (first | refine blk_drewN ?_ _ | refine blk_drew ?_ | refine blk_alloc ?_ _)); refine blk_far ?_ NB257_267.out _; (with_reducible repeat (first | refine blk_drewN ?_ _ | refine blk_drew ?_ | refine blk_alloc ?_ _)); refine blk_far ?_ NB257_267.out _; (with_reducible repeat (first | refine blk_drewN ?_ _ | refine blk_drew ?_ | refine blk_alloc ?_ _)); exact BK257.out⟩, ⟨by (with_reducible repeat (first | refine blk_drewN ?_ _ | refine blk_drew ?_ | refine blk_alloc ?_ _)); refine blk_far ?_ NB258_267.out _; (with_reducible repeat (first | refine blk_drewN ?_ _ | refine blk_drew ?_ | refine blk_alloc ?_ _)); refine blk_far ?_ NB258_267.out _; (with_reducible repeat (first | refine blk_drewN ?_ _ | refine blk_drew ?_ | refine blk_alloc ?_ _)); exact BK258.out⟩, ⟨by (with_reducible repeat (first | refine blk_drewN ?_ _ | refine blk_drew ?_ | refine blk_alloc ?_ _)); refine blk_put (cs := #[.slice Ao33 y264.length co33, .int .i64 0]) ?_ 1 _ rfl; (with_reducible repeat (first | refine blk_drewN ?_ _ | refine blk_drew ?_ | refine blk_alloc ?_ _)); refine blk_put (cs := #[.slice none 0 0, .int .i64 0]) ?_ 0 _ rfl; (with_reducible repeat (first | refine blk_drewN ?_ _ | refine blk_drew ?_ | refine blk_alloc ?_ _)); exact BK267.out⟩, ⟨xw_ HB⟩⟩
     case round =>
      clear H'
      try clear c1
      try clear c2
      try clear p2
      try clear c3
      try clear p6
      try clear c8
      try clear c10
      try clear c11
      try clear c14
      try clear c17
      try clear c18
      try clear c21
      try clear c22
      try clear c23
      try clear c25
      try clear c36
      try clear c37
      try clear c38
      try clear hcz12_0
      try clear hcz12_1
      try clear hcz15_0
      try clear hcz15_1
      try clear hcz19_0
      try clear hcz19_1
      try clear hcz24_0
      try clear hcz24_1
      try clear hcz39_0
      try clear hcz39_1
      try clear hfz12_0
      try clear hfz12_1
      try clear hfz15_0
      try clear hfz15_1
      try clear hfz19_0
      try clear hfz19_1
      try clear hfz24_0
      try clear hfz24_1
      try clear hfz39_0
      try clear hfz39_1
      try clear p2
      obtain ⟨x31_2, x268000_2, u268000, rfl, HA, HK2, HO_268000, BK256, BK257, BK258, BK267, HB⟩ := hrel
      cases gk with
      | zero => exact absurd HA.out (by simp [spec_JoinSketches.l0])
      | succ k2 =>
       have H := HA.out
       clear HA
       simp only [spec_JoinSketches.l0] at H
       by_cases c40 : x31_2 < (l1_0.length : Int)
       ·rw [if_pos c40] at H
        have c40b0 : decide (x31_2 < (l1_0.length : Int)) = true := decide_eq_true c40
        clear c40
        by_cases c41 : 0 ≤ x31_2
        ·rw [if_pos c41] at H
         have c41b0 : decide (0 ≤ x31_2) = true := decide_eq_true c41
         clear c41
         by_cases c42 : x31_2 < (l1_0.length : Int)
         ·rw [if_pos c42] at H
          have c42b0 : decide (x31_2 < (l1_0.length : Int)) = true := decide_eq_true c42
          clear c42
          by_cases c43 : x31_2 < (x268000_2.length : Int)
          ·rw [if_pos c43] at H
           have c43b0 : decide (x31_2 < (x268000_2.length : Int)) = true := decide_eq_true c43
           clear c43
           obtain ⟨y270, hy270⟩ : ∃ y_ : List Int, y_ = (x268000_2.set (x31_2 : Int).toNat (wrap64 ((rd x268000_2 x31_2) + (rd l1_0 x31_2)))) := ⟨_, rfl⟩
           replace H : (spec_JoinSketches.l0 k2 l1_0 (l1_0.length : Int) (wrap64 (x31_2 + 1)) y270 (wrap64 (a0_1 + a1_1))) = some (r1, r2, r3) := by first | (rw [hy270]; with_reducible exact H) | (have H2_ := (Option.bind_some _ _).symm.trans H; rw [hy270]; with_reducible exact H2_) | (have H2_ := (Option.bind_some _ _).symm.trans H; with_reducible exact H2_) | with_reducible exact H | (rw [hy270]; exact H) | exact H
           have Ny270 := Aside0.mk hy270
           clear hy270
           have H' := Aside0.mk H
           clear H
           have p268 : 0 ≤ (x31_2 : Int) := of_decide_eq_true (by first | (with_reducible assumption) | assumption)
           have q268 : x31_2 < (l1_0.length : Int) := of_decide_eq_true (by first | (with_reducible assumption) | assumption)
           obtain ⟨ad268, e268, hx268_0⟩ := Kd.at_int HR1_0.out x31_2 p268 q268
           cases e268
           replace hx268_0 := (HB.out.cell (World.block_lt_of_cell? w _ hx268_0)).trans hx268_0
           replace p268 := eq_true p268
           replace q268 := eq_true q268
           have hnb45 := NB267_256.out
           have hnc45 := NB256_267.out
           have hnb46 := NB267_257.out
           have hnc46 := NB257_267.out
           have hnb47 := NB267_258.out
           have hnc47 := NB258_267.out
           have hcz48_0 : wr.cell? ⟨gb267, 0, none⟩ = some (u268000) := xk_ BK267 0
           have hcz48_1 : wr.cell? ⟨gb267, 1, none⟩ = some (.int .i64 (wrap64 (a0_1 + a1_1))) := xk_ BK267 1
           have hfz48_0 := blk_frozen BK267.out 0
           have hfz48_1 := blk_frozen BK267.out 1
           obtain ⟨Ao49, co49, eo49⟩ := Kd.R_slice HO_268000.out
           subst eo49
           have p269 : 0 ≤ (x31_2 : Int) := of_decide_eq_true (by first | (with_reducible assumption) | assumption)
           have q269 : x31_2 < (x268000_2.length : Int) := of_decide_eq_true (by first | (with_reducible assumption) | assumption)
           obtain ⟨ad269, e269, hx269_0⟩ := Kd.at_int (Kd.R_reads' HO_268000.out).2.2 x31_2 p269 q269
           cases e269
           replace p269 := eq_true p269
           replace q269 := eq_true q269
           have p44 : 0 ≤ (x31_2 : Int) := of_decide_eq_true (by first | (with_reducible assumption) | assumption)
           have q44 : (x31_2 : Int) < ((x268000_2.length : Int) : Int) := of_decide_eq_true (by first | (with_reducible assumption) | assumption)
           obtain ⟨go44, co44, eo44, gb44, gl44, cl44, HG44⟩ := Kd.R_form HO_268000.out (by omega)
           (first | cases eo44 | (injection eo44 with ea_ en_ ec_; (first | subst ea_ | (injection ea_ with ea_; subst ea_)); subst ec_; clear en_))
           have GB44 := Aside0.mk gb44
           have GG44 := Aside0.mk HG44
           clear gb44 gl44 HG44
           (first | simp only [add_plain] at hx269_0 | skip)
           obtain ⟨hx44_0, hf44_0⟩ := Kd.R_celln 0 HO_268000.out (x31_2 : Int) p44 q44
           replace p44 := eq_true p44
           replace q44 := eq_true q44
           have HP50 := Kd.R_putg HO_268000.out (x31_2 : Int) (wrap64 ((rd x268000_2 x31_2) + (rd l1_0 x31_2)))
           go_wp2_with (first | ((with_reducible refine gate_store (t := 3) (p := 43) rfl ?_); refine store_event (t := 3) (p := 43) (v := ?vo_w51) (w1 := (wr.setCell ⟨go44, (x31_2 : Int).toNat, none⟩ (.int .i64 (wrap64 ((rd x268000_2 x31_2) + (rd l1_0 x31_2)))))) ?hg ?ho ?hn ?hr ?_; (case ho => rfl); (case hg => rfl); (case hn => rfl); (case hr => first | (go_simp; done) | (go_simp; rfl)); intro w51 hw; have hg : wr.grownBy w51 (some go44) := (by rw [hw]; exact HP50.2); have hp_ : Kd.R (Kd.int .i64) 3 w51 w.heap.size (fun _ => True) (.slice (some ⟨go44, 0, none⟩) x268000_2.length co49) y270 := (by rw [hw, Ny270.out]; exact HP50.1); clear HP50; replace BK256 := Aside0.mk (blk_grown (g := gb256) (o := .cells #[.slice A0_0 l0_0.length c0_0, .int .i64 a0_1] 25 (0, 0)) (xb_ BK256) hg (Kd.R_ne HO_268000.out BK256.out (by decide))); replace BK257 := Aside0.mk (blk_grown (g := gb257) (o := .cells #[.slice (some ad268) l1_0.length c1_0, .int .i64 a1_1] 25 (0, 0)) (xb_ BK257) hg (Kd.R_ne HO_268000.out BK257.out (by decide))); replace BK258 := Aside0.mk (blk_grown (g := gb258) (o := .cells #[.slice none 0 0, .int .i64 0] 25 (0, 0)) (xb_ BK258) hg (Kd.R_ne HO_268000.out BK258.out (by decide))); replace BK267 := Aside0.mk (blk_grown (g := gb267) (o := .cells #[.slice (some ⟨go44, 0, none⟩) x268000_2.length co49, .int .i64 (wrap64 (a0_1 + a1_1))] 25 (0, 0)) (xb_ BK267) hg (Kd.R_ne HO_268000.out BK267.out (by decide))); replace HO_268000 := Aside0.mk (hp_); replace HB := Aside0.mk ((by rw [hw]; exact below_set (HB.out) GB44.out : Below w.heap.size w w51)); clear hg hw hp_))
           go_roundg k2
           case measure => have := HJ2.out; have := HK2.out; omega
           case rel => exact ⟨(wrap64 (x31_2 + 1)), (y270), (.slice (some ⟨go44, 0, none⟩) x268000_2.length co49), (by first | rfl | (simp; done) | (simp [*]; done)), H', ⟨by have := HJ2.out; have := HK2.out; omega⟩, ⟨xr_ HO_268000⟩, ⟨xb_ BK256⟩, ⟨xb_ BK257⟩, ⟨xb_ BK258⟩, ⟨xb_ BK267⟩, ⟨xw_ HB⟩⟩
          ·rw [if_neg c43] at H
           exact absurd H (by simp)
         ·rw [if_neg c42] at H
          exact absurd H (by simp)
        ·rw [if_neg c41] at H
         exact absurd H (by simp)
       ·rw [if_neg c40] at H
        have c40b0 : decide (x31_2 < (l1_0.length : Int)) = false := decide_eq_false c40
        clear c40
        replace H := Option.bind_eq_some_iff.mp H
        obtain ⟨t271, A520, H⟩ := H
        replace H : (if t271 = true then (some (x268000_2, (wrap64 (a0_1 + a1_1)), true)) else (some (([] : List Int), 0, false))) = some (r1, r2, r3) := H
        have A52 := Aside0.mk A520
        clear A520
        by_cases c53 : t271 = true
        ·subst c53
         have H1 : (some (x268000_2, (wrap64 (a0_1 + a1_1)), true)) = some (r1, r2, r3) := by rw [if_pos rfl] at H; exact H
         clear H
         have H := H1
         clear H1
         simp only [Option.some.injEq, Prod.mk.injEq] at H
         obtain ⟨rfl, rfl, rfl⟩ := H
         have hnb54 := NB267_256.out
         have hnc54 := NB256_267.out
         have hnb55 := NB267_257.out
         have hnc55 := NB257_267.out
         have hnb56 := NB267_258.out
         have hnc56 := NB258_267.out
         have hcz57_0 : wr.cell? ⟨gb267, 0, none⟩ = some (u268000) := xk_ BK267 0
         have hcz57_1 : wr.cell? ⟨gb267, 1, none⟩ = some (.int .i64 (wrap64 (a0_1 + a1_1))) := xk_ BK267 1
         have hfz57_0 := blk_frozen BK267.out 0
         have hfz57_1 := blk_frozen BK267.out 1
         obtain ⟨Ao58, co58, eo58⟩ := Kd.R_slice HO_268000.out
         subst eo58
         go_wp2_with (first | ((with_reducible refine gate_callee (f := 10) rfl ?_); refine xgl_ (some 46) Try.func10 #[.agg #[.slice Ao58 x268000_2.length co58, .int .i64 (wrap64 (a0_1 + a1_1))]] ?_; (with_reducible refine (spec_GoodSketch.calls k2 _ _ x268000_2 (wrap64 (a0_1 + a1_1)) true _ ?side1 ?side2 A52.out).mono ?_); (case side1 => exact xc_ ((Kd.R_reads' HO_268000.out).2.2)); (case side2 => exact (Kd.R_reads' HO_268000.out).2.1); rintro e w59 ⟨rfl, hb⟩; refine ⟨_, rfl, ?_⟩; replace HO_268000 := xrb_ HO_268000 hb; replace BK256 := xbb_ BK256 hb; replace BK257 := xbb_ BK257 hb; replace BK258 := xbb_ BK258 hb; replace BK267 := xbb_ BK267 hb; replace HB := xws_ HB hb; (try clear hb); (try clear hb2); (try clear hk); (try clear hi); have hcz60_0 : w59.cell? ⟨gb267, 0, none⟩ = some (.slice Ao58 x268000_2.length co58) := xk_ BK267 0; have hcz60_1 : w59.cell? ⟨gb267, 1, none⟩ = some (.int .i64 (wrap64 (a0_1 + a1_1))) := xk_ BK267 1; have hfz60_0 := blk_frozen BK267.out 0; have hfz60_1 := blk_frozen BK267.out 1; have hnb61 := NB258_256.out; have hnc61 := NB256_258.out; have hnb62 := NB258_257.out; have hnc62 := NB257_258.out; have hcz63_0 : w59.cell? ⟨gb258, 0, none⟩ = some (.slice none 0 0) := xk_ BK258 0; have hcz63_1 : w59.cell? ⟨gb258, 1, none⟩ = some (.int .i64 0) := xk_ BK258 1; have hfz63_0 := blk_frozen BK258.out 0; have hfz63_1 := blk_frozen BK258.out 1))
         refine bodyPost_ret (results_ct rfl _ _ gb258 25 #[.slice Ao58 x268000_2.length co58, .int .i64 (wrap64 (a0_1 + a1_1))] (0, 0) _ rfl (by (with_reducible repeat (first | refine blk_drewN ?_ _ | refine blk_drew ?_ | refine blk_alloc ?_ _)); refine blk_put (cs := #[.slice Ao58 x268000_2.length co58, .int .i64 0]) ?_ 1 _ rfl; (with_reducible repeat (first | refine blk_drewN ?_ _ | refine blk_drew ?_ | refine blk_alloc ?_ _)); refine blk_put (cs := #[.slice none 0 0, .int .i64 0]) ?_ 0 _ rfl; (with_reducible repeat (first | refine blk_drewN ?_ _ | refine blk_drew ?_ | refine blk_alloc ?_ _)); exact BK258.out) Try.underlying25 rfl (by kernel_rfl)) rfl ?_
         exact ⟨_, by first | rfl | (simp [errW_none, errW_some] <;> rfl) | (simp [*, errW_none, errW_some] <;> rfl), by (with_reducible repeat (first | apply Kd.R_alloc | apply Kd.R_drewN | apply Kd.R_drew)); exact Kd.R_mono (Kd.R_far (p := ⟨gb258, 1, none⟩) (Kd.R_far (p := ⟨gb258, 0, none⟩) (Kd.R_types HO_268000.out BK258.out (by decide)) (fun _ hk => hk.2) (.slice Ao58 x268000_2.length co58)) (fun _ hk => hk.2) (.int .i64 (wrap64 (a0_1 + a1_1)))) (fun _ hk => trivial), xw_ HB⟩
        ·replace c53 := Bool.eq_false_iff.mpr c53
         subst c53
         have H1 : (some (([] : List Int), 0, false)) = some (r1, r2, r3) := by rw [if_neg (show ¬ (false = true) by decide)] at H; exact H
         clear H
         have H := H1
         clear H1
         simp only [Option.some.injEq, Prod.mk.injEq] at H
         obtain ⟨rfl, rfl, rfl⟩ := H
         have hnb64 := NB267_256.out
         have hnc64 := NB256_267.out
         have hnb65 := NB267_257.out
         have hnc65 := NB257_267.out
         have hnb66 := NB267_258.out
         have hnc66 := NB258_267.out
         have hcz67_0 : wr.cell? ⟨gb267, 0, none⟩ = some (u268000) := xk_ BK267 0
         have hcz67_1 : wr.cell? ⟨gb267, 1, none⟩ = some (.int .i64 (wrap64 (a0_1 + a1_1))) := xk_ BK267 1
         have hfz67_0 := blk_frozen BK267.out 0
         have hfz67_1 := blk_frozen BK267.out 1
         obtain ⟨Ao68, co68, eo68⟩ := Kd.R_slice HO_268000.out
         subst eo68
         go_wp2_with (first | ((with_reducible refine gate_callee (f := 10) rfl ?_); refine xgl_ (some 46) Try.func10 #[.agg #[.slice Ao68 x268000_2.length co68, .int .i64 (wrap64 (a0_1 + a1_1))]] ?_; (with_reducible refine (spec_GoodSketch.calls k2 _ _ x268000_2 (wrap64 (a0_1 + a1_1)) false _ ?side1 ?side2 A52.out).mono ?_); (case side1 => exact xc_ ((Kd.R_reads' HO_268000.out).2.2)); (case side2 => exact (Kd.R_reads' HO_268000.out).2.1); rintro e w69 ⟨rfl, hb⟩; refine ⟨_, rfl, ?_⟩; replace HO_268000 := xrb_ HO_268000 hb; replace BK256 := xbb_ BK256 hb; replace BK257 := xbb_ BK257 hb; replace BK258 := xbb_ BK258 hb; replace BK267 := xbb_ BK267 hb; replace HB := xws_ HB hb; (try clear hb); (try clear hb2); (try clear hk); (try clear hi); have hnb70 := NB258_256.out; have hnc70 := NB256_258.out; have hnb71 := NB258_257.out; have hnc71 := NB257_258.out; have hcz72_0 : w69.cell? ⟨gb258, 0, none⟩ = some (.slice none 0 0) := xk_ BK258 0; have hcz72_1 : w69.cell? ⟨gb258, 1, none⟩ = some (.int .i64 0) := xk_ BK258 1; have hfz72_0 := blk_frozen BK258.out 0; have hfz72_1 := blk_frozen BK258.out 1))
         refine bodyPost_ret (results_ct rfl _ _ gb258 25 #[.slice none 0 0, .int .i64 0] (0, 0) _ rfl (by (with_reducible repeat (first | refine blk_drewN ?_ _ | refine blk_drew ?_ | refine blk_alloc ?_ _)); refine blk_put (cs := #[.slice none 0 0, .int .i64 0]) ?_ 1 _ rfl; (with_reducible repeat (first | refine blk_drewN ?_ _ | refine blk_drew ?_ | refine blk_alloc ?_ _)); refine blk_put (cs := #[.slice none 0 0, .int .i64 0]) ?_ 0 _ rfl; (with_reducible repeat (first | refine blk_drewN ?_ _ | refine blk_drew ?_ | refine blk_alloc ?_ _)); exact BK258.out) Try.underlying25 rfl (by kernel_rfl)) rfl ?_
         exact ⟨_, by first | rfl | (simp [errW_none, errW_some] <;> rfl) | (simp [*, errW_none, errW_some] <;> rfl), by first | exact Kd.R_nil _ _ _ _ _ | exact Kd.N_nil _ _ _ _ _ | exact Kd.V_nil _ _ _ _ _ | exact Kd.Q_nil _ _ _ _ _ | exact Kd.S_nil _ _ _ _ _, xw_ HB⟩
    ·rw [if_neg c25] at H
     exact absurd H (by simp)

/-! ### spec_DrawCellsOf: function 18 -/
def spec_DrawCellsOf.f (l0 : List Int) : Option (ByteArray) := (spec_l1Cur_sketchKey.f l0 0 0).bind fun bt273 => (some bt273.1)
set_option maxHeartbeats 8000000 in
set_option maxRecDepth 100000 in
theorem spec_DrawCellsOf.calls (A0 : Option Addr) (c0 : Nat) (l0 : List Int) (r : ByteArray) (w : World) (hr0 : Kd.C (Kd.int .u8) w A0 l0.length l0) (hc0 : l0.length ≤ c0) (h : spec_DrawCellsOf.f l0 = some r) :
    Calls Try.prog 18 #[.slice A0 l0.length c0] w fun e w' => e = .returned (.string r) ∧ Below w.heap.size w w' := by
  have hu52 := Try.underlying52
  have HR0 := Aside0.mk hr0
  have HC0 := Aside0.mk hc0
  clear hr0 hc0
  have HB := Aside0.mk (Below.refl w.heap.size w)
  have H : ((spec_l1Cur_sketchKey.f l0 0 0).bind fun bt273 => (some bt273.1)) = some r := h
  clear h
  replace H := Option.bind_eq_some_iff.mp H
  obtain ⟨⟨t273, t274, t275⟩, A20, H⟩ := H
  replace H : (some t273) = some r := H
  have A2 := Aside0.mk A20
  clear A20
  obtain rfl := Option.some.inj H
  go_enter Try.func18, Try.ntmps18
  go_wp2_with (first | ((with_reducible refine gate_dst (N := 6) rfl ?_); refine box_event ?hg (N := 6) ?hd (cs := #[.slice A0 l0.length c0, .int .i64 0, .int .u64 0]) (t := 52) ?hr ?_; (case hd => rfl); (case hg => rfl); (case hr => first | (go_simp; done) | (go_simp; rfl)); intro gb272 hg w3 hbox hb; have n0_ := Aside0.mk (below_step (by repeat (first | (with_reducible first | exact HB.out | apply below_alloc | apply pw_below_drewN | apply below_drew1) | exact HB.out)) hb); have n1_ := Aside0.mk (hbox); have n2_ := Aside0.mk ((by rw [hg]; exact (below_size (by repeat (first | (with_reducible first | exact HB.out | apply below_alloc | apply pw_below_drewN | apply below_drew1) | exact HB.out))) : w.heap.size ≤ gb272)); have n3_ := Aside0.mk ((by rw [hg]; exact (below_size (by repeat (first | (with_reducible first | exact HB.out | apply below_alloc | apply pw_below_drewN | apply below_drew1) | exact HB.out))) : w.heap.size ≤ gb272)); clear HB; have HB := n0_; have BK272 := n1_; have GW272 := n2_; have GE272 := n3_; clear n0_ n1_ n2_ n3_; clear hb hbox hg) | ((with_reducible refine gate_callee (f := 26) rfl ?_); refine goesL_ (some 8) rfl rfl Try.func26 (by kernel_rfl) rfl #[.pointer (some ⟨gb272, 0, none⟩)] rfl (by (try simp only [List.map_toArray, List.map_cons, List.map_nil]); first | done | rfl | (simp only [List.length_drop, List.length_take]; rfl)) ?_; (with_reducible refine (spec_l1Cur_sketchKey.calls gb272 l0 0 0 t273 t274 t275 w _ ?side1 ?side2 A2.out).mono ?_); (case side1 => exact (show IsS52 w _ gb272 l0 0 0 from ⟨_, _, (by (with_reducible repeat (first | refine blk_drewN ?_ _ | refine blk_drew ?_ | refine blk_alloc ?_ _)); exact BK272.out), GE272.out, HR0.out⟩)); (case side2 => repeat (first | (with_reducible first | exact HB.out | apply below_alloc | apply pw_below_drewN | apply below_drew1 | refine below_set ?_ (IsS52.ge HI272.out)) | exact HB.out)); rintro e w4 ⟨rfl, hi, hb, hk⟩; refine ⟨_, rfl, ?_⟩; have n0_ := Aside0.mk (hb); have n1_ := Aside0.mk (hi); clear HB; have HB := n0_; have HI272 := n1_; clear n0_ n1_; (try clear hb); (try clear hb2); (try clear hk); (try clear hi)))
  go_ret
  exact ⟨by first | rfl | (simp [errW_none, errW_some] <;> rfl) | (simp [*, errW_none, errW_some] <;> rfl), by repeat (first | (with_reducible first | exact HB.out | apply below_alloc | apply pw_below_drewN | apply below_drew1 | refine below_set ?_ (IsS52.ge HI272.out)) | exact HB.out)⟩

/-! ### impl_CellsOf: function 19 -/
def impl_CellsOf.f (k : Nat) (a0 : ByteArray) : Option (List Int × Bool) := (impl_isKey.f a0).bind fun t276 => (if t276 = true then ((impl_cellsOf.f k a0).bind fun t277 => (some (t277, true))) else (some (([] : List Int), false)))
theorem impl_CellsOf.mono : ∀ a0 k, LeO (impl_CellsOf.f k a0) (impl_CellsOf.f (k + 1) a0) := by
 intro a0 k
 unfold impl_CellsOf.f
 repeat' first
   | (with_reducible exact impl_cellsOf.mono _ _)
   | (with_reducible exact LeO.refl _)
   | (with_reducible exact LeO.none _)
   | (with_reducible refine LeO.ite ?_ ?_)
   | (with_reducible refine LeO.bind ?_ (fun _ => ?_))
   | exact impl_cellsOf.mono _ _
   | exact LeO.none _
   | refine LeO.ite ?_ ?_
   | refine LeO.bind ?_ (fun _ => ?_)
set_option maxHeartbeats 8000000 in
set_option maxRecDepth 100000 in
theorem impl_CellsOf.calls (k : Nat) (a0 : ByteArray) (r1 : List Int) (r2 : Bool) (w : World) (h : impl_CellsOf.f k a0 = some (r1, r2)) :
  Calls Try.prog 19 #[.string a0] w fun e w' => ∃ v0_ : Value, e = .returned (.tuple #[v0_, .bool r2]) ∧ Kd.R (Kd.int .i64) 3 w' w.heap.size (fun _ => True) v0_ r1 ∧ Below w.heap.size w w' := by
 have HB := Aside0.mk (Below.refl w.heap.size w)
 have H : ((impl_isKey.f a0).bind fun t276 => (if t276 = true then ((impl_cellsOf.f k a0).bind fun t277 => (some (t277, true))) else (some (([] : List Int), false)))) = some (r1, r2) := h
 clear h
 replace H := Option.bind_eq_some_iff.mp H
 obtain ⟨t276, A20, H⟩ := H
 replace H : (if t276 = true then ((impl_cellsOf.f k a0).bind fun t277 => (some (t277, true))) else (some (([] : List Int), false))) = some (r1, r2) := H
 have A2 := Aside0.mk A20
 clear A20
 by_cases c3 : t276 = true
 ·subst c3
  have H1 : ((impl_cellsOf.f k a0).bind fun t277 => (some (t277, true))) = some (r1, r2) := by rw [if_pos rfl] at H; exact H
  clear H
  have H := H1
  clear H1
  replace H := Option.bind_eq_some_iff.mp H
  obtain ⟨t277, A40, H⟩ := H
  replace H : (some (t277, true)) = some (r1, r2) := H
  have A4 := Aside0.mk A40
  clear A40
  simp only [Option.some.injEq, Prod.mk.injEq] at H
  obtain ⟨rfl, rfl⟩ := H
  go_enter Try.func19, Try.ntmps19
  go_wp2_with (first | ((with_reducible refine gate_callee (f := 28) rfl ?_); refine xgl_ (some 5) Try.func28 #[.string a0] ?_; (with_reducible refine (impl_isKey.calls a0 true _ A2.out).mono ?_); rintro e w' ⟨rfl, ⟨nd, rfl⟩⟩; refine ⟨_, rfl, ?_⟩) | ((with_reducible refine gate_callee (f := 31) rfl ?_); refine xgl_ (some 8) Try.func31 #[.string a0] ?_; (with_reducible refine (impl_cellsOf.calls k a0 t277 _ A4.out).mono ?_); rintro e w5 ⟨v278, rfl, ho0, hb⟩; refine ⟨_, rfl, ?_⟩; have HO279 := Aside0.mk (Kd.R_lower ho0 (below_size (xw_ HB))); replace HB := xws_ HB hb; (try clear hb); (try clear hb2); (try clear hk); (try clear hi); (try clear ho0)))
  go_ret2
  exact ⟨_, by first | rfl | (simp [errW_none, errW_some] <;> rfl) | (simp [*, errW_none, errW_some] <;> rfl), by (with_reducible repeat (first | apply Kd.R_alloc | apply Kd.R_drewN | apply Kd.R_drew)); exact HO279.out, xw_ HB⟩
 ·replace c3 := Bool.eq_false_iff.mpr c3
  subst c3
  have H1 : (some (([] : List Int), false)) = some (r1, r2) := by rw [if_neg (show ¬ (false = true) by decide)] at H; exact H
  clear H
  have H := H1
  clear H1
  simp only [Option.some.injEq, Prod.mk.injEq] at H
  obtain ⟨rfl, rfl⟩ := H
  go_enter Try.func19, Try.ntmps19
  go_wp2_with (first | ((with_reducible refine gate_callee (f := 28) rfl ?_); refine xgl_ (some 5) Try.func28 #[.string a0] ?_; (with_reducible refine (impl_isKey.calls a0 false _ A2.out).mono ?_); rintro e w' ⟨rfl, ⟨nd, rfl⟩⟩; refine ⟨_, rfl, ?_⟩))
  go_ret2
  exact ⟨_, by first | rfl | (simp [errW_none, errW_some] <;> rfl) | (simp [*, errW_none, errW_some] <;> rfl), by first | exact Kd.R_nil _ _ _ _ _ | exact Kd.N_nil _ _ _ _ _ | exact Kd.V_nil _ _ _ _ _ | exact Kd.Q_nil _ _ _ _ _ | exact Kd.S_nil _ _ _ _ _, xw_ HB⟩

/-! ### spec_CellsOf: function 20 -/
def spec_CellsOf.f (k : Nat) (a0 : ByteArray) : Option (List Int × Bool) := (spec_l13Key.f a0).bind fun t280 => (if t280 = true then ((spec_l13Cells.f k a0).bind fun t281 => (some (t281, true))) else (some (([] : List Int), false)))
theorem spec_CellsOf.mono : ∀ a0 k, LeO (spec_CellsOf.f k a0) (spec_CellsOf.f (k + 1) a0) := by
 intro a0 k
 unfold spec_CellsOf.f
 repeat' first
   | (with_reducible exact spec_l13Cells.mono _ _)
   | (with_reducible exact LeO.refl _)
   | (with_reducible exact LeO.none _)
   | (with_reducible refine LeO.ite ?_ ?_)
   | (with_reducible refine LeO.bind ?_ (fun _ => ?_))
   | exact spec_l13Cells.mono _ _
   | exact LeO.none _
   | refine LeO.ite ?_ ?_
   | refine LeO.bind ?_ (fun _ => ?_)
set_option maxHeartbeats 8000000 in
set_option maxRecDepth 100000 in
theorem spec_CellsOf.calls (k : Nat) (a0 : ByteArray) (r1 : List Int) (r2 : Bool) (w : World) (h : spec_CellsOf.f k a0 = some (r1, r2)) :
  Calls Try.prog 20 #[.string a0] w fun e w' => ∃ v0_ : Value, e = .returned (.tuple #[v0_, .bool r2]) ∧ Kd.R (Kd.int .i64) 3 w' w.heap.size (fun _ => True) v0_ r1 ∧ Below w.heap.size w w' := by
 have HB := Aside0.mk (Below.refl w.heap.size w)
 have H : ((spec_l13Key.f a0).bind fun t280 => (if t280 = true then ((spec_l13Cells.f k a0).bind fun t281 => (some (t281, true))) else (some (([] : List Int), false)))) = some (r1, r2) := h
 clear h
 replace H := Option.bind_eq_some_iff.mp H
 obtain ⟨t280, A20, H⟩ := H
 replace H : (if t280 = true then ((spec_l13Cells.f k a0).bind fun t281 => (some (t281, true))) else (some (([] : List Int), false))) = some (r1, r2) := H
 have A2 := Aside0.mk A20
 clear A20
 by_cases c3 : t280 = true
 ·subst c3
  have H1 : ((spec_l13Cells.f k a0).bind fun t281 => (some (t281, true))) = some (r1, r2) := by rw [if_pos rfl] at H; exact H
  clear H
  have H := H1
  clear H1
  replace H := Option.bind_eq_some_iff.mp H
  obtain ⟨t281, A40, H⟩ := H
  replace H : (some (t281, true)) = some (r1, r2) := H
  have A4 := Aside0.mk A40
  clear A40
  simp only [Option.some.injEq, Prod.mk.injEq] at H
  obtain ⟨rfl, rfl⟩ := H
  go_enter Try.func20, Try.ntmps20
  go_wp2_with (first | ((with_reducible refine gate_callee (f := 32) rfl ?_); refine xgl_ (some 5) Try.func32 #[.string a0] ?_; (with_reducible refine (spec_l13Key.calls a0 true _ A2.out).mono ?_); rintro e w' ⟨rfl, ⟨nd, rfl⟩⟩; refine ⟨_, rfl, ?_⟩) | ((with_reducible refine gate_callee (f := 34) rfl ?_); refine xgl_ (some 8) Try.func34 #[.string a0] ?_; (with_reducible refine (spec_l13Cells.calls k a0 t281 _ A4.out).mono ?_); rintro e w5 ⟨v282, rfl, ho0, hb⟩; refine ⟨_, rfl, ?_⟩; have HO283 := Aside0.mk (Kd.R_lower ho0 (below_size (xw_ HB))); replace HB := xws_ HB hb; (try clear hb); (try clear hb2); (try clear hk); (try clear hi); (try clear ho0)))
  go_ret2
  exact ⟨_, by first | rfl | (simp [errW_none, errW_some] <;> rfl) | (simp [*, errW_none, errW_some] <;> rfl), by (with_reducible repeat (first | apply Kd.R_alloc | apply Kd.R_drewN | apply Kd.R_drew)); exact HO283.out, xw_ HB⟩
 ·replace c3 := Bool.eq_false_iff.mpr c3
  subst c3
  have H1 : (some (([] : List Int), false)) = some (r1, r2) := by rw [if_neg (show ¬ (false = true) by decide)] at H; exact H
  clear H
  have H := H1
  clear H1
  simp only [Option.some.injEq, Prod.mk.injEq] at H
  obtain ⟨rfl, rfl⟩ := H
  go_enter Try.func20, Try.ntmps20
  go_wp2_with (first | ((with_reducible refine gate_callee (f := 32) rfl ?_); refine xgl_ (some 5) Try.func32 #[.string a0] ?_; (with_reducible refine (spec_l13Key.calls a0 false _ A2.out).mono ?_); rintro e w' ⟨rfl, ⟨nd, rfl⟩⟩; refine ⟨_, rfl, ?_⟩))
  go_ret2
  exact ⟨_, by first | rfl | (simp [errW_none, errW_some] <;> rfl) | (simp [*, errW_none, errW_some] <;> rfl), by first | exact Kd.R_nil _ _ _ _ _ | exact Kd.N_nil _ _ _ _ _ | exact Kd.V_nil _ _ _ _ _ | exact Kd.Q_nil _ _ _ _ _ | exact Kd.S_nil _ _ _ _ _, xw_ HB⟩

end Go.Proofs.Ytemeajidcggniaa.PFnSummed
