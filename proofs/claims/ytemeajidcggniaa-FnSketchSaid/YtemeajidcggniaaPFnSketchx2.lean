-- Written by a program of this project (xprint.py) out of the translation; Lean checks it.
import Derived.Test.YtemeajidcggniaaPFnSketchx0
import Derived.Test.YtemeajidcggniaaPFnSketchx1
namespace Go.Proofs.Ytemeajidcggniaa.PFnSketch
open Go.RowKit Go.Proofs.YtemeajidcggniaaW.PrintWords Go.Proofs.YtemeajidcggniaaW.PrintLast Go.Proofs.YtemeajidcggniaaW.PrintMore
attribute [local go_sem] max2_int min2_int max_two min_two max_three min_three max_four min_four   -- for this text's walks alone
set_option linter.unusedVariables false
set_option linter.unusedSimpArgs false

/-! ### spec_CountIn: function 7 -/
mutual
def spec_CountIn.j0 : Nat → ByteArray → Int → Bool → List Int → Int → Option (List Int × Int × Bool)
 | 0, _, _, _, _, _ => none
 | k + 1, x1, x2, x23, x110000, x110001 => if x23 = true then (some (([] : List Int), 0, false)) else ((some (([] : List Int) : List Int)).bind fun y114 => (if y114.length + x110000.length < 17592186044416 then ((spec_l13Cells.f k x1).bind fun t121 => (spec_CountIn.l0 k x2 t121 (t121.length : Int) 0 (y114 ++ x110000) (wrap64 (x110001 + x2)))) else (none)))
def spec_CountIn.l0 : Nat → Int → List Int → Int → Int → List Int → Int → Option (List Int × Int × Bool)
 | 0, _, _, _, _, _, _ => none
 | k + 1, x2, x35, x36, x37, x121000, x121001 => if x37 < x36 then (if 0 ≤ x37 then (if x37 < (x35.length : Int) then (if 0 ≤ (rd x35 x37) then (if (rd x35 x37) < (x121000.length : Int) then (spec_CountIn.l0 k x2 x35 x36 (wrap64 (x37 + 1)) (x121000.set ((rd x35 x37) : Int).toNat (wrap64 ((rd x121000 (rd x35 x37)) + x2))) x121001) else (none)) else (none)) else (none)) else (none)) else ((spec_GoodSketch.f k x121000 x121001).bind fun t127 => (if t127 = true then (some (x121000, x121001, true)) else (some (([] : List Int), 0, false))))
end
def spec_CountIn.f (k : Nat) (l0_0 : List Int) (a0_1 : Int) (a1 : ByteArray) (a2 : Int) : Option (List Int × Int × Bool) := (spec_GoodSketch.f k l0_0 a0_1).bind fun t111 => (if t111 = true then ((spec_l13Key.f a1).bind fun t112 => (if t112 = true then ((spec_l1In.f a2 0 1000).bind fun t113 => (spec_CountIn.j0 k a1 a2 (!t113) l0_0 a0_1)) else (spec_CountIn.j0 k a1 a2 true l0_0 a0_1))) else (spec_CountIn.j0 k a1 a2 true l0_0 a0_1))
theorem spec_CountIn.mono_l : ∀ k, (∀ y0 y1 y2 y3 y4, LeO (spec_CountIn.j0 k y0 y1 y2 y3 y4) (spec_CountIn.j0 (k + 1) y0 y1 y2 y3 y4)) ∧ (∀ y0 y1 y2 y3 y4 y5, LeO (spec_CountIn.l0 k y0 y1 y2 y3 y4 y5) (spec_CountIn.l0 (k + 1) y0 y1 y2 y3 y4 y5))
 | 0 => ⟨fun _ _ _ _ _ r h => by simp [spec_CountIn.j0] at h, fun _ _ _ _ _ _ r h => by simp [spec_CountIn.l0] at h⟩
 | k + 1 => by
  obtain ⟨ih0, ih1⟩ := spec_CountIn.mono_l k
  refine ⟨?_, ?_⟩
  ·intro y0 y1 y2 y3 y4
   unfold spec_CountIn.j0
   repeat' first
   | (with_reducible exact ih0 _ _ _ _ _)
   | (with_reducible exact ih1 _ _ _ _ _ _)
   | (with_reducible exact spec_GoodSketch.mono _ _ _)
   | (with_reducible exact spec_l13Cells.mono _ _)
   | (with_reducible exact LeO.refl _)
   | (with_reducible exact LeO.none _)
   | (with_reducible refine LeO.ite ?_ ?_)
   | (with_reducible refine LeO.bind ?_ (fun _ => ?_))
   | exact ih0 _ _ _ _ _
   | exact ih1 _ _ _ _ _ _
   | exact spec_GoodSketch.mono _ _ _
   | exact spec_l13Cells.mono _ _
   | exact LeO.none _
   | refine LeO.ite ?_ ?_
   | refine LeO.bind ?_ (fun _ => ?_)
  ·intro y0 y1 y2 y3 y4 y5
   unfold spec_CountIn.l0
   repeat' first
   | (with_reducible exact ih0 _ _ _ _ _)
   | (with_reducible exact ih1 _ _ _ _ _ _)
   | (with_reducible exact spec_GoodSketch.mono _ _ _)
   | (with_reducible exact spec_l13Cells.mono _ _)
   | (with_reducible exact LeO.refl _)
   | (with_reducible exact LeO.none _)
   | (with_reducible refine LeO.ite ?_ ?_)
   | (with_reducible refine LeO.bind ?_ (fun _ => ?_))
   | exact ih0 _ _ _ _ _
   | exact ih1 _ _ _ _ _ _
   | exact spec_GoodSketch.mono _ _ _
   | exact spec_l13Cells.mono _ _
   | exact LeO.none _
   | refine LeO.ite ?_ ?_
   | refine LeO.bind ?_ (fun _ => ?_)
theorem spec_CountIn.mono : ∀ a0 a1 a2 a3 k, LeO (spec_CountIn.f k a0 a1 a2 a3) (spec_CountIn.f (k + 1) a0 a1 a2 a3) := by
 intro a0 a1 a2 a3 k
 obtain ⟨ih0, ih1⟩ := spec_CountIn.mono_l k
 unfold spec_CountIn.f
 repeat' first
   | (with_reducible exact ih0 _ _ _ _ _)
   | (with_reducible exact ih1 _ _ _ _ _ _)
   | (with_reducible exact spec_GoodSketch.mono _ _ _)
   | (with_reducible exact spec_l13Cells.mono _ _)
   | (with_reducible exact LeO.refl _)
   | (with_reducible exact LeO.none _)
   | (with_reducible refine LeO.ite ?_ ?_)
   | (with_reducible refine LeO.bind ?_ (fun _ => ?_))
   | exact ih0 _ _ _ _ _
   | exact ih1 _ _ _ _ _ _
   | exact spec_GoodSketch.mono _ _ _
   | exact spec_l13Cells.mono _ _
   | exact LeO.none _
   | refine LeO.ite ?_ ?_
   | refine LeO.bind ?_ (fun _ => ?_)
def spec_CountIn.T3 : Bool × List (List Nat × List Nat) := (true, [([], []), ([], []), ([1], [1]), ([0, 2], [0, 2]), ([], []), ([4], [4]), ([], []), ([5, 6], [5, 6]), ([3, 7], [3, 7]), ([], []), ([9, 8, 3, 0, 1, 2, 3, 4, 5, 6, 7, 8, 9], [8, 9])])
def spec_CountIn.B3 : List Nat := [0, 0, 2, 7, 0, 16, 0, 112, 255, 0, 1023]
theorem spec_CountIn.tab3 : rtab .any (opsOf Try.f7 3) = spec_CountIn.T3 := by kernel_rfl
theorem spec_CountIn.bits3 : waitsOk spec_CountIn.T3.2 spec_CountIn.B3 = true := by kernel_rfl
set_option maxHeartbeats 8000000 in
set_option maxRecDepth 100000 in
theorem spec_CountIn.calls (k : Nat) (A0_0 : Option Addr) (c0_0 : Nat) (l0_0 : List Int) (a0_1 : Int) (a1 : ByteArray) (a2 : Int) (r1 : List Int) (r2 : Int) (r3 : Bool) (w : World) (hr0_0 : Kd.C (Kd.int .i64) w A0_0 l0_0.length l0_0) (hc0_0 : l0_0.length ≤ c0_0) (h : spec_CountIn.f k l0_0 a0_1 a1 a2 = some (r1, r2, r3)) :
  Calls Try.prog 7 #[.agg #[.slice A0_0 l0_0.length c0_0, .int .i64 a0_1], .string a1, .int .i64 a2] w fun e w' => ∃ v0_ : Value, e = .returned (.tuple #[.agg #[v0_, .int .i64 r2], .bool r3]) ∧ Kd.R (Kd.int .i64) 3 w' w.heap.size (fun _ => True) v0_ r1 ∧ Below w.heap.size w w' := by
 have hu25 := Try.underlying25
 have HR0_0 := Aside0.mk hr0_0
 have HC0_0 := Aside0.mk hc0_0
 clear hr0_0 hc0_0
 have HB := Aside0.mk (Below.refl w.heap.size w)
 have H : ((spec_GoodSketch.f k l0_0 a0_1).bind fun t111 => (if t111 = true then ((spec_l13Key.f a1).bind fun t112 => (if t112 = true then ((spec_l1In.f a2 0 1000).bind fun t113 => (spec_CountIn.j0 k a1 a2 (!t113) l0_0 a0_1)) else (spec_CountIn.j0 k a1 a2 true l0_0 a0_1))) else (spec_CountIn.j0 k a1 a2 true l0_0 a0_1))) = some (r1, r2, r3) := h
 clear h
 have HC4 := Aside0.mk H
 clear H
 go_enter Try.func7, Try.ntmps7
 go_upto_region 1 with (first | ((with_reducible refine gate_dst (N := 3) rfl ?_); refine xbe_ (N := 3) (cs := #[.slice A0_0 l0_0.length c0_0, .int .i64 a0_1]) (t := 25) ?_; intro gb109 hg w5 hbox hb; have BK109 := Aside0.mk (hbox); have GW109 := xge_ HB hg; have GE109 := xge_ HB hg; replace HB := xws_ HB hb; clear hb hbox hg) | ((with_reducible refine gate_dst (N := 6) rfl ?_); refine xbe_ (N := 6) (cs := #[.slice none 0 0, .int .i64 0]) (t := 25) ?_; intro gb110 hg w6 hbox hb; have BK110 := Aside0.mk (hbox); have GW110 := xge_ HB hg; have GE110 := xge_ HB hg; replace HB := xws_ HB hb; have NB109_110 := xlt_ BK109 hg; have NB110_109 := xgt_ BK109 hg; replace BK109 := xbb_ BK109 hb; clear hb hbox hg))
 (try simp only [Act.put, List.setIfInBounds_toArray, List.set_cons_zero, List.set_cons_succ])
 go_cut [23] (fun v23 wc => ∃ (kq : Nat) (x23_3 : Bool), v23 = .bool x23_3 ∧ Aside0 (spec_CountIn.j0 kq a1 a2 x23_3 l0_0 a0_1 = some (r1, r2, r3)) ∧ Aside0 (kq ≤ k) ∧ Aside0 (wc.heap[gb109]? = some (.cells #[(.slice A0_0 l0_0.length c0_0), .int .i64 a0_1] 25 (0, 0))) ∧ Aside0 (wc.heap[gb110]? = some (.cells #[(.slice none 0 0), .int .i64 0] 25 (0, 0))) ∧ Aside0 (Below w.heap.size w wc))
 case first =>
  have H := HC4.out
  clear HC4
  replace H := Option.bind_eq_some_iff.mp H
  obtain ⟨t111, A70, H⟩ := H
  replace H : (if t111 = true then ((spec_l13Key.f a1).bind fun t112 => (if t112 = true then ((spec_l1In.f a2 0 1000).bind fun t113 => (spec_CountIn.j0 k a1 a2 (!t113) l0_0 a0_1)) else (spec_CountIn.j0 k a1 a2 true l0_0 a0_1))) else (spec_CountIn.j0 k a1 a2 true l0_0 a0_1)) = some (r1, r2, r3) := H
  have A7 := Aside0.mk A70
  clear A70
  by_cases c8 : t111 = true
  ·subst c8
   have H1 : ((spec_l13Key.f a1).bind fun t112 => (if t112 = true then ((spec_l1In.f a2 0 1000).bind fun t113 => (spec_CountIn.j0 k a1 a2 (!t113) l0_0 a0_1)) else (spec_CountIn.j0 k a1 a2 true l0_0 a0_1))) = some (r1, r2, r3) := by rw [if_pos rfl] at H; exact H
   clear H
   have H := H1
   clear H1
   replace H := Option.bind_eq_some_iff.mp H
   obtain ⟨t112, A90, H⟩ := H
   replace H : (if t112 = true then ((spec_l1In.f a2 0 1000).bind fun t113 => (spec_CountIn.j0 k a1 a2 (!t113) l0_0 a0_1)) else (spec_CountIn.j0 k a1 a2 true l0_0 a0_1)) = some (r1, r2, r3) := H
   have A9 := Aside0.mk A90
   clear A90
   by_cases c10 : t112 = true
   ·subst c10
    have H1 : ((spec_l1In.f a2 0 1000).bind fun t113 => (spec_CountIn.j0 k a1 a2 (!t113) l0_0 a0_1)) = some (r1, r2, r3) := by rw [if_pos rfl] at H; exact H
    clear H
    have H := H1
    clear H1
    replace H := Option.bind_eq_some_iff.mp H
    obtain ⟨t113, A110, H⟩ := H
    replace H : (spec_CountIn.j0 k a1 a2 (!t113) l0_0 a0_1) = some (r1, r2, r3) := H
    have A11 := Aside0.mk A110
    clear A110
    have H' := Aside0.mk H
    clear H
    have hnb12 := NB109_110.out
    have hnc12 := NB110_109.out
    have hcz13_0 : w6.cell? ⟨gb109, 0, none⟩ = some (.slice A0_0 l0_0.length c0_0) := xk_ BK109 0
    have hcz13_1 : w6.cell? ⟨gb109, 1, none⟩ = some (.int .i64 a0_1) := xk_ BK109 1
    have hfz13_0 := blk_frozen BK109.out 0
    have hfz13_1 := blk_frozen BK109.out 1
    go_wp2_with (first | ((with_reducible refine gate_callee (f := 10) rfl ?_); refine xgl_ (some 12) Try.func10 #[.agg #[.slice A0_0 l0_0.length c0_0, .int .i64 a0_1]] ?_; (with_reducible refine (spec_GoodSketch.calls k _ _ l0_0 a0_1 true _ ?side1 ?side2 A7.out).mono ?_); (case side1 => exact xc_ ((Kd.C_below HR0_0.out HB.out))); (case side2 => exact HC0_0.out); rintro e w14 ⟨rfl, hb⟩; refine ⟨_, rfl, ?_⟩; replace BK109 := xbb_ BK109 hb; replace BK110 := xbb_ BK110 hb; replace HB := xws_ HB hb; (try clear hb); (try clear hb2); (try clear hk); (try clear hi)) | (go_at_call 32; (with_reducible refine (spec_l13Key.calls a1 true _ A9.out).mono ?_); rintro e w' ⟨rfl, ⟨nd, rfl⟩⟩) | (go_at_call 33; (with_reducible refine (spec_l1In.calls a2 0 1000 t113 _ A11.out).mono ?_); rintro e w' ⟨rfl, ⟨nd, rfl⟩⟩))
    go_meet
    case rel => exact ⟨_, (!t113), (by first | rfl | (simp; done) | (simp [*]; done)), H', ⟨by first | omega | exact Nat.le_refl _⟩, ⟨xb_ BK109⟩, ⟨xb_ BK110⟩, ⟨xw_ HB⟩⟩
   ·replace c10 := Bool.eq_false_iff.mpr c10
    subst c10
    have H1 : (spec_CountIn.j0 k a1 a2 true l0_0 a0_1) = some (r1, r2, r3) := by rw [if_neg (show ¬ (false = true) by decide)] at H; exact H
    clear H
    have H := H1
    clear H1
    have H' := Aside0.mk H
    clear H
    have hnb15 := NB109_110.out
    have hnc15 := NB110_109.out
    have hcz16_0 : w6.cell? ⟨gb109, 0, none⟩ = some (.slice A0_0 l0_0.length c0_0) := xk_ BK109 0
    have hcz16_1 : w6.cell? ⟨gb109, 1, none⟩ = some (.int .i64 a0_1) := xk_ BK109 1
    have hfz16_0 := blk_frozen BK109.out 0
    have hfz16_1 := blk_frozen BK109.out 1
    go_wp2_with (first | ((with_reducible refine gate_callee (f := 10) rfl ?_); refine xgl_ (some 12) Try.func10 #[.agg #[.slice A0_0 l0_0.length c0_0, .int .i64 a0_1]] ?_; (with_reducible refine (spec_GoodSketch.calls k _ _ l0_0 a0_1 true _ ?side1 ?side2 A7.out).mono ?_); (case side1 => exact xc_ ((Kd.C_below HR0_0.out HB.out))); (case side2 => exact HC0_0.out); rintro e w17 ⟨rfl, hb⟩; refine ⟨_, rfl, ?_⟩; replace BK109 := xbb_ BK109 hb; replace BK110 := xbb_ BK110 hb; replace HB := xws_ HB hb; (try clear hb); (try clear hb2); (try clear hk); (try clear hi)) | (go_at_call 32; (with_reducible refine (spec_l13Key.calls a1 false _ A9.out).mono ?_); rintro e w' ⟨rfl, ⟨nd, rfl⟩⟩))
    go_meet
    case rel => exact ⟨_, (true), (by first | rfl | (simp; done) | (simp [*]; done)), H', ⟨by first | omega | exact Nat.le_refl _⟩, ⟨xb_ BK109⟩, ⟨xb_ BK110⟩, ⟨xw_ HB⟩⟩
  ·replace c8 := Bool.eq_false_iff.mpr c8
   subst c8
   have H1 : (spec_CountIn.j0 k a1 a2 true l0_0 a0_1) = some (r1, r2, r3) := by rw [if_neg (show ¬ (false = true) by decide)] at H; exact H
   clear H
   have H := H1
   clear H1
   have H' := Aside0.mk H
   clear H
   have hnb18 := NB109_110.out
   have hnc18 := NB110_109.out
   have hcz19_0 : w6.cell? ⟨gb109, 0, none⟩ = some (.slice A0_0 l0_0.length c0_0) := xk_ BK109 0
   have hcz19_1 : w6.cell? ⟨gb109, 1, none⟩ = some (.int .i64 a0_1) := xk_ BK109 1
   have hfz19_0 := blk_frozen BK109.out 0
   have hfz19_1 := blk_frozen BK109.out 1
   go_wp2_with (first | ((with_reducible refine gate_callee (f := 10) rfl ?_); refine xgl_ (some 12) Try.func10 #[.agg #[.slice A0_0 l0_0.length c0_0, .int .i64 a0_1]] ?_; (with_reducible refine (spec_GoodSketch.calls k _ _ l0_0 a0_1 false _ ?side1 ?side2 A7.out).mono ?_); (case side1 => exact xc_ ((Kd.C_below HR0_0.out HB.out))); (case side2 => exact HC0_0.out); rintro e w20 ⟨rfl, hb⟩; refine ⟨_, rfl, ?_⟩; replace BK109 := xbb_ BK109 hb; replace BK110 := xbb_ BK110 hb; replace HB := xws_ HB hb; (try clear hb); (try clear hb2); (try clear hk); (try clear hi)))
   go_meet
   case rel => exact ⟨_, (true), (by first | rfl | (simp; done) | (simp [*]; done)), H', ⟨by first | omega | exact Nat.le_refl _⟩, ⟨xb_ BK109⟩, ⟨xb_ BK110⟩, ⟨xw_ HB⟩⟩
 case rest =>
  clear HC4
  try clear c1
  try clear p2
  try clear c7
  try clear c8
  try clear c10
  try clear c12
  try clear c15
  try clear c18
  try clear hcz13_0
  try clear hcz13_1
  try clear hcz16_0
  try clear hcz16_1
  try clear hcz19_0
  try clear hcz19_1
  try clear hfz13_0
  try clear hfz13_1
  try clear hfz16_0
  try clear hfz16_1
  try clear hfz19_0
  try clear hfz19_1
  obtain ⟨kq, x23_3, rfl, HA, HJ3, BK109, BK110, HB⟩ := hcut
  cases kq with
  | zero => exact absurd HA.out (by simp [spec_CountIn.j0])
  | succ kj3 =>
   have H := HA.out
   clear HA
   simp only [spec_CountIn.j0] at H
   by_cases c21 : x23_3 = true
   ·subst c21
    have H1 : (some (([] : List Int), 0, false)) = some (r1, r2, r3) := by rw [if_pos rfl] at H; exact H
    clear H
    have H := H1
    clear H1
    simp only [Option.some.injEq, Prod.mk.injEq] at H
    obtain ⟨rfl, rfl, rfl⟩ := H
    have hnb22 := NB110_109.out
    have hnc22 := NB109_110.out
    have hcz23_0 : wc.cell? ⟨gb110, 0, none⟩ = some (.slice none 0 0) := xk_ BK110 0
    have hcz23_1 : wc.cell? ⟨gb110, 1, none⟩ = some (.int .i64 0) := xk_ BK110 1
    have hfz23_0 := blk_frozen BK110.out 0
    have hfz23_1 := blk_frozen BK110.out 1
    go_wp2
    refine bodyPost_ret (results_ct rfl _ _ gb110 25 #[.slice none 0 0, .int .i64 0] (0, 0) _ rfl (by (with_reducible repeat (first | refine blk_drewN ?_ _ | refine blk_drew ?_ | refine blk_alloc ?_ _)); refine blk_put (cs := #[.slice none 0 0, .int .i64 0]) ?_ 1 _ rfl; (with_reducible repeat (first | refine blk_drewN ?_ _ | refine blk_drew ?_ | refine blk_alloc ?_ _)); refine blk_put (cs := #[.slice none 0 0, .int .i64 0]) ?_ 0 _ rfl; (with_reducible repeat (first | refine blk_drewN ?_ _ | refine blk_drew ?_ | refine blk_alloc ?_ _)); exact BK110.out) Try.underlying25 rfl (by kernel_rfl)) rfl ?_
    exact ⟨_, by first | rfl | (simp [errW_none, errW_some] <;> rfl) | (simp [*, errW_none, errW_some] <;> rfl), by first | exact Kd.R_nil _ _ _ _ _ | exact Kd.N_nil _ _ _ _ _ | exact Kd.V_nil _ _ _ _ _ | exact Kd.Q_nil _ _ _ _ _ | exact Kd.S_nil _ _ _ _ _, xw_ HB⟩
   ·replace c21 := Bool.eq_false_iff.mpr c21
    subst c21
    have H1 : ((some (([] : List Int) : List Int)).bind fun y114 => (if y114.length + l0_0.length < 17592186044416 then ((spec_l13Cells.f kj3 a1).bind fun t121 => (spec_CountIn.l0 kj3 a2 t121 (t121.length : Int) 0 (y114 ++ l0_0) (wrap64 (a0_1 + a2)))) else (none))) = some (r1, r2, r3) := by rw [if_neg (show ¬ (false = true) by decide)] at H; exact H
    clear H
    have H := H1
    clear H1
    obtain ⟨y114, hy114⟩ : ∃ y_ : List Int, y_ = (([] : List Int)) := ⟨_, rfl⟩
    replace H : (if y114.length + l0_0.length < 17592186044416 then ((spec_l13Cells.f kj3 a1).bind fun t121 => (spec_CountIn.l0 kj3 a2 t121 (t121.length : Int) 0 (y114 ++ l0_0) (wrap64 (a0_1 + a2)))) else (none)) = some (r1, r2, r3) := by first | (rw [hy114]; with_reducible exact H) | (have H2_ := (Option.bind_some _ _).symm.trans H; rw [hy114]; with_reducible exact H2_) | (have H2_ := (Option.bind_some _ _).symm.trans H; with_reducible exact H2_) | with_reducible exact H | (rw [hy114]; exact H) | exact H
    have Ny114 := Aside0.mk hy114
    clear hy114
    by_cases c24 : y114.length + l0_0.length < 17592186044416
    ·rw [if_pos c24] at H
     have LMc24 := Aside0.mk c24
     clear c24
     obtain ⟨y117, hy117⟩ : ∃ y_ : List Int, y_ = (y114 ++ l0_0) := ⟨_, rfl⟩
     replace H : ((spec_l13Cells.f kj3 a1).bind fun t121 => (spec_CountIn.l0 kj3 a2 t121 (t121.length : Int) 0 y117 (wrap64 (a0_1 + a2)))) = some (r1, r2, r3) := by first | (rw [hy117]; with_reducible exact H) | (have H2_ := (Option.bind_some _ _).symm.trans H; rw [hy117]; with_reducible exact H2_) | (have H2_ := (Option.bind_some _ _).symm.trans H; with_reducible exact H2_) | with_reducible exact H | (rw [hy117]; exact H) | exact H
     have Ny117 := Aside0.mk hy117
     clear hy117
     replace H := Option.bind_eq_some_iff.mp H
     obtain ⟨t121, A250, H⟩ := H
     replace H : (spec_CountIn.l0 kj3 a2 t121 (t121.length : Int) 0 y117 (wrap64 (a0_1 + a2))) = some (r1, r2, r3) := H
     have A25 := Aside0.mk A250
     clear A250
     have H' := Aside0.mk H
     clear H
     try go_wp2
     replace BK109 := Aside0.mk (blk_drew BK109.out)
     replace BK110 := Aside0.mk (blk_drew BK110.out)
     replace HB := Aside0.mk (below_drew1 HB.out)
     refine start_ (n := 11) (S := fun w' => w'.cell? ⟨gb109, 0, none⟩ = some (.slice A0_0 l0_0.length c0_0) ∧ w'.cell? ⟨gb109, 1, none⟩ = some (.int .i64 a0_1)) (ds := []) #[false, false, false, false, false, false, false, false, false, false, false] (by kernel_rfl) rfl rfl ⟨xk_ BK109 0, xk_ BK109 1⟩ (fun hHeld => ?_); refine with_tabW spec_CountIn.tab3 spec_CountIn.bits3 (fun HT_ HW_ => ?_)
     generalize wc.drew = w26 at BK109 BK110 HB hHeld ⊢
     refine pure_ (i := 1) (N := some 26) (v := ?_) (a' := ?_) #[false, true, false, false, false, false, false, false, false, false, false] rfl rfl (any_of HT_.out (by kernel_rfl)) (fun _ _ _ h => h) (Or.inl ⟨by rfl, ?_⟩) ?_ ?_
     rotate_left
     ·intro w'
      go_simp
      with_reducible rfl
     rotate_left
     ·simp only [Act.put, List.setIfInBounds_toArray, List.set_cons_zero, List.set_cons_succ, i64_w, i32_w]
      rfl
     refine pure_ (i := 4) (N := some 29) (v := ?_) (a' := ?_) #[false, true, false, false, true, false, false, false, false, false, false] rfl rfl (any_of HT_.out (by kernel_rfl)) (fun _ _ _ h => h) (Or.inl ⟨by rfl, ?_⟩) ?_ ?_
     rotate_left
     ·intro w'
      go_simp
      with_reducible rfl
     rotate_left
     ·simp only [Act.put, List.setIfInBounds_toArray, List.set_cons_zero, List.set_cons_succ, i64_w, i32_w]
      rfl
     refine pure_ (i := 6) (N := some 31) (v := ?_) (a' := ?_) #[false, true, false, false, true, false, true, false, false, false, false] rfl rfl (any_of HT_.out (by kernel_rfl)) (fun _ _ _ h => h) (Or.inl ⟨by rfl, ?_⟩) ?_ ?_
     rotate_left
     ·intro w'
      go_simp
      with_reducible rfl
     rotate_left
     ·simp only [Act.put, List.setIfInBounds_toArray, List.set_cons_zero, List.set_cons_succ, i64_w, i32_w]
      rfl
     refine take_ (i := 2) (N := some 27) (v := ?_) (a' := ?_) #[false, true, true, false, true, false, true, false, false, false, false] rfl rfl (take_ofW HT_.out HW_.out (by kernel_rfl)) (fun _ _ _ h => h) (Or.inl ⟨by rfl, ?_⟩) hHeld ?_ ?_
     rotate_left
     ·rintro w' ⟨s0, s1⟩
      go_simp
      with_reducible rfl
     rotate_left
     ·simp only [Act.put, List.setIfInBounds_toArray, List.set_cons_zero, List.set_cons_succ, i64_w, i32_w]
      rfl
     refine take_ (i := 5) (N := some 30) (v := ?_) (a' := ?_) #[false, true, true, false, true, true, true, false, false, false, false] rfl rfl (take_ofW HT_.out HW_.out (by kernel_rfl)) (fun _ _ _ h => h) (Or.inl ⟨by rfl, ?_⟩) hHeld ?_ ?_
     rotate_left
     ·rintro w' ⟨s0, s1⟩
      go_simp
      with_reducible rfl
     rotate_left
     ·simp only [Act.put, List.setIfInBounds_toArray, List.set_cons_zero, List.set_cons_succ, i64_w, i32_w]
      rfl
     refine pure_ (i := 7) (N := some 32) (v := ?_) (a' := ?_) #[false, true, true, false, true, true, true, true, false, false, false] rfl rfl (any_of HT_.out (by kernel_rfl)) (fun _ _ _ h => h) (Or.inl ⟨by rfl, ?_⟩) ?_ ?_
     rotate_left
     ·intro w'
      go_simp
      with_reducible rfl
     rotate_left
     ·simp only [Act.put, List.setIfInBounds_toArray, List.set_cons_zero, List.set_cons_succ, i64_w, i32_w]
      rfl
     refine join_ (σ := Value × Value × Nat) 1 #[true, true, true, true, true, true, true, true, true, true, false] (fun s_ => [(25, s_.1), (28, s_.2.1), (8, .pointer (some ⟨s_.2.2, 0, none⟩)), (33, .agg #[s_.2.1, .int .i64 (wrap64 (a0_1 + a2))])]) (fun s_ w' => (w'.cell? ⟨gb109, 0, none⟩ = some (.slice A0_0 l0_0.length c0_0) ∧ w'.cell? ⟨gb109, 1, none⟩ = some (.int .i64 a0_1)) ∧ (Kd.R (Kd.int .i64) 3 w' w.heap.size (fun _ => True) s_.2.1 y117) ∧ (w'.heap[gb109]? = some (.cells #[.slice A0_0 l0_0.length c0_0, .int .i64 a0_1] 25 (0, 0))) ∧ (w'.heap[gb110]? = some (.cells #[.slice none 0 0, .int .i64 0] 25 (0, 0))) ∧ (w'.heap[s_.2.2]? = some (.cells #[.slice none 0 0, .int .i64 0] 25 (0, 0))) ∧ (w.heap.size ≤ s_.2.2) ∧ (w.heap.size ≤ s_.2.2) ∧ (gb109 ≠ s_.2.2) ∧ (s_.2.2 ≠ gb109) ∧ (gb110 ≠ s_.2.2) ∧ (s_.2.2 ≠ gb110) ∧ (Below w.heap.size w w')) ?_ ?_
     rotate_left
     ·intro hCont
      refine two_ (i := 0) (j := 9) (Ni := some 25) (Nj := some 8) #[true, true, true, false, true, true, true, true, false, false, false] #[false, true, true, false, true, true, true, true, false, true, false] rfl rfl rfl rfl (two_of HT_.out (by kernel_rfl)) (by decide) (by decide) (fun K hK => ?_) (fun K hK => ?_)
      ·skip
       refine Kd.R_lit_step (Kd.int .i64) _ 3 ?hg (N := 25) ?hd (xs := ([] : List Int)) (inner := []) (ok := fun _ => True) (okp := fun _ => True) ?hr ?hp (fun _ hk => hk) trivial (Below.refl _ _) (Nat.le_refl _) (by simp) ?_; (case hd => rfl); (case hg => rfl); (case hr => first | (go_simp; done) | (go_simp; rfl)); (case hp => exact (Reps.none _ _))
       intro v115 w27 ho28 hb hg_ hnew_
       clear hg_ hnew_
       (first | rw [← Ny114.out] at ho28 | (simp only [Int.reduceToNat] at ho28; rw [← Ny114.out] at ho28))
       have HO116 := Aside0.mk (Kd.R_lower ho28 (below_size (xw_ HB)))
       replace BK109 := xbb_ BK109 hb
       replace BK110 := xbb_ BK110 hb
       replace HB := xws_ HB hb
       clear hb ho28
       refine hK.out _ _ ⟨xk_ BK109 0, xk_ BK109 1⟩ (fun hHeld => ?_)
       clear hK K
       refine norm_ (a' := ?_) ?_ ?_
       rotate_left
       ·show Act.put _ (some 25) _ = _
        simp only [Act.put, List.setIfInBounds_toArray, List.set_cons_zero, List.set_cons_succ, i64_w, i32_w]
        rfl
       refine two_ (i := 3) (j := 9) (Ni := some 28) (Nj := some 8) #[true, true, true, true, true, true, true, true, false, false, false] #[true, true, true, false, true, true, true, true, false, true, false] rfl rfl rfl rfl (two_of HT_.out (by kernel_rfl)) (by decide) (by decide) (fun K hK => ?_) (fun K hK => ?_)
       ·skip
        refine Kd.R_append_rows_step (Kd.int .i64) (w0 := w) w.heap.size (by rfl) (.tmp 25) (.tmp 27) 23 3 (.int .i64 0) 8 rfl Try.underlying23 info3 rfl (by decide) (by omega) v115 y114 l0_0 _ _ _ (fun _ => True) (fun _ => False) rfl rfl ?aO ?aR (fun _ _ h => h) (fun _ h => h.elim) ?aF ?aB ?aS ?aL ?_
        (case aR => exact xc_ ((Kd.C_below HR0_0.out HB.out)))
        (case aB => exact (xw_ HB))
        (case aF => exact (fun _ _ => trivial))
        (case aO => exact (xr_ HO116))
        (case aS => exact (below_size (xw_ HB)))
        (case aL => have := LMc24.out; omega)
        intro v118 w29 ho hb hg hat
        rw [← Ny117.out] at ho
        replace BK109 := Aside0.mk (blk_grown (g := gb109) (o := .cells #[.slice A0_0 l0_0.length c0_0, .int .i64 a0_1] 25 (0, 0)) (xb_ BK109) hg (Kd.R_ne HO116.out BK109.out (by decide)))
        replace BK110 := Aside0.mk (blk_grown (g := gb110) (o := .cells #[.slice none 0 0, .int .i64 0] 25 (0, 0)) (xb_ BK110) hg (Kd.R_ne HO116.out BK110.out (by decide)))
        replace HB := Aside0.mk (hb)
        have HO119 := Aside0.mk (ho)
        clear HO116
        clear ho hb hg hat
        obtain ⟨Ao30, co30, eo30⟩ := Kd.R_slice HO119.out
        (first | subst eo30 | (injection eo30 with f1_ f2_ f3_; have f4_ := f1_.symm; have f5_ := f3_.symm; clear f1_ f2_ f3_; subst f4_; subst f5_))
        refine hK.out _ _ ⟨xk_ BK109 0, xk_ BK109 1⟩ (fun hHeld => ?_)
        clear hK K
        refine norm_ (a' := ?_) ?_ ?_
        rotate_left
        ·show Act.put _ (some 28) _ = _
         simp only [Act.put, List.setIfInBounds_toArray, List.set_cons_zero, List.set_cons_succ, i64_w, i32_w]
         rfl
        refine pure_ (i := 8) (N := some 33) (v := ?_) (a' := ?_) #[true, true, true, true, true, true, true, true, true, false, false] rfl rfl (any_of HT_.out (by kernel_rfl)) (fun _ _ _ h => h) (Or.inl ⟨by rfl, ?_⟩) ?_ ?_
        rotate_left
        ·intro w'
         go_simp
         with_reducible rfl
        rotate_left
        ·simp only [Act.put, List.setIfInBounds_toArray, List.set_cons_zero, List.set_cons_succ, i64_w, i32_w]
         rfl
        refine one_ (i := 9) (N := some 8) #[true, true, true, true, true, true, true, true, true, true, false] rfl rfl (one_of HT_.out (by kernel_rfl)) (by decide) (fun K hK => ?_)
        refine box_step ?hg (N := 8) ?hd (cs := #[.slice none 0 0, .int .i64 0]) (t := 25) ?hr ?_; (case hd => rfl); (case hg => rfl); (case hr => first | (go_simp; done) | (go_simp; rfl))
        intro gb120 hg w31 hbox hb
        replace HO119 := xrb_ HO119 hb
        have BK120 := Aside0.mk (hbox)
        have GW120 := xge_ HB hg
        have GE120 := xge_ HB hg
        replace HB := xws_ HB hb
        have NB109_120 := xlt_ BK109 hg
        have NB120_109 := xgt_ BK109 hg
        replace BK109 := xbb_ BK109 hb
        have NB110_120 := xlt_ BK110 hg
        have NB120_110 := xgt_ BK110 hg
        replace BK110 := xbb_ BK110 hb
        clear hb hbox hg
        refine hK.out _ _ ⟨xk_ BK109 0, xk_ BK109 1⟩ (fun hHeld => ?_)
        clear hK K
        refine norm_ (a' := ?_) ?_ ?_
        rotate_left
        ·show Act.put _ (some 8) _ = _
         simp only [Act.put, List.setIfInBounds_toArray, List.set_cons_zero, List.set_cons_succ, i64_w, i32_w]
         rfl
        exact norm_ (by simp only [putAll, Act.put, List.setIfInBounds_toArray, List.set_cons_zero, List.set_cons_succ]) (hCont (v115, .slice Ao30 y117.length co30, gb120) _ ⟨hHeld, xr_ HO119, xb_ BK109, xb_ BK110, xb_ BK120, GW120.out, GE120.out, NB109_120.out, NB120_109.out, NB110_120.out, NB120_110.out, xw_ HB⟩)
       ·skip
        refine box_step ?hg (N := 8) ?hd (cs := #[.slice none 0 0, .int .i64 0]) (t := 25) ?hr ?_; (case hd => rfl); (case hg => rfl); (case hr => first | (go_simp; done) | (go_simp; rfl))
        intro gb120 hg w29 hbox hb
        replace HO116 := xrb_ HO116 hb
        have BK120 := Aside0.mk (hbox)
        have GW120 := xge_ HB hg
        have GE120 := xge_ HB hg
        replace HB := xws_ HB hb
        have NB109_120 := xlt_ BK109 hg
        have NB120_109 := xgt_ BK109 hg
        replace BK109 := xbb_ BK109 hb
        have NB110_120 := xlt_ BK110 hg
        have NB120_110 := xgt_ BK110 hg
        replace BK110 := xbb_ BK110 hb
        clear hb hbox hg
        refine hK.out _ _ ⟨xk_ BK109 0, xk_ BK109 1⟩ (fun hHeld => ?_)
        clear hK K
        refine norm_ (a' := ?_) ?_ ?_
        rotate_left
        ·show Act.put _ (some 8) _ = _
         simp only [Act.put, List.setIfInBounds_toArray, List.set_cons_zero, List.set_cons_succ, i64_w, i32_w]
         rfl
        refine one_ (i := 3) (N := some 28) #[true, true, true, true, true, true, true, true, false, true, false] rfl rfl (one_of HT_.out (by kernel_rfl)) (by decide) (fun K hK => ?_)
        refine Kd.R_append_rows_step (Kd.int .i64) (w0 := w) w.heap.size (by rfl) (.tmp 25) (.tmp 27) 23 3 (.int .i64 0) 8 rfl Try.underlying23 info3 rfl (by decide) (by omega) v115 y114 l0_0 _ _ _ (fun _ => True) (fun _ => False) rfl rfl ?aO ?aR (fun _ _ h => h) (fun _ h => h.elim) ?aF ?aB ?aS ?aL ?_
        (case aR => exact xc_ ((Kd.C_below HR0_0.out HB.out)))
        (case aB => exact (xw_ HB))
        (case aF => exact (fun _ _ => trivial))
        (case aO => exact (xr_ HO116))
        (case aS => exact (below_size (xw_ HB)))
        (case aL => have := LMc24.out; omega)
        intro v118 w30 ho hb hg hat
        rw [← Ny117.out] at ho
        replace BK109 := Aside0.mk (blk_grown (g := gb109) (o := .cells #[.slice A0_0 l0_0.length c0_0, .int .i64 a0_1] 25 (0, 0)) (xb_ BK109) hg (Kd.R_ne HO116.out BK109.out (by decide)))
        replace BK110 := Aside0.mk (blk_grown (g := gb110) (o := .cells #[.slice none 0 0, .int .i64 0] 25 (0, 0)) (xb_ BK110) hg (Kd.R_ne HO116.out BK110.out (by decide)))
        replace BK120 := Aside0.mk (blk_grown (g := gb120) (o := .cells #[.slice none 0 0, .int .i64 0] 25 (0, 0)) (xb_ BK120) hg (Kd.R_ne HO116.out BK120.out (by decide)))
        replace HB := Aside0.mk (hb)
        have HO119 := Aside0.mk (ho)
        clear HO116
        clear ho hb hg hat
        obtain ⟨Ao31, co31, eo31⟩ := Kd.R_slice HO119.out
        (first | subst eo31 | (injection eo31 with f1_ f2_ f3_; have f4_ := f1_.symm; have f5_ := f3_.symm; clear f1_ f2_ f3_; subst f4_; subst f5_))
        refine hK.out _ _ ⟨xk_ BK109 0, xk_ BK109 1⟩ (fun hHeld => ?_)
        clear hK K
        refine norm_ (a' := ?_) ?_ ?_
        rotate_left
        ·show Act.put _ (some 28) _ = _
         simp only [Act.put, List.setIfInBounds_toArray, List.set_cons_zero, List.set_cons_succ, i64_w, i32_w]
         rfl
        refine pure_ (i := 8) (N := some 33) (v := ?_) (a' := ?_) #[true, true, true, true, true, true, true, true, true, true, false] rfl rfl (any_of HT_.out (by kernel_rfl)) (fun _ _ _ h => h) (Or.inl ⟨by rfl, ?_⟩) ?_ ?_
        rotate_left
        ·intro w'
         go_simp
         with_reducible rfl
        rotate_left
        ·simp only [Act.put, List.setIfInBounds_toArray, List.set_cons_zero, List.set_cons_succ, i64_w, i32_w]
         rfl
        exact norm_ (by simp only [putAll, Act.put, List.setIfInBounds_toArray, List.set_cons_zero, List.set_cons_succ]) (hCont (v115, .slice Ao31 y117.length co31, gb120) _ ⟨hHeld, xr_ HO119, xb_ BK109, xb_ BK110, xb_ BK120, GW120.out, GE120.out, NB109_120.out, NB120_109.out, NB110_120.out, NB120_110.out, xw_ HB⟩)
      ·skip
       refine box_step ?hg (N := 8) ?hd (cs := #[.slice none 0 0, .int .i64 0]) (t := 25) ?hr ?_; (case hd => rfl); (case hg => rfl); (case hr => first | (go_simp; done) | (go_simp; rfl))
       intro gb120 hg w27 hbox hb
       have BK120 := Aside0.mk (hbox)
       have GW120 := xge_ HB hg
       have GE120 := xge_ HB hg
       replace HB := xws_ HB hb
       have NB109_120 := xlt_ BK109 hg
       have NB120_109 := xgt_ BK109 hg
       replace BK109 := xbb_ BK109 hb
       have NB110_120 := xlt_ BK110 hg
       have NB120_110 := xgt_ BK110 hg
       replace BK110 := xbb_ BK110 hb
       clear hb hbox hg
       refine hK.out _ _ ⟨xk_ BK109 0, xk_ BK109 1⟩ (fun hHeld => ?_)
       clear hK K
       refine norm_ (a' := ?_) ?_ ?_
       rotate_left
       ·show Act.put _ (some 8) _ = _
        simp only [Act.put, List.setIfInBounds_toArray, List.set_cons_zero, List.set_cons_succ, i64_w, i32_w]
        rfl
       refine one_ (i := 0) (N := some 25) #[true, true, true, false, true, true, true, true, false, true, false] rfl rfl (one_of HT_.out (by kernel_rfl)) (by decide) (fun K hK => ?_)
       refine Kd.R_lit_step (Kd.int .i64) _ 3 ?hg (N := 25) ?hd (xs := ([] : List Int)) (inner := []) (ok := fun _ => True) (okp := fun _ => True) ?hr ?hp (fun _ hk => hk) trivial (Below.refl _ _) (Nat.le_refl _) (by simp) ?_; (case hd => rfl); (case hg => rfl); (case hr => first | (go_simp; done) | (go_simp; rfl)); (case hp => exact (Reps.none _ _))
       intro v115 w28 ho29 hb hg_ hnew_
       clear hg_ hnew_
       (first | rw [← Ny114.out] at ho29 | (simp only [Int.reduceToNat] at ho29; rw [← Ny114.out] at ho29))
       have HO116 := Aside0.mk (Kd.R_lower ho29 (below_size (xw_ HB)))
       replace BK109 := xbb_ BK109 hb
       replace BK110 := xbb_ BK110 hb
       replace BK120 := xbb_ BK120 hb
       replace HB := xws_ HB hb
       clear hb ho29
       refine hK.out _ _ ⟨xk_ BK109 0, xk_ BK109 1⟩ (fun hHeld => ?_)
       clear hK K
       refine norm_ (a' := ?_) ?_ ?_
       rotate_left
       ·show Act.put _ (some 25) _ = _
        simp only [Act.put, List.setIfInBounds_toArray, List.set_cons_zero, List.set_cons_succ, i64_w, i32_w]
        rfl
       refine one_ (i := 3) (N := some 28) #[true, true, true, true, true, true, true, true, false, true, false] rfl rfl (one_of HT_.out (by kernel_rfl)) (by decide) (fun K hK => ?_)
       refine Kd.R_append_rows_step (Kd.int .i64) (w0 := w) w.heap.size (by rfl) (.tmp 25) (.tmp 27) 23 3 (.int .i64 0) 8 rfl Try.underlying23 info3 rfl (by decide) (by omega) v115 y114 l0_0 _ _ _ (fun _ => True) (fun _ => False) rfl rfl ?aO ?aR (fun _ _ h => h) (fun _ h => h.elim) ?aF ?aB ?aS ?aL ?_
       (case aR => exact xc_ ((Kd.C_below HR0_0.out HB.out)))
       (case aB => exact (xw_ HB))
       (case aF => exact (fun _ _ => trivial))
       (case aO => exact (xr_ HO116))
       (case aS => exact (below_size (xw_ HB)))
       (case aL => have := LMc24.out; omega)
       intro v118 w30 ho hb hg hat
       rw [← Ny117.out] at ho
       replace BK109 := Aside0.mk (blk_grown (g := gb109) (o := .cells #[.slice A0_0 l0_0.length c0_0, .int .i64 a0_1] 25 (0, 0)) (xb_ BK109) hg (Kd.R_ne HO116.out BK109.out (by decide)))
       replace BK110 := Aside0.mk (blk_grown (g := gb110) (o := .cells #[.slice none 0 0, .int .i64 0] 25 (0, 0)) (xb_ BK110) hg (Kd.R_ne HO116.out BK110.out (by decide)))
       replace BK120 := Aside0.mk (blk_grown (g := gb120) (o := .cells #[.slice none 0 0, .int .i64 0] 25 (0, 0)) (xb_ BK120) hg (Kd.R_ne HO116.out BK120.out (by decide)))
       replace HB := Aside0.mk (hb)
       have HO119 := Aside0.mk (ho)
       clear HO116
       clear ho hb hg hat
       obtain ⟨Ao31, co31, eo31⟩ := Kd.R_slice HO119.out
       (first | subst eo31 | (injection eo31 with f1_ f2_ f3_; have f4_ := f1_.symm; have f5_ := f3_.symm; clear f1_ f2_ f3_; subst f4_; subst f5_))
       refine hK.out _ _ ⟨xk_ BK109 0, xk_ BK109 1⟩ (fun hHeld => ?_)
       clear hK K
       refine norm_ (a' := ?_) ?_ ?_
       rotate_left
       ·show Act.put _ (some 28) _ = _
        simp only [Act.put, List.setIfInBounds_toArray, List.set_cons_zero, List.set_cons_succ, i64_w, i32_w]
        rfl
       refine pure_ (i := 8) (N := some 33) (v := ?_) (a' := ?_) #[true, true, true, true, true, true, true, true, true, true, false] rfl rfl (any_of HT_.out (by kernel_rfl)) (fun _ _ _ h => h) (Or.inl ⟨by rfl, ?_⟩) ?_ ?_
       rotate_left
       ·intro w'
        go_simp
        with_reducible rfl
       rotate_left
       ·simp only [Act.put, List.setIfInBounds_toArray, List.set_cons_zero, List.set_cons_succ, i64_w, i32_w]
        rfl
       exact norm_ (by simp only [putAll, Act.put, List.setIfInBounds_toArray, List.set_cons_zero, List.set_cons_succ]) (hCont (v115, .slice Ao31 y117.length co31, gb120) _ ⟨hHeld, xr_ HO119, xb_ BK109, xb_ BK110, xb_ BK120, GW120.out, GE120.out, NB109_120.out, NB120_109.out, NB110_120.out, NB120_110.out, xw_ HB⟩)
     rintro ⟨v115, v118, gb120⟩ w32 ⟨hS_, h0_, h1_, h2_, h3_, h4_, h5_, h6_, h7_, h8_, h9_, h10_⟩
     have n0_ : Aside0 (Kd.R (Kd.int .i64) 3 w32 w.heap.size (fun _ => True) v118 y117) := ⟨h0_⟩
     have n1_ : Aside0 (w32.heap[gb109]? = some (.cells #[.slice A0_0 l0_0.length c0_0, .int .i64 a0_1] 25 (0, 0))) := ⟨h1_⟩
     have n2_ : Aside0 (w32.heap[gb110]? = some (.cells #[.slice none 0 0, .int .i64 0] 25 (0, 0))) := ⟨h2_⟩
     have n3_ : Aside0 (w32.heap[gb120]? = some (.cells #[.slice none 0 0, .int .i64 0] 25 (0, 0))) := ⟨h3_⟩
     have n4_ : Aside0 (w.heap.size ≤ gb120) := ⟨h4_⟩
     have n5_ : Aside0 (w.heap.size ≤ gb120) := ⟨h5_⟩
     have n6_ : Aside0 (gb109 ≠ gb120) := ⟨h6_⟩
     have n7_ : Aside0 (gb120 ≠ gb109) := ⟨h7_⟩
     have n8_ : Aside0 (gb110 ≠ gb120) := ⟨h8_⟩
     have n9_ : Aside0 (gb120 ≠ gb110) := ⟨h9_⟩
     have n10_ : Aside0 (Below w.heap.size w w32) := ⟨h10_⟩
     clear BK109
     clear BK110
     clear HB
     clear h0_ h1_ h2_ h3_ h4_ h5_ h6_ h7_ h8_ h9_ h10_
     have HO119 := n0_
     have BK109 := n1_
     have BK110 := n2_
     have BK120 := n3_
     have GW120 := n4_
     have GE120 := n5_
     have NB109_120 := n6_
     have NB120_109 := n7_
     have NB110_120 := n8_
     have NB120_110 := n9_
     have HB := n10_
     clear n0_ n1_ n2_ n3_ n4_ n5_ n6_ n7_ n8_ n9_ n10_
     have hHeld : w32.cell? ⟨gb109, 0, none⟩ = some (.slice A0_0 l0_0.length c0_0) ∧ w32.cell? ⟨gb109, 1, none⟩ = some (.int .i64 a0_1) := hS_
     obtain ⟨Ao33, co33, eo33⟩ := Kd.R_slice HO119.out
     (first | subst eo33 | (injection eo33 with f1_ f2_ f3_; have f4_ := f1_.symm; have f5_ := f3_.symm; clear f1_ f2_ f3_; subst f4_; subst f5_))
     refine norm_ (a' := ?_) ?_ ?_
     rotate_left
     ·simp only [putAll, Act.put, List.setIfInBounds_toArray, List.set_cons_zero, List.set_cons_succ]
      rfl
     refine one_ (i := 10) (N := none) #[true, true, true, true, true, true, true, true, true, true, true] rfl rfl (one_of HT_.out (by kernel_rfl)) (by decide) (fun K hK => ?_)
     have hs34 : w32.cell? ⟨gb120, 0, none⟩ = some (.slice none 0 0) := xk_ BK120 0
     have hfs34 := blk_frozen BK120.out 0
     have hns34_0 := NB109_120.out
     have hns34_1 := NB110_120.out
     have hms34_0 := NB120_109.out
     have hms34_1 := NB120_110.out
     have hs35 : w32.cell? ⟨gb120, 1, none⟩ = some (.int .i64 0) := xk_ BK120 1
     have hfs35 := blk_frozen BK120.out 1
     have hns35_0 := NB109_120.out
     have hns35_1 := NB110_120.out
     have hms35_0 := NB120_109.out
     have hms35_1 := NB120_110.out
     refine skip_ (w1 := ?_) (by rfl) rfl ?_ ?_
     rotate_left
     ·go_simp
      rfl
     refine hK.out _ _ ⟨((cell_far (p := ⟨gb120, _, none⟩) NB109_120.out _).trans (((cell_far (p := ⟨gb120, _, none⟩) NB109_120.out _).trans (hHeld.1)))), ((cell_far (p := ⟨gb120, _, none⟩) NB109_120.out _).trans (((cell_far (p := ⟨gb120, _, none⟩) NB109_120.out _).trans (hHeld.2))))⟩ (fun hHeld => ?_)
     clear hK K
     refine done_ (done_of HT_.out (by kernel_rfl)) ?_
     try go_wp2_with (first | ((with_reducible refine gate_callee (f := 34) rfl ?_); refine xgl_ (some 35) Try.func34 #[.string a1] ?_; (with_reducible refine (spec_l13Cells.calls kj3 a1 t121 _ A25.out).mono ?_); rintro e w36 ⟨v122, rfl, ho0, hb⟩; refine ⟨_, rfl, ?_⟩; have HO123 := Aside0.mk (Kd.R_lower (Kd.R_new' ho0 (Kd.R_lt (xrt_ ((Kd.R_mono (Kd.R_far (p := ⟨gb120, 1, none⟩) (Kd.R_far (p := ⟨gb120, 0, none⟩) (Kd.R_types HO119.out BK120.out (by decide)) (fun _ hk => hk.2) (.slice Ao33 y117.length co33)) (fun _ hk => hk.2) (.int .i64 (wrap64 (a0_1 + a2)))) (fun _ h_ => h_.1)))))) (below_size (xw_ HB))); replace HO119 := Aside0.mk (Kd.R_elder' (xrt_ ((Kd.R_mono (Kd.R_far (p := ⟨gb120, 1, none⟩) (Kd.R_far (p := ⟨gb120, 0, none⟩) (Kd.R_types HO119.out BK120.out (by decide)) (fun _ hk => hk.2) (.slice Ao33 y117.length co33)) (fun _ hk => hk.2) (.int .i64 (wrap64 (a0_1 + a2)))) (fun _ h_ => h_.1)))) (Kd.R_base ho0) hb); replace BK109 := Aside0.mk (blk_below (g := gb109) (o := .cells #[.slice A0_0 l0_0.length c0_0, .int .i64 a0_1] 25 (0, 0)) (by (with_reducible repeat (first | refine blk_drewN ?_ _ | refine blk_drew ?_ | refine blk_alloc ?_ _)); refine blk_far ?_ NB109_120.out _; (with_reducible repeat (first | refine blk_drewN ?_ _ | refine blk_drew ?_ | refine blk_alloc ?_ _)); refine blk_far ?_ NB109_120.out _; (with_reducible repeat (first | refine blk_drewN ?_ _ | refine blk_drew ?_ | refine blk_alloc ?_ _)); exact BK109.out) hb); replace BK110 := Aside0.mk (blk_below (g := gb110) (o := .cells #[.slice none 0 0, .int .i64 0] 25 (0, 0)) (by (with_reducible repeat (first | refine blk_drewN ?_ _ | refine blk_drew ?_ | refine blk_alloc ?_ _)); refine blk_far ?_ NB110_120.out _; (with_reducible repeat (first | refine blk_drewN ?_ _ | refine blk_drew ?_ | refine blk_alloc ?_ _)); refine blk_far ?_ NB110_120.out _; (with_reducible repeat (first | refine blk_drewN ?_ _ | refine blk_drew ?_ | refine blk_alloc ?_ _)); exact BK110.out) hb); replace BK120 := Aside0.mk (blk_below (g := gb120) (o := .cells #[.slice Ao33 y117.length co33, .int .i64 (wrap64 (a0_1 + a2))] 25 (0, 0)) (by (with_reducible repeat (first | refine blk_drewN ?_ _ | refine blk_drew ?_ | refine blk_alloc ?_ _)); refine blk_put (cs := #[.slice Ao33 y117.length co33, .int .i64 0]) ?_ 1 _ rfl; (with_reducible repeat (first | refine blk_drewN ?_ _ | refine blk_drew ?_ | refine blk_alloc ?_ _)); refine blk_put (cs := #[.slice none 0 0, .int .i64 0]) ?_ 0 _ rfl; (with_reducible repeat (first | refine blk_drewN ?_ _ | refine blk_drew ?_ | refine blk_alloc ?_ _)); exact BK120.out) hb); replace HB := xws_ HB hb; (try clear hb); (try clear hb2); (try clear hk); (try clear hi); (try clear ho0); obtain ⟨Ao37, co37, eo37⟩ := Kd.R_slice HO123.out; subst eo37))
     go_loopg [37] kj3 (fun kq v37 w' => ∃ (x35_2 : List Int) (x37_2 : Int) (x121000_2 : List Int) (u121000 : Value), v37 = .int .i64 x37_2 ∧ Aside0 (spec_CountIn.l0 kq a2 x35_2 (t121.length : Int) x37_2 x121000_2 (wrap64 (a0_1 + a2)) = some (r1, r2, r3)) ∧ Aside0 (kq ≤ kj3) ∧ Aside0 (Kd.R (Kd.int .i64) 3 w' w.heap.size (fun k_ => some k_ ≠ (u121000 : Value).ownBlock) (.slice Ao37 t121.length co37) x35_2) ∧ Aside0 (Kd.R (Kd.int .i64) 3 w' w.heap.size (fun k_ => some k_ ≠ ((.slice Ao37 t121.length co37) : Value).ownBlock) u121000 x121000_2) ∧ Aside0 (w'.heap[gb109]? = some (.cells #[(.slice A0_0 l0_0.length c0_0), .int .i64 a0_1] 25 (0, 0))) ∧ Aside0 (w'.heap[gb110]? = some (.cells #[(.slice none 0 0), .int .i64 0] 25 (0, 0))) ∧ Aside0 (w'.heap[gb120]? = some (.cells #[u121000, .int .i64 (wrap64 (a0_1 + a2))] 25 (0, 0))) ∧ Aside0 (Below w.heap.size w w'))
     case atStart => exact ⟨(t121), (0), (y117), (.slice Ao33 y117.length co33), (by first | rfl | (simp; done) | (simp [*]; done)), H', ⟨Nat.le_refl _⟩, ⟨xrt_ (Kd.R_mono HO123.out (fun _ hk => hk.2))⟩, ⟨xrt_ (Kd.R_mono HO119.out (fun _ hk => hk.2))⟩, ⟨xb_ BK109⟩, ⟨xb_ BK110⟩, ⟨xb_ BK120⟩, ⟨xw_ HB⟩⟩
     case round =>
      clear H'
      try clear c1
      try clear c2
      try clear p2
      try clear c3
      try clear p6
      try clear c7
      try clear c8
      try clear c10
      try clear c12
      try clear c15
      try clear c18
      try clear c21
      try clear c22
      try clear c24
      try clear c34
      try clear hcz13_0
      try clear hcz13_1
      try clear hcz16_0
      try clear hcz16_1
      try clear hcz19_0
      try clear hcz19_1
      try clear hcz23_0
      try clear hcz23_1
      try clear hfz13_0
      try clear hfz13_1
      try clear hfz16_0
      try clear hfz16_1
      try clear hfz19_0
      try clear hfz19_1
      try clear hfz23_0
      try clear hfz23_1
      try clear p2
      obtain ⟨x35_2, x37_2, x121000_2, u121000, rfl, HA, HK2, HO_35, HO_121000, BK109, BK110, BK120, HB⟩ := hrel
      have hl35_2 := (Kd.R_reads' HO_35.out).1
      rw [hl35_2] at HO_35
      (try simp only [hl35_2])
      (try simp only [hl35_2] at BK109)
      (try simp only [hl35_2] at BK110)
      (try simp only [hl35_2] at BK120)
      (try simp only [hl35_2] at HO_121000)
      cases gk with
      | zero => exact absurd HA.out (by simp [spec_CountIn.l0])
      | succ k2 =>
       have H := HA.out
       clear HA
       simp only [spec_CountIn.l0] at H
       by_cases c38 : x37_2 < (t121.length : Int)
       ·rw [if_pos c38] at H
        have c38b0 : decide (x37_2 < (t121.length : Int)) = true := decide_eq_true c38
        have c38b0h := c38b0
        (try simp only [hl35_2] at c38b0h)
        clear c38
        by_cases c39 : 0 ≤ x37_2
        ·rw [if_pos c39] at H
         have c39b0 : decide (0 ≤ x37_2) = true := decide_eq_true c39
         clear c39
         by_cases c40 : x37_2 < (x35_2.length : Int)
         ·rw [if_pos c40] at H
          have c40b0 : decide (x37_2 < (x35_2.length : Int)) = true := decide_eq_true c40
          have c40b0h := c40b0
          (try simp only [hl35_2] at c40b0h)
          clear c40
          by_cases c41 : 0 ≤ (rd x35_2 x37_2)
          ·rw [if_pos c41] at H
           have c41b0 : decide (0 ≤ (rd x35_2 x37_2)) = true := decide_eq_true c41
           clear c41
           by_cases c42 : (rd x35_2 x37_2) < (x121000_2.length : Int)
           ·rw [if_pos c42] at H
            have c42b0 : decide ((rd x35_2 x37_2) < (x121000_2.length : Int)) = true := decide_eq_true c42
            have c42b0h := c42b0
            (try simp only [hl35_2] at c42b0h)
            clear c42
            obtain ⟨y126, hy126⟩ : ∃ y_ : List Int, y_ = (x121000_2.set ((rd x35_2 x37_2) : Int).toNat (wrap64 ((rd x121000_2 (rd x35_2 x37_2)) + a2))) := ⟨_, rfl⟩
            replace H : (spec_CountIn.l0 k2 a2 x35_2 (t121.length : Int) (wrap64 (x37_2 + 1)) y126 (wrap64 (a0_1 + a2))) = some (r1, r2, r3) := by first | (rw [hy126]; with_reducible exact H) | (have H2_ := (Option.bind_some _ _).symm.trans H; rw [hy126]; with_reducible exact H2_) | (have H2_ := (Option.bind_some _ _).symm.trans H; with_reducible exact H2_) | with_reducible exact H | (rw [hy126]; exact H) | exact H
            have Ny126 := Aside0.mk hy126
            clear hy126
            have H' := Aside0.mk H
            clear H
            have p124 : 0 ≤ (x37_2 : Int) := of_decide_eq_true (by first | (with_reducible assumption) | assumption)
            have q124 : x37_2 < (x35_2.length : Int) := of_decide_eq_true (by first | (with_reducible assumption) | assumption)
            obtain ⟨ad124, e124, hx124_0⟩ := Kd.at_int (Kd.R_reads' HO_35.out).2.2 x37_2 p124 q124
            cases e124
            replace p124 := eq_true p124
            replace q124 := eq_true q124
            have hnb44 := NB120_109.out
            have hnc44 := NB109_120.out
            have hnb45 := NB120_110.out
            have hnc45 := NB110_120.out
            have hcz46_0 : wr.cell? ⟨gb120, 0, none⟩ = some (u121000) := xk_ BK120 0
            have hcz46_1 : wr.cell? ⟨gb120, 1, none⟩ = some (.int .i64 (wrap64 (a0_1 + a2))) := xk_ BK120 1
            have hfz46_0 := blk_frozen BK120.out 0
            have hfz46_1 := blk_frozen BK120.out 1
            obtain ⟨Ao47, co47, eo47⟩ := Kd.R_slice HO_121000.out
            subst eo47
            have p125 : 0 ≤ ((rd x35_2 x37_2) : Int) := of_decide_eq_true (by first | (with_reducible assumption) | assumption)
            have q125 : (rd x35_2 x37_2) < (x121000_2.length : Int) := of_decide_eq_true (by first | (with_reducible assumption) | assumption)
            obtain ⟨ad125, e125, hx125_0⟩ := Kd.at_int (Kd.R_reads' HO_121000.out).2.2 (rd x35_2 x37_2) p125 q125
            cases e125
            replace p125 := eq_true p125
            replace q125 := eq_true q125
            have p43 : 0 ≤ ((rd x35_2 x37_2) : Int) := of_decide_eq_true (by first | (with_reducible assumption) | assumption)
            have q43 : ((rd x35_2 x37_2) : Int) < ((x121000_2.length : Int) : Int) := of_decide_eq_true (by first | (with_reducible assumption) | assumption)
            obtain ⟨go43, co43, eo43, gb43, gl43, cl43, HG43⟩ := Kd.R_form HO_121000.out (by omega)
            (first | cases eo43 | (injection eo43 with ea_ en_ ec_; (first | subst ea_ | (injection ea_ with ea_; subst ea_)); subst ec_; clear en_))
            have GB43 := Aside0.mk gb43
            have GG43 := Aside0.mk HG43
            clear gb43 gl43 HG43
            (first | simp only [add_plain] at hx125_0 | skip)
            obtain ⟨hx43_0, hf43_0⟩ := Kd.R_celln 0 HO_121000.out ((rd x35_2 x37_2) : Int) p43 q43
            replace p43 := eq_true p43
            replace q43 := eq_true q43
            have HP48 := Kd.R_putg HO_121000.out ((rd x35_2 x37_2) : Int) (wrap64 ((rd x121000_2 (rd x35_2 x37_2)) + a2))
            go_wp2_with (first | ((with_reducible refine gate_store (t := 3) (p := 48) rfl ?_); refine store_event (t := 3) (p := 48) (v := ?vo_w49) (w1 := (wr.setCell ⟨go43, ((rd x35_2 x37_2) : Int).toNat, none⟩ (.int .i64 (wrap64 ((rd x121000_2 (rd x35_2 x37_2)) + a2))))) ?hg ?ho ?hn ?hr ?_; (case ho => rfl); (case hg => rfl); (case hn => rfl); (case hr => first | (go_simp; done) | (go_simp; rfl)); intro w49 hw; have hg : wr.grownBy w49 (some go43) := (by rw [hw]; exact HP48.2); have hp_ : Kd.R (Kd.int .i64) 3 w49 w.heap.size (fun k_ => some k_ ≠ (.slice (some ad124) x35_2.length co37 : Value).ownBlock) (.slice (some ⟨go43, 0, none⟩) x121000_2.length co47) y126 := (by rw [hw, Ny126.out]; exact HP48.1); clear HP48; replace HO_35 := Aside0.mk (Kd.R_after (v := (.slice (some ⟨go43, 0, none⟩) x121000_2.length co47)) (v1 := (.slice (some ⟨go43, 0, none⟩) x121000_2.length co47)) (ok := (fun _ => True)) (xrt_ (Kd.R_mono HO_35.out (fun _ hk => ⟨trivial, hk⟩))) hg (.inl rfl)); replace BK109 := Aside0.mk (blk_grown (g := gb109) (o := .cells #[.slice A0_0 l0_0.length c0_0, .int .i64 a0_1] 25 (0, 0)) (xb_ BK109) hg (Kd.R_ne HO_121000.out BK109.out (by decide))); replace BK110 := Aside0.mk (blk_grown (g := gb110) (o := .cells #[.slice none 0 0, .int .i64 0] 25 (0, 0)) (xb_ BK110) hg (Kd.R_ne HO_121000.out BK110.out (by decide))); replace BK120 := Aside0.mk (blk_grown (g := gb120) (o := .cells #[.slice (some ⟨go43, 0, none⟩) x121000_2.length co47, .int .i64 (wrap64 (a0_1 + a2))] 25 (0, 0)) (xb_ BK120) hg (Kd.R_ne HO_121000.out BK120.out (by decide))); replace HO_121000 := Aside0.mk (hp_); replace HB := Aside0.mk ((by rw [hw]; exact below_set (HB.out) GB43.out : Below w.heap.size w w49)); clear hg hw hp_))
            (try simp only [← hl35_2])
            go_roundg k2
            case measure => have := HJ3.out; have := HK2.out; omega
            case rel => exact ⟨(x35_2), (wrap64 (x37_2 + 1)), (y126), (.slice (some ⟨go43, 0, none⟩) x121000_2.length co47), (by first | rfl | (simp; done) | (simp [*]; done)), H', ⟨by have := HJ3.out; have := HK2.out; omega⟩, ⟨by (try simp only [hl35_2]); (with_reducible repeat (first | apply Kd.R_alloc | apply Kd.R_drewN | apply Kd.R_drew)); exact Kd.R_mono HO_35.out (fun _ hk => hk.2)⟩, ⟨by (try simp only [hl35_2]); (with_reducible repeat (first | apply Kd.R_alloc | apply Kd.R_drewN | apply Kd.R_drew)); exact HO_121000.out⟩, ⟨by (try simp only [hl35_2]); (with_reducible repeat (first | refine blk_drewN ?_ _ | refine blk_drew ?_ | refine blk_alloc ?_ _)); exact BK109.out⟩, ⟨by (try simp only [hl35_2]); (with_reducible repeat (first | refine blk_drewN ?_ _ | refine blk_drew ?_ | refine blk_alloc ?_ _)); exact BK110.out⟩, ⟨by (try simp only [hl35_2]); (with_reducible repeat (first | refine blk_drewN ?_ _ | refine blk_drew ?_ | refine blk_alloc ?_ _)); exact BK120.out⟩, ⟨xw_ HB⟩⟩
           ·rw [if_neg c42] at H
            exact absurd H (by simp)
          ·rw [if_neg c41] at H
           exact absurd H (by simp)
         ·rw [if_neg c40] at H
          exact absurd H (by simp)
        ·rw [if_neg c39] at H
         exact absurd H (by simp)
       ·rw [if_neg c38] at H
        have c38b0 : decide (x37_2 < (t121.length : Int)) = false := decide_eq_false c38
        have c38b0h := c38b0
        (try simp only [hl35_2] at c38b0h)
        clear c38
        replace H := Option.bind_eq_some_iff.mp H
        obtain ⟨t127, A500, H⟩ := H
        replace H : (if t127 = true then (some (x121000_2, (wrap64 (a0_1 + a2)), true)) else (some (([] : List Int), 0, false))) = some (r1, r2, r3) := H
        have A50 := Aside0.mk A500
        clear A500
        by_cases c51 : t127 = true
        ·subst c51
         have H1 : (some (x121000_2, (wrap64 (a0_1 + a2)), true)) = some (r1, r2, r3) := by rw [if_pos rfl] at H; exact H
         clear H
         have H := H1
         clear H1
         simp only [Option.some.injEq, Prod.mk.injEq] at H
         obtain ⟨rfl, rfl, rfl⟩ := H
         have hnb52 := NB120_109.out
         have hnc52 := NB109_120.out
         have hnb53 := NB120_110.out
         have hnc53 := NB110_120.out
         have hcz54_0 : wr.cell? ⟨gb120, 0, none⟩ = some (u121000) := xk_ BK120 0
         have hcz54_1 : wr.cell? ⟨gb120, 1, none⟩ = some (.int .i64 (wrap64 (a0_1 + a2))) := xk_ BK120 1
         have hfz54_0 := blk_frozen BK120.out 0
         have hfz54_1 := blk_frozen BK120.out 1
         obtain ⟨Ao55, co55, eo55⟩ := Kd.R_slice HO_121000.out
         subst eo55
         go_wp2_with (first | ((with_reducible refine gate_callee (f := 10) rfl ?_); refine xgl_ (some 51) Try.func10 #[.agg #[.slice Ao55 x121000_2.length co55, .int .i64 (wrap64 (a0_1 + a2))]] ?_; (with_reducible refine (spec_GoodSketch.calls k2 _ _ x121000_2 (wrap64 (a0_1 + a2)) true _ ?side1 ?side2 A50.out).mono ?_); (case side1 => exact xc_ ((Kd.R_reads' HO_121000.out).2.2)); (case side2 => exact (Kd.R_reads' HO_121000.out).2.1); rintro e w56 ⟨rfl, hb⟩; refine ⟨_, rfl, ?_⟩; replace HO_35 := xrb_ HO_35 hb; replace HO_121000 := xrb_ HO_121000 hb; replace BK109 := xbb_ BK109 hb; replace BK110 := xbb_ BK110 hb; replace BK120 := xbb_ BK120 hb; replace HB := xws_ HB hb; (try clear hb); (try clear hb2); (try clear hk); (try clear hi); have hcz57_0 : w56.cell? ⟨gb120, 0, none⟩ = some (.slice Ao55 x121000_2.length co55) := xk_ BK120 0; have hcz57_1 : w56.cell? ⟨gb120, 1, none⟩ = some (.int .i64 (wrap64 (a0_1 + a2))) := xk_ BK120 1; have hfz57_0 := blk_frozen BK120.out 0; have hfz57_1 := blk_frozen BK120.out 1; have hnb58 := NB110_109.out; have hnc58 := NB109_110.out; have hcz59_0 : w56.cell? ⟨gb110, 0, none⟩ = some (.slice none 0 0) := xk_ BK110 0; have hcz59_1 : w56.cell? ⟨gb110, 1, none⟩ = some (.int .i64 0) := xk_ BK110 1; have hfz59_0 := blk_frozen BK110.out 0; have hfz59_1 := blk_frozen BK110.out 1))
         refine bodyPost_ret (results_ct rfl _ _ gb110 25 #[.slice Ao55 x121000_2.length co55, .int .i64 (wrap64 (a0_1 + a2))] (0, 0) _ rfl (by (with_reducible repeat (first | refine blk_drewN ?_ _ | refine blk_drew ?_ | refine blk_alloc ?_ _)); refine blk_put (cs := #[.slice Ao55 x121000_2.length co55, .int .i64 0]) ?_ 1 _ rfl; (with_reducible repeat (first | refine blk_drewN ?_ _ | refine blk_drew ?_ | refine blk_alloc ?_ _)); refine blk_put (cs := #[.slice none 0 0, .int .i64 0]) ?_ 0 _ rfl; (with_reducible repeat (first | refine blk_drewN ?_ _ | refine blk_drew ?_ | refine blk_alloc ?_ _)); exact BK110.out) Try.underlying25 rfl (by kernel_rfl)) rfl ?_
         exact ⟨_, by first | rfl | (simp [errW_none, errW_some] <;> rfl) | (simp [*, errW_none, errW_some] <;> rfl), by (with_reducible repeat (first | apply Kd.R_alloc | apply Kd.R_drewN | apply Kd.R_drew)); exact Kd.R_mono (Kd.R_far (p := ⟨gb110, 1, none⟩) (Kd.R_far (p := ⟨gb110, 0, none⟩) (Kd.R_types HO_121000.out BK110.out (by decide)) (fun _ hk => hk.2) (.slice Ao55 x121000_2.length co55)) (fun _ hk => hk.2) (.int .i64 (wrap64 (a0_1 + a2)))) (fun _ hk => trivial), xw_ HB⟩
        ·replace c51 := Bool.eq_false_iff.mpr c51
         subst c51
         have H1 : (some (([] : List Int), 0, false)) = some (r1, r2, r3) := by rw [if_neg (show ¬ (false = true) by decide)] at H; exact H
         clear H
         have H := H1
         clear H1
         simp only [Option.some.injEq, Prod.mk.injEq] at H
         obtain ⟨rfl, rfl, rfl⟩ := H
         have hnb60 := NB120_109.out
         have hnc60 := NB109_120.out
         have hnb61 := NB120_110.out
         have hnc61 := NB110_120.out
         have hcz62_0 : wr.cell? ⟨gb120, 0, none⟩ = some (u121000) := xk_ BK120 0
         have hcz62_1 : wr.cell? ⟨gb120, 1, none⟩ = some (.int .i64 (wrap64 (a0_1 + a2))) := xk_ BK120 1
         have hfz62_0 := blk_frozen BK120.out 0
         have hfz62_1 := blk_frozen BK120.out 1
         obtain ⟨Ao63, co63, eo63⟩ := Kd.R_slice HO_121000.out
         subst eo63
         go_wp2_with (first | ((with_reducible refine gate_callee (f := 10) rfl ?_); refine xgl_ (some 51) Try.func10 #[.agg #[.slice Ao63 x121000_2.length co63, .int .i64 (wrap64 (a0_1 + a2))]] ?_; (with_reducible refine (spec_GoodSketch.calls k2 _ _ x121000_2 (wrap64 (a0_1 + a2)) false _ ?side1 ?side2 A50.out).mono ?_); (case side1 => exact xc_ ((Kd.R_reads' HO_121000.out).2.2)); (case side2 => exact (Kd.R_reads' HO_121000.out).2.1); rintro e w64 ⟨rfl, hb⟩; refine ⟨_, rfl, ?_⟩; replace HO_35 := xrb_ HO_35 hb; replace HO_121000 := xrb_ HO_121000 hb; replace BK109 := xbb_ BK109 hb; replace BK110 := xbb_ BK110 hb; replace BK120 := xbb_ BK120 hb; replace HB := xws_ HB hb; (try clear hb); (try clear hb2); (try clear hk); (try clear hi); have hnb65 := NB110_109.out; have hnc65 := NB109_110.out; have hcz66_0 : w64.cell? ⟨gb110, 0, none⟩ = some (.slice none 0 0) := xk_ BK110 0; have hcz66_1 : w64.cell? ⟨gb110, 1, none⟩ = some (.int .i64 0) := xk_ BK110 1; have hfz66_0 := blk_frozen BK110.out 0; have hfz66_1 := blk_frozen BK110.out 1))
         refine bodyPost_ret (results_ct rfl _ _ gb110 25 #[.slice none 0 0, .int .i64 0] (0, 0) _ rfl (by (with_reducible repeat (first | refine blk_drewN ?_ _ | refine blk_drew ?_ | refine blk_alloc ?_ _)); refine blk_put (cs := #[.slice none 0 0, .int .i64 0]) ?_ 1 _ rfl; (with_reducible repeat (first | refine blk_drewN ?_ _ | refine blk_drew ?_ | refine blk_alloc ?_ _)); refine blk_put (cs := #[.slice none 0 0, .int .i64 0]) ?_ 0 _ rfl; (with_reducible repeat (first | refine blk_drewN ?_ _ | refine blk_drew ?_ | refine blk_alloc ?_ _)); exact BK110.out) Try.underlying25 rfl (by kernel_rfl)) rfl ?_
         exact ⟨_, by first | rfl | (simp [errW_none, errW_some] <;> rfl) | (simp [*, errW_none, errW_some] <;> rfl), by first | exact Kd.R_nil _ _ _ _ _ | exact Kd.N_nil _ _ _ _ _ | exact Kd.V_nil _ _ _ _ _ | exact Kd.Q_nil _ _ _ _ _ | exact Kd.S_nil _ _ _ _ _, xw_ HB⟩
    ·rw [if_neg c24] at H
     exact absurd H (by simp)

end Go.Proofs.Ytemeajidcggniaa.PFnSketch
