-- Written by a program of this project (xprint.py) out of the translation; Lean checks it.
import Derived.Test.YtemeajidcggniaaPFnSketchx0
import Derived.Test.YtemeajidcggniaaPFnSketchx5
namespace Go.Proofs.Ytemeajidcggniaa.PFnSketch
open Go.RowKit Go.Proofs.YtemeajidcggniaaW.PrintWords Go.Proofs.YtemeajidcggniaaW.PrintLast Go.Proofs.YtemeajidcggniaaW.PrintMore
attribute [local go_sem] max2_int min2_int max_two min_two max_three min_three max_four min_four   -- for this text's walks alone
set_option linter.unusedVariables false
set_option linter.unusedSimpArgs false

/-! ### impl_CountIn: function 6 -/
mutual
def impl_CountIn.j0 : Nat → ByteArray → Int → Bool → List Int → Int → Option (List Int × Int × Bool)
 | 0, _, _, _, _, _ => none
 | k + 1, x1, x2, x23, x231000, x231001 => if x23 = true then (some (([] : List Int), 0, false)) else ((slices_Clone_int_int.f x231000).bind fun t235 => ((impl_cellsOf.f k x1).bind fun t239 => (impl_CountIn.l0 k x2 t239 (t239.length : Int) 0 t235 (wrap64 (x231001 + x2)))))
def impl_CountIn.l0 : Nat → Int → List Int → Int → Int → List Int → Int → Option (List Int × Int × Bool)
 | 0, _, _, _, _, _, _ => none
 | k + 1, x2, x34, x35, x36, x239000, x239001 => if x36 < x35 then (if 0 ≤ x36 then (if x36 < (x34.length : Int) then (if 0 ≤ (rd x34 x36) then (if (rd x34 x36) < (x239000.length : Int) then (impl_CountIn.l0 k x2 x34 x35 (wrap64 (x36 + 1)) (x239000.set ((rd x34 x36) : Int).toNat (wrap64 ((rd x239000 (rd x34 x36)) + x2))) x239001) else (none)) else (none)) else (none)) else (none)) else ((impl_GoodSketch.f x239000 x239001).bind fun t245 => (if t245 = true then (some (x239000, x239001, true)) else (some (([] : List Int), 0, false))))
end
def impl_CountIn.f (k : Nat) (l0_0 : List Int) (a0_1 : Int) (a1 : ByteArray) (a2 : Int) : Option (List Int × Int × Bool) := (impl_GoodSketch.f l0_0 a0_1).bind fun t232 => (if t232 = true then ((impl_isKey.f a1).bind fun t233 => (if t233 = true then ((impl_within.f a2 0 1000).bind fun t234 => (impl_CountIn.j0 k a1 a2 (!t234) l0_0 a0_1)) else (impl_CountIn.j0 k a1 a2 true l0_0 a0_1))) else (impl_CountIn.j0 k a1 a2 true l0_0 a0_1))
theorem impl_CountIn.mono_l : ∀ k, (∀ y0 y1 y2 y3 y4, LeO (impl_CountIn.j0 k y0 y1 y2 y3 y4) (impl_CountIn.j0 (k + 1) y0 y1 y2 y3 y4)) ∧ (∀ y0 y1 y2 y3 y4 y5, LeO (impl_CountIn.l0 k y0 y1 y2 y3 y4 y5) (impl_CountIn.l0 (k + 1) y0 y1 y2 y3 y4 y5))
 | 0 => ⟨fun _ _ _ _ _ r h => by simp [impl_CountIn.j0] at h, fun _ _ _ _ _ _ r h => by simp [impl_CountIn.l0] at h⟩
 | k + 1 => by
  obtain ⟨ih0, ih1⟩ := impl_CountIn.mono_l k
  refine ⟨?_, ?_⟩
  ·intro y0 y1 y2 y3 y4
   unfold impl_CountIn.j0
   repeat' first
   | (with_reducible exact ih0 _ _ _ _ _)
   | (with_reducible exact ih1 _ _ _ _ _ _)
   | (with_reducible exact impl_cellsOf.mono _ _)
   | (with_reducible exact LeO.refl _)
   | (with_reducible exact LeO.none _)
   | (with_reducible refine LeO.ite ?_ ?_)
   | (with_reducible refine LeO.bind ?_ (fun _ => ?_))
   | exact ih0 _ _ _ _ _
   | exact ih1 _ _ _ _ _ _
   | exact impl_cellsOf.mono _ _
   | exact LeO.none _
   | refine LeO.ite ?_ ?_
   | refine LeO.bind ?_ (fun _ => ?_)
  ·intro y0 y1 y2 y3 y4 y5
   unfold impl_CountIn.l0
   repeat' first
   | (with_reducible exact ih0 _ _ _ _ _)
   | (with_reducible exact ih1 _ _ _ _ _ _)
   | (with_reducible exact impl_cellsOf.mono _ _)
   | (with_reducible exact LeO.refl _)
   | (with_reducible exact LeO.none _)
   | (with_reducible refine LeO.ite ?_ ?_)
   | (with_reducible refine LeO.bind ?_ (fun _ => ?_))
   | exact ih0 _ _ _ _ _
   | exact ih1 _ _ _ _ _ _
   | exact impl_cellsOf.mono _ _
   | exact LeO.none _
   | refine LeO.ite ?_ ?_
   | refine LeO.bind ?_ (fun _ => ?_)
theorem impl_CountIn.mono : ∀ a0 a1 a2 a3 k, LeO (impl_CountIn.f k a0 a1 a2 a3) (impl_CountIn.f (k + 1) a0 a1 a2 a3) := by
 intro a0 a1 a2 a3 k
 obtain ⟨ih0, ih1⟩ := impl_CountIn.mono_l k
 unfold impl_CountIn.f
 repeat' first
   | (with_reducible exact ih0 _ _ _ _ _)
   | (with_reducible exact ih1 _ _ _ _ _ _)
   | (with_reducible exact impl_cellsOf.mono _ _)
   | (with_reducible exact LeO.refl _)
   | (with_reducible exact LeO.none _)
   | (with_reducible refine LeO.ite ?_ ?_)
   | (with_reducible refine LeO.bind ?_ (fun _ => ?_))
   | exact ih0 _ _ _ _ _
   | exact ih1 _ _ _ _ _ _
   | exact impl_cellsOf.mono _ _
   | exact LeO.none _
   | refine LeO.ite ?_ ?_
   | refine LeO.bind ?_ (fun _ => ?_)
def impl_CountIn.T3 : Bool × List (List Nat × List Nat) := (true, [([], []), ([0], [0]), ([1], [1]), ([], []), ([3], [3]), ([], []), ([4, 5], [4, 5]), ([2, 6], [2, 6]), ([], []), ([8, 7, 2, 0, 1, 2, 3, 4, 5, 6, 7, 8], [7, 8])])
def impl_CountIn.B3 : List Nat := [0, 1, 3, 0, 8, 0, 56, 127, 0, 511]
theorem impl_CountIn.tab3 : rtab .any (opsOf Try.f6 3) = impl_CountIn.T3 := by kernel_rfl
theorem impl_CountIn.bits3 : waitsOk impl_CountIn.T3.2 impl_CountIn.B3 = true := by kernel_rfl
set_option maxHeartbeats 8000000 in
set_option maxRecDepth 100000 in
theorem impl_CountIn.calls (k : Nat) (A0_0 : Option Addr) (c0_0 : Nat) (l0_0 : List Int) (a0_1 : Int) (a1 : ByteArray) (a2 : Int) (r1 : List Int) (r2 : Int) (r3 : Bool) (w : World) (hr0_0 : Kd.C (Kd.int .i64) w A0_0 l0_0.length l0_0) (hc0_0 : l0_0.length ≤ c0_0) (h : impl_CountIn.f k l0_0 a0_1 a1 a2 = some (r1, r2, r3)) :
  Calls Try.prog 6 #[.agg #[.slice A0_0 l0_0.length c0_0, .int .i64 a0_1], .string a1, .int .i64 a2] w fun e w' => ∃ v0_ : Value, e = .returned (.tuple #[.agg #[v0_, .int .i64 r2], .bool r3]) ∧ Kd.R (Kd.int .i64) 3 w' w.heap.size (fun _ => True) v0_ r1 ∧ Below w.heap.size w w' := by
 have hu25 := Try.underlying25
 have HR0_0 := Aside0.mk hr0_0
 have HC0_0 := Aside0.mk hc0_0
 clear hr0_0 hc0_0
 have HB := Aside0.mk (Below.refl w.heap.size w)
 have H : ((impl_GoodSketch.f l0_0 a0_1).bind fun t232 => (if t232 = true then ((impl_isKey.f a1).bind fun t233 => (if t233 = true then ((impl_within.f a2 0 1000).bind fun t234 => (impl_CountIn.j0 k a1 a2 (!t234) l0_0 a0_1)) else (impl_CountIn.j0 k a1 a2 true l0_0 a0_1))) else (impl_CountIn.j0 k a1 a2 true l0_0 a0_1))) = some (r1, r2, r3) := h
 clear h
 have HC4 := Aside0.mk H
 clear H
 go_enter Try.func6, Try.ntmps6
 go_upto_region 1 with (first | ((with_reducible refine gate_dst (N := 3) rfl ?_); refine xbe_ (N := 3) (cs := #[.slice A0_0 l0_0.length c0_0, .int .i64 a0_1]) (t := 25) ?_; intro gb230 hg w5 hbox hb; have BK230 := Aside0.mk (hbox); have GW230 := xge_ HB hg; have GE230 := xge_ HB hg; replace HB := xws_ HB hb; clear hb hbox hg) | ((with_reducible refine gate_dst (N := 6) rfl ?_); refine xbe_ (N := 6) (cs := #[.slice none 0 0, .int .i64 0]) (t := 25) ?_; intro gb231 hg w6 hbox hb; have BK231 := Aside0.mk (hbox); have GW231 := xge_ HB hg; have GE231 := xge_ HB hg; replace HB := xws_ HB hb; have NB230_231 := xlt_ BK230 hg; have NB231_230 := xgt_ BK230 hg; replace BK230 := xbb_ BK230 hb; clear hb hbox hg))
 (try simp only [Act.put, List.setIfInBounds_toArray, List.set_cons_zero, List.set_cons_succ])
 go_cut [23] (fun v23 wc => ∃ (kq : Nat) (x23_3 : Bool), v23 = .bool x23_3 ∧ Aside0 (impl_CountIn.j0 kq a1 a2 x23_3 l0_0 a0_1 = some (r1, r2, r3)) ∧ Aside0 (kq ≤ k) ∧ Aside0 (wc.heap[gb230]? = some (.cells #[(.slice A0_0 l0_0.length c0_0), .int .i64 a0_1] 25 (0, 0))) ∧ Aside0 (wc.heap[gb231]? = some (.cells #[(.slice none 0 0), .int .i64 0] 25 (0, 0))) ∧ Aside0 (Below w.heap.size w wc))
 case first =>
  have H := HC4.out
  clear HC4
  replace H := Option.bind_eq_some_iff.mp H
  obtain ⟨t232, A70, H⟩ := H
  replace H : (if t232 = true then ((impl_isKey.f a1).bind fun t233 => (if t233 = true then ((impl_within.f a2 0 1000).bind fun t234 => (impl_CountIn.j0 k a1 a2 (!t234) l0_0 a0_1)) else (impl_CountIn.j0 k a1 a2 true l0_0 a0_1))) else (impl_CountIn.j0 k a1 a2 true l0_0 a0_1)) = some (r1, r2, r3) := H
  have A7 := Aside0.mk A70
  clear A70
  by_cases c8 : t232 = true
  ·subst c8
   have H1 : ((impl_isKey.f a1).bind fun t233 => (if t233 = true then ((impl_within.f a2 0 1000).bind fun t234 => (impl_CountIn.j0 k a1 a2 (!t234) l0_0 a0_1)) else (impl_CountIn.j0 k a1 a2 true l0_0 a0_1))) = some (r1, r2, r3) := by rw [if_pos rfl] at H; exact H
   clear H
   have H := H1
   clear H1
   replace H := Option.bind_eq_some_iff.mp H
   obtain ⟨t233, A90, H⟩ := H
   replace H : (if t233 = true then ((impl_within.f a2 0 1000).bind fun t234 => (impl_CountIn.j0 k a1 a2 (!t234) l0_0 a0_1)) else (impl_CountIn.j0 k a1 a2 true l0_0 a0_1)) = some (r1, r2, r3) := H
   have A9 := Aside0.mk A90
   clear A90
   by_cases c10 : t233 = true
   ·subst c10
    have H1 : ((impl_within.f a2 0 1000).bind fun t234 => (impl_CountIn.j0 k a1 a2 (!t234) l0_0 a0_1)) = some (r1, r2, r3) := by rw [if_pos rfl] at H; exact H
    clear H
    have H := H1
    clear H1
    replace H := Option.bind_eq_some_iff.mp H
    obtain ⟨t234, A110, H⟩ := H
    replace H : (impl_CountIn.j0 k a1 a2 (!t234) l0_0 a0_1) = some (r1, r2, r3) := H
    have A11 := Aside0.mk A110
    clear A110
    have H' := Aside0.mk H
    clear H
    have hnb12 := NB230_231.out
    have hnc12 := NB231_230.out
    have hcz13_0 : w6.cell? ⟨gb230, 0, none⟩ = some (.slice A0_0 l0_0.length c0_0) := xk_ BK230 0
    have hcz13_1 : w6.cell? ⟨gb230, 1, none⟩ = some (.int .i64 a0_1) := xk_ BK230 1
    have hfz13_0 := blk_frozen BK230.out 0
    have hfz13_1 := blk_frozen BK230.out 1
    go_wp2_with (first | ((with_reducible refine gate_callee (f := 9) rfl ?_); refine xgl_ (some 12) Try.func9 #[.agg #[.slice A0_0 l0_0.length c0_0, .int .i64 a0_1]] ?_; (with_reducible refine (impl_GoodSketch.calls _ _ l0_0 a0_1 true _ ?side1 ?side2 A7.out).mono ?_); (case side1 => exact xc_ ((Kd.C_below HR0_0.out HB.out))); (case side2 => exact HC0_0.out); rintro e w14 ⟨rfl, hb⟩; refine ⟨_, rfl, ?_⟩; replace BK230 := xbb_ BK230 hb; replace BK231 := xbb_ BK231 hb; replace HB := xws_ HB hb; (try clear hb); (try clear hb2); (try clear hk); (try clear hi)) | (go_at_call 28; (with_reducible refine (impl_isKey.calls a1 true _ A9.out).mono ?_); rintro e w' ⟨rfl, ⟨nd, rfl⟩⟩) | (go_at_call 29; (with_reducible refine (impl_within.calls a2 0 1000 t234 _ A11.out).mono ?_); rintro e w' ⟨rfl, ⟨nd, rfl⟩⟩))
    go_meet
    case rel => exact ⟨_, (!t234), (by first | rfl | (simp; done) | (simp [*]; done)), H', ⟨by first | omega | exact Nat.le_refl _⟩, ⟨xb_ BK230⟩, ⟨xb_ BK231⟩, ⟨xw_ HB⟩⟩
   ·replace c10 := Bool.eq_false_iff.mpr c10
    subst c10
    have H1 : (impl_CountIn.j0 k a1 a2 true l0_0 a0_1) = some (r1, r2, r3) := by rw [if_neg (show ¬ (false = true) by decide)] at H; exact H
    clear H
    have H := H1
    clear H1
    have H' := Aside0.mk H
    clear H
    have hnb15 := NB230_231.out
    have hnc15 := NB231_230.out
    have hcz16_0 : w6.cell? ⟨gb230, 0, none⟩ = some (.slice A0_0 l0_0.length c0_0) := xk_ BK230 0
    have hcz16_1 : w6.cell? ⟨gb230, 1, none⟩ = some (.int .i64 a0_1) := xk_ BK230 1
    have hfz16_0 := blk_frozen BK230.out 0
    have hfz16_1 := blk_frozen BK230.out 1
    go_wp2_with (first | ((with_reducible refine gate_callee (f := 9) rfl ?_); refine xgl_ (some 12) Try.func9 #[.agg #[.slice A0_0 l0_0.length c0_0, .int .i64 a0_1]] ?_; (with_reducible refine (impl_GoodSketch.calls _ _ l0_0 a0_1 true _ ?side1 ?side2 A7.out).mono ?_); (case side1 => exact xc_ ((Kd.C_below HR0_0.out HB.out))); (case side2 => exact HC0_0.out); rintro e w17 ⟨rfl, hb⟩; refine ⟨_, rfl, ?_⟩; replace BK230 := xbb_ BK230 hb; replace BK231 := xbb_ BK231 hb; replace HB := xws_ HB hb; (try clear hb); (try clear hb2); (try clear hk); (try clear hi)) | (go_at_call 28; (with_reducible refine (impl_isKey.calls a1 false _ A9.out).mono ?_); rintro e w' ⟨rfl, ⟨nd, rfl⟩⟩))
    go_meet
    case rel => exact ⟨_, (true), (by first | rfl | (simp; done) | (simp [*]; done)), H', ⟨by first | omega | exact Nat.le_refl _⟩, ⟨xb_ BK230⟩, ⟨xb_ BK231⟩, ⟨xw_ HB⟩⟩
  ·replace c8 := Bool.eq_false_iff.mpr c8
   subst c8
   have H1 : (impl_CountIn.j0 k a1 a2 true l0_0 a0_1) = some (r1, r2, r3) := by rw [if_neg (show ¬ (false = true) by decide)] at H; exact H
   clear H
   have H := H1
   clear H1
   have H' := Aside0.mk H
   clear H
   have hnb18 := NB230_231.out
   have hnc18 := NB231_230.out
   have hcz19_0 : w6.cell? ⟨gb230, 0, none⟩ = some (.slice A0_0 l0_0.length c0_0) := xk_ BK230 0
   have hcz19_1 : w6.cell? ⟨gb230, 1, none⟩ = some (.int .i64 a0_1) := xk_ BK230 1
   have hfz19_0 := blk_frozen BK230.out 0
   have hfz19_1 := blk_frozen BK230.out 1
   go_wp2_with (first | ((with_reducible refine gate_callee (f := 9) rfl ?_); refine xgl_ (some 12) Try.func9 #[.agg #[.slice A0_0 l0_0.length c0_0, .int .i64 a0_1]] ?_; (with_reducible refine (impl_GoodSketch.calls _ _ l0_0 a0_1 false _ ?side1 ?side2 A7.out).mono ?_); (case side1 => exact xc_ ((Kd.C_below HR0_0.out HB.out))); (case side2 => exact HC0_0.out); rintro e w20 ⟨rfl, hb⟩; refine ⟨_, rfl, ?_⟩; replace BK230 := xbb_ BK230 hb; replace BK231 := xbb_ BK231 hb; replace HB := xws_ HB hb; (try clear hb); (try clear hb2); (try clear hk); (try clear hi)))
   go_meet
   case rel => exact ⟨_, (true), (by first | rfl | (simp; done) | (simp [*]; done)), H', ⟨by first | omega | exact Nat.le_refl _⟩, ⟨xb_ BK230⟩, ⟨xb_ BK231⟩, ⟨xw_ HB⟩⟩
 case rest =>
  clear HC4
  try clear c1
  try clear p2
  try clear c6
  try clear c8
  try clear c9
  try clear c10
  try clear c12
  try clear c15
  try clear c18
  try clear hcz13_0
  try clear hcz13_1
  try clear hcz16_0
  try clear hcz16_1
  try clear hcz19_0
  try clear hcz19_1
  try clear hfz13_0
  try clear hfz13_1
  try clear hfz16_0
  try clear hfz16_1
  try clear hfz19_0
  try clear hfz19_1
  obtain ⟨kq, x23_3, rfl, HA, HJ3, BK230, BK231, HB⟩ := hcut
  cases kq with
  | zero => exact absurd HA.out (by simp [impl_CountIn.j0])
  | succ kj3 =>
   have H := HA.out
   clear HA
   simp only [impl_CountIn.j0] at H
   by_cases c21 : x23_3 = true
   ·subst c21
    have H1 : (some (([] : List Int), 0, false)) = some (r1, r2, r3) := by rw [if_pos rfl] at H; exact H
    clear H
    have H := H1
    clear H1
    simp only [Option.some.injEq, Prod.mk.injEq] at H
    obtain ⟨rfl, rfl, rfl⟩ := H
    have hnb22 := NB231_230.out
    have hnc22 := NB230_231.out
    have hcz23_0 : wc.cell? ⟨gb231, 0, none⟩ = some (.slice none 0 0) := xk_ BK231 0
    have hcz23_1 : wc.cell? ⟨gb231, 1, none⟩ = some (.int .i64 0) := xk_ BK231 1
    have hfz23_0 := blk_frozen BK231.out 0
    have hfz23_1 := blk_frozen BK231.out 1
    go_wp2
    refine bodyPost_ret (results_ct rfl _ _ gb231 25 #[.slice none 0 0, .int .i64 0] (0, 0) _ rfl (by (with_reducible repeat (first | refine blk_drewN ?_ _ | refine blk_drew ?_ | refine blk_alloc ?_ _)); refine blk_put (cs := #[.slice none 0 0, .int .i64 0]) ?_ 1 _ rfl; (with_reducible repeat (first | refine blk_drewN ?_ _ | refine blk_drew ?_ | refine blk_alloc ?_ _)); refine blk_put (cs := #[.slice none 0 0, .int .i64 0]) ?_ 0 _ rfl; (with_reducible repeat (first | refine blk_drewN ?_ _ | refine blk_drew ?_ | refine blk_alloc ?_ _)); exact BK231.out) Try.underlying25 rfl (by kernel_rfl)) rfl ?_
    exact ⟨_, by first | rfl | (simp [errW_none, errW_some] <;> rfl) | (simp [*, errW_none, errW_some] <;> rfl), by first | exact Kd.R_nil _ _ _ _ _ | exact Kd.N_nil _ _ _ _ _ | exact Kd.V_nil _ _ _ _ _ | exact Kd.Q_nil _ _ _ _ _ | exact Kd.S_nil _ _ _ _ _, xw_ HB⟩
   ·replace c21 := Bool.eq_false_iff.mpr c21
    subst c21
    have H1 : ((slices_Clone_int_int.f l0_0).bind fun t235 => ((impl_cellsOf.f kj3 a1).bind fun t239 => (impl_CountIn.l0 kj3 a2 t239 (t239.length : Int) 0 t235 (wrap64 (a0_1 + a2))))) = some (r1, r2, r3) := by rw [if_neg (show ¬ (false = true) by decide)] at H; exact H
    clear H
    have H := H1
    clear H1
    replace H := Option.bind_eq_some_iff.mp H
    obtain ⟨t235, A240, H⟩ := H
    replace H : ((impl_cellsOf.f kj3 a1).bind fun t239 => (impl_CountIn.l0 kj3 a2 t239 (t239.length : Int) 0 t235 (wrap64 (a0_1 + a2)))) = some (r1, r2, r3) := H
    have A24 := Aside0.mk A240
    clear A240
    replace H := Option.bind_eq_some_iff.mp H
    obtain ⟨t239, A250, H⟩ := H
    replace H : (impl_CountIn.l0 kj3 a2 t239 (t239.length : Int) 0 t235 (wrap64 (a0_1 + a2))) = some (r1, r2, r3) := H
    have A25 := Aside0.mk A250
    clear A250
    have H' := Aside0.mk H
    clear H
    try go_wp2
    replace BK230 := Aside0.mk (blk_drew BK230.out)
    replace BK231 := Aside0.mk (blk_drew BK231.out)
    replace HB := Aside0.mk (below_drew1 HB.out)
    refine start_ (n := 10) (S := fun w' => w'.cell? ⟨gb230, 0, none⟩ = some (.slice A0_0 l0_0.length c0_0) ∧ w'.cell? ⟨gb230, 1, none⟩ = some (.int .i64 a0_1)) (ds := []) #[false, false, false, false, false, false, false, false, false, false] (by kernel_rfl) rfl rfl ⟨xk_ BK230 0, xk_ BK230 1⟩ (fun hHeld => ?_); refine with_tabW impl_CountIn.tab3 impl_CountIn.bits3 (fun HT_ HW_ => ?_)
    generalize wc.drew = w26 at BK230 BK231 HB hHeld ⊢
    refine pure_ (i := 0) (N := some 25) (v := ?_) (a' := ?_) #[true, false, false, false, false, false, false, false, false, false] rfl rfl (any_of HT_.out (by kernel_rfl)) (fun _ _ _ h => h) (Or.inl ⟨by rfl, ?_⟩) ?_ ?_
    rotate_left
    ·intro w'
     go_simp
     with_reducible rfl
    rotate_left
    ·simp only [Act.put, List.setIfInBounds_toArray, List.set_cons_zero, List.set_cons_succ, i64_w, i32_w]
     rfl
    refine pure_ (i := 3) (N := some 28) (v := ?_) (a' := ?_) #[true, false, false, true, false, false, false, false, false, false] rfl rfl (any_of HT_.out (by kernel_rfl)) (fun _ _ _ h => h) (Or.inl ⟨by rfl, ?_⟩) ?_ ?_
    rotate_left
    ·intro w'
     go_simp
     with_reducible rfl
    rotate_left
    ·simp only [Act.put, List.setIfInBounds_toArray, List.set_cons_zero, List.set_cons_succ, i64_w, i32_w]
     rfl
    refine pure_ (i := 5) (N := some 30) (v := ?_) (a' := ?_) #[true, false, false, true, false, true, false, false, false, false] rfl rfl (any_of HT_.out (by kernel_rfl)) (fun _ _ _ h => h) (Or.inl ⟨by rfl, ?_⟩) ?_ ?_
    rotate_left
    ·intro w'
     go_simp
     with_reducible rfl
    rotate_left
    ·simp only [Act.put, List.setIfInBounds_toArray, List.set_cons_zero, List.set_cons_succ, i64_w, i32_w]
     rfl
    refine take_ (i := 1) (N := some 26) (v := ?_) (a' := ?_) #[true, true, false, true, false, true, false, false, false, false] rfl rfl (take_ofW HT_.out HW_.out (by kernel_rfl)) (fun _ _ _ h => h) (Or.inl ⟨by rfl, ?_⟩) hHeld ?_ ?_
    rotate_left
    ·rintro w' ⟨s0, s1⟩
     go_simp
     with_reducible rfl
    rotate_left
    ·simp only [Act.put, List.setIfInBounds_toArray, List.set_cons_zero, List.set_cons_succ, i64_w, i32_w]
     rfl
    refine take_ (i := 4) (N := some 29) (v := ?_) (a' := ?_) #[true, true, false, true, true, true, false, false, false, false] rfl rfl (take_ofW HT_.out HW_.out (by kernel_rfl)) (fun _ _ _ h => h) (Or.inl ⟨by rfl, ?_⟩) hHeld ?_ ?_
    rotate_left
    ·rintro w' ⟨s0, s1⟩
     go_simp
     with_reducible rfl
    rotate_left
    ·simp only [Act.put, List.setIfInBounds_toArray, List.set_cons_zero, List.set_cons_succ, i64_w, i32_w]
     rfl
    refine pure_ (i := 6) (N := some 31) (v := ?_) (a' := ?_) #[true, true, false, true, true, true, true, false, false, false] rfl rfl (any_of HT_.out (by kernel_rfl)) (fun _ _ _ h => h) (Or.inl ⟨by rfl, ?_⟩) ?_ ?_
    rotate_left
    ·intro w'
     go_simp
     with_reducible rfl
    rotate_left
    ·simp only [Act.put, List.setIfInBounds_toArray, List.set_cons_zero, List.set_cons_succ, i64_w, i32_w]
     rfl
    refine join_ (σ := Value × Nat) 1 #[true, true, true, true, true, true, true, true, true, false] (fun s_ => [(27, s_.1), (8, .pointer (some ⟨s_.2, 0, none⟩)), (32, .agg #[s_.1, .int .i64 (wrap64 (a0_1 + a2))])]) (fun s_ w' => (w'.cell? ⟨gb230, 0, none⟩ = some (.slice A0_0 l0_0.length c0_0) ∧ w'.cell? ⟨gb230, 1, none⟩ = some (.int .i64 a0_1)) ∧ (Kd.R (Kd.int .i64) 3 w' w.heap.size (fun _ => True) s_.1 t235) ∧ (w'.heap[gb230]? = some (.cells #[.slice A0_0 l0_0.length c0_0, .int .i64 a0_1] 25 (0, 0))) ∧ (w'.heap[gb231]? = some (.cells #[.slice none 0 0, .int .i64 0] 25 (0, 0))) ∧ (w'.heap[s_.2]? = some (.cells #[.slice none 0 0, .int .i64 0] 25 (0, 0))) ∧ (w.heap.size ≤ s_.2) ∧ (w.heap.size ≤ s_.2) ∧ (gb230 ≠ s_.2) ∧ (s_.2 ≠ gb230) ∧ (gb231 ≠ s_.2) ∧ (s_.2 ≠ gb231) ∧ (Below w.heap.size w w')) ?_ ?_
    rotate_left
    ·intro hCont
     refine two_ (i := 2) (j := 8) (Ni := some 27) (Nj := some 8) #[true, true, true, true, true, true, true, false, false, false] #[true, true, false, true, true, true, true, false, true, false] rfl rfl rfl rfl (two_of HT_.out (by kernel_rfl)) (by decide) (by decide) (fun K hK => ?_) (fun K hK => ?_)
     ·skip
      refine xgo_ Try.func30 #[.slice A0_0 l0_0.length c0_0] ?_
      with_reducible refine (slices_Clone_int_int.calls _ _ l0_0 t235 _ ?side1 ?side2 A24.out).mono ?_
      (case side1 => exact xc_ ((Kd.C_below HR0_0.out HB.out)))
      (case side2 => exact HC0_0.out)
      rintro e w27 ⟨v236, rfl, ho0, hb⟩
      refine ⟨_, rfl, ?_⟩
      have HO237 := Aside0.mk (Kd.R_lower ho0 (below_size (xw_ HB)))
      replace BK230 := xbb_ BK230 hb
      replace BK231 := xbb_ BK231 hb
      replace HB := xws_ HB hb
      (try clear hb)
      (try clear hb2)
      (try clear hk)
      (try clear hi)
      (try clear ho0)
      obtain ⟨Ao28, co28, eo28⟩ := Kd.R_slice HO237.out
      (first | subst eo28 | (injection eo28 with f1_ f2_ f3_; have f4_ := f1_.symm; have f5_ := f3_.symm; clear f1_ f2_ f3_; subst f4_; subst f5_))
      refine hK.out _ _ ⟨xk_ BK230 0, xk_ BK230 1⟩ (fun hHeld => ?_)
      clear hK K
      refine norm_ (a' := ?_) ?_ ?_
      rotate_left
      ·show Act.put _ (some 27) _ = _
       simp only [Act.put, List.setIfInBounds_toArray, List.set_cons_zero, List.set_cons_succ, i64_w, i32_w]
       rfl
      refine pure_ (i := 7) (N := some 32) (v := ?_) (a' := ?_) #[true, true, true, true, true, true, true, true, false, false] rfl rfl (any_of HT_.out (by kernel_rfl)) (fun _ _ _ h => h) (Or.inl ⟨by rfl, ?_⟩) ?_ ?_
      rotate_left
      ·intro w'
       go_simp
       with_reducible rfl
      rotate_left
      ·simp only [Act.put, List.setIfInBounds_toArray, List.set_cons_zero, List.set_cons_succ, i64_w, i32_w]
       rfl
      refine one_ (i := 8) (N := some 8) #[true, true, true, true, true, true, true, true, true, false] rfl rfl (one_of HT_.out (by kernel_rfl)) (by decide) (fun K hK => ?_)
      refine box_step ?hg (N := 8) ?hd (cs := #[.slice none 0 0, .int .i64 0]) (t := 25) ?hr ?_; (case hd => rfl); (case hg => rfl); (case hr => first | (go_simp; done) | (go_simp; rfl))
      intro gb238 hg w29 hbox hb
      replace HO237 := xrb_ HO237 hb
      have BK238 := Aside0.mk (hbox)
      have GW238 := xge_ HB hg
      have GE238 := xge_ HB hg
      replace HB := xws_ HB hb
      have NB230_238 := xlt_ BK230 hg
      have NB238_230 := xgt_ BK230 hg
      replace BK230 := xbb_ BK230 hb
      have NB231_238 := xlt_ BK231 hg
      have NB238_231 := xgt_ BK231 hg
      replace BK231 := xbb_ BK231 hb
      clear hb hbox hg
      refine hK.out _ _ ⟨xk_ BK230 0, xk_ BK230 1⟩ (fun hHeld => ?_)
      clear hK K
      refine norm_ (a' := ?_) ?_ ?_
      rotate_left
      ·show Act.put _ (some 8) _ = _
       simp only [Act.put, List.setIfInBounds_toArray, List.set_cons_zero, List.set_cons_succ, i64_w, i32_w]
       rfl
      exact norm_ (by simp only [putAll, Act.put, List.setIfInBounds_toArray, List.set_cons_zero, List.set_cons_succ]) (hCont (.slice Ao28 t235.length co28, gb238) _ ⟨hHeld, xr_ HO237, xb_ BK230, xb_ BK231, xb_ BK238, GW238.out, GE238.out, NB230_238.out, NB238_230.out, NB231_238.out, NB238_231.out, xw_ HB⟩)
     ·skip
      refine box_step ?hg (N := 8) ?hd (cs := #[.slice none 0 0, .int .i64 0]) (t := 25) ?hr ?_; (case hd => rfl); (case hg => rfl); (case hr => first | (go_simp; done) | (go_simp; rfl))
      intro gb238 hg w27 hbox hb
      have BK238 := Aside0.mk (hbox)
      have GW238 := xge_ HB hg
      have GE238 := xge_ HB hg
      replace HB := xws_ HB hb
      have NB230_238 := xlt_ BK230 hg
      have NB238_230 := xgt_ BK230 hg
      replace BK230 := xbb_ BK230 hb
      have NB231_238 := xlt_ BK231 hg
      have NB238_231 := xgt_ BK231 hg
      replace BK231 := xbb_ BK231 hb
      clear hb hbox hg
      refine hK.out _ _ ⟨xk_ BK230 0, xk_ BK230 1⟩ (fun hHeld => ?_)
      clear hK K
      refine norm_ (a' := ?_) ?_ ?_
      rotate_left
      ·show Act.put _ (some 8) _ = _
       simp only [Act.put, List.setIfInBounds_toArray, List.set_cons_zero, List.set_cons_succ, i64_w, i32_w]
       rfl
      refine one_ (i := 2) (N := some 27) #[true, true, true, true, true, true, true, false, true, false] rfl rfl (one_of HT_.out (by kernel_rfl)) (by decide) (fun K hK => ?_)
      refine xgo_ Try.func30 #[.slice A0_0 l0_0.length c0_0] ?_
      with_reducible refine (slices_Clone_int_int.calls _ _ l0_0 t235 _ ?side1 ?side2 A24.out).mono ?_
      (case side1 => exact xc_ ((Kd.C_below HR0_0.out HB.out)))
      (case side2 => exact HC0_0.out)
      rintro e w28 ⟨v236, rfl, ho0, hb⟩
      refine ⟨_, rfl, ?_⟩
      have HO237 := Aside0.mk (Kd.R_lower ho0 (below_size (xw_ HB)))
      replace BK230 := xbb_ BK230 hb
      replace BK231 := xbb_ BK231 hb
      replace BK238 := xbb_ BK238 hb
      replace HB := xws_ HB hb
      (try clear hb)
      (try clear hb2)
      (try clear hk)
      (try clear hi)
      (try clear ho0)
      obtain ⟨Ao29, co29, eo29⟩ := Kd.R_slice HO237.out
      (first | subst eo29 | (injection eo29 with f1_ f2_ f3_; have f4_ := f1_.symm; have f5_ := f3_.symm; clear f1_ f2_ f3_; subst f4_; subst f5_))
      refine hK.out _ _ ⟨xk_ BK230 0, xk_ BK230 1⟩ (fun hHeld => ?_)
      clear hK K
      refine norm_ (a' := ?_) ?_ ?_
      rotate_left
      ·show Act.put _ (some 27) _ = _
       simp only [Act.put, List.setIfInBounds_toArray, List.set_cons_zero, List.set_cons_succ, i64_w, i32_w]
       rfl
      refine pure_ (i := 7) (N := some 32) (v := ?_) (a' := ?_) #[true, true, true, true, true, true, true, true, true, false] rfl rfl (any_of HT_.out (by kernel_rfl)) (fun _ _ _ h => h) (Or.inl ⟨by rfl, ?_⟩) ?_ ?_
      rotate_left
      ·intro w'
       go_simp
       with_reducible rfl
      rotate_left
      ·simp only [Act.put, List.setIfInBounds_toArray, List.set_cons_zero, List.set_cons_succ, i64_w, i32_w]
       rfl
      exact norm_ (by simp only [putAll, Act.put, List.setIfInBounds_toArray, List.set_cons_zero, List.set_cons_succ]) (hCont (.slice Ao29 t235.length co29, gb238) _ ⟨hHeld, xr_ HO237, xb_ BK230, xb_ BK231, xb_ BK238, GW238.out, GE238.out, NB230_238.out, NB238_230.out, NB231_238.out, NB238_231.out, xw_ HB⟩)
    rintro ⟨v236, gb238⟩ w30 ⟨hS_, h0_, h1_, h2_, h3_, h4_, h5_, h6_, h7_, h8_, h9_, h10_⟩
    have n0_ : Aside0 (Kd.R (Kd.int .i64) 3 w30 w.heap.size (fun _ => True) v236 t235) := ⟨h0_⟩
    have n1_ : Aside0 (w30.heap[gb230]? = some (.cells #[.slice A0_0 l0_0.length c0_0, .int .i64 a0_1] 25 (0, 0))) := ⟨h1_⟩
    have n2_ : Aside0 (w30.heap[gb231]? = some (.cells #[.slice none 0 0, .int .i64 0] 25 (0, 0))) := ⟨h2_⟩
    have n3_ : Aside0 (w30.heap[gb238]? = some (.cells #[.slice none 0 0, .int .i64 0] 25 (0, 0))) := ⟨h3_⟩
    have n4_ : Aside0 (w.heap.size ≤ gb238) := ⟨h4_⟩
    have n5_ : Aside0 (w.heap.size ≤ gb238) := ⟨h5_⟩
    have n6_ : Aside0 (gb230 ≠ gb238) := ⟨h6_⟩
    have n7_ : Aside0 (gb238 ≠ gb230) := ⟨h7_⟩
    have n8_ : Aside0 (gb231 ≠ gb238) := ⟨h8_⟩
    have n9_ : Aside0 (gb238 ≠ gb231) := ⟨h9_⟩
    have n10_ : Aside0 (Below w.heap.size w w30) := ⟨h10_⟩
    clear BK230
    clear BK231
    clear HB
    clear h0_ h1_ h2_ h3_ h4_ h5_ h6_ h7_ h8_ h9_ h10_
    have HO237 := n0_
    have BK230 := n1_
    have BK231 := n2_
    have BK238 := n3_
    have GW238 := n4_
    have GE238 := n5_
    have NB230_238 := n6_
    have NB238_230 := n7_
    have NB231_238 := n8_
    have NB238_231 := n9_
    have HB := n10_
    clear n0_ n1_ n2_ n3_ n4_ n5_ n6_ n7_ n8_ n9_ n10_
    have hHeld : w30.cell? ⟨gb230, 0, none⟩ = some (.slice A0_0 l0_0.length c0_0) ∧ w30.cell? ⟨gb230, 1, none⟩ = some (.int .i64 a0_1) := hS_
    obtain ⟨Ao31, co31, eo31⟩ := Kd.R_slice HO237.out
    (first | subst eo31 | (injection eo31 with f1_ f2_ f3_; have f4_ := f1_.symm; have f5_ := f3_.symm; clear f1_ f2_ f3_; subst f4_; subst f5_))
    refine norm_ (a' := ?_) ?_ ?_
    rotate_left
    ·simp only [putAll, Act.put, List.setIfInBounds_toArray, List.set_cons_zero, List.set_cons_succ]
     rfl
    refine one_ (i := 9) (N := none) #[true, true, true, true, true, true, true, true, true, true] rfl rfl (one_of HT_.out (by kernel_rfl)) (by decide) (fun K hK => ?_)
    have hs32 : w30.cell? ⟨gb238, 0, none⟩ = some (.slice none 0 0) := xk_ BK238 0
    have hfs32 := blk_frozen BK238.out 0
    have hns32_0 := NB230_238.out
    have hns32_1 := NB231_238.out
    have hms32_0 := NB238_230.out
    have hms32_1 := NB238_231.out
    have hs33 : w30.cell? ⟨gb238, 1, none⟩ = some (.int .i64 0) := xk_ BK238 1
    have hfs33 := blk_frozen BK238.out 1
    have hns33_0 := NB230_238.out
    have hns33_1 := NB231_238.out
    have hms33_0 := NB238_230.out
    have hms33_1 := NB238_231.out
    refine skip_ (w1 := ?_) (by rfl) rfl ?_ ?_
    rotate_left
    ·go_simp
     rfl
    refine hK.out _ _ ⟨((cell_far (p := ⟨gb238, _, none⟩) NB230_238.out _).trans (((cell_far (p := ⟨gb238, _, none⟩) NB230_238.out _).trans (hHeld.1)))), ((cell_far (p := ⟨gb238, _, none⟩) NB230_238.out _).trans (((cell_far (p := ⟨gb238, _, none⟩) NB230_238.out _).trans (hHeld.2))))⟩ (fun hHeld => ?_)
    clear hK K
    refine done_ (done_of HT_.out (by kernel_rfl)) ?_
    try go_wp2_with (first | ((with_reducible refine gate_callee (f := 31) rfl ?_); refine xgl_ (some 34) Try.func31 #[.string a1] ?_; (with_reducible refine (impl_cellsOf.calls kj3 a1 t239 _ A25.out).mono ?_); rintro e w34 ⟨v240, rfl, ho0, hb⟩; refine ⟨_, rfl, ?_⟩; have HO241 := Aside0.mk (Kd.R_lower (Kd.R_new' ho0 (Kd.R_lt (xrt_ ((Kd.R_mono (Kd.R_far (p := ⟨gb238, 1, none⟩) (Kd.R_far (p := ⟨gb238, 0, none⟩) (Kd.R_types HO237.out BK238.out (by decide)) (fun _ hk => hk.2) (.slice Ao31 t235.length co31)) (fun _ hk => hk.2) (.int .i64 (wrap64 (a0_1 + a2)))) (fun _ h_ => h_.1)))))) (below_size (xw_ HB))); replace HO237 := Aside0.mk (Kd.R_elder' (xrt_ ((Kd.R_mono (Kd.R_far (p := ⟨gb238, 1, none⟩) (Kd.R_far (p := ⟨gb238, 0, none⟩) (Kd.R_types HO237.out BK238.out (by decide)) (fun _ hk => hk.2) (.slice Ao31 t235.length co31)) (fun _ hk => hk.2) (.int .i64 (wrap64 (a0_1 + a2)))) (fun _ h_ => h_.1)))) (Kd.R_base ho0) hb); replace BK230 := Aside0.mk (blk_below (g := gb230) (o := .cells #[.slice A0_0 l0_0.length c0_0, .int .i64 a0_1] 25 (0, 0)) (by (with_reducible repeat (first | refine blk_drewN ?_ _ | refine blk_drew ?_ | refine blk_alloc ?_ _)); refine blk_far ?_ NB230_238.out _; (with_reducible repeat (first | refine blk_drewN ?_ _ | refine blk_drew ?_ | refine blk_alloc ?_ _)); refine blk_far ?_ NB230_238.out _; (with_reducible repeat (first | refine blk_drewN ?_ _ | refine blk_drew ?_ | refine blk_alloc ?_ _)); exact BK230.out) hb); replace BK231 := Aside0.mk (blk_below (g := gb231) (o := .cells #[.slice none 0 0, .int .i64 0] 25 (0, 0)) (by (with_reducible repeat (first | refine blk_drewN ?_ _ | refine blk_drew ?_ | refine blk_alloc ?_ _)); refine blk_far ?_ NB231_238.out _; (with_reducible repeat (first | refine blk_drewN ?_ _ | refine blk_drew ?_ | refine blk_alloc ?_ _)); refine blk_far ?_ NB231_238.out _; (with_reducible repeat (first | refine blk_drewN ?_ _ | refine blk_drew ?_ | refine blk_alloc ?_ _)); exact BK231.out) hb); replace BK238 := Aside0.mk (blk_below (g := gb238) (o := .cells #[.slice Ao31 t235.length co31, .int .i64 (wrap64 (a0_1 + a2))] 25 (0, 0)) (by (with_reducible repeat (first | refine blk_drewN ?_ _ | refine blk_drew ?_ | refine blk_alloc ?_ _)); refine blk_put (cs := #[.slice Ao31 t235.length co31, .int .i64 0]) ?_ 1 _ rfl; (with_reducible repeat (first | refine blk_drewN ?_ _ | refine blk_drew ?_ | refine blk_alloc ?_ _)); refine blk_put (cs := #[.slice none 0 0, .int .i64 0]) ?_ 0 _ rfl; (with_reducible repeat (first | refine blk_drewN ?_ _ | refine blk_drew ?_ | refine blk_alloc ?_ _)); exact BK238.out) hb); replace HB := xws_ HB hb; (try clear hb); (try clear hb2); (try clear hk); (try clear hi); (try clear ho0); obtain ⟨Ao35, co35, eo35⟩ := Kd.R_slice HO241.out; subst eo35))
    go_loopg [36] kj3 (fun kq v36 w' => ∃ (x34_2 : List Int) (x36_2 : Int) (x239000_2 : List Int) (u239000 : Value), v36 = .int .i64 x36_2 ∧ Aside0 (impl_CountIn.l0 kq a2 x34_2 (t239.length : Int) x36_2 x239000_2 (wrap64 (a0_1 + a2)) = some (r1, r2, r3)) ∧ Aside0 (kq ≤ kj3) ∧ Aside0 (Kd.R (Kd.int .i64) 3 w' w.heap.size (fun k_ => some k_ ≠ (u239000 : Value).ownBlock) (.slice Ao35 t239.length co35) x34_2) ∧ Aside0 (Kd.R (Kd.int .i64) 3 w' w.heap.size (fun k_ => some k_ ≠ ((.slice Ao35 t239.length co35) : Value).ownBlock) u239000 x239000_2) ∧ Aside0 (w'.heap[gb230]? = some (.cells #[(.slice A0_0 l0_0.length c0_0), .int .i64 a0_1] 25 (0, 0))) ∧ Aside0 (w'.heap[gb231]? = some (.cells #[(.slice none 0 0), .int .i64 0] 25 (0, 0))) ∧ Aside0 (w'.heap[gb238]? = some (.cells #[u239000, .int .i64 (wrap64 (a0_1 + a2))] 25 (0, 0))) ∧ Aside0 (Below w.heap.size w w'))
    case atStart => exact ⟨(t239), (0), (t235), (.slice Ao31 t235.length co31), (by first | rfl | (simp; done) | (simp [*]; done)), H', ⟨Nat.le_refl _⟩, ⟨xrt_ (Kd.R_mono HO241.out (fun _ hk => hk.2))⟩, ⟨xrt_ (Kd.R_mono HO237.out (fun _ hk => hk.2))⟩, ⟨xb_ BK230⟩, ⟨xb_ BK231⟩, ⟨xb_ BK238⟩, ⟨xw_ HB⟩⟩
    case round =>
     clear H'
     try clear c1
     try clear c2
     try clear p2
     try clear c3
     try clear c6
     try clear p6
     try clear c8
     try clear c9
     try clear c10
     try clear c12
     try clear c15
     try clear c18
     try clear c21
     try clear c22
     try clear c30
     try clear c31
     try clear hcz13_0
     try clear hcz13_1
     try clear hcz16_0
     try clear hcz16_1
     try clear hcz19_0
     try clear hcz19_1
     try clear hcz23_0
     try clear hcz23_1
     try clear hfz13_0
     try clear hfz13_1
     try clear hfz16_0
     try clear hfz16_1
     try clear hfz19_0
     try clear hfz19_1
     try clear hfz23_0
     try clear hfz23_1
     try clear p2
     obtain ⟨x34_2, x36_2, x239000_2, u239000, rfl, HA, HK2, HO_34, HO_239000, BK230, BK231, BK238, HB⟩ := hrel
     have hl34_2 := (Kd.R_reads' HO_34.out).1
     rw [hl34_2] at HO_34
     (try simp only [hl34_2])
     (try simp only [hl34_2] at BK230)
     (try simp only [hl34_2] at BK231)
     (try simp only [hl34_2] at BK238)
     (try simp only [hl34_2] at HO_239000)
     cases gk with
     | zero => exact absurd HA.out (by simp [impl_CountIn.l0])
     | succ k2 =>
      have H := HA.out
      clear HA
      simp only [impl_CountIn.l0] at H
      by_cases c36 : x36_2 < (t239.length : Int)
      ·rw [if_pos c36] at H
       have c36b0 : decide (x36_2 < (t239.length : Int)) = true := decide_eq_true c36
       have c36b0h := c36b0
       (try simp only [hl34_2] at c36b0h)
       clear c36
       by_cases c37 : 0 ≤ x36_2
       ·rw [if_pos c37] at H
        have c37b0 : decide (0 ≤ x36_2) = true := decide_eq_true c37
        clear c37
        by_cases c38 : x36_2 < (x34_2.length : Int)
        ·rw [if_pos c38] at H
         have c38b0 : decide (x36_2 < (x34_2.length : Int)) = true := decide_eq_true c38
         have c38b0h := c38b0
         (try simp only [hl34_2] at c38b0h)
         clear c38
         by_cases c39 : 0 ≤ (rd x34_2 x36_2)
         ·rw [if_pos c39] at H
          have c39b0 : decide (0 ≤ (rd x34_2 x36_2)) = true := decide_eq_true c39
          clear c39
          by_cases c40 : (rd x34_2 x36_2) < (x239000_2.length : Int)
          ·rw [if_pos c40] at H
           have c40b0 : decide ((rd x34_2 x36_2) < (x239000_2.length : Int)) = true := decide_eq_true c40
           have c40b0h := c40b0
           (try simp only [hl34_2] at c40b0h)
           clear c40
           obtain ⟨y244, hy244⟩ : ∃ y_ : List Int, y_ = (x239000_2.set ((rd x34_2 x36_2) : Int).toNat (wrap64 ((rd x239000_2 (rd x34_2 x36_2)) + a2))) := ⟨_, rfl⟩
           replace H : (impl_CountIn.l0 k2 a2 x34_2 (t239.length : Int) (wrap64 (x36_2 + 1)) y244 (wrap64 (a0_1 + a2))) = some (r1, r2, r3) := by first | (rw [hy244]; with_reducible exact H) | (have H2_ := (Option.bind_some _ _).symm.trans H; rw [hy244]; with_reducible exact H2_) | (have H2_ := (Option.bind_some _ _).symm.trans H; with_reducible exact H2_) | with_reducible exact H | (rw [hy244]; exact H) | exact H
           have Ny244 := Aside0.mk hy244
           clear hy244
           have H' := Aside0.mk H
           clear H
           have p242 : 0 ≤ (x36_2 : Int) := of_decide_eq_true (by first | (with_reducible assumption) | assumption)
           have q242 : x36_2 < (x34_2.length : Int) := of_decide_eq_true (by first | (with_reducible assumption) | assumption)
           obtain ⟨ad242, e242, hx242_0⟩ := Kd.at_int (Kd.R_reads' HO_34.out).2.2 x36_2 p242 q242
           cases e242
           replace p242 := eq_true p242
           replace q242 := eq_true q242
           have hnb42 := NB238_230.out
           have hnc42 := NB230_238.out
           have hnb43 := NB238_231.out
           have hnc43 := NB231_238.out
           have hcz44_0 : wr.cell? ⟨gb238, 0, none⟩ = some (u239000) := xk_ BK238 0
           have hcz44_1 : wr.cell? ⟨gb238, 1, none⟩ = some (.int .i64 (wrap64 (a0_1 + a2))) := xk_ BK238 1
           have hfz44_0 := blk_frozen BK238.out 0
           have hfz44_1 := blk_frozen BK238.out 1
           obtain ⟨Ao45, co45, eo45⟩ := Kd.R_slice HO_239000.out
           subst eo45
           have p243 : 0 ≤ ((rd x34_2 x36_2) : Int) := of_decide_eq_true (by first | (with_reducible assumption) | assumption)
           have q243 : (rd x34_2 x36_2) < (x239000_2.length : Int) := of_decide_eq_true (by first | (with_reducible assumption) | assumption)
           obtain ⟨ad243, e243, hx243_0⟩ := Kd.at_int (Kd.R_reads' HO_239000.out).2.2 (rd x34_2 x36_2) p243 q243
           cases e243
           replace p243 := eq_true p243
           replace q243 := eq_true q243
           have p41 : 0 ≤ ((rd x34_2 x36_2) : Int) := of_decide_eq_true (by first | (with_reducible assumption) | assumption)
           have q41 : ((rd x34_2 x36_2) : Int) < ((x239000_2.length : Int) : Int) := of_decide_eq_true (by first | (with_reducible assumption) | assumption)
           obtain ⟨go41, co41, eo41, gb41, gl41, cl41, HG41⟩ := Kd.R_form HO_239000.out (by omega)
           (first | cases eo41 | (injection eo41 with ea_ en_ ec_; (first | subst ea_ | (injection ea_ with ea_; subst ea_)); subst ec_; clear en_))
           have GB41 := Aside0.mk gb41
           have GG41 := Aside0.mk HG41
           clear gb41 gl41 HG41
           (first | simp only [add_plain] at hx243_0 | skip)
           obtain ⟨hx41_0, hf41_0⟩ := Kd.R_celln 0 HO_239000.out ((rd x34_2 x36_2) : Int) p41 q41
           replace p41 := eq_true p41
           replace q41 := eq_true q41
           have HP46 := Kd.R_putg HO_239000.out ((rd x34_2 x36_2) : Int) (wrap64 ((rd x239000_2 (rd x34_2 x36_2)) + a2))
           go_wp2_with (first | ((with_reducible refine gate_store (t := 3) (p := 47) rfl ?_); refine store_event (t := 3) (p := 47) (v := ?vo_w47) (w1 := (wr.setCell ⟨go41, ((rd x34_2 x36_2) : Int).toNat, none⟩ (.int .i64 (wrap64 ((rd x239000_2 (rd x34_2 x36_2)) + a2))))) ?hg ?ho ?hn ?hr ?_; (case ho => rfl); (case hg => rfl); (case hn => rfl); (case hr => first | (go_simp; done) | (go_simp; rfl)); intro w47 hw; have hg : wr.grownBy w47 (some go41) := (by rw [hw]; exact HP46.2); have hp_ : Kd.R (Kd.int .i64) 3 w47 w.heap.size (fun k_ => some k_ ≠ (.slice (some ad242) x34_2.length co35 : Value).ownBlock) (.slice (some ⟨go41, 0, none⟩) x239000_2.length co45) y244 := (by rw [hw, Ny244.out]; exact HP46.1); clear HP46; replace HO_34 := Aside0.mk (Kd.R_after (v := (.slice (some ⟨go41, 0, none⟩) x239000_2.length co45)) (v1 := (.slice (some ⟨go41, 0, none⟩) x239000_2.length co45)) (ok := (fun _ => True)) (xrt_ (Kd.R_mono HO_34.out (fun _ hk => ⟨trivial, hk⟩))) hg (.inl rfl)); replace BK230 := Aside0.mk (blk_grown (g := gb230) (o := .cells #[.slice A0_0 l0_0.length c0_0, .int .i64 a0_1] 25 (0, 0)) (xb_ BK230) hg (Kd.R_ne HO_239000.out BK230.out (by decide))); replace BK231 := Aside0.mk (blk_grown (g := gb231) (o := .cells #[.slice none 0 0, .int .i64 0] 25 (0, 0)) (xb_ BK231) hg (Kd.R_ne HO_239000.out BK231.out (by decide))); replace BK238 := Aside0.mk (blk_grown (g := gb238) (o := .cells #[.slice (some ⟨go41, 0, none⟩) x239000_2.length co45, .int .i64 (wrap64 (a0_1 + a2))] 25 (0, 0)) (xb_ BK238) hg (Kd.R_ne HO_239000.out BK238.out (by decide))); replace HO_239000 := Aside0.mk (hp_); replace HB := Aside0.mk ((by rw [hw]; exact below_set (HB.out) GB41.out : Below w.heap.size w w47)); clear hg hw hp_))
           (try simp only [← hl34_2])
           go_roundg k2
           case measure => have := HJ3.out; have := HK2.out; omega
           case rel => exact ⟨(x34_2), (wrap64 (x36_2 + 1)), (y244), (.slice (some ⟨go41, 0, none⟩) x239000_2.length co45), (by first | rfl | (simp; done) | (simp [*]; done)), H', ⟨by have := HJ3.out; have := HK2.out; omega⟩, ⟨by (try simp only [hl34_2]); (with_reducible repeat (first | apply Kd.R_alloc | apply Kd.R_drewN | apply Kd.R_drew)); exact Kd.R_mono HO_34.out (fun _ hk => hk.2)⟩, ⟨by (try simp only [hl34_2]); (with_reducible repeat (first | apply Kd.R_alloc | apply Kd.R_drewN | apply Kd.R_drew)); exact HO_239000.out⟩, ⟨by (try simp only [hl34_2]); (with_reducible repeat (first | refine blk_drewN ?_ _ | refine blk_drew ?_ | refine blk_alloc ?_ _)); exact BK230.out⟩, ⟨by (try simp only [hl34_2]); (with_reducible repeat (first | refine blk_drewN ?_ _ | refine blk_drew ?_ | refine blk_alloc ?_ _)); exact BK231.out⟩, ⟨by (try simp only [hl34_2]); (with_reducible repeat (first | refine blk_drewN ?_ _ | refine blk_drew ?_ | refine blk_alloc ?_ _)); exact BK238.out⟩, ⟨xw_ HB⟩⟩
          ·rw [if_neg c40] at H
           exact absurd H (by simp)
         ·rw [if_neg c39] at H
          exact absurd H (by simp)
        ·rw [if_neg c38] at H
         exact absurd H (by simp)
       ·rw [if_neg c37] at H
        exact absurd H (by simp)
      ·rw [if_neg c36] at H
       have c36b0 : decide (x36_2 < (t239.length : Int)) = false := decide_eq_false c36
       have c36b0h := c36b0
       (try simp only [hl34_2] at c36b0h)
       clear c36
       replace H := Option.bind_eq_some_iff.mp H
       obtain ⟨t245, A480, H⟩ := H
       replace H : (if t245 = true then (some (x239000_2, (wrap64 (a0_1 + a2)), true)) else (some (([] : List Int), 0, false))) = some (r1, r2, r3) := H
       have A48 := Aside0.mk A480
       clear A480
       by_cases c49 : t245 = true
       ·subst c49
        have H1 : (some (x239000_2, (wrap64 (a0_1 + a2)), true)) = some (r1, r2, r3) := by rw [if_pos rfl] at H; exact H
        clear H
        have H := H1
        clear H1
        simp only [Option.some.injEq, Prod.mk.injEq] at H
        obtain ⟨rfl, rfl, rfl⟩ := H
        have hnb50 := NB238_230.out
        have hnc50 := NB230_238.out
        have hnb51 := NB238_231.out
        have hnc51 := NB231_238.out
        have hcz52_0 : wr.cell? ⟨gb238, 0, none⟩ = some (u239000) := xk_ BK238 0
        have hcz52_1 : wr.cell? ⟨gb238, 1, none⟩ = some (.int .i64 (wrap64 (a0_1 + a2))) := xk_ BK238 1
        have hfz52_0 := blk_frozen BK238.out 0
        have hfz52_1 := blk_frozen BK238.out 1
        obtain ⟨Ao53, co53, eo53⟩ := Kd.R_slice HO_239000.out
        subst eo53
        go_wp2_with (first | ((with_reducible refine gate_callee (f := 9) rfl ?_); refine xgl_ (some 50) Try.func9 #[.agg #[.slice Ao53 x239000_2.length co53, .int .i64 (wrap64 (a0_1 + a2))]] ?_; (with_reducible refine (impl_GoodSketch.calls _ _ x239000_2 (wrap64 (a0_1 + a2)) true _ ?side1 ?side2 A48.out).mono ?_); (case side1 => exact xc_ ((Kd.R_reads' HO_239000.out).2.2)); (case side2 => exact (Kd.R_reads' HO_239000.out).2.1); rintro e w54 ⟨rfl, hb⟩; refine ⟨_, rfl, ?_⟩; replace HO_34 := xrb_ HO_34 hb; replace HO_239000 := xrb_ HO_239000 hb; replace BK230 := xbb_ BK230 hb; replace BK231 := xbb_ BK231 hb; replace BK238 := xbb_ BK238 hb; replace HB := xws_ HB hb; (try clear hb); (try clear hb2); (try clear hk); (try clear hi); have hcz55_0 : w54.cell? ⟨gb238, 0, none⟩ = some (.slice Ao53 x239000_2.length co53) := xk_ BK238 0; have hcz55_1 : w54.cell? ⟨gb238, 1, none⟩ = some (.int .i64 (wrap64 (a0_1 + a2))) := xk_ BK238 1; have hfz55_0 := blk_frozen BK238.out 0; have hfz55_1 := blk_frozen BK238.out 1; have hnb56 := NB231_230.out; have hnc56 := NB230_231.out; have hcz57_0 : w54.cell? ⟨gb231, 0, none⟩ = some (.slice none 0 0) := xk_ BK231 0; have hcz57_1 : w54.cell? ⟨gb231, 1, none⟩ = some (.int .i64 0) := xk_ BK231 1; have hfz57_0 := blk_frozen BK231.out 0; have hfz57_1 := blk_frozen BK231.out 1))
        refine bodyPost_ret (results_ct rfl _ _ gb231 25 #[.slice Ao53 x239000_2.length co53, .int .i64 (wrap64 (a0_1 + a2))] (0, 0) _ rfl (by (with_reducible repeat (first | refine blk_drewN ?_ _ | refine blk_drew ?_ | refine blk_alloc ?_ _)); refine blk_put (cs := #[.slice Ao53 x239000_2.length co53, .int .i64 0]) ?_ 1 _ rfl; (with_reducible repeat (first | refine blk_drewN ?_ _ | refine blk_drew ?_ | refine blk_alloc ?_ _)); refine blk_put (cs := #[.slice none 0 0, .int .i64 0]) ?_ 0 _ rfl; (with_reducible repeat (first | refine blk_drewN ?_ _ | refine blk_drew ?_ | refine blk_alloc ?_ _)); exact BK231.out) Try.underlying25 rfl (by kernel_rfl)) rfl ?_
        exact ⟨_, by first | rfl | (simp [errW_none, errW_some] <;> rfl) | (simp [*, errW_none, errW_some] <;> rfl), by (with_reducible repeat (first | apply Kd.R_alloc | apply Kd.R_drewN | apply Kd.R_drew)); exact Kd.R_mono (Kd.R_far (p := ⟨gb231, 1, none⟩) (Kd.R_far (p := ⟨gb231, 0, none⟩) (Kd.R_types HO_239000.out BK231.out (by decide)) (fun _ hk => hk.2) (.slice Ao53 x239000_2.length co53)) (fun _ hk => hk.2) (.int .i64 (wrap64 (a0_1 + a2)))) (fun _ hk => trivial), xw_ HB⟩
       ·replace c49 := Bool.eq_false_iff.mpr c49
        subst c49
        have H1 : (some (([] : List Int), 0, false)) = some (r1, r2, r3) := by rw [if_neg (show ¬ (false = true) by decide)] at H; exact H
        clear H
        have H := H1
        clear H1
        simp only [Option.some.injEq, Prod.mk.injEq] at H
        obtain ⟨rfl, rfl, rfl⟩ := H
        have hnb58 := NB238_230.out
        have hnc58 := NB230_238.out
        have hnb59 := NB238_231.out
        have hnc59 := NB231_238.out
        have hcz60_0 : wr.cell? ⟨gb238, 0, none⟩ = some (u239000) := xk_ BK238 0
        have hcz60_1 : wr.cell? ⟨gb238, 1, none⟩ = some (.int .i64 (wrap64 (a0_1 + a2))) := xk_ BK238 1
        have hfz60_0 := blk_frozen BK238.out 0
        have hfz60_1 := blk_frozen BK238.out 1
        obtain ⟨Ao61, co61, eo61⟩ := Kd.R_slice HO_239000.out
        subst eo61
        go_wp2_with (first | ((with_reducible refine gate_callee (f := 9) rfl ?_); refine xgl_ (some 50) Try.func9 #[.agg #[.slice Ao61 x239000_2.length co61, .int .i64 (wrap64 (a0_1 + a2))]] ?_; (with_reducible refine (impl_GoodSketch.calls _ _ x239000_2 (wrap64 (a0_1 + a2)) false _ ?side1 ?side2 A48.out).mono ?_); (case side1 => exact xc_ ((Kd.R_reads' HO_239000.out).2.2)); (case side2 => exact (Kd.R_reads' HO_239000.out).2.1); rintro e w62 ⟨rfl, hb⟩; refine ⟨_, rfl, ?_⟩; replace HO_34 := xrb_ HO_34 hb; replace HO_239000 := xrb_ HO_239000 hb; replace BK230 := xbb_ BK230 hb; replace BK231 := xbb_ BK231 hb; replace BK238 := xbb_ BK238 hb; replace HB := xws_ HB hb; (try clear hb); (try clear hb2); (try clear hk); (try clear hi); have hnb63 := NB231_230.out; have hnc63 := NB230_231.out; have hcz64_0 : w62.cell? ⟨gb231, 0, none⟩ = some (.slice none 0 0) := xk_ BK231 0; have hcz64_1 : w62.cell? ⟨gb231, 1, none⟩ = some (.int .i64 0) := xk_ BK231 1; have hfz64_0 := blk_frozen BK231.out 0; have hfz64_1 := blk_frozen BK231.out 1))
        refine bodyPost_ret (results_ct rfl _ _ gb231 25 #[.slice none 0 0, .int .i64 0] (0, 0) _ rfl (by (with_reducible repeat (first | refine blk_drewN ?_ _ | refine blk_drew ?_ | refine blk_alloc ?_ _)); refine blk_put (cs := #[.slice none 0 0, .int .i64 0]) ?_ 1 _ rfl; (with_reducible repeat (first | refine blk_drewN ?_ _ | refine blk_drew ?_ | refine blk_alloc ?_ _)); refine blk_put (cs := #[.slice none 0 0, .int .i64 0]) ?_ 0 _ rfl; (with_reducible repeat (first | refine blk_drewN ?_ _ | refine blk_drew ?_ | refine blk_alloc ?_ _)); exact BK231.out) Try.underlying25 rfl (by kernel_rfl)) rfl ?_
        exact ⟨_, by first | rfl | (simp [errW_none, errW_some] <;> rfl) | (simp [*, errW_none, errW_some] <;> rfl), by first | exact Kd.R_nil _ _ _ _ _ | exact Kd.N_nil _ _ _ _ _ | exact Kd.V_nil _ _ _ _ _ | exact Kd.Q_nil _ _ _ _ _ | exact Kd.S_nil _ _ _ _ _, xw_ HB⟩

/-! ### laws_sameInts: function 21 -/
def laws_sameInts.l0 : Nat → List Int → List Int → Int → Int → Option (Bool)
 | 0, _, _, _, _ => none
 | k + 1, x0, x1, x12, x13 => if x13 < x12 then (if 0 ≤ x13 then (if x13 < (x0.length : Int) then (if x13 < (x1.length : Int) then (if (rd x0 x13) = (rd x1 x13) then (laws_sameInts.l0 k x0 x1 x12 (wrap64 (x13 + 1))) else (some false)) else (none)) else (none)) else (none)) else (some true)
def laws_sameInts.f (k : Nat) (l0 : List Int) (l1 : List Int) : Option (Bool) := if (l0.length : Int) = (l1.length : Int) then (laws_sameInts.l0 k l0 l1 (l0.length : Int) 0) else (some false)
theorem laws_sameInts.mono_l : ∀ k, (∀ y0 y1 y2 y3, LeO (laws_sameInts.l0 k y0 y1 y2 y3) (laws_sameInts.l0 (k + 1) y0 y1 y2 y3))
 | 0 => fun _ _ _ _ r h => by simp [laws_sameInts.l0] at h
 | k + 1 => by
  have ih0 := laws_sameInts.mono_l k
  ·intro y0 y1 y2 y3
   unfold laws_sameInts.l0
   repeat' first
   | (with_reducible exact ih0 _ _ _ _)
   | (with_reducible exact LeO.refl _)
   | (with_reducible exact LeO.none _)
   | (with_reducible refine LeO.ite ?_ ?_)
   | (with_reducible refine LeO.bind ?_ (fun _ => ?_))
   | exact ih0 _ _ _ _
   | exact LeO.none _
   | refine LeO.ite ?_ ?_
   | refine LeO.bind ?_ (fun _ => ?_)
theorem laws_sameInts.mono : ∀ a0 a1 k, LeO (laws_sameInts.f k a0 a1) (laws_sameInts.f (k + 1) a0 a1) := by
 intro a0 a1 k
 have ih0 := laws_sameInts.mono_l k
 unfold laws_sameInts.f
 repeat' first
   | (with_reducible exact ih0 _ _ _ _)
   | (with_reducible exact LeO.refl _)
   | (with_reducible exact LeO.none _)
   | (with_reducible refine LeO.ite ?_ ?_)
   | (with_reducible refine LeO.bind ?_ (fun _ => ?_))
   | exact ih0 _ _ _ _
   | exact LeO.none _
   | refine LeO.ite ?_ ?_
   | refine LeO.bind ?_ (fun _ => ?_)
set_option maxHeartbeats 8000000 in
set_option maxRecDepth 100000 in
theorem laws_sameInts.calls (k : Nat) (A0 : Option Addr) (c0 : Nat) (l0 : List Int) (A1 : Option Addr) (c1 : Nat) (l1 : List Int) (r : Bool) (w : World) (hr0 : Kd.C (Kd.int .i64) w A0 l0.length l0) (hc0 : l0.length ≤ c0) (hr1 : Kd.C (Kd.int .i64) w A1 l1.length l1) (hc1 : l1.length ≤ c1) (h : laws_sameInts.f k l0 l1 = some r) :
  Calls Try.prog 21 #[.slice A0 l0.length c0, .slice A1 l1.length c1] w fun e w' => e = .returned (.bool r) ∧ Drawn0 w w' := by
 have HR0 := Aside0.mk hr0
 have HC0 := Aside0.mk hc0
 clear hr0 hc0
 have HR1 := Aside0.mk hr1
 have HC1 := Aside0.mk hc1
 clear hr1 hc1
 have H : (if (l0.length : Int) = (l1.length : Int) then (laws_sameInts.l0 k l0 l1 (l0.length : Int) 0) else (some false)) = some r := h
 clear h
 by_cases c3 : (l0.length : Int) = (l1.length : Int)
 ·rw [if_pos c3] at H
  have c3b0 : ((l0.length : Int) == (l1.length : Int)) = true := beq_iff_eq.mpr c3
  have c3b1 : ((l0.length : Int) != (l1.length : Int)) = false := bne_eq_false_iff_eq.mpr c3
  have c3b2 : (l0.length == l1.length) = true := by first | simpa using c3 | (simp at c3 ⊢; omega)
  clear c3
  have H' := Aside0.mk H
  clear H
  go_enter Try.func21, Try.ntmps21
  go_wp2
  repeat (go_quiet (fail); try go_wp2)
  go_loopg [13] k (fun kq v13 w' => ∃ (x13_1 : Int), v13 = .int .i64 x13_1 ∧ Aside0 (laws_sameInts.l0 kq l0 l1 (l0.length : Int) x13_1 = some r) ∧ Aside0 (kq ≤ k) ∧ Drawn0 w w')
  case atStart => exact ⟨(0), (by first | rfl | (simp; done) | (simp [*]; done)), H', ⟨Nat.le_refl _⟩, by repeat (first | exact Drawn0.refl _ | apply Drawn0.step)⟩
  case round =>
   clear H'
   try clear c1
   try clear c2
   try clear p2
   try clear c3
   try clear c3b0
   try clear c3b1
   try clear c3b2
   obtain ⟨x13_1, rfl, HA, HK1, ⟨m1, rfl⟩⟩ := hrel
   cases gk with
   | zero => exact absurd HA.out (by simp [laws_sameInts.l0])
   | succ k1 =>
    have H := HA.out
    clear HA
    simp only [laws_sameInts.l0] at H
    by_cases c4 : x13_1 < (l0.length : Int)
    ·rw [if_pos c4] at H
     have c4b0 : decide (x13_1 < (l0.length : Int)) = true := decide_eq_true c4
     clear c4
     by_cases c5 : 0 ≤ x13_1
     ·rw [if_pos c5] at H
      have c5b0 : decide (0 ≤ x13_1) = true := decide_eq_true c5
      clear c5
      by_cases c6 : x13_1 < (l0.length : Int)
      ·rw [if_pos c6] at H
       have c6b0 : decide (x13_1 < (l0.length : Int)) = true := decide_eq_true c6
       clear c6
       by_cases c7 : x13_1 < (l1.length : Int)
       ·rw [if_pos c7] at H
        have c7b0 : decide (x13_1 < (l1.length : Int)) = true := decide_eq_true c7
        clear c7
        by_cases c8 : (rd l0 x13_1) = (rd l1 x13_1)
        ·rw [if_pos c8] at H
         have c8b0 : ((rd l0 x13_1) == (rd l1 x13_1)) = true := beq_iff_eq.mpr c8
         have c8b1 : ((rd l0 x13_1) != (rd l1 x13_1)) = false := bne_eq_false_iff_eq.mpr c8
         clear c8
         have H' := Aside0.mk H
         clear H
         have p246 : 0 ≤ (x13_1 : Int) := of_decide_eq_true (by first | (with_reducible assumption) | assumption)
         have q246 : x13_1 < (l0.length : Int) := of_decide_eq_true (by first | (with_reducible assumption) | assumption)
         obtain ⟨ad246, e246, hx246_0⟩ := Kd.at_int HR0.out x13_1 p246 q246
         cases e246
         replace p246 := eq_true p246
         replace q246 := eq_true q246
         have p247 : 0 ≤ (x13_1 : Int) := of_decide_eq_true (by first | (with_reducible assumption) | assumption)
         have q247 : x13_1 < (l1.length : Int) := of_decide_eq_true (by first | (with_reducible assumption) | assumption)
         obtain ⟨ad247, e247, hx247_0⟩ := Kd.at_int HR1.out x13_1 p247 q247
         cases e247
         replace p247 := eq_true p247
         replace q247 := eq_true q247
         go_wp2
         repeat (go_quiet (fail); try go_wp2)
         go_roundg k1
         case measure => have := HK1.out; omega
         case rel => exact ⟨(wrap64 (x13_1 + 1)), (by first | rfl | (simp; done) | (simp [*]; done)), H', ⟨by have := HK1.out; omega⟩, by repeat (first | exact Drawn0.refl _ | apply Drawn0.step)⟩
        ·rw [if_neg c8] at H
         have c8b0 : ((rd l0 x13_1) == (rd l1 x13_1)) = false := beq_eq_false_iff_ne.mpr c8
         have c8b1 : ((rd l0 x13_1) != (rd l1 x13_1)) = true := bne_iff_ne.mpr c8
         obtain rfl := Option.some.inj H
         have p246 : 0 ≤ (x13_1 : Int) := of_decide_eq_true (by first | (with_reducible assumption) | assumption)
         have q246 : x13_1 < (l0.length : Int) := of_decide_eq_true (by first | (with_reducible assumption) | assumption)
         obtain ⟨ad246, e246, hx246_0⟩ := Kd.at_int HR0.out x13_1 p246 q246
         cases e246
         replace p246 := eq_true p246
         replace q246 := eq_true q246
         have p247 : 0 ≤ (x13_1 : Int) := of_decide_eq_true (by first | (with_reducible assumption) | assumption)
         have q247 : x13_1 < (l1.length : Int) := of_decide_eq_true (by first | (with_reducible assumption) | assumption)
         obtain ⟨ad247, e247, hx247_0⟩ := Kd.at_int HR1.out x13_1 p247 q247
         cases e247
         replace p247 := eq_true p247
         replace q247 := eq_true q247
         go_wp2
         repeat (go_quiet (fail); try go_wp2)
         go_ret
         exact ⟨by first | rfl | (simp; done) | (simp [*]; done), by repeat (first | exact Drawn0.refl _ | apply Drawn0.step)⟩
       ·rw [if_neg c7] at H
        exact absurd H (by simp)
      ·rw [if_neg c6] at H
       exact absurd H (by simp)
     ·rw [if_neg c5] at H
      exact absurd H (by simp)
    ·rw [if_neg c4] at H
     have c4b0 : decide (x13_1 < (l0.length : Int)) = false := decide_eq_false c4
     clear c4
     obtain rfl := Option.some.inj H
     go_wp2
     repeat (go_quiet (fail); try go_wp2)
     go_ret
     exact ⟨by first | rfl | (simp; done) | (simp [*]; done), by repeat (first | exact Drawn0.refl _ | apply Drawn0.step)⟩
 ·rw [if_neg c3] at H
  have c3b0 : ((l0.length : Int) == (l1.length : Int)) = false := beq_eq_false_iff_ne.mpr c3
  have c3b1 : ((l0.length : Int) != (l1.length : Int)) = true := bne_iff_ne.mpr c3
  have c3b2 : (l0.length == l1.length) = false := by first | simpa using c3 | (simp at c3 ⊢; omega)
  obtain rfl := Option.some.inj H
  go_enter Try.func21, Try.ntmps21
  go_wp2
  repeat (go_quiet (fail); try go_wp2)
  go_ret
  exact ⟨by first | rfl | (simp; done) | (simp [*]; done), by repeat (first | exact Drawn0.refl _ | apply Drawn0.step)⟩

/-! ### laws_sameSketches: function 8 -/
def laws_sameSketches.f (k : Nat) (l0_0 : List Int) (a0_1 : Int) (l1_0 : List Int) (a1_1 : Int) : Option (Bool) := if a0_1 = a1_1 then ((laws_sameInts.f k l0_0 l1_0).bind fun t250 => (some t250)) else (some false)
theorem laws_sameSketches.mono : ∀ a0 a1 a2 a3 k, LeO (laws_sameSketches.f k a0 a1 a2 a3) (laws_sameSketches.f (k + 1) a0 a1 a2 a3) := by
 intro a0 a1 a2 a3 k
 unfold laws_sameSketches.f
 repeat' first
   | (with_reducible exact laws_sameInts.mono _ _ _)
   | (with_reducible exact LeO.refl _)
   | (with_reducible exact LeO.none _)
   | (with_reducible refine LeO.ite ?_ ?_)
   | (with_reducible refine LeO.bind ?_ (fun _ => ?_))
   | exact laws_sameInts.mono _ _ _
   | exact LeO.none _
   | refine LeO.ite ?_ ?_
   | refine LeO.bind ?_ (fun _ => ?_)
set_option maxHeartbeats 8000000 in
set_option maxRecDepth 100000 in
theorem laws_sameSketches.calls (k : Nat) (A0_0 : Option Addr) (c0_0 : Nat) (l0_0 : List Int) (a0_1 : Int) (A1_0 : Option Addr) (c1_0 : Nat) (l1_0 : List Int) (a1_1 : Int) (r : Bool) (w : World) (hr0_0 : Kd.C (Kd.int .i64) w A0_0 l0_0.length l0_0) (hc0_0 : l0_0.length ≤ c0_0) (hr1_0 : Kd.C (Kd.int .i64) w A1_0 l1_0.length l1_0) (hc1_0 : l1_0.length ≤ c1_0) (h : laws_sameSketches.f k l0_0 a0_1 l1_0 a1_1 = some r) :
  Calls Try.prog 8 #[.agg #[.slice A0_0 l0_0.length c0_0, .int .i64 a0_1], .agg #[.slice A1_0 l1_0.length c1_0, .int .i64 a1_1]] w fun e w' => e = .returned (.bool r) ∧ Below w.heap.size w w' := by
 have hu25 := Try.underlying25
 have HR0_0 := Aside0.mk hr0_0
 have HC0_0 := Aside0.mk hc0_0
 clear hr0_0 hc0_0
 have HR1_0 := Aside0.mk hr1_0
 have HC1_0 := Aside0.mk hc1_0
 clear hr1_0 hc1_0
 have HB := Aside0.mk (Below.refl w.heap.size w)
 have H : (if a0_1 = a1_1 then ((laws_sameInts.f k l0_0 l1_0).bind fun t250 => (some t250)) else (some false)) = some r := h
 clear h
 by_cases c3 : a0_1 = a1_1
 ·rw [if_pos c3] at H
  have c3b0 : (a0_1 == a1_1) = true := beq_iff_eq.mpr c3
  have c3b1 : (a0_1 != a1_1) = false := bne_eq_false_iff_eq.mpr c3
  clear c3
  replace H := Option.bind_eq_some_iff.mp H
  obtain ⟨t250, A40, H⟩ := H
  replace H : (some t250) = some r := H
  have A4 := Aside0.mk A40
  clear A40
  obtain rfl := Option.some.inj H
  go_enter Try.func8, Try.ntmps8
  go_wp2_with (first | ((with_reducible refine gate_dst (N := 2) rfl ?_); refine xbe_ (N := 2) (cs := #[.slice A0_0 l0_0.length c0_0, .int .i64 a0_1]) (t := 25) ?_; intro gb248 hg w5 hbox hb; have BK248 := Aside0.mk (hbox); have GW248 := xge_ HB hg; have GE248 := xge_ HB hg; replace HB := xws_ HB hb; clear hb hbox hg) | ((with_reducible refine gate_dst (N := 3) rfl ?_); refine xbe_ (N := 3) (cs := #[.slice A1_0 l1_0.length c1_0, .int .i64 a1_1]) (t := 25) ?_; intro gb249 hg w6 hbox hb; have BK249 := Aside0.mk (hbox); have GW249 := xge_ HB hg; have GE249 := xge_ HB hg; replace HB := xws_ HB hb; have NB248_249 := xlt_ BK248 hg; have NB249_248 := xgt_ BK248 hg; replace BK248 := xbb_ BK248 hb; clear hb hbox hg; have hnb7 := NB248_249.out; have hnc7 := NB249_248.out; have hcz8_0 : w6.cell? ⟨gb248, 0, none⟩ = some (.slice A0_0 l0_0.length c0_0) := xk_ BK248 0; have hcz8_1 : w6.cell? ⟨gb248, 1, none⟩ = some (.int .i64 a0_1) := xk_ BK248 1; have hfz8_0 := blk_frozen BK248.out 0; have hfz8_1 := blk_frozen BK248.out 1; have hcz9_0 : w6.cell? ⟨gb249, 0, none⟩ = some (.slice A1_0 l1_0.length c1_0) := xk_ BK249 0; have hcz9_1 : w6.cell? ⟨gb249, 1, none⟩ = some (.int .i64 a1_1) := xk_ BK249 1; have hfz9_0 := blk_frozen BK249.out 0; have hfz9_1 := blk_frozen BK249.out 1) | (go_at_call 21; (with_reducible refine (laws_sameInts.calls k _ _ l0_0 _ _ l1_0 t250 _ ?side1 ?side2 ?side3 ?side4 A4.out).mono ?_); (case side1 => exact xc_ ((Kd.C_below HR0_0.out HB.out))); (case side2 => exact HC0_0.out); (case side3 => exact xc_ ((Kd.C_below HR1_0.out HB.out))); (case side4 => exact HC1_0.out); rintro e w' ⟨rfl, ⟨nd, rfl⟩⟩))
  go_ret
  exact ⟨by first | rfl | (simp [errW_none, errW_some] <;> rfl) | (simp [*, errW_none, errW_some] <;> rfl), xw_ HB⟩
 ·rw [if_neg c3] at H
  have c3b0 : (a0_1 == a1_1) = false := beq_eq_false_iff_ne.mpr c3
  have c3b1 : (a0_1 != a1_1) = true := bne_iff_ne.mpr c3
  obtain rfl := Option.some.inj H
  go_enter Try.func8, Try.ntmps8
  go_wp2_with (first | ((with_reducible refine gate_dst (N := 2) rfl ?_); refine xbe_ (N := 2) (cs := #[.slice A0_0 l0_0.length c0_0, .int .i64 a0_1]) (t := 25) ?_; intro gb248 hg w10 hbox hb; have BK248 := Aside0.mk (hbox); have GW248 := xge_ HB hg; have GE248 := xge_ HB hg; replace HB := xws_ HB hb; clear hb hbox hg) | ((with_reducible refine gate_dst (N := 3) rfl ?_); refine xbe_ (N := 3) (cs := #[.slice A1_0 l1_0.length c1_0, .int .i64 a1_1]) (t := 25) ?_; intro gb249 hg w11 hbox hb; have BK249 := Aside0.mk (hbox); have GW249 := xge_ HB hg; have GE249 := xge_ HB hg; replace HB := xws_ HB hb; have NB248_249 := xlt_ BK248 hg; have NB249_248 := xgt_ BK248 hg; replace BK248 := xbb_ BK248 hb; clear hb hbox hg; have hnb12 := NB248_249.out; have hnc12 := NB249_248.out; have hcz13_0 : w11.cell? ⟨gb248, 0, none⟩ = some (.slice A0_0 l0_0.length c0_0) := xk_ BK248 0; have hcz13_1 : w11.cell? ⟨gb248, 1, none⟩ = some (.int .i64 a0_1) := xk_ BK248 1; have hfz13_0 := blk_frozen BK248.out 0; have hfz13_1 := blk_frozen BK248.out 1; have hcz14_0 : w11.cell? ⟨gb249, 0, none⟩ = some (.slice A1_0 l1_0.length c1_0) := xk_ BK249 0; have hcz14_1 : w11.cell? ⟨gb249, 1, none⟩ = some (.int .i64 a1_1) := xk_ BK249 1; have hfz14_0 := blk_frozen BK249.out 0; have hfz14_1 := blk_frozen BK249.out 1))
  go_ret
  exact ⟨by first | rfl | (simp [errW_none, errW_some] <;> rfl) | (simp [*, errW_none, errW_some] <;> rfl), xw_ HB⟩

end Go.Proofs.Ytemeajidcggniaa.PFnSketch
