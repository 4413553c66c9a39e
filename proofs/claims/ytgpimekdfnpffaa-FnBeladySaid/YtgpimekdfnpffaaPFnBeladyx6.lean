-- Written by a program of this project (xprint.py) out of the translation; Lean checks it.
import Derived.Test.YtgpimekdfnpffaaPFnBeladyx0
import Derived.Test.YtgpimekdfnpffaaPFnBeladyx1
import Derived.Test.YtgpimekdfnpffaaPFnBeladyx2
import Derived.Test.YtgpimekdfnpffaaPFnBeladyx4
namespace Go.Proofs.Ytgpimekdfnpffaa.PFnBelady
open Go.RowKit Go.Proofs.YtgpimekdfnpffaaW.PrintWords Go.Proofs.YtgpimekdfnpffaaW.PrintLast Go.Proofs.YtgpimekdfnpffaaW.PrintMore
attribute [local go_sem] max2_int min2_int max_two min_two max_three min_three max_four min_four   -- for this text's walks alone
set_option linter.unusedVariables false
set_option linter.unusedSimpArgs false

/-! ### spec_DrawPlayChoices: function 28 -/
def spec_DrawPlayChoices.l0 : Nat → List Int → List Int → Int → List Int → Int → Int → Option (List Int × Int × List Int)
  | 0, _, _, _, _, _, _ => none
  | k + 1, x6, x7, x8, x249000, x249001, x249002 => if x8 > 0 then ((spec_l1Cur_pick.f x249000 x249001 x249002 9).bind fun bt257 => (if x7.length < 17592186044416 then (spec_DrawPlayChoices.l0 k x6 (x7 ++ [bt257.1]) (wrap64 (x8 - 1)) x249000 bt257.2.1 bt257.2.2) else (none))) else (if (x7.length : Int) > 0 then ((spec_l1Cur_one.f x249000 x249001 x249002 40).bind fun bt263 => (if bt263.1 = true then (if 0 < (x7.length : Int) then ((spec_l1Cur_size.f x249000 bt263.2.1 bt263.2.2).bind fun bt267 => (some (x6, bt267.1, (x7.set (0 : Int).toNat (-1))))) else (none)) else ((spec_l1Cur_size.f x249000 bt263.2.1 bt263.2.2).bind fun bt270 => (some (x6, bt270.1, x7))))) else ((spec_l1Cur_size.f x249000 x249001 x249002).bind fun bt273 => (some (x6, bt273.1, x7))))
def spec_DrawPlayChoices.f (k : Nat) (l0 : List Int) : Option (List Int × Int × List Int) := (spec_l1Cur_refs.f k l0 0 0).bind fun bt249 => ((spec_l1Cur_pick.f l0 bt249.2.1 bt249.2.2 30).bind fun bt254 => (spec_DrawPlayChoices.l0 k bt249.1 ([] : List Int) bt254.1 l0 bt254.2.1 bt254.2.2))
theorem spec_DrawPlayChoices.mono_l : ∀ k, (∀ y0 y1 y2 y3 y4 y5, LeO (spec_DrawPlayChoices.l0 k y0 y1 y2 y3 y4 y5) (spec_DrawPlayChoices.l0 (k + 1) y0 y1 y2 y3 y4 y5))
  | 0 => fun _ _ _ _ _ _ r h => by simp [spec_DrawPlayChoices.l0] at h
  | k + 1 => by
    have ih0 := spec_DrawPlayChoices.mono_l k
    · intro y0 y1 y2 y3 y4 y5
      unfold spec_DrawPlayChoices.l0
      repeat' first
      | (with_reducible exact ih0 _ _ _ _ _ _)
      | (with_reducible exact spec_l1Cur_refs.mono _ _ _ _)
      | (with_reducible exact LeO.refl _)
      | (with_reducible exact LeO.none _)
      | (with_reducible refine LeO.ite ?_ ?_)
      | (with_reducible refine LeO.bind ?_ (fun _ => ?_))
      | exact ih0 _ _ _ _ _ _
      | exact spec_l1Cur_refs.mono _ _ _ _
      | exact LeO.none _
      | refine LeO.ite ?_ ?_
      | refine LeO.bind ?_ (fun _ => ?_)
theorem spec_DrawPlayChoices.mono : ∀ a0 k, LeO (spec_DrawPlayChoices.f k a0) (spec_DrawPlayChoices.f (k + 1) a0) := by
  intro a0 k
  have ih0 := spec_DrawPlayChoices.mono_l k
  unfold spec_DrawPlayChoices.f
  repeat' first
      | (with_reducible exact ih0 _ _ _ _ _ _)
      | (with_reducible exact spec_l1Cur_refs.mono _ _ _ _)
      | (with_reducible exact LeO.refl _)
      | (with_reducible exact LeO.none _)
      | (with_reducible refine LeO.ite ?_ ?_)
      | (with_reducible refine LeO.bind ?_ (fun _ => ?_))
      | exact ih0 _ _ _ _ _ _
      | exact spec_l1Cur_refs.mono _ _ _ _
      | exact LeO.none _
      | refine LeO.ite ?_ ?_
      | refine LeO.bind ?_ (fun _ => ?_)
set_option maxHeartbeats 8000000 in
set_option maxRecDepth 100000 in
theorem spec_DrawPlayChoices.calls (k : Nat) (A0 : Option Addr) (c0 : Nat) (l0 : List Int) (r1 : List Int) (r2 : Int) (r3 : List Int) (w : World) (hr0 : Kd.C (Kd.int .u8) w A0 l0.length l0) (hc0 : l0.length ≤ c0) (h : spec_DrawPlayChoices.f k l0 = some (r1, r2, r3)) :
    Calls Try.prog 28 #[.slice A0 l0.length c0] w fun e w' => ∃ v0_ v2_ : Value, e = .returned (.tuple #[v0_, .int .i64 r2, v2_]) ∧ Kd.R (Kd.int .i64) 3 w' w.heap.size (fun k_ => some k_ ≠ (v2_ : Value).ownBlock) v0_ r1 ∧ Kd.R (Kd.int .i64) 3 w' w.heap.size (fun k_ => some k_ ≠ (v0_ : Value).ownBlock) v2_ r3 ∧ Below w.heap.size w w' := by
  have hu50 := Try.underlying50
  have HR0 := Aside0.mk hr0
  have HC0 := Aside0.mk hc0
  clear hr0 hc0
  have HB := Aside0.mk (Below.refl w.heap.size w)
  have H : ((spec_l1Cur_refs.f k l0 0 0).bind fun bt249 => ((spec_l1Cur_pick.f l0 bt249.2.1 bt249.2.2 30).bind fun bt254 => (spec_DrawPlayChoices.l0 k bt249.1 ([] : List Int) bt254.1 l0 bt254.2.1 bt254.2.2))) = some (r1, r2, r3) := h
  clear h
  replace H := Option.bind_eq_some_iff.mp H
  obtain ⟨⟨t249, t252, t253⟩, A20, H⟩ := H
  replace H : ((spec_l1Cur_pick.f l0 t252 t253 30).bind fun bt254 => (spec_DrawPlayChoices.l0 k t249 ([] : List Int) bt254.1 l0 bt254.2.1 bt254.2.2)) = some (r1, r2, r3) := H
  have A2 := Aside0.mk A20
  clear A20
  replace H := Option.bind_eq_some_iff.mp H
  obtain ⟨⟨t254, t255, t256⟩, A30, H⟩ := H
  replace H : (spec_DrawPlayChoices.l0 k t249 ([] : List Int) t254 l0 t255 t256) = some (r1, r2, r3) := H
  have A3 := Aside0.mk A30
  clear A30
  have H' := Aside0.mk H
  clear H
  go_enter Try.func28, Try.ntmps28
  go_wp2_with (first | ((with_reducible refine gate_dst (N := 11) rfl ?_); refine box_event ?hg (N := 11) ?hd (cs := #[.slice A0 l0.length c0, .int .i64 0, .int .u64 0]) (t := 50) ?hr ?_; (case hd => rfl); (case hg => rfl); (case hr => first | (go_simp; done) | (go_simp; rfl)); intro gb248 hg w4 hbox hb; have n0_ := Aside0.mk (below_step (by repeat (first | (with_reducible first | exact HB.out | apply below_alloc | apply pw_below_drewN | apply below_drew1) | exact HB.out)) hb); have n1_ := Aside0.mk (hbox); have n2_ := Aside0.mk ((by rw [hg]; exact (below_size (by repeat (first | (with_reducible first | exact HB.out | apply below_alloc | apply pw_below_drewN | apply below_drew1) | exact HB.out))) : w.heap.size ≤ gb248)); have n3_ := Aside0.mk ((by rw [hg]; exact (below_size (by repeat (first | (with_reducible first | exact HB.out | apply below_alloc | apply pw_below_drewN | apply below_drew1) | exact HB.out))) : w.heap.size ≤ gb248)); clear HB; have HB := n0_; have BK248 := n1_; have GW248 := n2_; have GE248 := n3_; clear n0_ n1_ n2_ n3_; clear hb hbox hg) | ((with_reducible refine gate_callee (f := 35) rfl ?_); refine goesL_ (some 13) rfl rfl Try.func35 (by kernel_rfl) rfl #[.pointer (some ⟨gb248, 0, none⟩)] rfl (by (try simp only [List.map_toArray, List.map_cons, List.map_nil]); first | done | rfl | (simp only [List.length_drop, List.length_take]; rfl)) ?_; (with_reducible refine (spec_l1Cur_refs.calls k gb248 l0 0 0 t249 t252 t253 w _ ?side1 ?side2 A2.out).mono ?_); (case side1 => exact (show IsS50 w _ gb248 l0 0 0 from ⟨_, _, (by (with_reducible repeat (first | refine blk_drewN ?_ _ | refine blk_drew ?_ | refine blk_alloc ?_ _)); exact BK248.out), GE248.out, HR0.out⟩)); (case side2 => repeat (first | (with_reducible first | exact HB.out | apply below_alloc | apply pw_below_drewN | apply below_drew1 | refine below_set ?_ (IsS50.ge HI248.out)) | exact HB.out)); rintro e w5 ⟨v250, rfl, ho0, hi, hb, hk⟩; refine ⟨_, rfl, ?_⟩; have n0_ := Aside0.mk (Kd.R_lower ho0 (below_size (by repeat (first | (with_reducible first | exact HB.out | apply below_alloc | apply pw_below_drewN | apply below_drew1 | refine below_set ?_ (IsS50.ge HI248.out)) | exact HB.out)))); have n1_ := Aside0.mk (hb); have n2_ := Aside0.mk (hi); clear HB; have HO251 := n0_; have HB := n1_; have HI248 := n2_; clear n0_ n1_ n2_; (try clear hb); (try clear hb2); (try clear hk); (try clear hi); (try clear ho0)) | ((with_reducible refine gate_callee (f := 48) rfl ?_); refine goesL_ (some 15) rfl rfl Try.func48 (by kernel_rfl) rfl #[.pointer (some ⟨gb248, 0, none⟩), .int .i64 30] rfl (by (try simp only [List.map_toArray, List.map_cons, List.map_nil]); first | done | rfl | (simp only [List.length_drop, List.length_take]; rfl)) ?_; (with_reducible refine (spec_l1Cur_pick.calls gb248 l0 t252 t253 30 t254 t255 t256 w _ ?side1 ?side2 A3.out).mono ?_); (case side1 => repeat (first | (with_reducible first | exact HI248.out | apply IsS50.alloc | apply IsS50.drewN | apply IsS50.drew | apply IsS50.set_1 | apply IsS50.set_2) | exact HI248.out)); (case side2 => repeat (first | (with_reducible first | exact HB.out | apply below_alloc | apply pw_below_drewN | apply below_drew1 | refine below_set ?_ (IsS50.ge HI248.out)) | exact HB.out)); rintro e w6 ⟨rfl, hi, hb, hk⟩; refine ⟨_, rfl, ?_⟩; have n0_ := Aside0.mk (Kd.R_mono (Kd.R_keep (IsS50.apart (show IsS50 w _ gb248 l0 t252 t253 from by repeat (first | (with_reducible first | exact HI248.out | apply IsS50.alloc | apply IsS50.drewN | apply IsS50.drew | apply IsS50.set_1 | apply IsS50.set_2) | exact HI248.out)) (by (with_reducible repeat (first | apply Kd.R_alloc | apply Kd.R_drewN | apply Kd.R_drew)); exact HO251.out) (by decide)) hk (fun _ h => h.2)) (fun _ h => h.1)); have n1_ := Aside0.mk (hb); have n2_ := Aside0.mk (hi); clear HO251; clear HB; clear HI248; have HO251 := n0_; have HB := n1_; have HI248 := n2_; clear n0_ n1_ n2_; (try clear hb); (try clear hb2); (try clear hk); (try clear hi)))
  go_loopg [7, 8] k (fun kq v7 v8 w' => ∃ (x7_1 : List Int) (x8_1 : Int) (x249001_1 : Int) (x249002_1 : Int), v8 = .int .i64 x8_1 ∧ Aside0 (spec_DrawPlayChoices.l0 kq t249 x7_1 x8_1 l0 x249001_1 x249002_1 = some (r1, r2, r3)) ∧ Aside0 (kq ≤ k) ∧ Aside0 (Kd.R (Kd.int .i64) 3 w' w.heap.size (fun k_ => some k_ ≠ (v7 : Value).ownBlock) v250 t249) ∧ Aside0 (Kd.R (Kd.int .i64) 3 w' w.heap.size (fun k_ => some k_ ≠ (v250 : Value).ownBlock) v7 x7_1) ∧ Aside0 (IsS50 w w' gb248 l0 x249001_1 x249002_1) ∧ Aside0 (Below w.heap.size w w'))
  case atStart => exact ⟨(([] : List Int)), (t254), (t255), (t256), (by first | rfl | (simp; done) | (simp [*]; done)), H', ⟨Nat.le_refl _⟩, ⟨by (with_reducible repeat (first | apply Kd.R_alloc | apply Kd.R_drewN | apply Kd.R_drew)); exact Kd.R_mono HO251.out (fun _ hk => (by simp [Value.ownBlock]))⟩, ⟨by first | exact Kd.R_nil _ _ _ _ _ | exact Kd.N_nil _ _ _ _ _ | exact Kd.V_nil _ _ _ _ _ | exact Kd.Q_nil _ _ _ _ _ | exact Kd.S_nil _ _ _ _ _⟩, ⟨by repeat (first | (with_reducible first | exact HI248.out | apply IsS50.alloc | apply IsS50.drewN | apply IsS50.drew | apply IsS50.set_1 | apply IsS50.set_2) | exact HI248.out)⟩, ⟨by repeat (first | (with_reducible first | exact HB.out | apply below_alloc | apply pw_below_drewN | apply below_drew1 | refine below_set ?_ (IsS50.ge HI248.out)) | exact HB.out)⟩⟩
  case round =>
    clear H'
    try clear c2
    try clear p2
    try clear c3
    try clear c4
    obtain ⟨x7_1, x8_1, x249001_1, x249002_1, rfl, HA, HK1, HO_6, HO_7, HI248, HB⟩ := hrel
    cases gk with
    | zero => exact absurd HA.out (by simp [spec_DrawPlayChoices.l0])
    | succ k1 =>
      have H := HA.out
      clear HA
      simp only [spec_DrawPlayChoices.l0] at H
      by_cases c7 : x8_1 > 0
      · rw [if_pos c7] at H
        have c7b0 : decide (0 < x8_1) = true := decide_eq_true c7
        clear c7
        replace H := Option.bind_eq_some_iff.mp H
        obtain ⟨⟨t257, t258, t259⟩, A80, H⟩ := H
        replace H : (if x7_1.length < 17592186044416 then (spec_DrawPlayChoices.l0 k1 t249 (x7_1 ++ [t257]) (wrap64 (x8_1 - 1)) l0 t258 t259) else (none)) = some (r1, r2, r3) := H
        have A8 := Aside0.mk A80
        clear A80
        by_cases c9 : x7_1.length < 17592186044416
        · rw [if_pos c9] at H
          have LMc9 := Aside0.mk c9
          clear c9
          obtain ⟨y260, hy260⟩ : ∃ y_ : List Int, y_ = (x7_1 ++ [t257]) := ⟨_, rfl⟩
          replace H : (spec_DrawPlayChoices.l0 k1 t249 y260 (wrap64 (x8_1 - 1)) l0 t258 t259) = some (r1, r2, r3) := by first | (rw [hy260]; with_reducible exact H) | (have H2_ := (Option.bind_some _ _).symm.trans H; rw [hy260]; with_reducible exact H2_) | (have H2_ := (Option.bind_some _ _).symm.trans H; with_reducible exact H2_) | with_reducible exact H | (rw [hy260]; exact H) | exact H
          have Ny260 := Aside0.mk hy260
          clear hy260
          have H' := Aside0.mk H
          clear H
          go_wp2_with (first | ((with_reducible refine gate_callee (f := 48) rfl ?_); refine goesL_ (some 22) rfl rfl Try.func48 (by kernel_rfl) rfl #[.pointer (some ⟨gb248, 0, none⟩), .int .i64 9] rfl (by (try simp only [List.map_toArray, List.map_cons, List.map_nil]); first | done | rfl | (simp only [List.length_drop, List.length_take]; rfl)) ?_; (with_reducible refine (spec_l1Cur_pick.calls gb248 l0 x249001_1 x249002_1 9 t257 t258 t259 w _ ?side1 ?side2 A8.out).mono ?_); (case side1 => repeat (first | (with_reducible first | exact HI248.out | apply IsS50.alloc | apply IsS50.drewN | apply IsS50.drew | apply IsS50.set_1 | apply IsS50.set_2) | exact HI248.out)); (case side2 => repeat (first | (with_reducible first | exact HB.out | apply below_alloc | apply pw_below_drewN | apply below_drew1 | refine below_set ?_ (IsS50.ge HI248.out)) | exact HB.out)); rintro e w10 ⟨rfl, hi, hb, hk⟩; refine ⟨_, rfl, ?_⟩; have n0_ := Aside0.mk (Kd.R_mono (Kd.R_keep (IsS50.apart (show IsS50 w _ gb248 l0 x249001_1 x249002_1 from by repeat (first | (with_reducible first | exact HI248.out | apply IsS50.alloc | apply IsS50.drewN | apply IsS50.drew | apply IsS50.set_1 | apply IsS50.set_2) | exact HI248.out)) (by (with_reducible repeat (first | apply Kd.R_alloc | apply Kd.R_drewN | apply Kd.R_drew)); exact HO_6.out) (by decide)) hk (fun _ h => h.2)) (fun _ h => h.1)); have n1_ := Aside0.mk (Kd.R_mono (Kd.R_keep (IsS50.apart (show IsS50 w _ gb248 l0 x249001_1 x249002_1 from by repeat (first | (with_reducible first | exact HI248.out | apply IsS50.alloc | apply IsS50.drewN | apply IsS50.drew | apply IsS50.set_1 | apply IsS50.set_2) | exact HI248.out)) (by (with_reducible repeat (first | apply Kd.R_alloc | apply Kd.R_drewN | apply Kd.R_drew)); exact HO_7.out) (by decide)) hk (fun _ h => h.2)) (fun _ h => h.1)); have n2_ := Aside0.mk (hb); have n3_ := Aside0.mk (hi); clear HO_6; clear HO_7; clear HB; clear HI248; have HO_6 := n0_; have HO_7 := n1_; have HB := n2_; have HI248 := n3_; clear n0_ n1_ n2_ n3_; (try clear hb); (try clear hb2); (try clear hk); (try clear hi)) | ((with_reducible refine gate_builtin (b := .append) (xs := #[.tmp 20, .tmp 23]) rfl ?_); at_builtin; refine Kd.R_append (Kd.int .i64) (w0 := w) w.heap.size rfl (.tmp 20) (.tmp 23) 23 3 (.int .i64 0) 8 rfl Try.underlying23 info3 rfl (by decide) (by omega) u7 x7_1 t257 [.int .i64 t257] (fun k_ => some k_ ≠ (v250 : Value).ownBlock) (fun _ => False) rfl rfl ?aP (fun _ hk => hk.elim) ?aF ?aO ?aB ?aS ?aL ?_; (case aP => exact rfl); (case aB => exact (by repeat (first | (with_reducible first | exact HB.out | apply below_alloc | apply pw_below_drewN | apply below_drew1 | refine below_set ?_ (IsS50.ge HI248.out)) | exact HB.out))); (case aF => exact (fun k_ hk => Kd.fresh' (Kd.R_lt (by (with_reducible repeat (first | apply Kd.R_alloc | apply Kd.R_drewN | apply Kd.R_drew)); exact HO_6.out)) k_ hk)); (case aO => exact (by (with_reducible repeat (first | apply Kd.R_alloc | apply Kd.R_drewN | apply Kd.R_drew)); exact HO_7.out)); (case aS => exact (below_size (by repeat (first | (with_reducible first | exact HB.out | apply below_alloc | apply pw_below_drewN | apply below_drew1 | refine below_set ?_ (IsS50.ge HI248.out)) | exact HB.out)))); (case aL => have := LMc9.out; omega); intro v261 w11 ho hb hg hat; rw [← Ny260.out] at ho; have n0_ := Aside0.mk (Kd.R_after (ok := (fun _ => True)) (by (with_reducible repeat (first | apply Kd.R_alloc | apply Kd.R_drewN | apply Kd.R_drew)); exact Kd.R_mono HO_6.out (fun _ hk => ⟨trivial, hk⟩)) hg hat); have n1_ := Aside0.mk (IsS50.grown (by repeat (first | (with_reducible first | exact HI248.out | apply IsS50.alloc | apply IsS50.drewN | apply IsS50.drew | apply IsS50.set_1 | apply IsS50.set_2) | exact HI248.out)) hg (IsS50.own_ne HI248.out HO_7.out (by decide))); have n2_ := Aside0.mk (hb); have n3_ := Aside0.mk (ho); clear HO_6; clear HI248; clear HB; clear HO_7; have HO_6 := n0_; have HI248 := n1_; have HB := n2_; have HO262 := n3_; clear n0_ n1_ n2_ n3_; clear ho hb hg hat))
          go_roundg k1
          case measure => have := HK1.out; omega
          case rel => exact ⟨(y260), (wrap64 (x8_1 - 1)), (t258), (t259), (by first | rfl | (simp; done) | (simp [*]; done)), H', ⟨by have := HK1.out; omega⟩, ⟨by (with_reducible repeat (first | apply Kd.R_alloc | apply Kd.R_drewN | apply Kd.R_drew)); exact Kd.R_mono HO_6.out (fun _ hk => hk.2)⟩, ⟨by (with_reducible repeat (first | apply Kd.R_alloc | apply Kd.R_drewN | apply Kd.R_drew)); exact HO262.out⟩, ⟨by repeat (first | (with_reducible first | exact HI248.out | apply IsS50.alloc | apply IsS50.drewN | apply IsS50.drew | apply IsS50.set_1 | apply IsS50.set_2) | exact HI248.out)⟩, ⟨by repeat (first | (with_reducible first | exact HB.out | apply below_alloc | apply pw_below_drewN | apply below_drew1 | refine below_set ?_ (IsS50.ge HI248.out)) | exact HB.out)⟩⟩
        · rw [if_neg c9] at H
          exact absurd H (by simp)
      · rw [if_neg c7] at H
        have c7b0 : decide (0 < x8_1) = false := decide_eq_false c7
        clear c7
        by_cases c12 : (x7_1.length : Int) > 0
        · rw [if_pos c12] at H
          have c12b0 : decide (0 < (x7_1.length : Int)) = true := decide_eq_true c12
          have c12b1 : decide (0 < x7_1.length) = true := decide_eq_true (by omega)
          clear c12
          replace H := Option.bind_eq_some_iff.mp H
          obtain ⟨⟨t263, t264, t265⟩, A130, H⟩ := H
          replace H : (if t263 = true then (if 0 < (x7_1.length : Int) then ((spec_l1Cur_size.f l0 t264 t265).bind fun bt267 => (some (t249, bt267.1, (x7_1.set (0 : Int).toNat (-1))))) else (none)) else ((spec_l1Cur_size.f l0 t264 t265).bind fun bt270 => (some (t249, bt270.1, x7_1)))) = some (r1, r2, r3) := H
          have A13 := Aside0.mk A130
          clear A130
          by_cases c14 : t263 = true
          · subst c14
            have H1 : (if 0 < (x7_1.length : Int) then ((spec_l1Cur_size.f l0 t264 t265).bind fun bt267 => (some (t249, bt267.1, (x7_1.set (0 : Int).toNat (-1))))) else (none)) = some (r1, r2, r3) := by rw [if_pos rfl] at H; exact H
            clear H
            have H := H1
            clear H1
            by_cases c15 : 0 < (x7_1.length : Int)
            · rw [if_pos c15] at H
              have c15b0 : decide (0 < (x7_1.length : Int)) = true := decide_eq_true c15
              have c15b1 : decide (0 < x7_1.length) = true := decide_eq_true (by omega)
              clear c15
              obtain ⟨y266, hy266⟩ : ∃ y_ : List Int, y_ = (x7_1.set (0 : Int).toNat (-1)) := ⟨_, rfl⟩
              replace H : ((spec_l1Cur_size.f l0 t264 t265).bind fun bt267 => (some (t249, bt267.1, y266))) = some (r1, r2, r3) := by first | (rw [hy266]; with_reducible exact H) | (have H2_ := (Option.bind_some _ _).symm.trans H; rw [hy266]; with_reducible exact H2_) | (have H2_ := (Option.bind_some _ _).symm.trans H; with_reducible exact H2_) | with_reducible exact H | (rw [hy266]; exact H) | exact H
              have Ny266 := Aside0.mk hy266
              clear hy266
              replace H := Option.bind_eq_some_iff.mp H
              obtain ⟨⟨t267, t268, t269⟩, A170, H⟩ := H
              replace H : (some (t249, t267, y266)) = some (r1, r2, r3) := H
              have A17 := Aside0.mk A170
              clear A170
              simp only [Option.some.injEq, Prod.mk.injEq] at H
              obtain ⟨rfl, rfl, rfl⟩ := H
              obtain ⟨Ao18, co18, eo18⟩ := Kd.R_slice HO_7.out
              subst eo18
              go_wp2_with (first | (go_at_call 47; (with_reducible refine (spec_l1Cur_one.calls gb248 l0 x249001_1 x249002_1 40 true t264 t265 w _ ?side1 ?side2 A13.out).mono ?_); (case side1 => repeat (first | (with_reducible first | exact HI248.out | apply IsS50.alloc | apply IsS50.drewN | apply IsS50.drew | apply IsS50.set_1 | apply IsS50.set_2) | exact HI248.out)); (case side2 => repeat (first | (with_reducible first | exact HB.out | apply below_alloc | apply pw_below_drewN | apply below_drew1 | refine below_set ?_ (IsS50.ge HI248.out)) | exact HB.out)); rintro e w19 ⟨rfl, hi, hb, hk⟩; have n0_ := Aside0.mk (Kd.R_mono (Kd.R_keep (IsS50.apart (show IsS50 w _ gb248 l0 x249001_1 x249002_1 from by repeat (first | (with_reducible first | exact HI248.out | apply IsS50.alloc | apply IsS50.drewN | apply IsS50.drew | apply IsS50.set_1 | apply IsS50.set_2) | exact HI248.out)) (by (with_reducible repeat (first | apply Kd.R_alloc | apply Kd.R_drewN | apply Kd.R_drew)); exact HO_6.out) (by decide)) hk (fun _ h => h.2)) (fun _ h => h.1)); have n1_ := Aside0.mk (Kd.R_mono (Kd.R_keep (IsS50.apart (show IsS50 w _ gb248 l0 x249001_1 x249002_1 from by repeat (first | (with_reducible first | exact HI248.out | apply IsS50.alloc | apply IsS50.drewN | apply IsS50.drew | apply IsS50.set_1 | apply IsS50.set_2) | exact HI248.out)) (by (with_reducible repeat (first | apply Kd.R_alloc | apply Kd.R_drewN | apply Kd.R_drew)); exact HO_7.out) (by decide)) hk (fun _ h => h.2)) (fun _ h => h.1)); have n2_ := Aside0.mk (hb); have n3_ := Aside0.mk (hi); clear HO_6; clear HO_7; clear HB; clear HI248; have HO_6 := n0_; have HO_7 := n1_; have HB := n2_; have HI248 := n3_; clear n0_ n1_ n2_ n3_; (try clear hb); (try clear hb2); (try clear hk); (try clear hi); have p16 : 0 ≤ (0 : Int) := (by omega); have q16 : (0 : Int) < ((x7_1.length : Int) : Int) := of_decide_eq_true (by first | (with_reducible assumption) | assumption); have qi16 : (0 < x7_1.length) = True := eq_true (by omega); obtain ⟨go16, co16, eo16, gb16, gl16, cl16, HG16⟩ := Kd.R_form HO_7.out (by omega); (first | cases eo16 | (injection eo16 with ea_ en_ ec_; (first | subst ea_ | (injection ea_ with ea_; subst ea_)); subst ec_; clear en_)); have GB16 := Aside0.mk gb16; have GG16 := Aside0.mk HG16; clear gb16 gl16 HG16; obtain ⟨hx16_0, hf16_0⟩ := Kd.R_celln 0 HO_7.out (0 : Int) p16 q16; (try rw [show ((0 : Int)).toNat = 0 from rfl] at hx16_0); (try simp only [Nat.reduceMul, Nat.zero_mul, Nat.zero_add, Nat.reduceAdd] at hx16_0); (try rw [show ((0 : Int)).toNat = 0 from rfl] at hf16_0); (try simp only [Nat.reduceMul, Nat.zero_mul, Nat.zero_add, Nat.reduceAdd] at hf16_0); replace p16 := eq_true p16; replace q16 := eq_true q16; obtain ⟨hy20_, hz20_⟩ := Kd.R_celln 0 HO_7.out (0 : Int) (by omega) (of_decide_eq_true (by first | (with_reducible assumption) | assumption)); (try simp only [Int.reduceToNat, Int.toNat_zero, Int.toNat_ofNat, Nat.reduceMul, Nat.zero_mul, Nat.zero_add] at hy20_ hz20_); (try rw [show ((0 : Int)).toNat = 0 from rfl] at hy20_); (try rw [show ((0 : Int)).toNat = 0 from rfl] at hz20_); have HP20 := Kd.R_putg HO_7.out (0 : Int) (-1)) | ((with_reducible refine gate_store (t := 3) (p := 33) rfl ?_); refine store_event (t := 3) (p := 33) (v := ?vo_w21) (w1 := (w19.setCell ⟨go16, (0 : Int).toNat, none⟩ (.int .i64 (-1)))) ?hg ?ho ?hn ?hr ?_; (case ho => rfl); (case hg => rfl); (case hn => rfl); (case hr => first | (go_simp; done) | (go_simp; rfl)); intro w21 hw; have hg : w19.grownBy w21 (some go16) := (by rw [hw]; exact HP20.2); have hp_ : Kd.R (Kd.int .i64) 3 w21 w.heap.size (fun k_ => some k_ ≠ (v250 : Value).ownBlock) (.slice (some ⟨go16, 0, none⟩) x7_1.length co18) y266 := (by rw [hw, Ny266.out]; exact HP20.1); clear HP20; have n0_ := Aside0.mk (Kd.R_after (v := (.slice (some ⟨go16, 0, none⟩) x7_1.length co18)) (v1 := (.slice (some ⟨go16, 0, none⟩) x7_1.length co18)) (ok := (fun _ => True)) (by (with_reducible repeat (first | apply Kd.R_alloc | apply Kd.R_drewN | apply Kd.R_drew)); exact Kd.R_mono HO_6.out (fun _ hk => ⟨trivial, hk⟩)) hg (.inl rfl)); have n1_ := Aside0.mk (hp_); have n2_ := Aside0.mk (IsS50.grown (by repeat (first | (with_reducible first | exact HI248.out | apply IsS50.alloc | apply IsS50.drewN | apply IsS50.drew | apply IsS50.set_1 | apply IsS50.set_2) | exact HI248.out)) hg (IsS50.own_ne HI248.out HO_7.out (by decide))); have n3_ := Aside0.mk ((by rw [hw]; exact below_set (HB.out) GB16.out : Below w.heap.size w w21)); clear HO_6; clear HO_7; clear HI248; clear HB; have HO_6 := n0_; have HO_7 := n1_; have HI248 := n2_; have HB := n3_; clear n0_ n1_ n2_ n3_; clear hg hw hp_) | ((with_reducible refine gate_callee (f := 36) rfl ?_); refine goesL_ (some 36) rfl rfl Try.func36 (by kernel_rfl) rfl #[.pointer (some ⟨gb248, 0, none⟩)] rfl (by (try simp only [List.map_toArray, List.map_cons, List.map_nil]); first | done | rfl | (simp only [List.length_drop, List.length_take]; rfl)) ?_; (with_reducible refine (spec_l1Cur_size.calls gb248 l0 t264 t265 t267 t268 t269 w _ ?side1 ?side2 A17.out).mono ?_); (case side1 => repeat (first | (with_reducible first | exact HI248.out | apply IsS50.alloc | apply IsS50.drewN | apply IsS50.drew | apply IsS50.set_1 | apply IsS50.set_2) | exact HI248.out)); (case side2 => repeat (first | (with_reducible first | exact HB.out | apply below_alloc | apply pw_below_drewN | apply below_drew1 | refine below_set ?_ (IsS50.ge HI248.out)) | exact HB.out)); rintro e w22 ⟨rfl, hi, hb, hk⟩; refine ⟨_, rfl, ?_⟩; have n0_ := Aside0.mk (Kd.R_mono (Kd.R_keep (IsS50.apart (show IsS50 w _ gb248 l0 t264 t265 from by repeat (first | (with_reducible first | exact HI248.out | apply IsS50.alloc | apply IsS50.drewN | apply IsS50.drew | apply IsS50.set_1 | apply IsS50.set_2) | exact HI248.out)) (by (with_reducible repeat (first | apply Kd.R_alloc | apply Kd.R_drewN | apply Kd.R_drew)); exact HO_6.out) (by decide)) hk (fun _ h => h.2)) (fun _ h => h.1)); have n1_ := Aside0.mk (Kd.R_mono (Kd.R_keep (IsS50.apart (show IsS50 w _ gb248 l0 t264 t265 from by repeat (first | (with_reducible first | exact HI248.out | apply IsS50.alloc | apply IsS50.drewN | apply IsS50.drew | apply IsS50.set_1 | apply IsS50.set_2) | exact HI248.out)) (by (with_reducible repeat (first | apply Kd.R_alloc | apply Kd.R_drewN | apply Kd.R_drew)); exact HO_7.out) (by decide)) hk (fun _ h => h.2)) (fun _ h => h.1)); have n2_ := Aside0.mk (hb); have n3_ := Aside0.mk (hi); clear HO_6; clear HO_7; clear HB; clear HI248; have HO_6 := n0_; have HO_7 := n1_; have HB := n2_; have HI248 := n3_; clear n0_ n1_ n2_ n3_; (try clear hb); (try clear hb2); (try clear hk); (try clear hi)))
              go_ret3
              exact ⟨_, _, by first | rfl | (simp [errW_none, errW_some] <;> rfl) | (simp [*, errW_none, errW_some] <;> rfl), by (with_reducible repeat (first | apply Kd.R_alloc | apply Kd.R_drewN | apply Kd.R_drew)); exact Kd.R_mono HO_6.out (fun _ hk => hk.2), by (with_reducible repeat (first | apply Kd.R_alloc | apply Kd.R_drewN | apply Kd.R_drew)); exact HO_7.out, by repeat (first | (with_reducible first | exact HB.out | apply below_alloc | apply pw_below_drewN | apply below_drew1 | refine below_set ?_ (IsS50.ge HI248.out)) | exact HB.out)⟩
            · rw [if_neg c15] at H
              exact absurd H (by simp)
          · replace c14 := Bool.eq_false_iff.mpr c14
            subst c14
            have H1 : ((spec_l1Cur_size.f l0 t264 t265).bind fun bt270 => (some (t249, bt270.1, x7_1))) = some (r1, r2, r3) := by rw [if_neg (show ¬ (false = true) by decide)] at H; exact H
            clear H
            have H := H1
            clear H1
            replace H := Option.bind_eq_some_iff.mp H
            obtain ⟨⟨t270, t271, t272⟩, A230, H⟩ := H
            replace H : (some (t249, t270, x7_1)) = some (r1, r2, r3) := H
            have A23 := Aside0.mk A230
            clear A230
            simp only [Option.some.injEq, Prod.mk.injEq] at H
            obtain ⟨rfl, rfl, rfl⟩ := H
            obtain ⟨Ao24, co24, eo24⟩ := Kd.R_slice HO_7.out
            subst eo24
            go_wp2_with (first | (go_at_call 47; (with_reducible refine (spec_l1Cur_one.calls gb248 l0 x249001_1 x249002_1 40 false t264 t265 w _ ?side1 ?side2 A13.out).mono ?_); (case side1 => repeat (first | (with_reducible first | exact HI248.out | apply IsS50.alloc | apply IsS50.drewN | apply IsS50.drew | apply IsS50.set_1 | apply IsS50.set_2) | exact HI248.out)); (case side2 => repeat (first | (with_reducible first | exact HB.out | apply below_alloc | apply pw_below_drewN | apply below_drew1 | refine below_set ?_ (IsS50.ge HI248.out)) | exact HB.out)); rintro e w25 ⟨rfl, hi, hb, hk⟩; have n0_ := Aside0.mk (Kd.R_mono (Kd.R_keep (IsS50.apart (show IsS50 w _ gb248 l0 x249001_1 x249002_1 from by repeat (first | (with_reducible first | exact HI248.out | apply IsS50.alloc | apply IsS50.drewN | apply IsS50.drew | apply IsS50.set_1 | apply IsS50.set_2) | exact HI248.out)) (by (with_reducible repeat (first | apply Kd.R_alloc | apply Kd.R_drewN | apply Kd.R_drew)); exact HO_6.out) (by decide)) hk (fun _ h => h.2)) (fun _ h => h.1)); have n1_ := Aside0.mk (Kd.R_mono (Kd.R_keep (IsS50.apart (show IsS50 w _ gb248 l0 x249001_1 x249002_1 from by repeat (first | (with_reducible first | exact HI248.out | apply IsS50.alloc | apply IsS50.drewN | apply IsS50.drew | apply IsS50.set_1 | apply IsS50.set_2) | exact HI248.out)) (by (with_reducible repeat (first | apply Kd.R_alloc | apply Kd.R_drewN | apply Kd.R_drew)); exact HO_7.out) (by decide)) hk (fun _ h => h.2)) (fun _ h => h.1)); have n2_ := Aside0.mk (hb); have n3_ := Aside0.mk (hi); clear HO_6; clear HO_7; clear HB; clear HI248; have HO_6 := n0_; have HO_7 := n1_; have HB := n2_; have HI248 := n3_; clear n0_ n1_ n2_ n3_; (try clear hb); (try clear hb2); (try clear hk); (try clear hi)) | ((with_reducible refine gate_callee (f := 36) rfl ?_); refine goesL_ (some 36) rfl rfl Try.func36 (by kernel_rfl) rfl #[.pointer (some ⟨gb248, 0, none⟩)] rfl (by (try simp only [List.map_toArray, List.map_cons, List.map_nil]); first | done | rfl | (simp only [List.length_drop, List.length_take]; rfl)) ?_; (with_reducible refine (spec_l1Cur_size.calls gb248 l0 t264 t265 t270 t271 t272 w _ ?side1 ?side2 A23.out).mono ?_); (case side1 => repeat (first | (with_reducible first | exact HI248.out | apply IsS50.alloc | apply IsS50.drewN | apply IsS50.drew | apply IsS50.set_1 | apply IsS50.set_2) | exact HI248.out)); (case side2 => repeat (first | (with_reducible first | exact HB.out | apply below_alloc | apply pw_below_drewN | apply below_drew1 | refine below_set ?_ (IsS50.ge HI248.out)) | exact HB.out)); rintro e w26 ⟨rfl, hi, hb, hk⟩; refine ⟨_, rfl, ?_⟩; have n0_ := Aside0.mk (Kd.R_mono (Kd.R_keep (IsS50.apart (show IsS50 w _ gb248 l0 t264 t265 from by repeat (first | (with_reducible first | exact HI248.out | apply IsS50.alloc | apply IsS50.drewN | apply IsS50.drew | apply IsS50.set_1 | apply IsS50.set_2) | exact HI248.out)) (by (with_reducible repeat (first | apply Kd.R_alloc | apply Kd.R_drewN | apply Kd.R_drew)); exact HO_6.out) (by decide)) hk (fun _ h => h.2)) (fun _ h => h.1)); have n1_ := Aside0.mk (Kd.R_mono (Kd.R_keep (IsS50.apart (show IsS50 w _ gb248 l0 t264 t265 from by repeat (first | (with_reducible first | exact HI248.out | apply IsS50.alloc | apply IsS50.drewN | apply IsS50.drew | apply IsS50.set_1 | apply IsS50.set_2) | exact HI248.out)) (by (with_reducible repeat (first | apply Kd.R_alloc | apply Kd.R_drewN | apply Kd.R_drew)); exact HO_7.out) (by decide)) hk (fun _ h => h.2)) (fun _ h => h.1)); have n2_ := Aside0.mk (hb); have n3_ := Aside0.mk (hi); clear HO_6; clear HO_7; clear HB; clear HI248; have HO_6 := n0_; have HO_7 := n1_; have HB := n2_; have HI248 := n3_; clear n0_ n1_ n2_ n3_; (try clear hb); (try clear hb2); (try clear hk); (try clear hi)))
            go_ret3
            exact ⟨_, _, by first | rfl | (simp [errW_none, errW_some] <;> rfl) | (simp [*, errW_none, errW_some] <;> rfl), by (with_reducible repeat (first | apply Kd.R_alloc | apply Kd.R_drewN | apply Kd.R_drew)); exact HO_6.out, by (with_reducible repeat (first | apply Kd.R_alloc | apply Kd.R_drewN | apply Kd.R_drew)); exact HO_7.out, by repeat (first | (with_reducible first | exact HB.out | apply below_alloc | apply pw_below_drewN | apply below_drew1 | refine below_set ?_ (IsS50.ge HI248.out)) | exact HB.out)⟩
        · rw [if_neg c12] at H
          have c12b0 : decide (0 < (x7_1.length : Int)) = false := decide_eq_false c12
          have c12b1 : decide (0 < x7_1.length) = false := decide_eq_false (by omega)
          clear c12
          replace H := Option.bind_eq_some_iff.mp H
          obtain ⟨⟨t273, t274, t275⟩, A270, H⟩ := H
          replace H : (some (t249, t273, x7_1)) = some (r1, r2, r3) := H
          have A27 := Aside0.mk A270
          clear A270
          simp only [Option.some.injEq, Prod.mk.injEq] at H
          obtain ⟨rfl, rfl, rfl⟩ := H
          obtain ⟨Ao28, co28, eo28⟩ := Kd.R_slice HO_7.out
          subst eo28
          go_wp2_with (first | ((with_reducible refine gate_callee (f := 36) rfl ?_); refine goesL_ (some 36) rfl rfl Try.func36 (by kernel_rfl) rfl #[.pointer (some ⟨gb248, 0, none⟩)] rfl (by (try simp only [List.map_toArray, List.map_cons, List.map_nil]); first | done | rfl | (simp only [List.length_drop, List.length_take]; rfl)) ?_; (with_reducible refine (spec_l1Cur_size.calls gb248 l0 x249001_1 x249002_1 t273 t274 t275 w _ ?side1 ?side2 A27.out).mono ?_); (case side1 => repeat (first | (with_reducible first | exact HI248.out | apply IsS50.alloc | apply IsS50.drewN | apply IsS50.drew | apply IsS50.set_1 | apply IsS50.set_2) | exact HI248.out)); (case side2 => repeat (first | (with_reducible first | exact HB.out | apply below_alloc | apply pw_below_drewN | apply below_drew1 | refine below_set ?_ (IsS50.ge HI248.out)) | exact HB.out)); rintro e w29 ⟨rfl, hi, hb, hk⟩; refine ⟨_, rfl, ?_⟩; have n0_ := Aside0.mk (Kd.R_mono (Kd.R_keep (IsS50.apart (show IsS50 w _ gb248 l0 x249001_1 x249002_1 from by repeat (first | (with_reducible first | exact HI248.out | apply IsS50.alloc | apply IsS50.drewN | apply IsS50.drew | apply IsS50.set_1 | apply IsS50.set_2) | exact HI248.out)) (by (with_reducible repeat (first | apply Kd.R_alloc | apply Kd.R_drewN | apply Kd.R_drew)); exact HO_6.out) (by decide)) hk (fun _ h => h.2)) (fun _ h => h.1)); have n1_ := Aside0.mk (Kd.R_mono (Kd.R_keep (IsS50.apart (show IsS50 w _ gb248 l0 x249001_1 x249002_1 from by repeat (first | (with_reducible first | exact HI248.out | apply IsS50.alloc | apply IsS50.drewN | apply IsS50.drew | apply IsS50.set_1 | apply IsS50.set_2) | exact HI248.out)) (by (with_reducible repeat (first | apply Kd.R_alloc | apply Kd.R_drewN | apply Kd.R_drew)); exact HO_7.out) (by decide)) hk (fun _ h => h.2)) (fun _ h => h.1)); have n2_ := Aside0.mk (hb); have n3_ := Aside0.mk (hi); clear HO_6; clear HO_7; clear HB; clear HI248; have HO_6 := n0_; have HO_7 := n1_; have HB := n2_; have HI248 := n3_; clear n0_ n1_ n2_ n3_; (try clear hb); (try clear hb2); (try clear hk); (try clear hi)))
          go_ret3
          exact ⟨_, _, by first | rfl | (simp [errW_none, errW_some] <;> rfl) | (simp [*, errW_none, errW_some] <;> rfl), by (with_reducible repeat (first | apply Kd.R_alloc | apply Kd.R_drewN | apply Kd.R_drew)); exact HO_6.out, by (with_reducible repeat (first | apply Kd.R_alloc | apply Kd.R_drewN | apply Kd.R_drew)); exact HO_7.out, by repeat (first | (with_reducible first | exact HB.out | apply below_alloc | apply pw_below_drewN | apply below_drew1 | refine below_set ?_ (IsS50.ge HI248.out)) | exact HB.out)⟩

/-! ### impl_PlayChoices_1: function 63 -/
def impl_PlayChoices_1.f (a0 : Int) : Option (Bool) := some (decide (a0 ≥ 0))
set_option maxHeartbeats 8000000 in
set_option maxRecDepth 100000 in
theorem impl_PlayChoices_1.calls (a0 : Int) (r : Bool) (w : World) (h : impl_PlayChoices_1.f a0 = some r) :
    Calls Try.prog 63 #[.int .i64 a0] w fun e w' => e = .returned (.bool r) ∧ Drawn0 w w' := by
  have H : (some (decide (a0 ≥ 0))) = some r := h
  clear h
  obtain rfl := Option.some.inj H
  go_enter Try.func63, Try.ntmps63
  go_wp2
  go_ret
  exact ⟨by first | rfl | (simp; done) | (simp [*]; done), by repeat (first | exact Drawn0.refl _ | apply Drawn0.step)⟩

/-! ### xAll_i64_impl_PlayChoices_1: function 45, with function 63 -/
def xAll_i64_impl_PlayChoices_1.z (x : Int) : Option Bool := (impl_PlayChoices_1.f x).bind fun b => some (!b)
def xAll_i64_impl_PlayChoices_1.f (l0 : List Int) : Option (Bool) := if l0.length < 9223372036854775807 then ((idxO (xAll_i64_impl_PlayChoices_1.z) l0 0).bind fun i => some (!decide (i ≥ 0))) else none
set_option maxHeartbeats 8000000 in
set_option maxRecDepth 100000 in
theorem xAll_i64_impl_PlayChoices_1.calls (A0 : Option Addr) (c0 : Nat) (l0 : List Int) (r : Bool) (w : World) (hr0 : Kd.C (Kd.int .i64) w A0 l0.length l0) (hc0 : l0.length ≤ c0) (h : xAll_i64_impl_PlayChoices_1.f l0 = some r) :
    Calls Try.prog 45 #[.slice A0 l0.length c0, .func (.func 63) #[] #[]] w fun e w' => e = .returned (.bool r) ∧ Below w.heap.size w w' := by
  have hbig : l0.length < 9223372036854775807 := by
    by_cases c : l0.length < 9223372036854775807
    · exact c
    · unfold xAll_i64_impl_PlayChoices_1.f at h; rw [if_neg c] at h; cases h
  have h1 : ((idxO (xAll_i64_impl_PlayChoices_1.z) l0 0).bind fun i => some (!decide (i ≥ 0))) = some r := by unfold xAll_i64_impl_PlayChoices_1.f at h; rw [if_pos hbig] at h; exact h
  clear h
  obtain ⟨i, hi1, hi2⟩ := Option.bind_eq_some_iff.mp h1
  clear h1
  obtain rfl := Option.some.inj hi2
  clear hi2
  have eg : ∀ args w, (callFunc 68 args).run Try.prog w = .ok (.enter 68 args) w := enters_of Try.func68 (by kernel_rfl) rfl
  have hb1 : Below w.heap.size w (w.alloc (.cells #[.func (.func 63) #[] #[]] 53)) := (Below.refl _ w).alloc (Nat.le_refl _) _
  have hcall := xContainsFunc_i64 (xAll_i64_impl_PlayChoices_1.z) 68 #[.pointer (some ⟨w.heap.size, 0, none⟩)] eg A0 c0 l0 i (w.alloc (.cells #[.func (.func 63) #[] #[]] 53)) (Kd.C_below hr0 hb1) hc0 hbig
    (by
      intro W x b hb hz
      have hcell : W.cell? ⟨w.heap.size, 0, none⟩ = some (.func (.func 63) #[] #[]) := (hb.cell (p := ⟨w.heap.size, 0, none⟩) (by simp)).trans (by simp)
      obtain ⟨b2, hq, hb2⟩ := Option.bind_eq_some_iff.mp hz
      obtain rfl : (!b2) = b := Option.some.inj hb2
      have hq' := Aside0.mk hq
      have hb' := Aside0.mk hb
      clear hb hz hb2 hq
      show Calls Try.prog 68 #[.int .i64 x, .pointer (some ⟨w.heap.size, 0, none⟩)] W _
      go_enter Try.func68, Try.ntmps68
      go_wp2_with (go_at_call 63; refine (impl_PlayChoices_1.calls x b2 _ hq'.out).mono ?_; rintro e w' ⟨rfl, ⟨nd, rfl⟩⟩)
      go_ret
      exact ⟨rfl, by repeat (first | (with_reducible first | exact hb'.out | apply below_alloc | apply pw_below_drewN | apply below_drew1) | exact hb'.out)⟩)
    hi1
  have hb1' := Aside0.mk hb1
  clear hr0 hc0 hbig hi1 hb1 eg
  go_enter Try.func45, Try.ntmps45
  go_wp2_with (go_at_call 67; refine hcall.mono ?_; rintro e w' ⟨rfl, hb'⟩)
  go_ret
  exact ⟨rfl, below_then hb1'.out (by simp) hb'⟩
/-! ### impl_PlayChoices: function 29 -/
/-- what is chosen next, of what is left of the choices -/
def chG (size : Int) : List Int → Int → List Int → Option (Int × List Int)
  | [], _, _ => some (0, [])
  | n :: r, _, _ => if size = 0 then none else some (Int.tmod n size, r)
def impl_PlayChoices.f (k : Nat) (l0 : List Int) (a1 : Int) (l2 : List Int) : Option (List Int × Int × Bool) :=
  (impl_GoodRefs.f l0).bind fun b1 => if b1 = true then ((impl_isSize.f a1).bind fun b2 => if b2 = true then
    (if (l2.length : Int) > 200 then some ([], 0, false) else ((xAll_i64_impl_PlayChoices_1.f l2).bind fun b3 => if b3 = true then
      ((playO k (chG a1) a1 l0 0 [] 0 l2).bind fun q => if q.1.length < 900000 ∧ l0.length < 900000 then some (q.1, q.2, true) else none) else some ([], 0, false)))
    else some ([], 0, false)) else some ([], 0, false)
theorem impl_PlayChoices.mono : ∀ a0 a1 a2 k, LeO (impl_PlayChoices.f k a0 a1 a2) (impl_PlayChoices.f (k + 1) a0 a1 a2) := by
  intro a0 a1 a2 k
  unfold impl_PlayChoices.f
  exact LeO.bind (LeO.refl _) (fun _ => LeO.ite (LeO.bind (LeO.refl _) (fun _ => LeO.ite (LeO.ite (LeO.refl _) (LeO.bind (LeO.refl _) (fun _ => LeO.ite (LeO.bind (playO_mono k _ _ (fun s n p => LeO.refl _) _ _ _ _ _ _) (fun _ => LeO.refl _)) (LeO.refl _)))) (LeO.refl _))) (LeO.refl _))
/-- what the literal remembers: what is left of the choices, in a variable; and the size -/
def xChInv (wp : World) (size : Int) (rest : List Int) (W : World) : Prop :=
  ∃ (A : Option Addr) (c : Nat), Boxed W (wp.heap.size + 1) 23 (.slice A rest.length c) ∧ rest.length ≤ c ∧ Kd.C (Kd.int .i64) wp A rest.length rest ∧ Boxed W wp.heap.size 3 (.int .i64 size)
set_option maxHeartbeats 8000000 in
set_option maxRecDepth 100000 in
theorem xCh_lit (wp : World) (size next r : Int) (rest rest2 pages : List Int) (A : Option Addr) (c : Nat) (W : World) (hb : Below wp.heap.size wp W) (hi : xChInv wp size rest W) (h : chG size rest next pages = some (r, rest2)) :
    Calls Try.prog 64 #[.int .i64 next, .slice A pages.length c, .pointer (some ⟨wp.heap.size + 1, 0, none⟩), .pointer (some ⟨wp.heap.size, 0, none⟩)] W fun e w' => e = .returned (.int .i64 r) ∧ Below wp.heap.size wp w' ∧ W.heap.size ≤ w'.heap.size ∧ (∀ q, wp.heap.size + 2 ≤ q → w'.heap[q]? = W.heap[q]?) ∧ xChInv wp size rest2 w' := by
  obtain ⟨A2, c2, hx, hc, hC, hs⟩ := hi
  have HX := Aside0.mk hx
  have HS := Aside0.mk hs
  have HC := Aside0.mk hC
  have HB := Aside0.mk hb
  have HCC := Aside0.mk hc
  have h1 := hx.cell
  have h2 := hs.cell
  have h3 := hx.frozen
  clear hx hs hC hb hc
  obtain ⟨i0, hi0, _, hsz0, _⟩ := info_parts xinfo3
  cases rest with
  | nil =>
    obtain ⟨rfl, rfl⟩ := Prod.mk.inj (Option.some.inj h)
    clear h
    go_enter Try.func64, Try.ntmps64
    go_wp2
    go_ret
    exact ⟨rfl, HB.out, Nat.le_refl _, fun _ _ => rfl, ⟨A2, c2, HX.out, HCC.out, HC.out, HS.out⟩⟩
  | cons n rest =>
    have h7 : (if size = 0 then none else some (Int.tmod n size, rest)) = some (r, rest2) := h
    clear h
    by_cases h0 : size = 0
    · rw [if_pos h0] at h7; cases h7
    · rw [if_neg h0] at h7
      obtain ⟨rfl, rfl⟩ := Prod.mk.inj (Option.some.inj h7)
      clear h7
      have hlen : (n :: rest).length = rest.length + 1 := rfl
      obtain ⟨ad, he, hy0⟩ := Kd.at_int (Kd.C_below HC.out HB.out) (0 : Int) (by omega) (by omega)
      subst he
      have hrd : rd (n :: rest) (0 : Int) = n := rfl
      rw [hrd, Int.toNat_zero] at hy0
      have hy1 : W.cell? ad = some (.int .i64 n) := hy0
      have hcut := cut_from (P := Try.prog) 23 3 .i64 Try.underlying23 hi0 1 hsz0 (some ad) (rest.length + 1) c2 1 (by omega) (by omega)
      have hD : Kd.C (Kd.int .i64) wp (if c2 = 1 then some ad else (some ad).map (·.add (1 * 1))) rest.length rest := Kd.C_drop (m := 1) HC.out (by omega) HCC.out
      have hcut2 : ∀ V : World, (Instr.slice 23 (.slice (some ad) (rest.length + 1) c2) (some (.int .i64 1)) none none).run Try.prog V = .ok (.slice (if c2 = 1 then some ad else (some ad).map (·.add (1 * 1))) rest.length (c2 - 1)) V := fun V => by
        have z := hcut V
        simp only [Int.toNat_one, Nat.add_sub_cancel] at z
        exact z
      clear hcut
      generalize (if c2 = 1 then some ad else (some ad).map (·.add (1 * 1))) = A3 at *
      have HD := Aside0.mk hD
      have hzb : (((rest.length : Int) + 1) == 0) = false := by simp only [beq_eq_false_iff_ne]; omega
      have hz : ¬ ((rest.length : Int) + 1 = 0) := by omega
      have hp : (0 : Int) < (rest.length : Int) + 1 := by omega
      have h0b : (size == 0) = false := by simp [h0]
      clear hD hrd
      go_enter Try.func64, Try.ntmps64
      go_wp2
      go_ret
      refine ⟨rfl, (by repeat (first | exact HB.out.setCell (p := ⟨wp.heap.size + 1, 0, none⟩) (Nat.le_succ _) _ | apply below_drew1 | apply pw_below_drewN)), ?_, fun q hq => ?_, ⟨A3, c2 - 1, HX.out.set _, (by have := HCC.out; simp only [List.length_cons] at this; omega), HD.out, HS.out.other (by omega) _⟩⟩
      · have z := ((Below.refl 0 W).setCell (p := ⟨wp.heap.size + 1, 0, none⟩) (Nat.zero_le _) (.slice A3 rest.length (c2 - 1))).size
        exact z
      · exact Below.heap_setCell W ⟨wp.heap.size + 1, 0, none⟩ _ q (by show q ≠ wp.heap.size + 1; omega)
set_option maxHeartbeats 8000000 in
set_option maxRecDepth 100000 in
theorem impl_PlayChoices.calls (k : Nat) (A0 : Option Addr) (c0 : Nat) (l0 : List Int) (a1 : Int) (A2 : Option Addr) (c2 : Nat) (l2 : List Int) (r1 : List Int) (r2 : Int) (r3 : Bool) (w : World) (hr0 : Kd.C (Kd.int .i64) w A0 l0.length l0) (hc0 : l0.length ≤ c0) (hr2 : Kd.C (Kd.int .i64) w A2 l2.length l2) (hc2 : l2.length ≤ c2) (h : impl_PlayChoices.f k l0 a1 l2 = some (r1, r2, r3)) :
    Calls Try.prog 29 #[.slice A0 l0.length c0, .int .i64 a1, .slice A2 l2.length c2] w fun e w' => ∃ v0_ : Value, e = .returned (.tuple #[v0_, .int .i64 r2, .bool r3]) ∧ Kd.R (Kd.int .i64) 3 w' w.heap.size (fun _ => True) v0_ r1 ∧ Below w.heap.size w w' := by
  have HR0 := Aside0.mk hr0
  have HC0 := Aside0.mk hc0
  have HR2 := Aside0.mk hr2
  have HC2 := Aside0.mk hc2
  clear hr0 hc0 hr2 hc2
  unfold impl_PlayChoices.f at h
  obtain ⟨b1, hb1, h1⟩ := Option.bind_eq_some_iff.mp h
  clear h
  have H1 := Aside0.mk hb1
  clear hb1
  have HW0 : Aside0 (Below w.heap.size w ((w.alloc (.cells #[.int .i64 a1] 3)).alloc (.cells #[.slice A2 l2.length c2] 23))) := ⟨below_alloc (below_alloc (Below.refl _ w) _) _⟩
  have HX0 : Aside0 (Boxed ((w.alloc (.cells #[.int .i64 a1] 3)).alloc (.cells #[.slice A2 l2.length c2] 23)) w.heap.size 3 (.int .i64 a1)) := ⟨(Boxed.new w 3 (.int .i64 a1)).alloc _⟩
  have HY0 : Aside0 (Boxed ((w.alloc (.cells #[.int .i64 a1] 3)).alloc (.cells #[.slice A2 l2.length c2] 23)) (w.heap.size + 1) 23 (.slice A2 l2.length c2)) := ⟨by have z := Boxed.new (w.alloc (.cells #[.int .i64 a1] 3)) 23 (.slice A2 l2.length c2); rw [World.size_alloc] at z; exact z⟩
  have HZ0 : Aside0 (w.heap.size < (((w.alloc (.cells #[.int .i64 a1] 3)).alloc (.cells #[.slice A2 l2.length c2] 23))).heap.size ∧ w.heap.size + 1 < (((w.alloc (.cells #[.int .i64 a1] 3)).alloc (.cells #[.slice A2 l2.length c2] 23))).heap.size) := ⟨HX0.out.lt, HY0.out.lt⟩
  cases b1 with
  | false =>
    have h9 := h1
    rw [if_neg (by decide)] at h9
    clear h1
    obtain ⟨rfl, h8⟩ := Prod.mk.inj (Option.some.inj h9)
    obtain ⟨rfl, rfl⟩ := Prod.mk.inj h8
    clear h9 h8
    go_enter Try.func29, Try.ntmps29
    go_wp2_with (first
      | (go_at_call 18; (with_reducible refine (impl_GoodRefs.calls A0 c0 l0 _ _ ?s1 ?s2 H1.out).mono ?_); (case s1 => exact Kd.C_below HR0.out HW0.out); (case s2 => exact HC0.out); rintro e w1 ⟨rfl, hb1⟩; have HB1 := Aside0.mk (below_step HW0.out hb1); have hx1 : Boxed w1 w.heap.size 3 (.int .i64 a1) := (hb1.block w.heap.size HZ0.out.1).trans HX0.out; have hy1 : Boxed w1 (w.heap.size + 1) 23 (.slice A2 l2.length c2) := (hb1.block (w.heap.size + 1) HZ0.out.2).trans HY0.out; have HX1 := Aside0.mk hx1; have HY1 := Aside0.mk hy1; have hp1 := hx1.cell; have hq1 := hy1.cell; clear hx1 hy1 hb1))
    go_ret3
    exact ⟨_, rfl, Kd.R_nil _ _ _ _ _, (by repeat (first | exact HB1.out | apply below_drew1 | apply pw_below_drewN | apply below_alloc))⟩
  | true =>
    rw [if_pos rfl] at h1
    obtain ⟨b2, hb2, h2⟩ := Option.bind_eq_some_iff.mp h1
    clear h1
    have H2 := Aside0.mk hb2
    clear hb2
    cases b2 with
    | false =>
      have h9 := h2
      rw [if_neg (by decide)] at h9
      clear h2
      obtain ⟨rfl, h8⟩ := Prod.mk.inj (Option.some.inj h9)
      obtain ⟨rfl, rfl⟩ := Prod.mk.inj h8
      clear h9 h8
      go_enter Try.func29, Try.ntmps29
      go_wp2_with (first
        | (go_at_call 18; (with_reducible refine (impl_GoodRefs.calls A0 c0 l0 _ _ ?s1 ?s2 H1.out).mono ?_); (case s1 => exact Kd.C_below HR0.out HW0.out); (case s2 => exact HC0.out); rintro e w1 ⟨rfl, hb1⟩; have HB1 := Aside0.mk (below_step HW0.out hb1); have hx1 : Boxed w1 w.heap.size 3 (.int .i64 a1) := (hb1.block w.heap.size HZ0.out.1).trans HX0.out; have hy1 : Boxed w1 (w.heap.size + 1) 23 (.slice A2 l2.length c2) := (hb1.block (w.heap.size + 1) HZ0.out.2).trans HY0.out; have HX1 := Aside0.mk hx1; have HY1 := Aside0.mk hy1; have hp1 := hx1.cell; have hq1 := hy1.cell; clear hx1 hy1 hb1)
        | (go_at_call 37; (with_reducible refine (impl_isSize.calls a1 _ _ H2.out).mono ?_); rintro e w' ⟨rfl, ⟨nd, rfl⟩⟩))
      go_ret3
      exact ⟨_, rfl, Kd.R_nil _ _ _ _ _, (by repeat (first | exact HB1.out | apply below_drew1 | apply pw_below_drewN | apply below_alloc))⟩
    | true =>
      rw [if_pos rfl] at h2
      by_cases h200 : (l2.length : Int) > 200
      · have h9 := h2
        rw [if_pos h200] at h9
        have h200b : (200 : Int) < (l2.length : Int) := h200
        clear h2
        obtain ⟨rfl, h8⟩ := Prod.mk.inj (Option.some.inj h9)
        obtain ⟨rfl, rfl⟩ := Prod.mk.inj h8
        clear h9 h8
        go_enter Try.func29, Try.ntmps29
        go_wp2_with (first
          | (go_at_call 18; (with_reducible refine (impl_GoodRefs.calls A0 c0 l0 _ _ ?s1 ?s2 H1.out).mono ?_); (case s1 => exact Kd.C_below HR0.out HW0.out); (case s2 => exact HC0.out); rintro e w1 ⟨rfl, hb1⟩; have HB1 := Aside0.mk (below_step HW0.out hb1); have hx1 : Boxed w1 w.heap.size 3 (.int .i64 a1) := (hb1.block w.heap.size HZ0.out.1).trans HX0.out; have hy1 : Boxed w1 (w.heap.size + 1) 23 (.slice A2 l2.length c2) := (hb1.block (w.heap.size + 1) HZ0.out.2).trans HY0.out; have HX1 := Aside0.mk hx1; have HY1 := Aside0.mk hy1; have hp1 := hx1.cell; have hq1 := hy1.cell; clear hx1 hy1 hb1)
          | (go_at_call 37; (with_reducible refine (impl_isSize.calls a1 _ _ H2.out).mono ?_); rintro e w' ⟨rfl, ⟨nd, rfl⟩⟩))
        go_ret3
        exact ⟨_, rfl, Kd.R_nil _ _ _ _ _, (by repeat (first | exact HB1.out | apply below_drew1 | apply pw_below_drewN | apply below_alloc))⟩
      · rw [if_neg h200] at h2
        have h200b : ¬ (200 : Int) < (l2.length : Int) := h200
        obtain ⟨b3, hb3, h3⟩ := Option.bind_eq_some_iff.mp h2
        clear h2
        have H3 := Aside0.mk hb3
        clear hb3
        cases b3 with
        | false =>
          have h9 := h3
          rw [if_neg (by decide)] at h9
          clear h3
          obtain ⟨rfl, h8⟩ := Prod.mk.inj (Option.some.inj h9)
          obtain ⟨rfl, rfl⟩ := Prod.mk.inj h8
          clear h9 h8
          go_enter Try.func29, Try.ntmps29
          go_wp2_with (first
            | (go_at_call 18; (with_reducible refine (impl_GoodRefs.calls A0 c0 l0 _ _ ?s1 ?s2 H1.out).mono ?_); (case s1 => exact Kd.C_below HR0.out HW0.out); (case s2 => exact HC0.out); rintro e w1 ⟨rfl, hb1⟩; have HB1 := Aside0.mk (below_step HW0.out hb1); have hx1 : Boxed w1 w.heap.size 3 (.int .i64 a1) := (hb1.block w.heap.size HZ0.out.1).trans HX0.out; have hy1 : Boxed w1 (w.heap.size + 1) 23 (.slice A2 l2.length c2) := (hb1.block (w.heap.size + 1) HZ0.out.2).trans HY0.out; have HX1 := Aside0.mk hx1; have HY1 := Aside0.mk hy1; have hp1 := hx1.cell; have hq1 := hy1.cell; clear hx1 hy1 hb1)
            | (go_at_call 37; (with_reducible refine (impl_isSize.calls a1 _ _ H2.out).mono ?_); rintro e w' ⟨rfl, ⟨nd, rfl⟩⟩)
            | (go_at_call 45; (with_reducible refine (xAll_i64_impl_PlayChoices_1.calls A2 c2 l2 _ _ ?s3 ?s4 H3.out).mono ?_); (case s3 => exact Kd.C_below HR2.out (pw_below_drewN HB1.out nd)); (case s4 => exact HC2.out); rintro e w2 ⟨rfl, hb2⟩; have HB2 := Aside0.mk (below_step (pw_below_drewN HB1.out nd) hb2); have hx2 : Boxed w2 w.heap.size 3 (.int .i64 a1) := (hb2.block w.heap.size HX1.out.lt).trans HX1.out; have hy2 : Boxed w2 (w.heap.size + 1) 23 (.slice A2 l2.length c2) := (hb2.block (w.heap.size + 1) HY1.out.lt).trans HY1.out; have HX2 := Aside0.mk hx2; have HY2 := Aside0.mk hy2; have hp2 := hx2.cell; have hq2 := hy2.cell; clear hx2 hy2 hb2))
          go_ret3
          exact ⟨_, rfl, Kd.R_nil _ _ _ _ _, (by repeat (first | exact HB2.out | apply below_drew1 | apply pw_below_drewN | apply below_alloc))⟩
        | true =>
          rw [if_pos rfl] at h3
          obtain ⟨⟨ps, hh⟩, hp, h4⟩ := Option.bind_eq_some_iff.mp h3
          clear h3
          by_cases hl : ps.length < 900000 ∧ l0.length < 900000
          · rw [if_pos hl] at h4
            obtain ⟨rfl, h5⟩ := Prod.mk.inj (Option.some.inj h4)
            obtain ⟨rfl, rfl⟩ := Prod.mk.inj h5
            obtain ⟨hl1, hl2⟩ := hl
            clear h4 h5
            have HP := Aside0.mk hp
            have HL1 := Aside0.mk hl1
            have HL2 := Aside0.mk hl2
            clear hp hl1 hl2
            have HCALL : Aside0 (∀ W : World, Below w.heap.size w W → Boxed W w.heap.size 3 (.int .i64 a1) → Boxed W (w.heap.size + 1) 23 (.slice A2 l2.length c2) → Calls Try.prog 56 #[.slice A0 l0.length c0, .int .i64 a1, .func (.func 64) #[] #[.pointer (some ⟨w.heap.size + 1, 0, none⟩), .pointer (some ⟨w.heap.size, 0, none⟩)]] W fun e w' => ∃ v0_ : Value, e = .returned (.tuple #[v0_, .int .i64 hh]) ∧ Kd.R (Kd.int .i64) 3 w' w.heap.size (fun _ => True) v0_ ps ∧ Below w.heap.size w w') := ⟨fun W hW hx hy => by
              have hz := hy.lt
              refine (xplayBy k (chG a1) 64 #[.pointer (some ⟨w.heap.size + 1, 0, none⟩), .pointer (some ⟨w.heap.size, 0, none⟩)] (enters_of Try.func64 (by kernel_rfl) rfl) (xChInv w a1) w W hW A0 c0 l0 HR0.out HC0.out a1 l2 (fun V V' s hv hq => ?_) ⟨A2, c2, hy, HC2.out, HR2.out, hx⟩ (fun V s next pages A c r s2 hb hz2 hi _ _ hgo => ?_) HL2.out ps hh HP.out HL1.out).mono fun e w' ⟨v, e1, e2, e3⟩ => ⟨v, e1, Kd.R_lower e2 hW.size, e3⟩
              · obtain ⟨A, c, g1, g2, g3, g4⟩ := hv
                exact ⟨A, c, (hq _ hz).trans g1, g2, g3, (hq _ (by omega)).trans g4⟩
              · exact (xCh_lit w a1 next r s s2 pages A c V hb hi hgo).mono fun e w' ⟨e1, e2, e3, e4, e5⟩ => ⟨e1, e2, e3, fun q hq _ => e4 q (by omega), e5⟩⟩
            go_enter Try.func29, Try.ntmps29
            go_wp2_with (first
              | (go_at_call 18; (with_reducible refine (impl_GoodRefs.calls A0 c0 l0 _ _ ?s1 ?s2 H1.out).mono ?_); (case s1 => exact Kd.C_below HR0.out HW0.out); (case s2 => exact HC0.out); rintro e w1 ⟨rfl, hb1⟩; have HB1 := Aside0.mk (below_step HW0.out hb1); have hx1 : Boxed w1 w.heap.size 3 (.int .i64 a1) := (hb1.block w.heap.size HZ0.out.1).trans HX0.out; have hy1 : Boxed w1 (w.heap.size + 1) 23 (.slice A2 l2.length c2) := (hb1.block (w.heap.size + 1) HZ0.out.2).trans HY0.out; have HX1 := Aside0.mk hx1; have HY1 := Aside0.mk hy1; have hp1 := hx1.cell; have hq1 := hy1.cell; clear hx1 hy1 hb1)
              | (go_at_call 37; (with_reducible refine (impl_isSize.calls a1 _ _ H2.out).mono ?_); rintro e w' ⟨rfl, ⟨nd, rfl⟩⟩)
              | (go_at_call 45; (with_reducible refine (xAll_i64_impl_PlayChoices_1.calls A2 c2 l2 _ _ ?s3 ?s4 H3.out).mono ?_); (case s3 => exact Kd.C_below HR2.out (pw_below_drewN HB1.out nd)); (case s4 => exact HC2.out); rintro e w2 ⟨rfl, hb2⟩; have HB2 := Aside0.mk (below_step (pw_below_drewN HB1.out nd) hb2); have hx2 : Boxed w2 w.heap.size 3 (.int .i64 a1) := (hb2.block w.heap.size HX1.out.lt).trans HX1.out; have hy2 : Boxed w2 (w.heap.size + 1) 23 (.slice A2 l2.length c2) := (hb2.block (w.heap.size + 1) HY1.out.lt).trans HY1.out; have HX2 := Aside0.mk hx2; have HY2 := Aside0.mk hy2; have hp2 := hx2.cell; have hq2 := hy2.cell; clear hx2 hy2 hb2)
              | (go_at_call 56; refine (HCALL.out _ HB2.out HX2.out HY2.out).mono ?_; rintro e w3 ⟨v3, rfl, ho3, hb3⟩; have HO3 := Aside0.mk ho3; have HB3 := Aside0.mk hb3; clear ho3 hb3))
            go_ret3
            exact ⟨_, rfl, HO3.out, HB3.out⟩
          · rw [if_neg hl] at h4; cases h4

end Go.Proofs.Ytgpimekdfnpffaa.PFnBelady
